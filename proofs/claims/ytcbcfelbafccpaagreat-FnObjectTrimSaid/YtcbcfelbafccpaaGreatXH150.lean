/-
  Row 35: the facts together.
-/
import Derived.Test.YtcbcfelbafccpaaGreatXH147
import Derived.Test.YtcbcfelbafccpaaGreatXH148
import Derived.Test.YtcbcfelbafccpaaGreatXH149
import Derived.Test.YtcbcfelbafccpaaGreatXH152
import Derived.Test.YtcbcfelbafccpaaGreatXH153
import Derived.Test.YtcbcfelbafccpaaGreatXH154
set_option linter.all false
open Go
open Bool renaming and_eq_true->Zb
open IntKind renaming i64->Za
open List renaming all_eq_true->ZV,mem_range->Z2
namespace Go.V
def Kr {z:Int}(h0:17<=z)(h1:z<=76):p35 z=true:=by
 have key:∀ (a n:Nat),((List.range n).all fun i=>p35 ((a+i:Nat):Int))=true->(a:Int)<=z->z<a+n->p35 z=true:=fun a n q b c=>by
  have r:=ZV.1 q (z-a).toNat (Z2.2 Uc)
  rwa [show((a+(z-a).toNat:Nat):Int)=z by omega]at r
 by_cases c0:z<27;exact key 17 10 O1 Uc Uc
 by_cases c1:z<37;exact key 27 10 O2 Uc Uc
 by_cases c2:z<47;exact key 37 10 O3 Uc Uc
 by_cases c3:z<52;exact key 47 5 O4 Uc Uc
 by_cases c4:z<57;exact key 52 5 O5 Uc Uc
 by_cases c5:z<62;exact key 57 5 O6 Uc Uc
 by_cases c6:z<67;exact key 62 5 O7 Uc Uc
 by_cases c7:z<72;exact key 67 5 O8 Uc Uc
 exact key 72 5 O9 Uc Uc
def f35 {z l:Int}(h0:17<=z)(h1:z<=76)(l0:9<=l)(l1:l<z):
 IY.wf=true/\IY.aR 0 z=0/\IY.aQ 0 z=0/\(IY.al 0 z).wf=true/\(m35 z).wf=true/\(H2 z).wf=true/\(H2 z).tr1 0 l=true/\((H2 z).tr 0 l).wf=true/\((H2 z).tr 0 l).hp=true/\((H2 z).tr 0 l).cB 1=true/\(((H2 z).tr 0 l).cL 1).length=l/\ag (((H2 z).tr 0 l).cL 1) 3 0=7/\((H2 z).tr 0 l).lk (bK .add Za 0 l)=1/\((H2 z).tr 0 l).rg=bK .sub Za 12 (pfN l):=by
 have o:=Kq h0 h1;simp only[IU,Ap,Zb,VI]at o;obtain⟨o1,o2,o3,o4,o5,o6,o7⟩:=o;have S:H2 z=S35 z:=DI o7;have p:=Kr h0 h1;simp only[p35,Ap]at p;have q:=ZV.1 p (l-9).toNat (Z2.2 Uc);rw[show((9+(l-9).toNat:Nat):Int)=l by omega]at q;simp only[Ap,Zb]at q;have X:(S35 z).tr 0 l=X35 (pfN z) l:=DI q.2;have r:=KB h0 h1 l0 l1;simp only[L9,Ap,Lu,Zb,VI]at r;obtain⟨r1,r2,r3,r4,r5,r6,r7⟩:=r;rw[S,X];refine⟨o1,o2,o3,o4,o5,by rw[<-S];exact o6,q.1,r1,r2,?_,?_,?_,?_,r7⟩
 ·unfold HV.cB ctsB;rw[r2,r3];rfl
 ·unfold HV.cL;rw[r2];exact r4
 ·unfold HV.cL;rw[r2];exact r5
 ·unfold HV.lk;rw[r2];exact r6
end Go.V