/- Contracts. -/
import Derived.Test.YtpldpilhgjpkjaaGreatZDrBv
import Derived.Test.YtpldpilhgjpkjaaGreatZM10
import Derived.Test.YtpldpilhgjpkjaaGreatZFjAv
set_option linter.all false
open Go
open And renaming intro->Zc
open Int renaming toNat->YG
open IntKind renaming i64->Za
open True renaming intro->Zd
noncomputable section
namespace Go.V
open Go Go.Proofs
set_option maxRecDepth 1000000
set_option maxHeartbeats 8000000
def rt:EC:=fun F=>fun
 |[.one (.s 1 cs)]=>some (fun _=>cs.length<=maxLen,[.k (F.bgB cs)])
 |_=>none
def EH:ec 8 rt:=by
 intro _ _ _ h hp;dsimp only[rt,F0]at h;split at h<;>cases h
 rename_i cs;refine cb nB Tryz.func8 ?_
 intro O r F hO hr hF;cbv
 repeat' first|apply Zc|(apply cN<;>intro hb<;>cbv)
 all_goals(subst hO hr hF;(try simp only[nc]at*);(try simp only[aj,SS,sa,az]at*))
 all_goals first
  | (show(_:List DV)=_
     first
      |exact ax (o8 (by unfold bgB;simp only[SS,VN]))
      |done)
  |done
abbrev Ls1:di:=dH (fun F f=>match f with|8=>rt F|9=>iX F|10=>jr F|11=>gW F|15=>iB F|20=>iC F|21=>lB F|22=>fU F|17=>gO F|_=>fun _=>none) (by
 intro f;dsimp only;split;exact EH;exact sC;exact tT;exact qZ;exact rX;exact rY;exact xj;exact pa;exact oH;exact dp)
attribute [local irreducible] HV.al HV.fr HV.aQ HV.aR HV.fr1 HV.hp HV.wf HV.tk HV.tk1 HV.ma HV.ma1 HV.sf hvN hnB
def xz (cs:af)(hp:Rw [tU] cs):MF 6 [.one (.s 1 cs)] [.k true]:=by
 have hw:=hp;have hml:=hw.1;have hd:=Bd (cs:=cs);have hr:=SE (cs:=cs);have d0:=ET (cs:=cs) (j:=0) Uc Uc;have d1:=ET (cs:=cs) (j:=1) Uc Uc;have ra:=qq (a:=ag (dpl cs) 0 0) (n:=2) d0.1 Uc;have rb:=qq (a:=ag (dpl cs) 1 0) (n:=2) d1.1 Uc;have e0:zq (L.s 1 (dpl cs)) [(YG 0,0)]=ag (dpl cs) 0 0:=Qz Uc;have e1:zq (L.s 1 (dpl cs)) [(YG 1,0)]=ag (dpl cs) 1 0:=Qz Uc;refine JI Ls1 qU mixed 95 [false,true,true,true,false,false,true,true,true,true,true,false,true,true] _ [4] [.tmp 2] Tryz.func6 rfl rfl rfl rfl rfl ?_;intro O r F hO hr hF;cbv;have hsb:∀ x:af,O.sub x 0 (O.ln x)=x:=by intro x;rw[hO];exact sa
 repeat' first|apply Zc|(apply cN<;>intro hb<;>cbv)|(refine⟨[3,4,5,6],[3,4],Int×HV,fun s_=>match s_ with|(i,h)=>(.reg 6 (.j i)::hvV 4 h),fun s_=>match s_ with|(i,h)=>0<=i/\i<=4/\Jh h i,fun s_=>match s_ with|(i,h)=>(4-i).toNat,⟨(0,F.hNw 8 8 1 300 []),?_,?_⟩,?_⟩;rotate_left;(focus (cbv;done));intro s_ hi;obtain⟨i,h⟩:=s_;replace hi:0<=i/\i<=4/\Jh h i:=hi;obtain⟨i0,i1,i2⟩:=hi;cbv)|(refine ah (O.ar .add Za i 1,F.hAl (P8 O h) 0 8) ?_ ?_ ?_;focus (cbv;done))|((try simp only[hsb,xW]);refine⟨[0,1,2,3,4,5,6,7,8,9,10],[0,1,2,3,4,5,6,7,8,9,10],?_,?_⟩;(focus (cbv;done));cbv)
 all_goals(try simp only[P8,hvE]at*)
 all_goals(subst hO hr hF;(try simp only[nc]at*);(try simp only[aj,SS,sa,az]at*);(try simp only[xW]at*);(try simp only[e0,e1]at*))
 all_goals first|exact hml|exact⟨hw,ab1 Ud⟩|exact⟨Zd,Zd⟩|(show bz _ _=true;kernel_rfl)|exact wz hr Uc Uc|exact⟨⟨Nat.zero_le _,fun e he=>by cases he⟩,by decide⟩|omega|skip
 all_goals(generalize bQ .rem Za (ag (dpl cs) 0 0) 2=x at*)
 all_goals(generalize bQ .rem Za (ag (dpl cs) 1 0) 2=y at*)
 all_goals(have hx:=r39 ra.1 ra.2)
 all_goals(have hy:=r39 rb.1 rb.2)
 all_goals(have k:=k39 hx hy)
 all_goals(have hi:=i39 hx;have hj:=j39 hy;have bi:=b39 hi;have bj:=c39 hj)
 all_goals(obtain⟨f1,f2,f3,f6,f7,f8,f9⟩:=f39 hi hj)
 all_goals(have f0:=ahV;have f10:=l39)
 all_goals(have fi:Jh (hvN 8 8 1 300 []) 0:=⟨Uc,Uc,rfl⟩;(try have P:Jh h i:=Ud);(try have w:=P.wf);(try have z1:bQ .add Za i 1=i+1:=b8 Uc);(try have t:=P.step Uc);(try have e:=P.fin Uc);(try subst e))
 all_goals(simp only[y39,t39,z39]at f2 f3 f6 f7 f8 f9)
 all_goals first|omega|exact⟨⟨w⟩,Uc,Uc⟩|(rw[z1];omega)|exact⟨⟨f1⟩,bj⟩|exact⟨⟨f2⟩,Uc,Uc⟩|exact⟨HV.wf_c f3,Uc,Uc⟩|exact(HV.wf_c f3).ma|exact(tf0 f0 Ud).elim|exact dbt f8|done
def IA (recs:af)(h:CV [(false,[.sl [tU]])] recs):MF 6 (AX [(false,[.sl [tU]])] recs) [.k true]:=by
 match recs,h with
 | [[.s _ a0]],h=>
   simp only[CV,bV,dD]at h;obtain⟨⟨⟨rfl,ha0,ka0⟩,_⟩,_⟩:=h;exact xz a0 ⟨ha0,ka0⟩
end Go.V