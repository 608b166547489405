/-
  Contracts, by evaluation.
-/
import Derived.Test.YtniaaknbbceigaaGreatS10
import Derived.Test.YtniaaknbbceigaaGreatHB
import Derived.Test.YtniaaknbbceigaaGreatLayPq
import Derived.Test.YtniaaknbbceigaaGreatKerBq
set_option linter.all false
namespace Go.V
open Go Go.Proofs
set_option maxRecDepth 1000000
set_option maxHeartbeats 8000000
namespace Qa0
structure Fns where
 no:Unit
def F0 :Fns:=⟨()⟩
def B :TB Tryz.prog:={Φ:=Fns,F0:=F0}
end Qa0
theorem uG (k m:Int)(cs:List (List L))(ph nx:Int)(hp:True):aP Tryz.prog 129 [.agg [.v (.int .i64 k),.v (.int .i64 m),.s 1 cs,.v (.int .i64 ph),.v (.int .i64 nx)]] [.one (.v (.bool (jobZ k m cs ph nx)))]:=by
 refine ai Qa0.B ag mixed 30 _ [4] [.tmp 2] Tryz.func129 rfl rfl rfl rfl rfl ?_;intro O r (F:Qa0.Fns) hO hr (hF:F=Qa0.F0);cbv
 repeat' first|refine And.intro ?_ ?_|(refine aG (fun hb=>?_) (fun hb=>?_)<;>cbv)
 all_goals(subst hO hr hF;(try simp only[af,SS,sa,az]at*);(try simp only[nc]at*);(try simp only[aF]at*))
 all_goals first|(show(_:List DV)=_;refine ah ?_;unfold jobZ;simp[*,cmp_eq];done)|(show(_:List DV)=_;refine ah ?_;unfold jobZ;rw[decide_eq_true (p:=cs.length=0) (by omega),cmp_eq];simp[*];done)|(show(_:List DV)=_;refine ah ?_;unfold jobZ;rw[decide_eq_false (p:=cs.length=0) (by omega)];simp;done)|done
namespace Qa1
structure Fns where
 kerOk:List (List L)->List (List L)->List (List L)->Int->List (List L)->Bool
 rgOk:Int->List (List L)->Bool
 layOk:List (List L)->List (List L)->Bool
 pgI:List (List L)->List (List L)->List (List L)->List (List L)->Bool
 mailOk:List (List L)->List (List L)->Bool
 quarOk:Int->List (List L)->Bool
 caOk:List (List L)->Bool
 objOk:List (List L)->List (List L)->List (List L)->List (List L)->Int->Bool
 hoI:List (List L)->List (List L)->List (List L)->List (List L)->List (List L)->List (List L)->List (List L)->Int->Bool
 inR:Int->Int->Int->Bool
 jbOk:Int->Int->List (List L)->Int->Int->Bool
 spI:List (List L)->Int->Int
def F0 :Fns:=⟨kerOk,rgOk,layOk,pgI,mailOk,quarOk,caOk,objOk,hoI,inR,jbOk,spI⟩
def ct (F:Fns):CT:=fun f ds=>match f with
 | 142=>match ds with
   |[.agg [.s 1 cs,.s 1 us,.s 2 es,.v (.int .i64 c),.s 1 rs]]=>some (fun _=>Rw [.sl [tI]] cs/\Rw [tB] us/\Rw [tI,tI] es/\Rw [tI] rs,[.one (.v (.bool (F.kerOk cs us es c rs)))])
   |_=>none
 | 143=>match ds with
   |[.one (.v (.int .i64 n)),.one (.s 2 rs)]=>some (fun _=>0<=n/\n<=1099511627776/\Rw [tI,tI] rs/\rs.length<=1099511627776,[.one (.v (.bool (F.rgOk n rs)))])
   |_=>none
 | 144=>match ds with
   |[.one (.s 3 sp),.one (.s 3 lg)]=>some (fun _=>Rw [tI,tI,tI] sp/\Rw [tI,tI,tI] lg/\sp.length<=1073741824/\lg.length<=1073741824,[.one (.v (.bool (F.layOk sp lg)))])
   |_=>none
 | 145=>match ds with
   |[.agg [.s 1 a0,.s 1 a1,.s 2 a2,.v (.int .i64 a3),.s 1 a4,.s 2 a5,.s 3 a6,.s 3 a7,.s 4 a8,.s 1 a9,.s 1 a10,.s 1 a11,.v (.int .i64 a12),.s 3 a13,.v (.int .i64 a14),.v (.int .i64 a15),.v (.int .i64 a16),.v (.int .i64 a17),.v (.bool a18),.v (.int .i64 a19),.v (.int .i64 a20),.s 1 a21,.v (.int .i64 a22),.v (.int .i64 a23)]]=>some (fun _=>vG a6 a7 a8 a9 a10 a11 a13/\layOk a6 a7=true/\Rw [tI,tI] a2/\a2.length<=1099511627776/\Rw [tI,tI] a5/\a5.length<=1099511627776,[.one (.v (.bool (F.pgI a2 a5 a6 a7)))])
   |_=>none
 | 146=>match ds with
   |[.agg [.s 1 b,.s 1 x]]=>some (fun _=>uV b x,[.one (.v (.bool (F.mailOk b x)))])
   |_=>none
 | 147=>match ds with
   |[.agg [.v (.int .i64 rm),.s 3 qs]]=>some (fun _=>Rw [tI,tI,tI] qs/\qs.length<=1073741824,[.one (.v (.bool (F.quarOk rm qs)))])
   |_=>none
 | 148=>match ds with
   |[.agg [.s 1 ls]]=>some (fun _=>Az ls,[.one (.v (.bool (F.caOk ls)))])
   |_=>none
 | 149=>match ds with
   |[.agg [.s 1 a0,.s 1 a1,.s 2 a2,.v (.int .i64 a3),.s 1 a4,.s 2 a5,.s 3 a6,.s 3 a7,.s 4 a8,.s 1 a9,.s 1 a10,.s 1 a11,.v (.int .i64 a12),.s 3 a13,.v (.int .i64 a14),.v (.int .i64 a15),.v (.int .i64 a16),.v (.int .i64 a17),.v (.bool a18),.v (.int .i64 a19),.v (.int .i64 a20),.s 1 a21,.v (.int .i64 a22),.v (.int .i64 a23)]]=>some (fun _=>vG a6 a7 a8 a9 a10 a11 a13/\layOk a6 a7=true,[.one (.v (.bool (F.objOk a6 a7 a8 a9 a17)))])
   |_=>none
 | 150=>match ds with
   |[.agg [.s 1 a0,.s 1 a1,.s 2 a2,.v (.int .i64 a3),.s 1 a4,.s 2 a5,.s 3 a6,.s 3 a7,.s 4 a8,.s 1 a9,.s 1 a10,.s 1 a11,.v (.int .i64 a12),.s 3 a13,.v (.int .i64 a14),.v (.int .i64 a15),.v (.int .i64 a16),.v (.int .i64 a17),.v (.bool a18),.v (.int .i64 a19),.v (.int .i64 a20),.s 1 a21,.v (.int .i64 a22),.v (.int .i64 a23)]]=>some (fun _=>vG a6 a7 a8 a9 a10 a11 a13/\layOk a6 a7=true,[.one (.v (.bool (F.hoI a6 a7 a8 a9 a10 a11 a13 a15)))])
   |_=>none
 | 151=>match ds with
   |[.one (.v (.int .i64 c))]=>some (fun _=>True,[.one (.v (.bool (F.inR c 0 1073741823)))])
   |_=>none
 | 152=>match ds with
   |[.one (.v (.int .i64 x)),.one (.v (.int .i64 a)),.one (.v (.int .i64 b))]=>some (fun _=>True,[.one (.v (.bool (F.inR x a b)))])
   |_=>none
 | 153=>match ds with
   |[.agg [.v (.int .i64 k),.v (.int .i64 m),.s 1 cs,.v (.int .i64 ph),.v (.int .i64 nx)]]=>some (fun _=>Rw [tI] cs/\cs.length<=1099511627776,[.one (.v (.bool (F.jbOk k m cs ph nx)))])
   |_=>none
 | 154=>match ds with
   |[.agg [.s 1 a0,.s 1 a1,.s 2 a2,.v (.int .i64 a3),.s 1 a4,.s 2 a5,.s 3 a6,.s 3 a7,.s 4 a8,.s 1 a9,.s 1 a10,.s 1 a11,.v (.int .i64 a12),.s 3 a13,.v (.int .i64 a14),.v (.int .i64 a15),.v (.int .i64 a16),.v (.int .i64 a17),.v (.bool a18),.v (.int .i64 a19),.v (.int .i64 a20),.s 1 a21,.v (.int .i64 a22),.v (.int .i64 a23)],.one (.v (.int .i64 pg))]=>some (fun _=>Rw [tI,tI,tI] a6/\a6.length<=1099511627776,[.one (.v (.int .i64 (F.spI a6 pg)))])
   |_=>none
 |_=>none
theorem ak :aW Tryz.prog (ct F0):=by
 intro f ds pre res h hp;unfold ct at h;split at h<;>(try split at h)<;>cases h
 exact pp _ _ _ _ _ hp;exact pz _ _ hp;exact fN _ _ hp;exact rz _ _ _ _ _ _ _ _ _ _ _ _ _ _ _ _ _ _ _ _ _ _ _ _ hp;exact kW _ _ hp;exact t7 _ _ hp;exact jL _ hp;exact ue _ _ _ _ _ _ _ _ _ _ _ _ _ _ _ _ _ _ _ _ _ _ _ _ hp;exact nA _ _ _ _ _ _ _ _ _ _ _ _ _ _ _ _ _ _ _ _ _ _ _ _ hp;exact uf _ hp;exact aN _ _ _ hp;exact vN _ _ _ _ _ hp;exact t9 _ _ _ _ _ _ _ _ _ _ _ _ _ _ _ _ _ _ _ _ _ _ _ _ _ hp
def B :TB Tryz.prog:=tb ak
end Qa1
theorem dF (a0 a1 a2:List (List L))(a3:Int)(a4 a5 a6 a7 a8 a9 a10 a11:List (List L))(a12:Int)(a13:List (List L))(a14 a15 a16 a17:Int)(a18:Bool)(a19 a20:Int)(a21:List (List L))(a22 a23:Int)(hp:jC a0 a1 a2 a4 a5 a6 a7 a8 a9 a10 a11 a13 a21):aP Tryz.prog 55 [.agg [.s 1 a0,.s 1 a1,.s 2 a2,.v (.int .i64 a3),.s 1 a4,.s 2 a5,.s 3 a6,.s 3 a7,.s 4 a8,.s 1 a9,.s 1 a10,.s 1 a11,.v (.int .i64 a12),.s 3 a13,.v (.int .i64 a14),.v (.int .i64 a15),.v (.int .i64 a16),.v (.int .i64 a17),.v (.bool a18),.v (.int .i64 a19),.v (.int .i64 a20),.s 1 a21,.v (.int .i64 a22),.v (.int .i64 a23)]] [.one (.v (.bool (hpI a0 a1 a2 a3 a4 a5 a6 a7 a8 a9 a10 a11 a12 a13 a14 a15 a16 a17 a18 a19 a20 a21 a22 a23)))]:=by
 have N:=hp.n;have hcc:=N.c;have hcw:=N.cw;have hel:=hp.el;have hfl:=hp.fl;have hsl:=N.sl;have hcl:=N.cl;have hlc:=fy (es:=a9);refine ai Qa1.B ag mixed 154 _ [4] [.tmp 2] Tryz.func55 rfl rfl rfl rfl rfl ?_;intro O r (F:Qa1.Fns) hO hr (hF:F=Qa1.F0);cbv
 repeat' first|refine And.intro ?_ ?_|(refine aG (fun hb=>?_) (fun hb=>?_)<;>cbv)|(refine⟨[1,57,58,59],[1],Int,fun i=>[.reg 59 (.one (.v (.int .i64 i)))],fun i=>0<=i/\i<=((a9.length:Nat):Int)/\upto (IZ a9) i,fun i=>(a9.length)-i.toNat,⟨0,?_,?_⟩,?_⟩;rotate_left;(focus (cbv;done));intro i hi;replace hi:0<=i/\i<=((a9.length:Nat):Int)/\upto (IZ a9) i:=hi;obtain⟨i0,i1,i2⟩:=hi;cbv)|(refine aa (O.ar .add .i64 i 1) ?_ ?_ ?_;rotate_left 2;focus (cbv;done))
 all_goals(subst hO hr hF;(try simp only[af,SS,sa,az]at*);(try simp only[nc]at*);(try simp only[aF]at*))
 all_goals(try simp only[Qa1.F0]at*)
 all_goals try rw[bD (by omega) (by omega)]
 all_goals first
  | (show(_:List DV)=_
     first
      |(refine ah ?_;symm;exact NB (by assumption))
      |(refine ah ?_;symm;exact NH (by assumption))
      |(refine ah ?_;symm;exact NC (by assumption))
      |(refine ah ?_;symm;exact Lg (by assumption))
      |(refine ah ?_;symm;exact ND (by assumption))
      |(refine ah ?_;symm;exact Jr (by assumption))
      |(refine ah ?_;symm;exact NG (by assumption))
      |(refine ah ?_;symm;exact Jq i0 (by assumption) (by assumption))
      |(refine ah ?_;symm;exact Lf (by assumption))
      |(refine ah ?_;symm;exact Le (by assumption))
      |(refine ah ?_;symm;exact NI (by assumption))
      |(refine ah ?_;symm;exact NL (by assumption))
      |(refine ah ?_;symm;exact NM (by assumption))
      |(refine ah ?_;symm;exact NN (by assumption))
      |(refine ah ?_;rw[Er (by assumption) (by assumption) (by assumption) (by assumption) (by assumption) (decide_eq_true (by omega)) (by assumption) (aT i2 (by omega)) (by assumption) (by assumption) (by assumption) (by assumption) (by assumption) (by assumption)];subst_vars;first|exact Ju (by assumption)|exact Jv (by assumption)|exact Jw (by assumption) (by assumption)|exact rfl|((try rw[cmp_eq]);unfold sR jobZ;simp[*];done))
      |done)
  |omega
  |(refine⟨by omega,by omega,(Rw.eta (by first|assumption|exact Rw.sub (by first|assumption|exact Rw.sub (by assumption) (by omega) rfl) (by omega) rfl) (by omega) (by omega)).trans ?_⟩;rfl)
  |exact⟨hp.c,hp.u,hp.e,hp.r⟩
  |exact⟨by omega,by omega,hp.f,by omega⟩
  |exact⟨N.sw,N.lw,N.sl,N.ll⟩
  |exact⟨N,by assumption,hp.e,by omega,hp.f,by omega⟩
  |exact N.m
  |exact⟨N.qw,N.ql⟩
  |exact hcc.n i i0 (by assumption)
  |exact⟨N,by assumption⟩
  |exact⟨hp.j,by have:=hp.jl;omega⟩
  |exact⟨N.sw,by omega⟩
  |exact aL
  |exact ax i2 (by assumption)
  |done
namespace Qa2
structure Fns where
 kerOk:List (List L)->List (List L)->List (List L)->Int->List (List L)->Bool
 rgOk:Int->List (List L)->Bool
 layOk:List (List L)->List (List L)->Bool
 pgS:List (List L)->List (List L)->List (List L)->List (List L)->Bool
 smS:List (List L)->List (List L)->Bool
 mailOk:List (List L)->List (List L)->Bool
 quarOk:Int->List (List L)->Bool
 caOk:List (List L)->Bool
 objOk:List (List L)->List (List L)->List (List L)->List (List L)->Int->Bool
 hoS:List (List L)->List (List L)->List (List L)->List (List L)->List (List L)->List (List L)->List (List L)->Bool
 inR:Int->Int->Int->Bool
 jbOk:Int->Int->List (List L)->Int->Int->Bool
 spI:List (List L)->Int->Int
 jobZ:Int->Int->List (List L)->Int->Int->Bool
def F0 :Fns:=⟨kerOk,rgOk,layOk,pgS,smS,mailOk,quarOk,caOk,objOk,hoS,inR,jbOk,spI,jobZ⟩
def ct (F:Fns):CT:=fun f ds=>match f with
 | 118=>match ds with
   |[.agg [.s 1 cs,.s 1 us,.s 2 es,.v (.int .i64 c),.s 1 rs]]=>some (fun _=>Rw [.sl [tI]] cs/\Rw [tB] us/\Rw [tI,tI] es/\Rw [tI] rs,[.one (.v (.bool (F.kerOk cs us es c rs)))])
   |_=>none
 | 119=>match ds with
   |[.one (.v (.int .i64 n)),.one (.s 2 rs)]=>some (fun _=>0<=n/\n<=1099511627776/\Rw [tI,tI] rs/\rs.length<=1099511627776,[.one (.v (.bool (F.rgOk n rs)))])
   |_=>none
 | 120=>match ds with
   |[.one (.s 3 sp),.one (.s 3 lg)]=>some (fun _=>Rw [tI,tI,tI] sp/\Rw [tI,tI,tI] lg/\sp.length<=1073741824/\lg.length<=1073741824,[.one (.v (.bool (F.layOk sp lg)))])
   |_=>none
 | 121=>match ds with
   |[.agg [.s 1 a0,.s 1 a1,.s 2 a2,.v (.int .i64 a3),.s 1 a4,.s 2 a5,.s 3 a6,.s 3 a7,.s 4 a8,.s 1 a9,.s 1 a10,.s 1 a11,.v (.int .i64 a12),.s 3 a13,.v (.int .i64 a14),.v (.int .i64 a15),.v (.int .i64 a16),.v (.int .i64 a17),.v (.bool a18),.v (.int .i64 a19),.v (.int .i64 a20),.s 1 a21,.v (.int .i64 a22),.v (.int .i64 a23)]]=>some (fun _=>vG a6 a7 a8 a9 a10 a11 a13/\layOk a6 a7=true/\Rw [tI,tI] a2/\a2.length<=1099511627776/\Rw [tI,tI] a5/\a5.length<=1099511627776,[.one (.v (.bool (F.pgS a2 a5 a6 a7)))])
   |_=>none
 | 122=>match ds with
   |[.agg [.s 1 a0,.s 1 a1,.s 2 a2,.v (.int .i64 a3),.s 1 a4,.s 2 a5,.s 3 a6,.s 3 a7,.s 4 a8,.s 1 a9,.s 1 a10,.s 1 a11,.v (.int .i64 a12),.s 3 a13,.v (.int .i64 a14),.v (.int .i64 a15),.v (.int .i64 a16),.v (.int .i64 a17),.v (.bool a18),.v (.int .i64 a19),.v (.int .i64 a20),.s 1 a21,.v (.int .i64 a22),.v (.int .i64 a23)]]=>some (fun _=>vG a6 a7 a8 a9 a10 a11 a13/\Rw [tI,tI] a2/\a2.length<=1099511627776,[.one (.v (.bool (F.smS a2 a6)))])
   |_=>none
 | 123=>match ds with
   |[.agg [.s 1 b,.s 1 x]]=>some (fun _=>uV b x,[.one (.v (.bool (F.mailOk b x)))])
   |_=>none
 | 124=>match ds with
   |[.agg [.v (.int .i64 rm),.s 3 qs]]=>some (fun _=>Rw [tI,tI,tI] qs/\qs.length<=1073741824,[.one (.v (.bool (F.quarOk rm qs)))])
   |_=>none
 | 125=>match ds with
   |[.agg [.s 1 ls]]=>some (fun _=>Az ls,[.one (.v (.bool (F.caOk ls)))])
   |_=>none
 | 127=>match ds with
   |[.agg [.s 1 a0,.s 1 a1,.s 2 a2,.v (.int .i64 a3),.s 1 a4,.s 2 a5,.s 3 a6,.s 3 a7,.s 4 a8,.s 1 a9,.s 1 a10,.s 1 a11,.v (.int .i64 a12),.s 3 a13,.v (.int .i64 a14),.v (.int .i64 a15),.v (.int .i64 a16),.v (.int .i64 a17),.v (.bool a18),.v (.int .i64 a19),.v (.int .i64 a20),.s 1 a21,.v (.int .i64 a22),.v (.int .i64 a23)]]=>some (fun _=>vG a6 a7 a8 a9 a10 a11 a13/\layOk a6 a7=true,[.one (.v (.bool (F.objOk a6 a7 a8 a9 a17)))])
   |_=>none
 | 128=>match ds with
   |[.agg [.s 1 a0,.s 1 a1,.s 2 a2,.v (.int .i64 a3),.s 1 a4,.s 2 a5,.s 3 a6,.s 3 a7,.s 4 a8,.s 1 a9,.s 1 a10,.s 1 a11,.v (.int .i64 a12),.s 3 a13,.v (.int .i64 a14),.v (.int .i64 a15),.v (.int .i64 a16),.v (.int .i64 a17),.v (.bool a18),.v (.int .i64 a19),.v (.int .i64 a20),.s 1 a21,.v (.int .i64 a22),.v (.int .i64 a23)]]=>some (fun _=>vG a6 a7 a8 a9 a10 a11 a13/\layOk a6 a7=true,[.one (.v (.bool (F.hoS a6 a7 a8 a9 a10 a11 a13)))])
   |_=>none
 | 126=>match ds with
   |[.one (.v (.int .i64 x)),.one (.v (.int .i64 a)),.one (.v (.int .i64 b))]=>some (fun _=>True,[.one (.v (.bool (F.inR x a b)))])
   |_=>none
 | 130=>match ds with
   |[.agg [.v (.int .i64 k),.v (.int .i64 m),.s 1 cs,.v (.int .i64 ph),.v (.int .i64 nx)]]=>some (fun _=>Rw [tI] cs/\cs.length<=1099511627776,[.one (.v (.bool (F.jbOk k m cs ph nx)))])
   |_=>none
 | 73=>match ds with
   |[.agg [.s 1 a0,.s 1 a1,.s 2 a2,.v (.int .i64 a3),.s 1 a4,.s 2 a5,.s 3 a6,.s 3 a7,.s 4 a8,.s 1 a9,.s 1 a10,.s 1 a11,.v (.int .i64 a12),.s 3 a13,.v (.int .i64 a14),.v (.int .i64 a15),.v (.int .i64 a16),.v (.int .i64 a17),.v (.bool a18),.v (.int .i64 a19),.v (.int .i64 a20),.s 1 a21,.v (.int .i64 a22),.v (.int .i64 a23)],.one (.v (.int .i64 pg))]=>some (fun _=>Rw [tI,tI,tI] a6/\a6.length<=1099511627776,[.one (.v (.int .i64 (F.spI a6 pg)))])
   |_=>none
 | 129=>match ds with
   |[.agg [.v (.int .i64 k),.v (.int .i64 m),.s 1 cs,.v (.int .i64 ph),.v (.int .i64 nx)]]=>some (fun _=>True,[.one (.v (.bool (F.jobZ k m cs ph nx)))])
   |_=>none
 |_=>none
theorem ak :aW Tryz.prog (ct F0):=by
 intro f ds pre res h hp;unfold ct at h;split at h<;>(try split at h)<;>cases h
 exact qp _ _ _ _ _ hp;exact qx _ _ hp;exact ed _ _ hp;exact qz _ _ _ _ _ _ _ _ _ _ _ _ _ _ _ _ _ _ _ _ _ _ _ _ hp;exact nV _ _ _ _ _ _ _ _ _ _ _ _ _ _ _ _ _ _ _ _ _ _ _ _ hp;exact kX _ _ hp;exact uC _ _ hp;exact jP _ hp;exact sg _ _ _ _ _ _ _ _ _ _ _ _ _ _ _ _ _ _ _ _ _ _ _ _ hp;exact si _ _ _ _ _ _ _ _ _ _ _ _ _ _ _ _ _ _ _ _ _ _ _ _ hp;exact aU _ _ _ hp;exact vT _ _ _ _ _ hp;exact ft _ _ _ _ _ _ _ _ _ _ _ _ _ _ _ _ _ _ _ _ _ _ _ _ _ hp;exact uG _ _ _ _ _ hp
def B :TB Tryz.prog:=tb ak
end Qa2
theorem fo (a0 a1 a2:List (List L))(a3:Int)(a4 a5 a6 a7 a8 a9 a10 a11:List (List L))(a12:Int)(a13:List (List L))(a14 a15 a16 a17:Int)(a18:Bool)(a19 a20:Int)(a21:List (List L))(a22 a23:Int)(hp:jC a0 a1 a2 a4 a5 a6 a7 a8 a9 a10 a11 a13 a21):aP Tryz.prog 44 [.agg [.s 1 a0,.s 1 a1,.s 2 a2,.v (.int .i64 a3),.s 1 a4,.s 2 a5,.s 3 a6,.s 3 a7,.s 4 a8,.s 1 a9,.s 1 a10,.s 1 a11,.v (.int .i64 a12),.s 3 a13,.v (.int .i64 a14),.v (.int .i64 a15),.v (.int .i64 a16),.v (.int .i64 a17),.v (.bool a18),.v (.int .i64 a19),.v (.int .i64 a20),.s 1 a21,.v (.int .i64 a22),.v (.int .i64 a23)]] [.one (.v (.bool (hpI a0 a1 a2 a3 a4 a5 a6 a7 a8 a9 a10 a11 a12 a13 a14 a15 a16 a17 a18 a19 a20 a21 a22 a23)))]:=by
 have N:=hp.n;have hcc:=N.c;have hcw:=N.cw;have hqw:=N.qw;have hql:=N.ql;have hel:=hp.el;have hfl:=hp.fl;have hsl:=N.sl;have hcl:=N.cl;have hlc:=fy (es:=a9);refine ai Qa2.B ag mixed 150 _ [4] [.tmp 2] Tryz.func44 rfl rfl rfl rfl rfl ?_;intro O r (F:Qa2.Fns) hO hr (hF:F=Qa2.F0);cbv
 repeat' first|refine And.intro ?_ ?_|(refine aG (fun hb=>?_) (fun hb=>?_)<;>cbv)|(refine⟨[1,3],[1],Int,fun q=>[.reg 3 (.one (.v (.int .i64 q)))],fun q=>0<=q/\q<=(a13.length:Int)/\upto (sA a13 a15) q,fun q=>a13.length-q.toNat,⟨0,?_,?_⟩,?_⟩;rotate_left;(focus (cbv;done));intro q hq;replace hq:0<=q/\q<=(a13.length:Int)/\upto (sA a13 a15) q:=hq;obtain⟨q0,q1,q2⟩:=hq;cbv)|(refine⟨[1,4],[1],Int,fun i=>[.reg 4 (.one (.v (.int .i64 i)))],fun i=>0<=i/\i<=(a9.length:Int)/\upto (IZ a9) i,fun i=>a9.length-i.toNat,⟨0,?_,?_⟩,?_⟩;rotate_left;(focus (cbv;done));intro i hi;replace hi:0<=i/\i<=(a9.length:Int)/\upto (IZ a9) i:=hi;obtain⟨i0,i1,i2⟩:=hi;cbv)|(refine aa (O.ar .add .i64 i 1) ?_ ?_ ?_;rotate_left 2;focus (cbv;done))|(refine aa (O.ar .add .i64 q 1) ?_ ?_ ?_;rotate_left 2;focus (cbv;done))
 all_goals(subst hO hr hF;(try simp only[af,SS,sa,az]at*);(try simp only[nc]at*);(try simp only[aF]at*))
 all_goals(try simp only[Qa2.F0]at*)
 all_goals try rw[bD (by omega) (by omega)]
 all_goals first
  | (show(_:List DV)=_
     first
      |(refine ah ?_;symm;exact NB (by assumption))
      |(refine ah ?_;symm;exact NH (by assumption))
      |(refine ah ?_;symm;exact NC (by assumption))
      |(refine ah ?_;symm;exact NF (by assumption) (by assumption))
      |(refine ah ?_;symm;exact NE (by assumption) (by assumption))
      |(refine ah ?_;symm;exact ND (by assumption))
      |(refine ah ?_;symm;exact Jr (by assumption))
      |(refine ah ?_;symm;exact NG (by assumption))
      |(refine ah ?_;symm;exact NJ q0 (by assumption) (by assumption) (by assumption))
      |(refine ah ?_;symm;exact Jq i0 (by assumption) (by assumption))
      |(refine ah ?_;symm;exact Lf (by assumption))
      |(refine ah ?_;symm;exact NA (by assumption) (by assumption) (by assumption))
      |(refine ah ?_;symm;exact NI (by assumption))
      |(refine ah ?_;symm;exact NL (by assumption))
      |(refine ah ?_;symm;exact NM (by assumption))
      |(refine ah ?_;symm;exact NN (by assumption))
      |(refine ah ?_;rw[Er (by assumption) (by assumption) (by assumption) (QQ (by assumption) (by assumption) (by assumption)) (by assumption) (decide_eq_true (by omega)) (by assumption) (aT i2 (by omega)) (by assumption) (Qs (by assumption) (by assumption) (by assumption) (by omega) q2) (by assumption) (by assumption) (by assumption) (by assumption)];subst_vars;first|exact Ju (by assumption)|exact Jv (by assumption)|exact Jw (by assumption) (by assumption)|exact rfl|((try rw[cmp_eq]);unfold sR jobZ;simp[*];done))
      |done)
  |omega
  |(refine⟨by omega,by omega,(Rw.eta (by first|assumption|exact Rw.sub (by first|assumption|exact Rw.sub (by assumption) (by omega) rfl) (by omega) rfl) (by omega) (by omega)).trans ?_⟩;rfl)
  |(show aK _ _=true;kernel_rfl)
  |exact⟨hp.c,hp.u,hp.e,hp.r⟩
  |exact⟨by omega,by omega,hp.f,by omega⟩
  |exact⟨N.sw,N.lw,N.sl,N.ll⟩
  |exact⟨N,by assumption,hp.e,by omega,hp.f,by omega⟩
  |exact⟨N,hp.e,by omega⟩
  |exact N.m
  |exact⟨N.qw,N.ql⟩
  |exact hcc.n i i0 (by assumption)
  |exact⟨N,by assumption⟩
  |exact⟨hp.j,by have:=hp.jl;omega⟩
  |exact⟨N.sw,by omega⟩
  |exact aL
  |exact ax i2 (by assumption)
  |exact ax q2 (Ri (by assumption))
  |done
end Go.V