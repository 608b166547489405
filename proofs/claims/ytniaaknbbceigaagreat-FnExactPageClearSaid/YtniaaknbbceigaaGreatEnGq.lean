/-
  Contracts, by evaluation.
-/
import Derived.Test.YtniaaknbbceigaaGreatS10
import Derived.Test.YtniaaknbbceigaaGreatHB
import Derived.Test.YtniaaknbbceigaaGreatLawHDq
import Derived.Test.YtniaaknbbceigaaGreatOfFq
set_option linter.all false
namespace Go.V
open Go Go.Proofs
set_option maxRecDepth 1000000
set_option maxHeartbeats 8000000
namespace FnExactPageClearC
structure Fns where
 szN:List (List (List L))->Int->Int
 pcB:Bool->List (List L)->List (List L)->List (List L)->List (List L)->Int->Bool
 hpI:List (List L)->List (List L)->List (List L)->Int->List (List L)->List (List L)->List (List L)->List (List L)->List (List L)->List (List L)->List (List L)->List (List L)->Int->List (List L)->Int->Int->Int->Int->Bool->Int->Int->List (List L)->Int->Int->Bool
def F0 :Fns:=⟨aZ,pcB,hpI⟩
def ct (F:Fns):CT:=fun f ds=>match f with
 | 10=>match ds with
   |[.agg [.s 1 a0,.s 1 a1,.s 2 a2,.v (.int .i64 a3),.s 1 a4,.s 2 a5,.s 3 a6,.s 3 a7,.s 4 a8,.s 1 a9,.s 1 a10,.s 1 a11,.v (.int .i64 a12),.s 3 a13,.v (.int .i64 a14),.v (.int .i64 a15),.v (.int .i64 a16),.v (.int .i64 a17),.v (.bool a18),.v (.int .i64 a19),.v (.int .i64 a20),.s 1 a21,.v (.int .i64 a22),.v (.int .i64 a23)],.one (.v (.int .i64 left))]=>some (fun _=>Rw [.sl [tI]] a0/\Rw [tB] a1/\Rw [tI,tI] a2/\Rw [tI] a4/\Rw [tI,tI] a5/\Rw [tI,tI,tI] a6/\Rw [tI,tI,tI] a7/\Rw [tI,tI,tI,tI] a8/\Rw [.sl [.sl [tI]]] a9/\Rw [.sl [tI,tI]] a10/\Rw [.sl [tI]] a11/\Rw [tI,tI,tI] a13/\Rw [tI] a21/\0<=left/\left<=1048576,[.one (.v (.int .i64 (F.szN [a0,a1,a2,a4,a5,a6,a7,a8,a9,a10,a11,a13,a21] left)))])
   |_=>none
 | 12=>match ds with
   |[.agg [.s 1 a0,.s 1 a1,.s 2 a2,.v (.int .i64 a3),.s 1 a4,.s 2 a5,.s 3 a6,.s 3 a7,.s 4 a8,.s 1 a9,.s 1 a10,.s 1 a11,.v (.int .i64 a12),.s 3 a13,.v (.int .i64 a14),.v (.int .i64 a15),.v (.int .i64 a16),.v (.int .i64 a17),.v (.bool a18),.v (.int .i64 a19),.v (.int .i64 a20),.s 1 a21,.v (.int .i64 a22),.v (.int .i64 a23)]]=>some (fun _=>Rw [.sl [tI]] a0/\Rw [tB] a1/\Rw [tI,tI] a2/\Rw [tI] a4/\Rw [tI,tI] a5/\Rw [tI,tI,tI] a6/\Rw [tI,tI,tI] a7/\Rw [tI,tI,tI,tI] a8/\Rw [.sl [.sl [tI]]] a9/\Rw [.sl [tI,tI]] a10/\Rw [.sl [tI]] a11/\Rw [tI,tI,tI] a13/\Rw [tI] a21/\ao [a0,a1,a2,a4,a5,a6,a7,a8,a9,a10,a11,a13,a21]<=1048576,[.agg [.s 1 a0,.s 1 a1,.s 2 a2,.v (.int .i64 a3),.s 1 a4,.s 2 a5,.s 3 a6,.s 3 a7,.s 4 a8,.s 1 a9,.s 1 a10,.s 1 a11,.v (.int .i64 a12),.s 3 a13,.v (.int .i64 a14),.v (.int .i64 a15),.v (.int .i64 a16),.v (.int .i64 a17),.v (.bool a18),.v (.int .i64 a19),.v (.int .i64 a20),.s 1 a21,.v (.int .i64 a22),.v (.int .i64 a23)]])
   |_=>none
 | 14=>match ds with
   |[.agg [.s 1 a0,.s 1 a1,.s 2 a2,.v (.int .i64 a3),.s 1 a4,.s 2 a5,.s 3 a6,.s 3 a7,.s 4 a8,.s 1 a9,.s 1 a10,.s 1 a11,.v (.int .i64 a12),.s 3 a13,.v (.int .i64 a14),.v (.int .i64 a15),.v (.int .i64 a16),.v (.int .i64 a17),.v (.bool a18),.v (.int .i64 a19),.v (.int .i64 a20),.s 1 a21,.v (.int .i64 a22),.v (.int .i64 a23)],d]=>some (fun _=>d=.agg [.s 1 a0,.s 1 a1,.s 2 a2,.v (.int .i64 a3),.s 1 a4,.s 2 a5,.s 3 a6,.s 3 a7,.s 4 a8,.s 1 a9,.s 1 a10,.s 1 a11,.v (.int .i64 a12),.s 3 a13,.v (.int .i64 a14),.v (.int .i64 a15),.v (.int .i64 a16),.v (.int .i64 a17),.v (.bool a18),.v (.int .i64 a19),.v (.int .i64 a20),.s 1 a21,.v (.int .i64 a22),.v (.int .i64 a23)]/\Rw [.sl [tI]] a0/\Rw [tB] a1/\Rw [tI,tI] a2/\Rw [tI] a4/\Rw [tI,tI] a5/\Rw [tI,tI,tI] a6/\Rw [tI,tI,tI] a7/\Rw [tI,tI,tI,tI] a8/\Rw [.sl [.sl [tI]]] a9/\Rw [.sl [tI,tI]] a10/\Rw [.sl [tI]] a11/\Rw [tI,tI,tI] a13/\Rw [tI] a21/\ao [a0,a1,a2,a4,a5,a6,a7,a8,a9,a10,a11,a13,a21]<=1099511627776,[.one (.v (.bool true))])
   |_=>none
 | 19=>match ds with
   |[.agg [.s 1 a0,.s 1 a1,.s 2 a2,.v (.int .i64 a3),.s 1 a4,.s 2 a5,.s 3 a6,.s 3 a7,.s 4 a8,.s 1 a9,.s 1 a10,.s 1 a11,.v (.int .i64 a12),.s 3 a13,.v (.int .i64 a14),.v (.int .i64 a15),.v (.int .i64 a16),.v (.int .i64 a17),.v (.bool a18),.v (.int .i64 a19),.v (.int .i64 a20),.s 1 a21,.v (.int .i64 a22),.v (.int .i64 a23)],.one (.v (.int .i64 p))]=>some (fun _=>jC a0 a1 a2 a4 a5 a6 a7 a8 a9 a10 a11 a13 a21,[.one (.v (.bool (F.pcB (F.hpI a0 a1 a2 a3 a4 a5 a6 a7 a8 a9 a10 a11 a12 a13 a14 a15 a16 a17 a18 a19 a20 a21 a22 a23) a0 a2 a6 a7 p)))])
   |_=>none
 | 20=>match ds with
   |[.agg [.s 1 a0,.s 1 a1,.s 2 a2,.v (.int .i64 a3),.s 1 a4,.s 2 a5,.s 3 a6,.s 3 a7,.s 4 a8,.s 1 a9,.s 1 a10,.s 1 a11,.v (.int .i64 a12),.s 3 a13,.v (.int .i64 a14),.v (.int .i64 a15),.v (.int .i64 a16),.v (.int .i64 a17),.v (.bool a18),.v (.int .i64 a19),.v (.int .i64 a20),.s 1 a21,.v (.int .i64 a22),.v (.int .i64 a23)],.one (.v (.int .i64 p))]=>some (fun _=>jC a0 a1 a2 a4 a5 a6 a7 a8 a9 a10 a11 a13 a21,[.one (.v (.bool (F.pcB (F.hpI a0 a1 a2 a3 a4 a5 a6 a7 a8 a9 a10 a11 a12 a13 a14 a15 a16 a17 a18 a19 a20 a21 a22 a23) a0 a2 a6 a7 p)))])
   |_=>none
 |_=>none
theorem ak :aW Tryz.prog (ct F0):=by
 intro f ds pre res h hp;unfold ct at h;split at h<;>(try split at h)<;>cases h
 exact fh _ _ _ _ _ _ _ _ _ _ _ _ _ _ _ _ _ _ _ _ _ _ _ _ _ hp;exact fk _ _ _ _ _ _ _ _ _ _ _ _ _ _ _ _ _ _ _ _ _ _ _ _ hp;exact fg _ _ _ _ _ _ _ _ _ _ _ _ _ _ _ _ _ _ _ _ _ _ _ _ _ hp;exact nT _ _ _ _ _ _ _ _ _ _ _ _ _ _ _ _ _ _ _ _ _ _ _ _ _ hp;exact nz _ _ _ _ _ _ _ _ _ _ _ _ _ _ _ _ _ _ _ _ _ _ _ _ _ hp
def B :TB Tryz.prog:=tb ak
end FnExactPageClearC
theorem ig (a0 a1 a2:List (List L))(a3:Int)(a4 a5 a6 a7 a8 a9 a10 a11:List (List L))(a12:Int)(a13:List (List L))(a14 a15 a16 a17:Int)(a18:Bool)(a19 a20:Int)(a21:List (List L))(a22 a23 a24:Int)(hp:Rw [.sl [tI]] a0/\Rw [tB] a1/\Rw [tI,tI] a2/\(-9223372036854775808<=a3/\a3<=9223372036854775807)/\Rw [tI] a4/\Rw [tI,tI] a5/\Rw [tI,tI,tI] a6/\Rw [tI,tI,tI] a7/\Rw [tI,tI,tI,tI] a8/\Rw [.sl [.sl [tI]]] a9/\Rw [.sl [tI,tI]] a10/\Rw [.sl [tI]] a11/\(-9223372036854775808<=a12/\a12<=9223372036854775807)/\Rw [tI,tI,tI] a13/\(-9223372036854775808<=a14/\a14<=9223372036854775807)/\(-9223372036854775808<=a15/\a15<=9223372036854775807)/\(-9223372036854775808<=a16/\a16<=9223372036854775807)/\(-9223372036854775808<=a17/\a17<=9223372036854775807)/\(-9223372036854775808<=a19/\a19<=9223372036854775807)/\(-9223372036854775808<=a20/\a20<=9223372036854775807)/\Rw [tI] a21/\(-9223372036854775808<=a22/\a22<=9223372036854775807)/\(-9223372036854775808<=a23/\a23<=9223372036854775807)/\(-9223372036854775808<=a24/\a24<=9223372036854775807)):aP Tryz.prog 6 [.agg [.s 1 a0,.s 1 a1,.s 2 a2,.v (.int .i64 a3),.s 1 a4,.s 2 a5,.s 3 a6,.s 3 a7,.s 4 a8,.s 1 a9,.s 1 a10,.s 1 a11,.v (.int .i64 a12),.s 3 a13,.v (.int .i64 a14),.v (.int .i64 a15),.v (.int .i64 a16),.v (.int .i64 a17),.v (.bool a18),.v (.int .i64 a19),.v (.int .i64 a20),.s 1 a21,.v (.int .i64 a22),.v (.int .i64 a23)],.one (.v (.int .i64 a24))] [.one (.v (.bool true))]:=by
 obtain⟨ha0,ha1,ha2,ha3,ha4,ha5,ha6,ha7,ha8,ha9,ha10,ha11,ha12,ha13,ha14,ha15,ha16,ha17,ha19,ha20,ha21,ha22,ha23,ha24⟩:=hp;by_cases hs:ao [a0,a1,a2,a4,a5,a6,a7,a8,a9,a10,a11,a13,a21]<=1048576
 case neg=>
  have hsz:aZ [a0,a1,a2,a4,a5,a6,a7,a8,a9,a10,a11,a13,a21] 1048576<0:=eo.2 (by omega);refine ai FnExactPageClearC.B ag mixed 31 _ [4] [.tmp 4] Tryz.func6 rfl rfl rfl rfl rfl ?_;intro O r (F:FnExactPageClearC.Fns) hO hr (hF:F=FnExactPageClearC.F0);cbv;refine And.intro ?_ (aG (fun hb=>?_) (fun hb=>?_))
  ·(subst hO hr hF;(try simp only[af,SS,sa,az]at*);(try simp only[nc]at*);(try simp only[aF]at*))
   exact⟨ha0,ha1,ha2,ha4,ha5,ha6,ha7,ha8,ha9,ha10,ha11,ha13,ha21,by omega,by omega⟩
  ·cbv
   repeat' first|refine And.intro ?_ ?_|(refine aG (fun hb=>?_) (fun hb=>?_)<;>cbv)
   all_goals(subst hO hr hF;(try simp only[af,SS,sa,az]at*);(try simp only[nc]at*);(try simp only[aF]at*))
   all_goals first|trivial|exact rfl
  ·exfalso
   (subst hO hr hF;(try simp only[af,SS,sa,az]at*);(try simp only[nc]at*);(try simp only[aF]at*))
   simp only[FnExactPageClearC.F0]at hb;omega
 case pos=>
 have hsz:=wR hs;have hsc':aj a0<=1048576/\aj a1<=1048576/\aj a2<=1048576/\aj a4<=1048576/\aj a5<=1048576/\aj a6<=1048576/\aj a7<=1048576/\aj a8<=1048576/\aj a9<=1048576/\aj a10<=1048576/\aj a11<=1048576/\aj a13<=1048576/\aj a21<=1048576:=⟨au hs (by simp),au hs (by simp),au hs (by simp),au hs (by simp),au hs (by simp),au hs (by simp),au hs (by simp),au hs (by simp),au hs (by simp),au hs (by simp),au hs (by simp),au hs (by simp),au hs (by simp)⟩;have hN:jC a0 a1 a2 a4 a5 a6 a7 a8 a9 a10 a11 a13 a21:=wh ha0 ha1 ha2 ha4 ha5 ha6 ha7 ha8 ha9 ha10 ha11 ha13 ha21 hsc';have hsc:=Nc hs;refine ai FnExactPageClearC.B ag mixed 31 _ [4] [.tmp 4] Tryz.func6 rfl rfl rfl rfl rfl ?_;intro O r (F:FnExactPageClearC.Fns) hO hr (hF:F=FnExactPageClearC.F0);cbv
 repeat' first|refine And.intro ?_ ?_|(refine aG (fun hb=>?_) (fun hb=>?_)<;>cbv)
 all_goals(subst hO hr hF;(try simp only[af,SS,sa,az]at*);(try simp only[nc]at*);(try simp only[aF]at*))
 all_goals(try simp only[FnExactPageClearC.F0,rc]at*)
 all_goals first|exact True.intro|(show aK _ _=true;kernel_rfl)|exact⟨True.intro,True.intro⟩|exact⟨ha0,ha1,ha2,ha4,ha5,ha6,ha7,ha8,ha9,ha10,ha11,ha13,ha21,by omega,by omega⟩|exact⟨ha0,ha1,ha2,ha4,ha5,ha6,ha7,ha8,ha9,ha10,ha11,ha13,ha21,hs⟩|exact⟨ha0,ha1,ha2,ha4,ha5,ha6,ha7,ha8,ha9,ha10,ha11,ha13,ha21⟩|exact⟨trivial,ha0,ha1,ha2,ha4,ha5,ha6,ha7,ha8,ha9,ha10,ha11,ha13,ha21,by omega⟩|exact⟨rfl,ha0,ha1,ha2,ha4,ha5,ha6,ha7,ha8,ha9,ha10,ha11,ha13,ha21,by omega⟩|exact hN|exact rfl|exact absurd rfl (by assumption)|(exfalso;omega)|trivial|trace_state
theorem lK (recs:List (List L))(h:jX [(true,[.sl [.sl [tI]],.sl [tB],.sl [tI,tI],tI,.sl [tI],.sl [tI,tI],.sl [tI,tI,tI],.sl [tI,tI,tI],.sl [tI,tI,tI,tI],.sl [.sl [.sl [tI]]],.sl [.sl [tI,tI]],.sl [.sl [tI]],tI,.sl [tI,tI,tI],tI,tI,tI,tI,tB,tI,tI,.sl [tI],tI,tI]),(false,[tI])] recs):aP Tryz.prog 6 (lh [(true,[.sl [.sl [tI]],.sl [tB],.sl [tI,tI],tI,.sl [tI],.sl [tI,tI],.sl [tI,tI,tI],.sl [tI,tI,tI],.sl [tI,tI,tI,tI],.sl [.sl [.sl [tI]]],.sl [.sl [tI,tI]],.sl [.sl [tI]],tI,.sl [tI,tI,tI],tI,tI,tI,tI,tB,tI,tI,.sl [tI],tI,tI]),(false,[tI])] recs) [.one (.v (.bool true))]:=by
 match recs,h with
 | [[.s _ a0,.s _ a1,.s _ a2,.v (.int _ a3),.s _ a4,.s _ a5,.s _ a6,.s _ a7,.s _ a8,.s _ a9,.s _ a10,.s _ a11,.v (.int _ a12),.s _ a13,.v (.int _ a14),.v (.int _ a15),.v (.int _ a16),.v (.int _ a17),.v (.bool a18),.v (.int _ a19),.v (.int _ a20),.s _ a21,.v (.int _ a22),.v (.int _ a23)],[.v (.int _ a24)]],h=>
   simp only[jX,bS,bX]at h;obtain⟨⟨⟨rfl,ha0,ka0⟩,⟨rfl,ha1,ka1⟩,⟨rfl,ha2,ka2⟩,⟨rfl,ha3⟩,⟨rfl,ha4,ka4⟩,⟨rfl,ha5,ka5⟩,⟨rfl,ha6,ka6⟩,⟨rfl,ha7,ka7⟩,⟨rfl,ha8,ka8⟩,⟨rfl,ha9,ka9⟩,⟨rfl,ha10,ka10⟩,⟨rfl,ha11,ka11⟩,⟨rfl,ha12⟩,⟨rfl,ha13,ka13⟩,⟨rfl,ha14⟩,⟨rfl,ha15⟩,⟨rfl,ha16⟩,⟨rfl,ha17⟩,_,⟨rfl,ha19⟩,⟨rfl,ha20⟩,⟨rfl,ha21,ka21⟩,⟨rfl,ha22⟩,⟨rfl,ha23⟩,_⟩,⟨⟨rfl,ha24⟩,_⟩,_⟩:=h;exact ig a0 a1 a2 a3 a4 a5 a6 a7 a8 a9 a10 a11 a12 a13 a14 a15 a16 a17 a18 a19 a20 a21 a22 a23 a24 ⟨⟨ha0,ka0⟩,⟨ha1,ka1⟩,⟨ha2,ka2⟩,cV ha3,⟨ha4,ka4⟩,⟨ha5,ka5⟩,⟨ha6,ka6⟩,⟨ha7,ka7⟩,⟨ha8,ka8⟩,⟨ha9,ka9⟩,⟨ha10,ka10⟩,⟨ha11,ka11⟩,cV ha12,⟨ha13,ka13⟩,cV ha14,cV ha15,cV ha16,cV ha17,cV ha19,cV ha20,⟨ha21,ka21⟩,cV ha22,cV ha23,cV ha24⟩
end Go.V