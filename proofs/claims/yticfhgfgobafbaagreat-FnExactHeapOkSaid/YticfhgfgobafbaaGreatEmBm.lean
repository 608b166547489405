/- Contracts. -/
import Derived.Test.YticfhgfgobafbaaGreatLawHDm
import Derived.Test.YticfhgfgobafbaaGreatLayQm
set_option linter.all false
namespace Go.V
open Go Go.Proofs
set_option maxRecDepth 1000000
set_option maxHeartbeats 8000000
namespace FnExactHeapOkC
structure aO where
 szN:List aa->Int->Int
 hpI:aa->aa->aa->Int->aa->aa->aa->aa->aa->aa->aa->aa->Int->aa->Int->Int->Int->Int->Bool->Int->Int->aa->Int->Int->Bool
abbrev F0 :aO:=⟨bA,hpI⟩
def ct (F:aO):CT:=fun f ds=>match f with
 | 5=>match ds with
   |[.agg [.s 1 a0,.s 1 a1,.s 2 a2,.v (.int .i64 a3),.s 1 a4,.s 2 a5,.s 3 a6,.s 3 a7,.s 4 a8,.s 1 a9,.s 1 aA,.s 1 aB,.v (.int .i64 aC),.s 3 aD,.v (.int .i64 aE),.v (.int .i64 aF),.v (.int .i64 aG),.v (.int .i64 aH),.v (.bool aI),.v (.int .i64 aJ),.v (.int .i64 aK),.s 1 aL,.v (.int .i64 aM),.v (.int .i64 aN)],.one (.v (.int .i64 left))]=>some (fun _=>Rw [.sl [tI]] a0/\Rw [tB] a1/\Rw [tI,tI] a2/\Rw [tI] a4/\Rw [tI,tI] a5/\Rw [tI,tI,tI] a6/\Rw [tI,tI,tI] a7/\Rw [tI,tI,tI,tI] a8/\Rw [.sl [.sl [tI]]] a9/\Rw [.sl [tI,tI]] aA/\Rw [.sl [tI]] aB/\Rw [tI,tI,tI] aD/\Rw [tI] aL/\0<=left/\left<=1048576,[.j (F.szN [a0,a1,a2,a4,a5,a6,a7,a8,a9,aA,aB,aD,aL] left)])
   |_=>none
 | 7=>match ds with
   |[.agg [.s 1 a0,.s 1 a1,.s 2 a2,.v (.int .i64 a3),.s 1 a4,.s 2 a5,.s 3 a6,.s 3 a7,.s 4 a8,.s 1 a9,.s 1 aA,.s 1 aB,.v (.int .i64 aC),.s 3 aD,.v (.int .i64 aE),.v (.int .i64 aF),.v (.int .i64 aG),.v (.int .i64 aH),.v (.bool aI),.v (.int .i64 aJ),.v (.int .i64 aK),.s 1 aL,.v (.int .i64 aM),.v (.int .i64 aN)]]=>some (fun _=>Rw [.sl [tI]] a0/\Rw [tB] a1/\Rw [tI,tI] a2/\Rw [tI] a4/\Rw [tI,tI] a5/\Rw [tI,tI,tI] a6/\Rw [tI,tI,tI] a7/\Rw [tI,tI,tI,tI] a8/\Rw [.sl [.sl [tI]]] a9/\Rw [.sl [tI,tI]] aA/\Rw [.sl [tI]] aB/\Rw [tI,tI,tI] aD/\Rw [tI] aL/\am [a0,a1,a2,a4,a5,a6,a7,a8,a9,aA,aB,aD,aL]<=1048576,[.agg (kH a0 a1 a2 a3 a4 a5 a6 a7 a8 a9 aA aB aC aD aE aF aG aH aI aJ aK aL aM aN)])
   |_=>none
 | 10=>match ds with
   |[.agg [.s 1 a0,.s 1 a1,.s 2 a2,.v (.int .i64 a3),.s 1 a4,.s 2 a5,.s 3 a6,.s 3 a7,.s 4 a8,.s 1 a9,.s 1 aA,.s 1 aB,.v (.int .i64 aC),.s 3 aD,.v (.int .i64 aE),.v (.int .i64 aF),.v (.int .i64 aG),.v (.int .i64 aH),.v (.bool aI),.v (.int .i64 aJ),.v (.int .i64 aK),.s 1 aL,.v (.int .i64 aM),.v (.int .i64 aN)],d]=>some (fun _=>d=.agg (kH a0 a1 a2 a3 a4 a5 a6 a7 a8 a9 aA aB aC aD aE aF aG aH aI aJ aK aL aM aN)/\Rw [.sl [tI]] a0/\Rw [tB] a1/\Rw [tI,tI] a2/\Rw [tI] a4/\Rw [tI,tI] a5/\Rw [tI,tI,tI] a6/\Rw [tI,tI,tI] a7/\Rw [tI,tI,tI,tI] a8/\Rw [.sl [.sl [tI]]] a9/\Rw [.sl [tI,tI]] aA/\Rw [.sl [tI]] aB/\Rw [tI,tI,tI] aD/\Rw [tI] aL/\am [a0,a1,a2,a4,a5,a6,a7,a8,a9,aA,aB,aD,aL]<=1099511627776,[.k true])
   |_=>none
 | 14=>match ds with
   |[.agg [.s 1 a0,.s 1 a1,.s 2 a2,.v (.int .i64 a3),.s 1 a4,.s 2 a5,.s 3 a6,.s 3 a7,.s 4 a8,.s 1 a9,.s 1 aA,.s 1 aB,.v (.int .i64 aC),.s 3 aD,.v (.int .i64 aE),.v (.int .i64 aF),.v (.int .i64 aG),.v (.int .i64 aH),.v (.bool aI),.v (.int .i64 aJ),.v (.int .i64 aK),.s 1 aL,.v (.int .i64 aM),.v (.int .i64 aN)]]=>some (fun _=>Iz a0 a1 a2 a4 a5 a6 a7 a8 a9 aA aB aD aL,[.k (F.hpI a0 a1 a2 a3 a4 a5 a6 a7 a8 a9 aA aB aC aD aE aF aG aH aI aJ aK aL aM aN)])
   |_=>none
 | 15=>match ds with
   |[.agg [.s 1 a0,.s 1 a1,.s 2 a2,.v (.int .i64 a3),.s 1 a4,.s 2 a5,.s 3 a6,.s 3 a7,.s 4 a8,.s 1 a9,.s 1 aA,.s 1 aB,.v (.int .i64 aC),.s 3 aD,.v (.int .i64 aE),.v (.int .i64 aF),.v (.int .i64 aG),.v (.int .i64 aH),.v (.bool aI),.v (.int .i64 aJ),.v (.int .i64 aK),.s 1 aL,.v (.int .i64 aM),.v (.int .i64 aN)]]=>some (fun _=>Iz a0 a1 a2 a4 a5 a6 a7 a8 a9 aA aB aD aL,[.k (F.hpI a0 a1 a2 a3 a4 a5 a6 a7 a8 a9 aA aB aC aD aE aF aG aH aI aJ aK aL aM aN)])
   |_=>none
 |_=>none
theorem aj :aR (ct F0):=by
 intro f ds pre res h hp;unfold ct at h;split at h<;>(try split at h)<;>cases h
 exact j5 hp;exact j6 hp;exact j4 hp;exact sM hp;exact sd hp
abbrev B :cD:=tb aj
end FnExactHeapOkC
theorem iQ (a0 a1 a2:aa)(a3:Int)(a4 a5 a6 a7 a8 a9 aA aB:aa)(aC:Int)(aD:aa)(aE aF aG aH:Int)(aI:Bool)(aJ aK:Int)(aL:aa)(aM aN:Int)(hp:Rw [.sl [tI]] a0/\Rw [tB] a1/\Rw [tI,tI] a2/\Rw [tI] a4/\Rw [tI,tI] a5/\Rw [tI,tI,tI] a6/\Rw [tI,tI,tI] a7/\Rw [tI,tI,tI,tI] a8/\Rw [.sl [.sl [tI]]] a9/\Rw [.sl [tI,tI]] aA/\Rw [.sl [tI]] aB/\Rw [tI,tI,tI] aD/\Rw [tI] aL):ao 4 [.agg (kH a0 a1 a2 a3 a4 a5 a6 a7 a8 a9 aA aB aC aD aE aF aG aH aI aJ aK aL aM aN)] [.k true]:=by
 obtain⟨ha0,ha1,ha2,ha4,ha5,ha6,ha7,ha8,ha9,ha10,ha11,ha13,ha21⟩:=hp;by_cases hs:am [a0,a1,a2,a4,a5,a6,a7,a8,a9,aA,aB,aD,aL]<=1048576
 case neg=>
  have hsz:bA [a0,a1,a2,a4,a5,a6,a7,a8,a9,aA,aB,aD,aL] 1048576<0:=fX.2 (by omega);refine cb FnExactHeapOkC.B Tryz.func4 ?_
  intro O r F hO hr hF;cbv
  refine And.intro ?_ (bi (fun hb=>?_) (fun hb=>?_))
  ·(subst hO hr hF;(try simp only[nc]at*);(try simp only[ai,SS,sa,az]at*))
   exact⟨ha0,ha1,ha2,ha4,ha5,ha6,ha7,ha8,ha9,ha10,ha11,ha13,ha21,by omega,by omega⟩
  ·cbv
   exact LX
  ·exfalso
   (subst hO hr hF;(try simp only[nc]at*);(try simp only[ai,SS,sa,az]at*))
   omega
 case pos=>
 have hsz:=C7 hs;have hN:Iz a0 a1 a2 a4 a5 a6 a7 a8 a9 aA aB aD aL:=Hb ha0 ha1 ha2 ha4 ha5 ha6 ha7 ha8 ha9 ha10 ha11 ha13 ha21 ⟨bu hs (by simp),bu hs (by simp),bu hs (by simp),bu hs (by simp),bu hs (by simp),bu hs (by simp),bu hs (by simp),bu hs (by simp),bu hs (by simp),bu hs (by simp),bu hs (by simp),bu hs (by simp),bu hs (by simp)⟩;refine cb FnExactHeapOkC.B Tryz.func4 ?_
 intro O r F hO hr hF;cbv
 repeat' first|apply And.intro|(apply bi<;>intro hb<;>cbv)
 all_goals(subst hO hr hF;(try simp only[nc]at*);(try simp only[ai,SS,sa,az]at*);(try simp only[zN]at*))
 all_goals first|exact True.intro|(show bz _ _=true;kernel_rfl)|exact⟨True.intro,True.intro⟩|exact⟨ha0,ha1,ha2,ha4,ha5,ha6,ha7,ha8,ha9,ha10,ha11,ha13,ha21,by omega,by omega⟩|exact⟨ha0,ha1,ha2,ha4,ha5,ha6,ha7,ha8,ha9,ha10,ha11,ha13,ha21,hs⟩|exact⟨ha0,ha1,ha2,ha4,ha5,ha6,ha7,ha8,ha9,ha10,ha11,ha13,ha21⟩|exact⟨trivial,ha0,ha1,ha2,ha4,ha5,ha6,ha7,ha8,ha9,ha10,ha11,ha13,ha21,by omega⟩|exact⟨rfl,ha0,ha1,ha2,ha4,ha5,ha6,ha7,ha8,ha9,ha10,ha11,ha13,ha21,by omega⟩|exact hN|exact rfl|exact absurd rfl (by assumption)|(exfalso;omega)|trivial|trace_state
theorem oW (recs:aa)(h:qO [(true,[.sl [.sl [tI]],.sl [tB],.sl [tI,tI],tI,.sl [tI],.sl [tI,tI],.sl [tI,tI,tI],.sl [tI,tI,tI],.sl [tI,tI,tI,tI],.sl [.sl [.sl [tI]]],.sl [.sl [tI,tI]],.sl [.sl [tI]],tI,.sl [tI,tI,tI],tI,tI,tI,tI,tB,tI,tI,.sl [tI],tI,tI])] recs):ao 4 (pJ [(true,[.sl [.sl [tI]],.sl [tB],.sl [tI,tI],tI,.sl [tI],.sl [tI,tI],.sl [tI,tI,tI],.sl [tI,tI,tI],.sl [tI,tI,tI,tI],.sl [.sl [.sl [tI]]],.sl [.sl [tI,tI]],.sl [.sl [tI]],tI,.sl [tI,tI,tI],tI,tI,tI,tI,tB,tI,tI,.sl [tI],tI,tI])] recs) [.k true]:=by
 match recs,h with
 | [[.s _ a0,.s _ a1,.s _ a2,.v (.int _ a3),.s _ a4,.s _ a5,.s _ a6,.s _ a7,.s _ a8,.s _ a9,.s _ aA,.s _ aB,.v (.int _ aC),.s _ aD,.v (.int _ aE),.v (.int _ aF),.v (.int _ aG),.v (.int _ aH),.v (.bool aI),.v (.int _ aJ),.v (.int _ aK),.s _ aL,.v (.int _ aM),.v (.int _ aN)]],h=>
   simp only[qO,b9,cd]at h;obtain⟨⟨⟨rfl,ha0,ka0⟩,⟨rfl,ha1,ka1⟩,⟨rfl,ha2,ka2⟩,⟨rfl,ha3⟩,⟨rfl,ha4,ka4⟩,⟨rfl,ha5,ka5⟩,⟨rfl,ha6,ka6⟩,⟨rfl,ha7,ka7⟩,⟨rfl,ha8,ka8⟩,⟨rfl,ha9,ka9⟩,⟨rfl,ha10,ka10⟩,⟨rfl,ha11,ka11⟩,⟨rfl,ha12⟩,⟨rfl,ha13,ka13⟩,⟨rfl,ha14⟩,⟨rfl,ha15⟩,⟨rfl,ha16⟩,⟨rfl,ha17⟩,_,⟨rfl,ha19⟩,⟨rfl,ha20⟩,⟨rfl,ha21,ka21⟩,⟨rfl,ha22⟩,⟨rfl,ha23⟩,_⟩,_⟩:=h;exact iQ a0 a1 a2 a3 a4 a5 a6 a7 a8 a9 aA aB aC aD aE aF aG aH aI aJ aK aL aM aN ⟨⟨ha0,ka0⟩,⟨ha1,ka1⟩,⟨ha2,ka2⟩,⟨ha4,ka4⟩,⟨ha5,ka5⟩,⟨ha6,ka6⟩,⟨ha7,ka7⟩,⟨ha8,ka8⟩,⟨ha9,ka9⟩,⟨ha10,ka10⟩,⟨ha11,ka11⟩,⟨ha13,ka13⟩,⟨ha21,ka21⟩⟩
end Go.V