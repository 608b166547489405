/- Contracts. -/
import Derived.Test.YticfhgfgobafbaaGreatLawHDm
import Derived.Test.YticfhgfgobafbaaGreatLayLm
set_option linter.all false
namespace Go.V
open Go Go.Proofs
set_option maxRecDepth 1000000
set_option maxHeartbeats 8000000
namespace FnExactLeaksC
structure aO where
 szN:List aa->Int->Int
 kN:List aa->Int->Int
 mkN:aa->Int->aa
 lksL:aa->aa->aa->aa->aa->aa->aa->aa
abbrev F0 :aO:=⟨bA,aX,bV,lksL⟩
def ct (F:aO):CT:=fun f ds=>match f with
 | 5=>match ds with
   |[.agg [.s 1 a0,.s 1 a1,.s 2 a2,.v (.int .i64 a3),.s 1 a4,.s 2 a5,.s 3 a6,.s 3 a7,.s 4 a8,.s 1 a9,.s 1 aA,.s 1 aB,.v (.int .i64 aC),.s 3 aD,.v (.int .i64 aE),.v (.int .i64 aF),.v (.int .i64 aG),.v (.int .i64 aH),.v (.bool aI),.v (.int .i64 aJ),.v (.int .i64 aK),.s 1 aL,.v (.int .i64 aM),.v (.int .i64 aN)],.one (.v (.int .i64 left))]=>some (fun _=>Rw [.sl [tI]] a0/\Rw [tB] a1/\Rw [tI,tI] a2/\Rw [tI] a4/\Rw [tI,tI] a5/\Rw [tI,tI,tI] a6/\Rw [tI,tI,tI] a7/\Rw [tI,tI,tI,tI] a8/\Rw [.sl [.sl [tI]]] a9/\Rw [.sl [tI,tI]] aA/\Rw [.sl [tI]] aB/\Rw [tI,tI,tI] aD/\Rw [tI] aL/\0<=left/\left<=1048576,[.j (F.szN [a0,a1,a2,a4,a5,a6,a7,a8,a9,aA,aB,aD,aL] left)])
   |_=>none
 | 7=>match ds with
   |[.agg [.s 1 a0,.s 1 a1,.s 2 a2,.v (.int .i64 a3),.s 1 a4,.s 2 a5,.s 3 a6,.s 3 a7,.s 4 a8,.s 1 a9,.s 1 aA,.s 1 aB,.v (.int .i64 aC),.s 3 aD,.v (.int .i64 aE),.v (.int .i64 aF),.v (.int .i64 aG),.v (.int .i64 aH),.v (.bool aI),.v (.int .i64 aJ),.v (.int .i64 aK),.s 1 aL,.v (.int .i64 aM),.v (.int .i64 aN)]]=>some (fun _=>Rw [.sl [tI]] a0/\Rw [tB] a1/\Rw [tI,tI] a2/\Rw [tI] a4/\Rw [tI,tI] a5/\Rw [tI,tI,tI] a6/\Rw [tI,tI,tI] a7/\Rw [tI,tI,tI,tI] a8/\Rw [.sl [.sl [tI]]] a9/\Rw [.sl [tI,tI]] aA/\Rw [.sl [tI]] aB/\Rw [tI,tI,tI] aD/\Rw [tI] aL/\am [a0,a1,a2,a4,a5,a6,a7,a8,a9,aA,aB,aD,aL]<=1048576,[.agg (kH a0 a1 a2 a3 a4 a5 a6 a7 a8 a9 aA aB aC aD aE aF aG aH aI aJ aK aL aM aN)])
   |_=>none
 | 9=>match ds with
   |[.one (.s 1 es),d]=>some (fun _=>d=.one (.s 1 es)/\Rw [tI] es/\ak es<=1099511627776,[.k true])
   |_=>none
 | 10=>match ds with
   |[.agg [.s 1 a0,.s 1 a1,.s 2 a2,.v (.int .i64 a3),.s 1 a4,.s 2 a5,.s 3 a6,.s 3 a7,.s 4 a8,.s 1 a9,.s 1 aA,.s 1 aB,.v (.int .i64 aC),.s 3 aD,.v (.int .i64 aE),.v (.int .i64 aF),.v (.int .i64 aG),.v (.int .i64 aH),.v (.bool aI),.v (.int .i64 aJ),.v (.int .i64 aK),.s 1 aL,.v (.int .i64 aM),.v (.int .i64 aN)],d]=>some (fun _=>d=.agg (kH a0 a1 a2 a3 a4 a5 a6 a7 a8 a9 aA aB aC aD aE aF aG aH aI aJ aK aL aM aN)/\Rw [.sl [tI]] a0/\Rw [tB] a1/\Rw [tI,tI] a2/\Rw [tI] a4/\Rw [tI,tI] a5/\Rw [tI,tI,tI] a6/\Rw [tI,tI,tI] a7/\Rw [tI,tI,tI,tI] a8/\Rw [.sl [.sl [tI]]] a9/\Rw [.sl [tI,tI]] aA/\Rw [.sl [tI]] aB/\Rw [tI,tI,tI] aD/\Rw [tI] aL/\am [a0,a1,a2,a4,a5,a6,a7,a8,a9,aA,aB,aD,aL]<=1099511627776,[.k true])
   |_=>none
 | 13=>match ds with
   |[.one (.s 1 ms),.one (.v (.int .i64 k))]=>some (fun _=>∃ es,ms=bV es k/\Rw [tI] es/\ak es<=1099511627776/\0<=k/\aX [ms] k<=1152921504606846976,[.j (F.kN [ms] k)])
   |_=>none
 | 6=>match ds with
   |[.agg [.s 1 a0,.s 1 a1,.s 2 a2,.v (.int .i64 a3),.s 1 a4,.s 2 a5,.s 3 a6,.s 3 a7,.s 4 a8,.s 1 a9,.s 1 aA,.s 1 aB,.v (.int .i64 aC),.s 3 aD,.v (.int .i64 aE),.v (.int .i64 aF),.v (.int .i64 aG),.v (.int .i64 aH),.v (.bool aI),.v (.int .i64 aJ),.v (.int .i64 aK),.s 1 aL,.v (.int .i64 aM),.v (.int .i64 aN)]]=>some (fun _=>jX a6 a7 a8 a9 aA aB aD,[.one (.s 1 (F.lksL a6 a7 a8 a9 aA aB aD))])
   |_=>none
 | 8=>match ds with
   |[.agg [.s 1 a0,.s 1 a1,.s 2 a2,.v (.int .i64 a3),.s 1 a4,.s 2 a5,.s 3 a6,.s 3 a7,.s 4 a8,.s 1 a9,.s 1 aA,.s 1 aB,.v (.int .i64 aC),.s 3 aD,.v (.int .i64 aE),.v (.int .i64 aF),.v (.int .i64 aG),.v (.int .i64 aH),.v (.bool aI),.v (.int .i64 aJ),.v (.int .i64 aK),.s 1 aL,.v (.int .i64 aM),.v (.int .i64 aN)]]=>some (fun _=>jX a6 a7 a8 a9 aA aB aD,[.one (.s 1 (F.lksL a6 a7 a8 a9 aA aB aD))])
   |_=>none
 |_=>none
theorem aj :aR (ct F0):=by
 intro f ds pre res h hp;unfold ct at h;split at h<;>(try split at h)<;>cases h
 exact j5 hp;exact j6 hp;exact eE hp;exact j4 hp;exact dR hp;exact ul hp;exact uc hp
def mt (F:aO):MT:=fun f=>match f with
 | 11=>some fun ds=>match ds with
   |[.agg [.s 1 a0,.s 1 a1,.s 2 a2,.v (.int .i64 a3),.s 1 a4,.s 2 a5,.s 3 a6,.s 3 a7,.s 4 a8,.s 1 a9,.s 1 aA,.s 1 aB,.v (.int .i64 aC),.s 3 aD,.v (.int .i64 aE),.v (.int .i64 aF),.v (.int .i64 aG),.v (.int .i64 aH),.v (.bool aI),.v (.int .i64 aJ),.v (.int .i64 aK),.s 1 aL,.v (.int .i64 aM),.v (.int .i64 aN)],.one (.v (.int .i64 k))]=>some (fun _=>Rw [.sl [tI]] a0/\Rw [tB] a1/\Rw [tI,tI] a2/\Rw [tI] a4/\Rw [tI,tI] a5/\Rw [tI,tI,tI] a6/\Rw [tI,tI,tI] a7/\Rw [tI,tI,tI,tI] a8/\Rw [.sl [.sl [tI]]] a9/\Rw [.sl [tI,tI]] aA/\Rw [.sl [tI]] aB/\Rw [tI,tI,tI] aD/\Rw [tI] aL/\am [a0,a1,a2,a4,a5,a6,a7,a8,a9,aA,aB,aD,aL]<=1099511627776/\0<=k/\aX [a0,a1,a2,a4,a5,a6,a7,a8,a9,aA,aB,aD,aL] k<=1152921504606846976,[.s 1 (F.mkN a0 k),.s 1 (F.mkN a1 (F.kN [a0] k)),.s 2 (F.mkN a2 (F.kN [a0,a1] k)),.s 1 (F.mkN a4 (F.kN [a0,a1,a2] k)),.s 2 (F.mkN a5 (F.kN [a0,a1,a2,a4] k)),.s 3 (F.mkN a6 (F.kN [a0,a1,a2,a4,a5] k)),.s 3 (F.mkN a7 (F.kN [a0,a1,a2,a4,a5,a6] k)),.s 4 (F.mkN a8 (F.kN [a0,a1,a2,a4,a5,a6,a7] k)),.s 1 (F.mkN a9 (F.kN [a0,a1,a2,a4,a5,a6,a7,a8] k)),.s 1 (F.mkN aA (F.kN [a0,a1,a2,a4,a5,a6,a7,a8,a9] k)),.s 1 (F.mkN aB (F.kN [a0,a1,a2,a4,a5,a6,a7,a8,a9,aA] k)),.s 3 (F.mkN aD (F.kN [a0,a1,a2,a4,a5,a6,a7,a8,a9,aA,aB] k)),.s 1 (F.mkN aL (F.kN [a0,a1,a2,a4,a5,a6,a7,a8,a9,aA,aB,aD] k))],[.j (F.kN [a0,a1,a2,a4,a5,a6,a7,a8,a9,aA,aB,aD,aL] k)])
   |_=>none
 | 12=>some fun ds=>match ds with
   |[.one (.s 1 es),.one (.v (.int .i64 k))]=>some (fun _=>Rw [tI] es/\ak es<=1099511627776/\0<=k/\aX [es] k<=1152921504606846976,[.s 1 (F.mkN es k)],[.j (F.kN [es] k)])
   |_=>none
 |_=>none
theorem db :fK (mt F0):=by
 intro f mk h ds pre outs res hm hp;unfold mt at h;split at h
 ·cases h;dsimp only at hm;split at hm
  ·cases hm;exact oe hp
  ·cases hm
 ·cases h;dsimp only at hm;split at hm
  ·cases hm;exact dS hp
  ·cases hm
 ·cases h
abbrev B :cD:={Φ:=aO,F0:=F0,ct:=ct,hc:=aj,mt:=mt,hm:=db}
end FnExactLeaksC
theorem jV (a0 a1 a2:aa)(a3:Int)(a4 a5 a6 a7 a8 a9 aA aB:aa)(aC:Int)(aD:aa)(aE aF aG aH:Int)(aI:Bool)(aJ aK:Int)(aL:aa)(aM aN:Int)(hp:Rw [.sl [tI]] a0/\Rw [tB] a1/\Rw [tI,tI] a2/\(-9223372036854775808<=a3/\a3<=9223372036854775807)/\Rw [tI] a4/\Rw [tI,tI] a5/\Rw [tI,tI,tI] a6/\Rw [tI,tI,tI] a7/\Rw [tI,tI,tI,tI] a8/\Rw [.sl [.sl [tI]]] a9/\Rw [.sl [tI,tI]] aA/\Rw [.sl [tI]] aB/\(-9223372036854775808<=aC/\aC<=9223372036854775807)/\Rw [tI,tI,tI] aD/\(-9223372036854775808<=aE/\aE<=9223372036854775807)/\(-9223372036854775808<=aF/\aF<=9223372036854775807)/\(-9223372036854775808<=aG/\aG<=9223372036854775807)/\(-9223372036854775808<=aH/\aH<=9223372036854775807)/\(-9223372036854775808<=aJ/\aJ<=9223372036854775807)/\(-9223372036854775808<=aK/\aK<=9223372036854775807)/\Rw [tI] aL/\(-9223372036854775808<=aM/\aM<=9223372036854775807)/\(-9223372036854775808<=aN/\aN<=9223372036854775807)):ao 3 [.agg (kH a0 a1 a2 a3 a4 a5 a6 a7 a8 a9 aA aB aC aD aE aF aG aH aI aJ aK aL aM aN)] [.k true]:=by
 obtain⟨ha0,ha1,ha2,ha3,ha4,ha5,ha6,ha7,ha8,ha9,ha10,ha11,ha12,ha13,ha14,ha15,ha16,ha17,ha19,ha20,ha21,ha22,ha23⟩:=hp;by_cases hs:am [a0,a1,a2,a4,a5,a6,a7,a8,a9,aA,aB,aD,aL]<=1048576
 case neg=>
  have hsz:bA [a0,a1,a2,a4,a5,a6,a7,a8,a9,aA,aB,aD,aL] 1048576<0:=fX.2 (by omega);refine cb FnExactLeaksC.B Tryz.func3 ?_
  intro O r F hO hr hF;cbv
  refine And.intro ?_ (bi (fun hb=>?_) (fun hb=>?_))
  ·(subst hO hr hF;(try simp only[nc]at*);(try simp only[ai,SS,sa,az]at*))
   exact⟨ha0,ha1,ha2,ha4,ha5,ha6,ha7,ha8,ha9,ha10,ha11,ha13,ha21,by omega,by omega⟩
  ·cbv
   exact LX
  ·exfalso
   (subst hO hr hF;(try simp only[nc]at*);(try simp only[ai,SS,sa,az]at*))
   omega
 case pos=>
 have hsz:=C7 hs;obtain⟨hR0,hRl⟩:=HD (sp:=a6) (lg:=a7) (os:=a8) (cs:=a9) (b:=aA) (x:=aB) (qs:=aD);have hRc:am [lksL a6 a7 a8 a9 aA aB aD]<=1099511627776:=by rw[Mi,hR0.cnt rfl];omega
 have hN:jX a6 a7 a8 a9 aA aB aD:=Ci ha6 ha7 ha8 ha9 ha10 ha11 ha13 (bu hs (by simp)) (bu hs (by simp)) (bu hs (by simp)) (bu hs (by simp)) (bu hs (by simp)) (bu hs (by simp)) (bu hs (by simp));have hsc:ak a0<=1048576/\ak a1<=1048576/\ak a2<=1048576/\ak a4<=1048576/\ak a5<=1048576/\ak a6<=1048576/\ak a7<=1048576/\ak a8<=1048576/\ak a9<=1048576/\ak aA<=1048576/\ak aB<=1048576/\ak aD<=1048576/\ak aL<=1048576:=⟨bu hs (by simp),bu hs (by simp),bu hs (by simp),bu hs (by simp),bu hs (by simp),bu hs (by simp),bu hs (by simp),bu hs (by simp),bu hs (by simp),bu hs (by simp),bu hs (by simp),bu hs (by simp),bu hs (by simp)⟩;have hRk:aX [lksL a6 a7 a8 a9 aA aB aD] 1<=1152921504606846976:=wt (by intro r hr;simp only[List.mem_cons,List.not_mem_nil,or_false]at hr;subst hr;exact hR0.marks (by decide)) hRc;have hAk:aX [a0,a1,a2,a4,a5,a6,a7,a8,a9,aA,aB,aD,aL] 1<=1152921504606846976:=wt (by intro r hr;simp only[List.mem_cons,List.not_mem_nil,or_false]at hr;rcases hr with rfl|rfl|rfl|rfl|rfl|rfl|rfl|rfl|rfl|rfl|rfl|rfl|rfl;exact ha0.marks (by decide);exact ha1.marks (by decide);exact ha2.marks (by decide);exact ha4.marks (by decide);exact ha5.marks (by decide);exact ha6.marks (by decide);exact ha7.marks (by decide);exact ha8.marks (by decide);exact ha9.marks (by decide);exact ha10.marks (by decide);exact ha11.marks (by decide);exact ha13.marks (by decide);exact ha21.marks (by decide)) (by omega);have hM:aX [bV (lksL a6 a7 a8 a9 aA aB aD) 1] 1=aX [lksL a6 a7 a8 a9 aA aB aD] 1:=wn (rs:=[lksL a6 a7 a8 a9 aA aB aD]) (k:=1) (k':=1);have hRm:ak (lksL a6 a7 a8 a9 aA aB aD)<=1099511627776:=bu hRc (by simp);refine cb FnExactLeaksC.B Tryz.func3 ?_
 intro O r F hO hr hF;cbv
 repeat' first|apply And.intro|(apply bi<;>intro hb<;>cbv)
 all_goals(subst hO hr hF;(try simp only[nc]at*);(try simp only[ai,SS,sa,az]at*);(try simp only[zN]at*))
 all_goals first|exact True.intro|(show bz _ _=true;kernel_rfl)|exact⟨True.intro,True.intro⟩|exact⟨ha0,ha1,ha2,ha4,ha5,ha6,ha7,ha8,ha9,ha10,ha11,ha13,ha21,by omega,by omega⟩|exact⟨ha0,ha1,ha2,ha4,ha5,ha6,ha7,ha8,ha9,ha10,ha11,ha13,ha21,hs⟩|exact⟨ha0,ha1,ha2,ha4,ha5,ha6,ha7,ha8,ha9,ha10,ha11,ha13,ha21⟩|exact⟨trivial,ha0,ha1,ha2,ha4,ha5,ha6,ha7,ha8,ha9,ha10,ha11,ha13,ha21,by omega⟩|exact⟨rfl,ha0,ha1,ha2,ha4,ha5,ha6,ha7,ha8,ha9,ha10,ha11,ha13,ha21,by omega⟩|exact⟨ha0,ha1,ha2,ha4,ha5,ha6,ha7,ha8,ha9,ha10,ha11,ha13,ha21,by omega,by omega,hAk⟩|exact⟨trivial,hR0,hRc⟩|exact⟨rfl,hR0,hRc⟩|exact⟨hR0,hRc,by omega,hRk⟩|exact⟨_,rfl,hR0,hRm,by omega,le_of_eq_of_le hM hRk⟩|exact eC|exact absurd (by assumption) (BH (by omega))|exact absurd hM (by assumption)|exact absurd (by assumption) (by rw[hM];exact BH (by omega))|exact hN|exact rfl|exact absurd rfl (by assumption)|(exfalso;omega)|trivial|trace_state
theorem rD (recs:aa)(h:qO [(true,[.sl [.sl [tI]],.sl [tB],.sl [tI,tI],tI,.sl [tI],.sl [tI,tI],.sl [tI,tI,tI],.sl [tI,tI,tI],.sl [tI,tI,tI,tI],.sl [.sl [.sl [tI]]],.sl [.sl [tI,tI]],.sl [.sl [tI]],tI,.sl [tI,tI,tI],tI,tI,tI,tI,tB,tI,tI,.sl [tI],tI,tI])] recs):ao 3 (pJ [(true,[.sl [.sl [tI]],.sl [tB],.sl [tI,tI],tI,.sl [tI],.sl [tI,tI],.sl [tI,tI,tI],.sl [tI,tI,tI],.sl [tI,tI,tI,tI],.sl [.sl [.sl [tI]]],.sl [.sl [tI,tI]],.sl [.sl [tI]],tI,.sl [tI,tI,tI],tI,tI,tI,tI,tB,tI,tI,.sl [tI],tI,tI])] recs) [.k true]:=by
 match recs,h with
 | [[.s _ a0,.s _ a1,.s _ a2,.v (.int _ a3),.s _ a4,.s _ a5,.s _ a6,.s _ a7,.s _ a8,.s _ a9,.s _ aA,.s _ aB,.v (.int _ aC),.s _ aD,.v (.int _ aE),.v (.int _ aF),.v (.int _ aG),.v (.int _ aH),.v (.bool aI),.v (.int _ aJ),.v (.int _ aK),.s _ aL,.v (.int _ aM),.v (.int _ aN)]],h=>
   simp only[qO,b9,cd]at h;obtain⟨⟨⟨rfl,ha0,ka0⟩,⟨rfl,ha1,ka1⟩,⟨rfl,ha2,ka2⟩,⟨rfl,ha3⟩,⟨rfl,ha4,ka4⟩,⟨rfl,ha5,ka5⟩,⟨rfl,ha6,ka6⟩,⟨rfl,ha7,ka7⟩,⟨rfl,ha8,ka8⟩,⟨rfl,ha9,ka9⟩,⟨rfl,ha10,ka10⟩,⟨rfl,ha11,ka11⟩,⟨rfl,ha12⟩,⟨rfl,ha13,ka13⟩,⟨rfl,ha14⟩,⟨rfl,ha15⟩,⟨rfl,ha16⟩,⟨rfl,ha17⟩,_,⟨rfl,ha19⟩,⟨rfl,ha20⟩,⟨rfl,ha21,ka21⟩,⟨rfl,ha22⟩,⟨rfl,ha23⟩,_⟩,_⟩:=h;exact jV a0 a1 a2 a3 a4 a5 a6 a7 a8 a9 aA aB aC aD aE aF aG aH aI aJ aK aL aM aN ⟨⟨ha0,ka0⟩,⟨ha1,ka1⟩,⟨ha2,ka2⟩,q8 ha3,⟨ha4,ka4⟩,⟨ha5,ka5⟩,⟨ha6,ka6⟩,⟨ha7,ka7⟩,⟨ha8,ka8⟩,⟨ha9,ka9⟩,⟨ha10,ka10⟩,⟨ha11,ka11⟩,q8 ha12,⟨ha13,ka13⟩,q8 ha14,q8 ha15,q8 ha16,q8 ha17,q8 ha19,q8 ha20,⟨ha21,ka21⟩,q8 ha22,q8 ha23⟩
end Go.V