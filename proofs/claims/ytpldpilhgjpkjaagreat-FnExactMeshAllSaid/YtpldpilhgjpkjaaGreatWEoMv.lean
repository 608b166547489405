/- Contracts. -/
import Derived.Test.YtpldpilhgjpkjaaGreatWLawHDv
import Derived.Test.YtpldpilhgjpkjaaGreatWM8
set_option linter.all false
open Go
open And renaming intro->Zb
open True renaming intro->Zd
namespace Go.V
open Go Go.Proofs
set_option maxRecDepth 1000000
set_option maxHeartbeats 8000000
abbrev qn:cT:={
 Φ:=sF
 F0:=F0
 ct:=fun F f=>match f with|23=>nX F|25=>oe F|26=>nS F|28=>kB F|24=>fk F|21=>fk F|_=>fun _=>none
 hc:=(by
  intro f;dsimp only;split;exact Cz;exact CG;exact Cr;exact x9;exact AC;exact zS;exact cX)
 mt:=fun F f=>match f with|27=>some (kG F)|_=>none
 hm:=(by
  intro f mk h;dsimp only at h;split at h<;>cases h
  exact ye)}
set_option maxHeartbeats 40000000
attribute [local irreducible] HV.ma HV.ma1 hpI
def qM (a0 a1 a2:ab)(a3:Int)(a4 a5 a6 a7 a8 a9 aA aB:ab)(aC:Int)(aD:ab)(aE aF aG aH:Int)(aI:Bool)(aJ aK:Int)(aL:ab)(aM aN a24:Int)(hp:Rw [.sl [tI]] a0/\Rw [tB] a1/\Rw [tI,tI] a2/\(-9223372036854775808<=a3/\a3<=9223372036854775807)/\Rw [tI] a4/\Rw [tI,tI] a5/\Rw [tI,tI,tI] a6/\Rw [tI,tI,tI] a7/\Rw [tI,tI,tI,tI] a8/\Rw [.sl [.sl [tI]]] a9/\Rw [.sl [tI,tI]] aA/\Rw [.sl [tI]] aB/\(-9223372036854775808<=aC/\aC<=9223372036854775807)/\Rw [tI,tI,tI] aD/\(-9223372036854775808<=aE/\aE<=9223372036854775807)/\(-9223372036854775808<=aF/\aF<=9223372036854775807)/\(-9223372036854775808<=aG/\aG<=9223372036854775807)/\(-9223372036854775808<=aH/\aH<=9223372036854775807)/\(-9223372036854775808<=aJ/\aJ<=9223372036854775807)/\(-9223372036854775808<=aK/\aK<=9223372036854775807)/\Rw [tI] aL/\(-9223372036854775808<=aM/\aM<=9223372036854775807)/\(-9223372036854775808<=aN/\aN<=9223372036854775807)/\(-9223372036854775808<=a24/\a24<=9223372036854775807)):O9 7 [.agg (hpL a0 a1 a2 a3 a4 a5 a6 a7 a8 a9 aA aB aC aD aE aF aG aH aI aJ aK aL aM aN),.j a24] [.k true]:=by
 obtain⟨ha0,ha1,ha2,ha3,ha4,ha5,ha6,ha7,ha8,ha9,ha10,ha11,ha12,ha13,ha14,ha15,ha16,ha17,ha19,ha20,ha21,ha22,ha23,ha24⟩:=hp;by_cases hs:aP [a0,a1,a2,a4,a5,a6,a7,a8,a9,aA,aB,aD,aL]<=1048576
 case neg=>
  have hsz:dF [a0,a1,a2,a4,a5,a6,a7,a8,a9,aA,aB,aD,aL] 1048576<0:=qh.2 Uc;refine cb qn Tryz.func7 ?_
  intro O r F hO hr hF;cbv
  refine Zb ?_ (bC (fun hb=>?_) (fun hb=>?_))
  ·(subst hO hr hF;(try simp only[nc]at*);(try simp only[ah,SS,sa,az]at*))
   exact⟨ha0,ha1,ha2,ha4,ha5,ha6,ha7,ha8,ha9,ha10,ha11,ha13,ha21,Uc,Uc⟩
  ·cbv
   repeat' first|apply Zb|(apply bC<;>intro hb<;>cbv)
   all_goals(subst hO hr hF;(try simp only[nc]at*);(try simp only[ah,SS,sa,az]at*))
   all_goals first|trivial|exact rfl
  ·exfalso
   (subst hO hr hF;(try simp only[nc]at*);(try simp only[ah,SS,sa,az]at*))
   omega
 case pos=>
 have hsz:=aco hs;have hC:=aaD ha0 ha1 ha2 ha4 ha5 ha6 ha7 ha8 ha9 ha10 ha11 ha13 ha21 hs;have hX:=(lI.ma (h:=(HV.mk a0 a1 a2 a3 a4 a5 a6 a7 a8 a9 aA aB aC aD aE aF aG aH aI aJ aK aL aM aN)) (m:=a24) ⟨hC⟩).c;refine Ml qn BS mixed 101 [false,false,false,true,true,true,true,true,true,false,true,true,false,true,false,true,true,true,true,true,false,true,true,true,false] _ [4] [.tmp 4] Tryz.func7 rfl rfl rfl rfl rfl ?_;intro O r F hO hr hF;cbv
 repeat' first|apply Zb|(apply bC<;>intro hb<;>cbv)|(refine⟨[0,1,2,3,4,5,6,7,8,9,10,11,12,13,14,15],[0,1,2,3,4,5,6,7,8,9,10,11,12,13,14,15],?_,?_⟩;(focus (cbv;done));cbv)
 all_goals(subst hO hr hF;(try simp only[nc]at*);(try simp only[ah,SS,sa,az]at*);(try simp only[Rc]at*))
 all_goals first|exact Zd|(show ay _ _=true;kernel_rfl)|exact⟨Zd,Zd⟩|exact⟨ha0,ha1,ha2,ha4,ha5,ha6,ha7,ha8,ha9,ha10,ha11,ha13,ha21,Uc,Uc⟩|exact⟨ha0,ha1,ha2,ha4,ha5,ha6,ha7,ha8,ha9,ha10,ha11,ha13,ha21,hs⟩|exact⟨ha0,ha1,ha2,ha4,ha5,ha6,ha7,ha8,ha9,ha10,ha11,ha13,ha21⟩|exact⟨trivial,ha0,ha1,ha2,ha4,ha5,ha6,ha7,ha8,ha9,ha10,ha11,ha13,ha21,Uc⟩|exact⟨rfl,ha0,ha1,ha2,ha4,ha5,ha6,ha7,ha8,ha9,ha10,ha11,ha13,ha21,Uc⟩|exact⟨⟨hC⟩,ha24⟩|exact cF|exact absurd hb (E3 Uc)|exact absurd rfl hb|skip
 all_goals(have hR0:=hX.r0;have hR1:=hX.r1;have hR2:=hX.r2;have hR3:=hX.r4;have hR4:=hX.r5;have hR5:=hX.r6;have hR6:=hX.r7;have hR7:=hX.r8;have hR8:=hX.r9;have hR9:=hX.r10;have hR10:=hX.r11;have hR11:=hX.r13;have hR12:=hX.r21;have hRc:=aaj hX;have hsc:=Mj hs;have hAk:=S7 ha0 ha1 ha2 ha4 ha5 ha6 ha7 ha8 ha9 ha10 ha11 ha13 ha21 Uc;obtain⟨hRk,⟨hE1,hE2,hE3,hE4,hE5,hE6,hE7,hE8,hE9,hE10,hE11,hE12,-⟩,hM,hRm⟩:=ahU hR0 hR1 hR2 hR3 hR4 hR5 hR6 hR7 hR8 hR9 hR10 hR11 hR12 hRc)
 all_goals first|exact⟨ha0,ha1,ha2,ha4,ha5,ha6,ha7,ha8,ha9,ha10,ha11,ha13,ha21,Uc,Uc,hAk⟩|exact⟨trivial,hR0,hR1,hR2,hR3,hR4,hR5,hR6,hR7,hR8,hR9,hR10,hR11,hR12,hRc⟩|exact⟨rfl,hR0,hR1,hR2,hR3,hR4,hR5,hR6,hR7,hR8,hR9,hR10,hR11,hR12,hRc⟩|exact⟨hR0,hR1,hR2,hR3,hR4,hR5,hR6,hR7,hR8,hR9,hR10,hR11,hR12,hRc,Uc,hRk⟩|exact⟨⟨_,rfl,hR0,hRm.1⟩,⟨_,hE1,hR1,hRm.2.1⟩,⟨_,hE2,hR2,hRm.2.2.1⟩,⟨_,hE3,hR3,hRm.2.2.2.1⟩,⟨_,hE4,hR4,hRm.2.2.2.2.1⟩,⟨_,hE5,hR5,hRm.2.2.2.2.2.1⟩,⟨_,hE6,hR6,hRm.2.2.2.2.2.2.1⟩,⟨_,hE7,hR7,hRm.2.2.2.2.2.2.2.1⟩,⟨_,hE8,hR8,hRm.2.2.2.2.2.2.2.2.1⟩,⟨_,hE9,hR9,hRm.2.2.2.2.2.2.2.2.2.1⟩,⟨_,hE10,hR10,hRm.2.2.2.2.2.2.2.2.2.2.1⟩,⟨_,hE11,hR11,hRm.2.2.2.2.2.2.2.2.2.2.2.1⟩,⟨_,hE12,hR12,hRm.2.2.2.2.2.2.2.2.2.2.2.2⟩,Uc,le_of_eq_of_le hM hRk⟩|exact absurd hM hb|exact absurd hb (by rw[hM];exact E3 Uc)|exact rfl|exact absurd Ud (E3 Uc)|exact absurd hM Ud|exact absurd Ud (by rw[hM];exact E3 Uc)|exact absurd rfl Ud|(exfalso;omega)|trivial|trace_state
def ww (recs:ab)(h:Gt [(true,[.sl [.sl [tI]],.sl [tB],.sl [tI,tI],tI,.sl [tI],.sl [tI,tI],.sl [tI,tI,tI],.sl [tI,tI,tI],.sl [tI,tI,tI,tI],.sl [.sl [.sl [tI]]],.sl [.sl [tI,tI]],.sl [.sl [tI]],tI,.sl [tI,tI,tI],tI,tI,tI,tI,tB,tI,tI,.sl [tI],tI,tI]),(false,[tI])] recs):O9 7 (Er [(true,[.sl [.sl [tI]],.sl [tB],.sl [tI,tI],tI,.sl [tI],.sl [tI,tI],.sl [tI,tI,tI],.sl [tI,tI,tI],.sl [tI,tI,tI,tI],.sl [.sl [.sl [tI]]],.sl [.sl [tI,tI]],.sl [.sl [tI]],tI,.sl [tI,tI,tI],tI,tI,tI,tI,tB,tI,tI,.sl [tI],tI,tI]),(false,[tI])] recs) [.k true]:=by
 match recs,h with
 | [[.s _ a0,.s _ a1,.s _ a2,.v (.int _ a3),.s _ a4,.s _ a5,.s _ a6,.s _ a7,.s _ a8,.s _ a9,.s _ aA,.s _ aB,.v (.int _ aC),.s _ aD,.v (.int _ aE),.v (.int _ aF),.v (.int _ aG),.v (.int _ aH),.v (.bool aI),.v (.int _ aJ),.v (.int _ aK),.s _ aL,.v (.int _ aM),.v (.int _ aN)],[.v (.int _ a24)]],h=>
   simp only[Gt,bW,dn]at h;obtain⟨⟨⟨rfl,ha0,ka0⟩,⟨rfl,ha1,ka1⟩,⟨rfl,ha2,ka2⟩,⟨rfl,ha3⟩,⟨rfl,ha4,ka4⟩,⟨rfl,ha5,ka5⟩,⟨rfl,ha6,ka6⟩,⟨rfl,ha7,ka7⟩,⟨rfl,ha8,ka8⟩,⟨rfl,ha9,ka9⟩,⟨rfl,ha10,ka10⟩,⟨rfl,ha11,ka11⟩,⟨rfl,ha12⟩,⟨rfl,ha13,ka13⟩,⟨rfl,ha14⟩,⟨rfl,ha15⟩,⟨rfl,ha16⟩,⟨rfl,ha17⟩,_,⟨rfl,ha19⟩,⟨rfl,ha20⟩,⟨rfl,ha21,ka21⟩,⟨rfl,ha22⟩,⟨rfl,ha23⟩,_⟩,⟨⟨rfl,ha24⟩,_⟩,_⟩:=h;exact qM a0 a1 a2 a3 a4 a5 a6 a7 a8 a9 aA aB aC aD aE aF aG aH aI aJ aK aL aM aN a24 ⟨⟨ha0,ka0⟩,⟨ha1,ka1⟩,⟨ha2,ka2⟩,yP ha3,⟨ha4,ka4⟩,⟨ha5,ka5⟩,⟨ha6,ka6⟩,⟨ha7,ka7⟩,⟨ha8,ka8⟩,⟨ha9,ka9⟩,⟨ha10,ka10⟩,⟨ha11,ka11⟩,yP ha12,⟨ha13,ka13⟩,yP ha14,yP ha15,yP ha16,yP ha17,yP ha19,yP ha20,⟨ha21,ka21⟩,yP ha22,yP ha23,yP ha24⟩
end Go.V