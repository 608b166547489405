/- Contracts. -/
import Derived.Test.YtcodmgmliopheaaGreatW4
import Derived.Test.YtcodmgmliopheaaGreatLawHDt
import Derived.Test.YtcodmgmliopheaaGreatHoMt
set_option linter.all false
namespace Go.V
open Go Go.Proofs
set_option maxRecDepth 1000000
set_option maxHeartbeats 8000000
namespace FnExactHeapDeliverC
structure aQ where
 szN:List aa->Int->Int
 kN:List aa->Int->Int
 mkN:aa->Int->aa
 dvB:Bool->aa->aa->Int->aa
 hpI:aa->aa->aa->Int->aa->aa->aa->aa->aa->aa->aa->aa->Int->aa->Int->Int->Int->Int->Bool->Int->Int->aa->Int->Int->Bool
 dvI:Bool->aa->aa->Int->aa
 dvK:Bool->aa->aa->Int->Bool
abbrev F0 :aQ:=⟨bJ,am,ao,dvB,hpI,dvI,dvK⟩
def ct (F:aQ):CT:=fun f ds=>match f with
 | 11=>match ds with
   |[.agg [.s 1 a0,.s 1 a1,.s 2 a2,.v (.int .i64 a3),.s 1 a4,.s 2 a5,.s 3 a6,.s 3 a7,.s 4 a8,.s 1 a9,.s 1 aA,.s 1 aB,.v (.int .i64 aC),.s 3 aD,.v (.int .i64 aE),.v (.int .i64 aF),.v (.int .i64 aG),.v (.int .i64 aH),.v (.bool aI),.v (.int .i64 aJ),.v (.int .i64 aK),.s 1 aL,.v (.int .i64 aM),.v (.int .i64 aN)],.one (.v (.int .i64 left))]=>some (fun _=>Rw [.sl [tI]] a0/\Rw [tB] a1/\Rw [tI,tI] a2/\Rw [tI] a4/\Rw [tI,tI] a5/\Rw [tI,tI,tI] a6/\Rw [tI,tI,tI] a7/\Rw [tI,tI,tI,tI] a8/\Rw [.sl [.sl [tI]]] a9/\Rw [.sl [tI,tI]] aA/\Rw [.sl [tI]] aB/\Rw [tI,tI,tI] aD/\Rw [tI] aL/\0<=left/\left<=1048576,[.j (F.szN [a0,a1,a2,a4,a5,a6,a7,a8,a9,aA,aB,aD,aL] left)])
   |_=>none
 | 13=>match ds with
   |[.agg [.s 1 a0,.s 1 a1,.s 2 a2,.v (.int .i64 a3),.s 1 a4,.s 2 a5,.s 3 a6,.s 3 a7,.s 4 a8,.s 1 a9,.s 1 aA,.s 1 aB,.v (.int .i64 aC),.s 3 aD,.v (.int .i64 aE),.v (.int .i64 aF),.v (.int .i64 aG),.v (.int .i64 aH),.v (.bool aI),.v (.int .i64 aJ),.v (.int .i64 aK),.s 1 aL,.v (.int .i64 aM),.v (.int .i64 aN)]]=>some (fun _=>Rw [.sl [tI]] a0/\Rw [tB] a1/\Rw [tI,tI] a2/\Rw [tI] a4/\Rw [tI,tI] a5/\Rw [tI,tI,tI] a6/\Rw [tI,tI,tI] a7/\Rw [tI,tI,tI,tI] a8/\Rw [.sl [.sl [tI]]] a9/\Rw [.sl [tI,tI]] aA/\Rw [.sl [tI]] aB/\Rw [tI,tI,tI] aD/\Rw [tI] aL/\aw [a0,a1,a2,a4,a5,a6,a7,a8,a9,aA,aB,aD,aL]<=1048576,[.agg (fU a0 a1 a2 a3 a4 a5 a6 a7 a8 a9 aA aB aC aD aE aF aG aH aI aJ aK aL aM aN)])
   |_=>none
 | 15=>match ds with
   |[.agg [.s 1 a0,.s 1 a1,.s 2 a2,.v (.int .i64 a3),.s 1 a4,.s 2 a5,.s 3 a6,.s 3 a7,.s 4 a8,.s 1 a9,.s 1 aA,.s 1 aB,.v (.int .i64 aC),.s 3 aD,.v (.int .i64 aE),.v (.int .i64 aF),.v (.int .i64 aG),.v (.int .i64 aH),.v (.bool aI),.v (.int .i64 aJ),.v (.int .i64 aK),.s 1 aL,.v (.int .i64 aM),.v (.int .i64 aN)],d]=>some (fun _=>d=.agg (fU a0 a1 a2 a3 a4 a5 a6 a7 a8 a9 aA aB aC aD aE aF aG aH aI aJ aK aL aM aN)/\Rw [.sl [tI]] a0/\Rw [tB] a1/\Rw [tI,tI] a2/\Rw [tI] a4/\Rw [tI,tI] a5/\Rw [tI,tI,tI] a6/\Rw [tI,tI,tI] a7/\Rw [tI,tI,tI,tI] a8/\Rw [.sl [.sl [tI]]] a9/\Rw [.sl [tI,tI]] aA/\Rw [.sl [tI]] aB/\Rw [tI,tI,tI] aD/\Rw [tI] aL/\aw [a0,a1,a2,a4,a5,a6,a7,a8,a9,aA,aB,aD,aL]<=1099511627776,[.k true])
   |_=>none
 | 17=>match ds with
   |[.agg [.s 1 m0,.s 1 m1,.s 2 m2,.v (.int .i64 m3),.s 1 m4,.s 2 m5,.s 3 m6,.s 3 m7,.s 4 m8,.s 1 m9,.s 1 m10,.s 1 m11,.v (.int .i64 m12),.s 3 m13,.v (.int .i64 m14),.v (.int .i64 m15),.v (.int .i64 m16),.v (.int .i64 m17),.v (.bool m18),.v (.int .i64 m19),.v (.int .i64 m20),.s 1 m21,.v (.int .i64 m22),.v (.int .i64 m23)],.one (.v (.int .i64 k))]=>some (fun _=>(∃ a0,m0=ao a0 k/\Rw [.sl [tI]] a0/\ag a0<=1099511627776)/\(∃ a1,m1=ao a1 (am [m0] k)/\Rw [tB] a1/\ag a1<=1099511627776)/\(∃ a2,m2=ao a2 (am [m0,m1] k)/\Rw [tI,tI] a2/\ag a2<=1099511627776)/\(∃ a4,m4=ao a4 (am [m0,m1,m2] k)/\Rw [tI] a4/\ag a4<=1099511627776)/\(∃ a5,m5=ao a5 (am [m0,m1,m2,m4] k)/\Rw [tI,tI] a5/\ag a5<=1099511627776)/\(∃ a6,m6=ao a6 (am [m0,m1,m2,m4,m5] k)/\Rw [tI,tI,tI] a6/\ag a6<=1099511627776)/\(∃ a7,m7=ao a7 (am [m0,m1,m2,m4,m5,m6] k)/\Rw [tI,tI,tI] a7/\ag a7<=1099511627776)/\(∃ a8,m8=ao a8 (am [m0,m1,m2,m4,m5,m6,m7] k)/\Rw [tI,tI,tI,tI] a8/\ag a8<=1099511627776)/\(∃ a9,m9=ao a9 (am [m0,m1,m2,m4,m5,m6,m7,m8] k)/\Rw [.sl [.sl [tI]]] a9/\ag a9<=1099511627776)/\(∃ aA,m10=ao aA (am [m0,m1,m2,m4,m5,m6,m7,m8,m9] k)/\Rw [.sl [tI,tI]] aA/\ag aA<=1099511627776)/\(∃ aB,m11=ao aB (am [m0,m1,m2,m4,m5,m6,m7,m8,m9,m10] k)/\Rw [.sl [tI]] aB/\ag aB<=1099511627776)/\(∃ aD,m13=ao aD (am [m0,m1,m2,m4,m5,m6,m7,m8,m9,m10,m11] k)/\Rw [tI,tI,tI] aD/\ag aD<=1099511627776)/\(∃ aL,m21=ao aL (am [m0,m1,m2,m4,m5,m6,m7,m8,m9,m10,m11,m13] k)/\Rw [tI] aL/\ag aL<=1099511627776)/\0<=k/\am [m0,m1,m2,m4,m5,m6,m7,m8,m9,m10,m11,m13,m21] k<=1152921504606846976,[.j (F.kN [m0,m1,m2,m4,m5,m6,m7,m8,m9,m10,m11,m13,m21] k)])
   |_=>none
 | 12=>match ds with
   |[.agg [.s 1 a0,.s 1 a1,.s 2 a2,.v (.int .i64 a3),.s 1 a4,.s 2 a5,.s 3 a6,.s 3 a7,.s 4 a8,.s 1 a9,.s 1 aA,.s 1 aB,.v (.int .i64 aC),.s 3 aD,.v (.int .i64 aE),.v (.int .i64 aF),.v (.int .i64 aG),.v (.int .i64 aH),.v (.bool aI),.v (.int .i64 aJ),.v (.int .i64 aK),.s 1 aL,.v (.int .i64 aM),.v (.int .i64 aN)],.one (.v (.int .i64 f))]=>some (fun _=>pJ a0 a1 a2 a4 a5 a6 a7 a8 a9 aA aB aD aL,[.agg (fU a0 a1 a2 a3 a4 a5 a6 a7 a8 a9 (F.dvB (F.hpI a0 a1 a2 a3 a4 a5 a6 a7 a8 a9 aA aB aC aD aE aF aG aH aI aJ aK aL aM aN) aA aB f) (F.dvI (F.hpI a0 a1 a2 a3 a4 a5 a6 a7 a8 a9 aA aB aC aD aE aF aG aH aI aJ aK aL aM aN) aA aB f) aC aD aE aF aG aH aI aJ aK aL aM aN),.k (F.dvK (F.hpI a0 a1 a2 a3 a4 a5 a6 a7 a8 a9 aA aB aC aD aE aF aG aH aI aJ aK aL aM aN) aA aB f)])
   |_=>none
 | 14=>match ds with
   |[.agg [.s 1 a0,.s 1 a1,.s 2 a2,.v (.int .i64 a3),.s 1 a4,.s 2 a5,.s 3 a6,.s 3 a7,.s 4 a8,.s 1 a9,.s 1 aA,.s 1 aB,.v (.int .i64 aC),.s 3 aD,.v (.int .i64 aE),.v (.int .i64 aF),.v (.int .i64 aG),.v (.int .i64 aH),.v (.bool aI),.v (.int .i64 aJ),.v (.int .i64 aK),.s 1 aL,.v (.int .i64 aM),.v (.int .i64 aN)],.one (.v (.int .i64 f))]=>some (fun _=>pJ a0 a1 a2 a4 a5 a6 a7 a8 a9 aA aB aD aL,[.agg (fU a0 a1 a2 a3 a4 a5 a6 a7 a8 a9 (F.dvB (F.hpI a0 a1 a2 a3 a4 a5 a6 a7 a8 a9 aA aB aC aD aE aF aG aH aI aJ aK aL aM aN) aA aB f) (F.dvI (F.hpI a0 a1 a2 a3 a4 a5 a6 a7 a8 a9 aA aB aC aD aE aF aG aH aI aJ aK aL aM aN) aA aB f) aC aD aE aF aG aH aI aJ aK aL aM aN),.k (F.dvK (F.hpI a0 a1 a2 a3 a4 a5 a6 a7 a8 a9 aA aB aC aD aE aF aG aH aI aJ aK aL aM aN) aA aB f)])
   |_=>none
 |_=>none
theorem ah :aR (ct F0):=by
 intro f ds pre res h hp;unfold ct at h;split at h<;>(try split at h)<;>cases h
 exact k7 hp;exact k8 hp;exact kZ hp;exact jz hp;exact lE hp;exact lu hp
def mt (F:aQ):MT:=fun f=>match f with
 | 16=>some fun ds=>match ds with
   |[.agg [.s 1 a0,.s 1 a1,.s 2 a2,.v (.int .i64 a3),.s 1 a4,.s 2 a5,.s 3 a6,.s 3 a7,.s 4 a8,.s 1 a9,.s 1 aA,.s 1 aB,.v (.int .i64 aC),.s 3 aD,.v (.int .i64 aE),.v (.int .i64 aF),.v (.int .i64 aG),.v (.int .i64 aH),.v (.bool aI),.v (.int .i64 aJ),.v (.int .i64 aK),.s 1 aL,.v (.int .i64 aM),.v (.int .i64 aN)],.one (.v (.int .i64 k))]=>some (fun _=>Rw [.sl [tI]] a0/\Rw [tB] a1/\Rw [tI,tI] a2/\Rw [tI] a4/\Rw [tI,tI] a5/\Rw [tI,tI,tI] a6/\Rw [tI,tI,tI] a7/\Rw [tI,tI,tI,tI] a8/\Rw [.sl [.sl [tI]]] a9/\Rw [.sl [tI,tI]] aA/\Rw [.sl [tI]] aB/\Rw [tI,tI,tI] aD/\Rw [tI] aL/\aw [a0,a1,a2,a4,a5,a6,a7,a8,a9,aA,aB,aD,aL]<=1099511627776/\0<=k/\am [a0,a1,a2,a4,a5,a6,a7,a8,a9,aA,aB,aD,aL] k<=1152921504606846976,[.s 1 (F.mkN a0 k),.s 1 (F.mkN a1 (F.kN [a0] k)),.s 2 (F.mkN a2 (F.kN [a0,a1] k)),.s 1 (F.mkN a4 (F.kN [a0,a1,a2] k)),.s 2 (F.mkN a5 (F.kN [a0,a1,a2,a4] k)),.s 3 (F.mkN a6 (F.kN [a0,a1,a2,a4,a5] k)),.s 3 (F.mkN a7 (F.kN [a0,a1,a2,a4,a5,a6] k)),.s 4 (F.mkN a8 (F.kN [a0,a1,a2,a4,a5,a6,a7] k)),.s 1 (F.mkN a9 (F.kN [a0,a1,a2,a4,a5,a6,a7,a8] k)),.s 1 (F.mkN aA (F.kN [a0,a1,a2,a4,a5,a6,a7,a8,a9] k)),.s 1 (F.mkN aB (F.kN [a0,a1,a2,a4,a5,a6,a7,a8,a9,aA] k)),.s 3 (F.mkN aD (F.kN [a0,a1,a2,a4,a5,a6,a7,a8,a9,aA,aB] k)),.s 1 (F.mkN aL (F.kN [a0,a1,a2,a4,a5,a6,a7,a8,a9,aA,aB,aD] k))],[.j (F.kN [a0,a1,a2,a4,a5,a6,a7,a8,a9,aA,aB,aD,aL] k)])
   |_=>none
 |_=>none
theorem cV :fZ (mt F0):=by
 intro f mk h ds pre outs res hm hp;unfold mt at h;split at h
 ·cases h;dsimp only at hm;split at hm
  ·cases hm;exact jB hp
  ·cases hm
 ·cases h
abbrev B :cq:={Φ:=aQ,F0:=F0,ct:=ct,hc:=ah,mt:=mt,hm:=cV}
end FnExactHeapDeliverC
theorem gG (a0 a1 a2:aa)(a3:Int)(a4 a5 a6 a7 a8 a9 aA aB:aa)(aC:Int)(aD:aa)(aE aF aG aH:Int)(aI:Bool)(aJ aK:Int)(aL:aa)(aM aN a24:Int)(hp:Rw [.sl [tI]] a0/\Rw [tB] a1/\Rw [tI,tI] a2/\(-9223372036854775808<=a3/\a3<=9223372036854775807)/\Rw [tI] a4/\Rw [tI,tI] a5/\Rw [tI,tI,tI] a6/\Rw [tI,tI,tI] a7/\Rw [tI,tI,tI,tI] a8/\Rw [.sl [.sl [tI]]] a9/\Rw [.sl [tI,tI]] aA/\Rw [.sl [tI]] aB/\(-9223372036854775808<=aC/\aC<=9223372036854775807)/\Rw [tI,tI,tI] aD/\(-9223372036854775808<=aE/\aE<=9223372036854775807)/\(-9223372036854775808<=aF/\aF<=9223372036854775807)/\(-9223372036854775808<=aG/\aG<=9223372036854775807)/\(-9223372036854775808<=aH/\aH<=9223372036854775807)/\(-9223372036854775808<=aJ/\aJ<=9223372036854775807)/\(-9223372036854775808<=aK/\aK<=9223372036854775807)/\Rw [tI] aL/\(-9223372036854775808<=aM/\aM<=9223372036854775807)/\(-9223372036854775808<=aN/\aN<=9223372036854775807)/\(-9223372036854775808<=a24/\a24<=9223372036854775807)):ap 3 [.agg (fU a0 a1 a2 a3 a4 a5 a6 a7 a8 a9 aA aB aC aD aE aF aG aH aI aJ aK aL aM aN),.j a24] [.k true]:=by
 obtain⟨ha0,ha1,ha2,ha3,ha4,ha5,ha6,ha7,ha8,ha9,ha10,ha11,ha12,ha13,ha14,ha15,ha16,ha17,ha19,ha20,ha21,ha22,ha23,ha24⟩:=hp;by_cases hs:aw [a0,a1,a2,a4,a5,a6,a7,a8,a9,aA,aB,aD,aL]<=1048576
 case neg=>
  have hsz:bJ [a0,a1,a2,a4,a5,a6,a7,a8,a9,aA,aB,aD,aL] 1048576<0:=gV.2 (by omega);refine cb FnExactHeapDeliverC.B Tryz.func3 ?_
  intro O r F hO hr hF;cbv
  refine And.intro ?_ (bi (fun hb=>?_) (fun hb=>?_))
  ·(subst hO hr hF;(try simp only[nc]at*);(try simp only[ai,SS,sa,az]at*))
   exact⟨ha0,ha1,ha2,ha4,ha5,ha6,ha7,ha8,ha9,ha10,ha11,ha13,ha21,by omega,by omega⟩
  ·cbv
   exact To
  ·exfalso
   (subst hO hr hF;(try simp only[nc]at*);(try simp only[ai,SS,sa,az]at*))
   omega
 case pos=>
 have hsz:=HF hs;have hC:=Fv ha0 ha1 ha2 ha4 ha5 ha6 ha7 ha8 ha9 ha10 ha11 ha13 ha21 hs;have hX:pJ (a0) (a1) (a2) (a4) (a5) (a6) (a7) (a8) (a9) (dvB (hpI a0 a1 a2 a3 a4 a5 a6 a7 a8 a9 aA aB aC aD aE aF aG aH aI aJ aK aL aM aN) aA aB a24) (dvI (hpI a0 a1 a2 a3 a4 a5 a6 a7 a8 a9 aA aB aC aD aE aF aG aH aI aJ aK aL aM aN) aA aB a24) (aD) (aL):=O7 hC hs _ _;have hR0:=hX.r0;have hR1:=hX.r1;have hR2:=hX.r2;have hR3:=hX.r4;have hR4:=hX.r5;have hR5:=hX.r6;have hR6:=hX.r7;have hR7:=hX.r8;have hR8:=hX.r9;have hR9:=hX.r10;have hR10:=hX.r11;have hR11:=hX.r13;have hR12:=hX.r21;have hRc:aw [a0,a1,a2,a4,a5,a6,a7,a8,a9,dvB (hpI a0 a1 a2 a3 a4 a5 a6 a7 a8 a9 aA aB aC aD aE aF aG aH aI aJ aK aL aM aN) aA aB a24,dvI (hpI a0 a1 a2 a3 a4 a5 a6 a7 a8 a9 aA aB aC aD aE aF aG aH aI aJ aK aL aM aN) aA aB a24,aD,aL]<=1099511627776:=E1 hX;have hsc:=zJ hs;have hAk:=Gl ha0 ha1 ha2 ha4 ha5 ha6 ha7 ha8 ha9 ha10 ha11 ha13 ha21 (by omega);obtain⟨hRk,⟨hE1,hE2,hE3,hE4,hE5,hE6,hE7,hE8,hE9,hE10,hE11,hE12⟩,hM,hRm⟩:=Qs hR0 hR1 hR2 hR3 hR4 hR5 hR6 hR7 hR8 hR9 hR10 hR11 hR12 hRc;refine Fa FnExactHeapDeliverC.B AG mixed 101 [false,false,false,false,true,false,false,false,false,true,false,true,false,false,false,true,false,false,false,false,false,true,false,true,false,false,true,false,false,false,true,false,true,false] _ [4] [.tmp 4] Tryz.func3 rfl rfl rfl rfl rfl ?_;intro O r F hO hr hF;cbv
 repeat' first|apply And.intro|(apply bi<;>intro hb<;>cbv)|(refine⟨[0,1,2,3,4,5,6,7,8,9,10,11,12,13,14,15],[0,1,2,3,4,5,6,7,8,9,10,11,12,13,14,15],?_,?_⟩;(focus (cbv;done));cbv)
 all_goals exact Sn
theorem kq (recs:aa)(h:t7 [(true,[.sl [.sl [tI]],.sl [tB],.sl [tI,tI],tI,.sl [tI],.sl [tI,tI],.sl [tI,tI,tI],.sl [tI,tI,tI],.sl [tI,tI,tI,tI],.sl [.sl [.sl [tI]]],.sl [.sl [tI,tI]],.sl [.sl [tI]],tI,.sl [tI,tI,tI],tI,tI,tI,tI,tB,tI,tI,.sl [tI],tI,tI]),(false,[tI])] recs):ap 3 (sJ [(true,[.sl [.sl [tI]],.sl [tB],.sl [tI,tI],tI,.sl [tI],.sl [tI,tI],.sl [tI,tI,tI],.sl [tI,tI,tI],.sl [tI,tI,tI,tI],.sl [.sl [.sl [tI]]],.sl [.sl [tI,tI]],.sl [.sl [tI]],tI,.sl [tI,tI,tI],tI,tI,tI,tI,tB,tI,tI,.sl [tI],tI,tI]),(false,[tI])] recs) [.k true]:=by
 match recs,h with
 | [[.s _ a0,.s _ a1,.s _ a2,.v (.int _ a3),.s _ a4,.s _ a5,.s _ a6,.s _ a7,.s _ a8,.s _ a9,.s _ aA,.s _ aB,.v (.int _ aC),.s _ aD,.v (.int _ aE),.v (.int _ aF),.v (.int _ aG),.v (.int _ aH),.v (.bool aI),.v (.int _ aJ),.v (.int _ aK),.s _ aL,.v (.int _ aM),.v (.int _ aN)],[.v (.int _ a24)]],h=>
   simp only[t7,bM,cn]at h;obtain⟨⟨⟨rfl,ha0,ka0⟩,⟨rfl,ha1,ka1⟩,⟨rfl,ha2,ka2⟩,⟨rfl,ha3⟩,⟨rfl,ha4,ka4⟩,⟨rfl,ha5,ka5⟩,⟨rfl,ha6,ka6⟩,⟨rfl,ha7,ka7⟩,⟨rfl,ha8,ka8⟩,⟨rfl,ha9,ka9⟩,⟨rfl,ha10,ka10⟩,⟨rfl,ha11,ka11⟩,⟨rfl,ha12⟩,⟨rfl,ha13,ka13⟩,⟨rfl,ha14⟩,⟨rfl,ha15⟩,⟨rfl,ha16⟩,⟨rfl,ha17⟩,_,⟨rfl,ha19⟩,⟨rfl,ha20⟩,⟨rfl,ha21,ka21⟩,⟨rfl,ha22⟩,⟨rfl,ha23⟩,_⟩,⟨⟨rfl,ha24⟩,_⟩,_⟩:=h;exact gG a0 a1 a2 a3 a4 a5 a6 a7 a8 a9 aA aB aC aD aE aF aG aH aI aJ aK aL aM aN a24 ⟨⟨ha0,ka0⟩,⟨ha1,ka1⟩,⟨ha2,ka2⟩,gI ha3,⟨ha4,ka4⟩,⟨ha5,ka5⟩,⟨ha6,ka6⟩,⟨ha7,ka7⟩,⟨ha8,ka8⟩,⟨ha9,ka9⟩,⟨ha10,ka10⟩,⟨ha11,ka11⟩,gI ha12,⟨ha13,ka13⟩,gI ha14,gI ha15,gI ha16,gI ha17,gI ha19,gI ha20,⟨ha21,ka21⟩,gI ha22,gI ha23,gI ha24⟩
end Go.V