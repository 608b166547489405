/- Contracts. -/
import Derived.Test.YtbedjnlfdopeeaaGreatXW4
import Derived.Test.YtbedjnlfdopeeaaGreatXLawHDu
import Derived.Test.YtbedjnlfdopeeaaGreatXHoLu
set_option linter.all false
open Go
open And renaming intro->Zb
open IntKind renaming i64->Za
open True renaming intro->Zk
namespace Go.V
open Go Go.Proofs
set_option maxRecDepth 1000000
set_option maxHeartbeats 8000000
namespace FnExactHeapTickC
structure aP where
 szN:List aa->Int->Int
 kN:List aa->Int->Int
 mkN:aa->Int->aa
 ifR:Bool->aa->aa->aa
 tgB:Bool->Int->Int->Int->Bool
 hpI:aa->aa->aa->Int->aa->aa->aa->aa->aa->aa->aa->aa->Int->aa->Int->Int->Int->Int->Bool->Int->Int->aa->Int->Int->Bool
 tkC:Bool->Int->Int->aa->aa->aa->aa->aa->aa->aa
 qeR:Int->aa->Int->Int->aa
 ckN:Int->Int->Int
 tkU:Bool->Int->Int->aa->aa->aa->aa->aa->aa->aa
 tkE:Bool->Int->Int->aa->aa->aa->aa->aa->aa->aa
 tkF:Bool->Int->Int->aa->aa->aa->aa->aa->aa->aa
 tkS:Bool->Int->Int->aa->aa->aa->aa->aa->aa->aa
 qeL:Int->aa->Int->Int->aa
 ifN:Bool->Int->Int->Int
 lenI:aa->Int
abbrev F0:aP:=⟨bN,au,aU,ifR,tgB,hpI,tkC,qeR,ckN,tkU,tkE,tkF,tkS,qeL,ifN,lenI⟩
def ct (F:aP):CT:=fun f ds=>match f with
 | 6=>match ds with
   |[.agg [.s 1 a0,.s 1 a1,.s 2 a2,.v (.int Za a3),.s 1 a4,.s 2 a5,.s 3 a6,.s 3 a7,.s 4 a8,.s 1 a9,.s 1 aA,.s 1 aB,.v (.int Za aC),.s 3 aD,.v (.int Za aE),.v (.int Za aF),.v (.int Za aG),.v (.int Za aH),.v (.bool aI),.v (.int Za aJ),.v (.int Za aK),.s 1 aL,.v (.int Za aM),.v (.int Za aN)],.one (.v (.int Za left))]=>some (fun _=>Rw [.sl [tI]] a0/\Rw [tB] a1/\Rw [tI,tI] a2/\Rw [tI] a4/\Rw [tI,tI] a5/\Rw [tI,tI,tI] a6/\Rw [tI,tI,tI] a7/\Rw [tI,tI,tI,tI] a8/\Rw [.sl [.sl [tI]]] a9/\Rw [.sl [tI,tI]] aA/\Rw [.sl [tI]] aB/\Rw [tI,tI,tI] aD/\Rw [tI] aL/\0<=left/\left<=1048576,[.j (F.szN [a0,a1,a2,a4,a5,a6,a7,a8,a9,aA,aB,aD,aL] left)])
   |_=>none
 | 8=>match ds with
   |[.agg [.s 1 a0,.s 1 a1,.s 2 a2,.v (.int Za a3),.s 1 a4,.s 2 a5,.s 3 a6,.s 3 a7,.s 4 a8,.s 1 a9,.s 1 aA,.s 1 aB,.v (.int Za aC),.s 3 aD,.v (.int Za aE),.v (.int Za aF),.v (.int Za aG),.v (.int Za aH),.v (.bool aI),.v (.int Za aJ),.v (.int Za aK),.s 1 aL,.v (.int Za aM),.v (.int Za aN)]]=>some (fun _=>Rw [.sl [tI]] a0/\Rw [tB] a1/\Rw [tI,tI] a2/\Rw [tI] a4/\Rw [tI,tI] a5/\Rw [tI,tI,tI] a6/\Rw [tI,tI,tI] a7/\Rw [tI,tI,tI,tI] a8/\Rw [.sl [.sl [tI]]] a9/\Rw [.sl [tI,tI]] aA/\Rw [.sl [tI]] aB/\Rw [tI,tI,tI] aD/\Rw [tI] aL/\av [a0,a1,a2,a4,a5,a6,a7,a8,a9,aA,aB,aD,aL]<=1048576,[.agg (iF a0 a1 a2 a3 a4 a5 a6 a7 a8 a9 aA aB aC aD aE aF aG aH aI aJ aK aL aM aN)])
   |_=>none
 | 10=>match ds with
   |[.agg [.s 1 a0,.s 1 a1,.s 2 a2,.v (.int Za a3),.s 1 a4,.s 2 a5,.s 3 a6,.s 3 a7,.s 4 a8,.s 1 a9,.s 1 aA,.s 1 aB,.v (.int Za aC),.s 3 aD,.v (.int Za aE),.v (.int Za aF),.v (.int Za aG),.v (.int Za aH),.v (.bool aI),.v (.int Za aJ),.v (.int Za aK),.s 1 aL,.v (.int Za aM),.v (.int Za aN)],d]=>some (fun _=>d=.agg (iF a0 a1 a2 a3 a4 a5 a6 a7 a8 a9 aA aB aC aD aE aF aG aH aI aJ aK aL aM aN)/\Rw [.sl [tI]] a0/\Rw [tB] a1/\Rw [tI,tI] a2/\Rw [tI] a4/\Rw [tI,tI] a5/\Rw [tI,tI,tI] a6/\Rw [tI,tI,tI] a7/\Rw [tI,tI,tI,tI] a8/\Rw [.sl [.sl [tI]]] a9/\Rw [.sl [tI,tI]] aA/\Rw [.sl [tI]] aB/\Rw [tI,tI,tI] aD/\Rw [tI] aL/\av [a0,a1,a2,a4,a5,a6,a7,a8,a9,aA,aB,aD,aL]<=1099511627776,[.k true])
   |_=>none
 | 12=>match ds with
   |[.agg [.s 1 m0,.s 1 m1,.s 2 m2,.v (.int Za m3),.s 1 m4,.s 2 m5,.s 3 m6,.s 3 m7,.s 4 m8,.s 1 m9,.s 1 m10,.s 1 m11,.v (.int Za m12),.s 3 m13,.v (.int Za m14),.v (.int Za m15),.v (.int Za m16),.v (.int Za m17),.v (.bool m18),.v (.int Za m19),.v (.int Za m20),.s 1 m21,.v (.int Za m22),.v (.int Za m23)],.one (.v (.int Za k))]=>some (fun _=>(∃ a0,m0=aU a0 k/\Rw [.sl [tI]] a0/\ah a0<=1099511627776)/\(∃ a1,m1=aU a1 (au [m0] k)/\Rw [tB] a1/\ah a1<=1099511627776)/\(∃ a2,m2=aU a2 (au [m0,m1] k)/\Rw [tI,tI] a2/\ah a2<=1099511627776)/\(∃ a4,m4=aU a4 (au [m0,m1,m2] k)/\Rw [tI] a4/\ah a4<=1099511627776)/\(∃ a5,m5=aU a5 (au [m0,m1,m2,m4] k)/\Rw [tI,tI] a5/\ah a5<=1099511627776)/\(∃ a6,m6=aU a6 (au [m0,m1,m2,m4,m5] k)/\Rw [tI,tI,tI] a6/\ah a6<=1099511627776)/\(∃ a7,m7=aU a7 (au [m0,m1,m2,m4,m5,m6] k)/\Rw [tI,tI,tI] a7/\ah a7<=1099511627776)/\(∃ a8,m8=aU a8 (au [m0,m1,m2,m4,m5,m6,m7] k)/\Rw [tI,tI,tI,tI] a8/\ah a8<=1099511627776)/\(∃ a9,m9=aU a9 (au [m0,m1,m2,m4,m5,m6,m7,m8] k)/\Rw [.sl [.sl [tI]]] a9/\ah a9<=1099511627776)/\(∃ aA,m10=aU aA (au [m0,m1,m2,m4,m5,m6,m7,m8,m9] k)/\Rw [.sl [tI,tI]] aA/\ah aA<=1099511627776)/\(∃ aB,m11=aU aB (au [m0,m1,m2,m4,m5,m6,m7,m8,m9,m10] k)/\Rw [.sl [tI]] aB/\ah aB<=1099511627776)/\(∃ aD,m13=aU aD (au [m0,m1,m2,m4,m5,m6,m7,m8,m9,m10,m11] k)/\Rw [tI,tI,tI] aD/\ah aD<=1099511627776)/\(∃ aL,m21=aU aL (au [m0,m1,m2,m4,m5,m6,m7,m8,m9,m10,m11,m13] k)/\Rw [tI] aL/\ah aL<=1099511627776)/\0<=k/\au [m0,m1,m2,m4,m5,m6,m7,m8,m9,m10,m11,m13,m21] k<=1152921504606846976,[.j (F.kN [m0,m1,m2,m4,m5,m6,m7,m8,m9,m10,m11,m13,m21] k)])
   |_=>none
 | 7=>match ds with
   |[.agg [.s 1 a0,.s 1 a1,.s 2 a2,.v (.int Za a3),.s 1 a4,.s 2 a5,.s 3 a6,.s 3 a7,.s 4 a8,.s 1 a9,.s 1 aA,.s 1 aB,.v (.int Za aC),.s 3 aD,.v (.int Za aE),.v (.int Za aF),.v (.int Za aG),.v (.int Za aH),.v (.bool aI),.v (.int Za aJ),.v (.int Za aK),.s 1 aL,.v (.int Za aM),.v (.int Za aN)],.one (.v (.int Za n))]=>some (fun _=>iI a0 a1 a2 a4 a5 a6 a7 a8 a9 aA aB aD aL/\(-9223372036854775808<=n/\n<=9223372036854775807),[.agg (iF (F.ifR (F.tgB (F.hpI a0 a1 a2 a3 a4 a5 a6 a7 a8 a9 aA aB aC aD aE aF aG aH aI aJ aK aL aM aN) a3 n aF) (F.tkC aI aJ aK a0 a1 a2 a5 a6 (F.qeR aC aD (F.ckN aF n) 100)) a0) (F.ifR (F.tgB (F.hpI a0 a1 a2 a3 a4 a5 a6 a7 a8 a9 aA aB aC aD aE aF aG aH aI aJ aK aL aM aN) a3 n aF) (F.tkU aI aJ aK a0 a1 a2 a5 a6 (F.qeR aC aD (F.ckN aF n) 100)) a1) (F.ifR (F.tgB (F.hpI a0 a1 a2 a3 a4 a5 a6 a7 a8 a9 aA aB aC aD aE aF aG aH aI aJ aK aL aM aN) a3 n aF) (F.tkE aI aJ aK a0 a1 a2 a5 a6 (F.qeR aC aD (F.ckN aF n) 100)) a2) a3 a4 (F.ifR (F.tgB (F.hpI a0 a1 a2 a3 a4 a5 a6 a7 a8 a9 aA aB aC aD aE aF aG aH aI aJ aK aL aM aN) a3 n aF) (F.tkF aI aJ aK a0 a1 a2 a5 a6 (F.qeR aC aD (F.ckN aF n) 100)) a5) (F.ifR (F.tgB (F.hpI a0 a1 a2 a3 a4 a5 a6 a7 a8 a9 aA aB aC aD aE aF aG aH aI aJ aK aL aM aN) a3 n aF) (F.tkS aI aJ aK a0 a1 a2 a5 a6 (F.qeR aC aD (F.ckN aF n) 100)) a6) a7 a8 a9 aA aB aC (F.ifR (F.tgB (F.hpI a0 a1 a2 a3 a4 a5 a6 a7 a8 a9 aA aB aC aD aE aF aG aH aI aJ aK aL aM aN) a3 n aF) (F.qeL aC aD (F.ckN aF n) 100) aD) aE (F.ifN (F.tgB (F.hpI a0 a1 a2 a3 a4 a5 a6 a7 a8 a9 aA aB aC aD aE aF aG aH aI aJ aK aL aM aN) a3 n aF) (F.ckN aF n) aF) aG aH aI aJ aK aL aM aN),.j (F.ifN (F.tgB (F.hpI a0 a1 a2 a3 a4 a5 a6 a7 a8 a9 aA aB aC aD aE aF aG aH aI aJ aK aL aM aN) a3 n aF) (F.lenI (F.qeR aC aD (F.ckN aF n) 100)) 0)])
   |_=>none
 | 9=>match ds with
   |[.agg [.s 1 a0,.s 1 a1,.s 2 a2,.v (.int Za a3),.s 1 a4,.s 2 a5,.s 3 a6,.s 3 a7,.s 4 a8,.s 1 a9,.s 1 aA,.s 1 aB,.v (.int Za aC),.s 3 aD,.v (.int Za aE),.v (.int Za aF),.v (.int Za aG),.v (.int Za aH),.v (.bool aI),.v (.int Za aJ),.v (.int Za aK),.s 1 aL,.v (.int Za aM),.v (.int Za aN)],.one (.v (.int Za n))]=>some (fun _=>iI a0 a1 a2 a4 a5 a6 a7 a8 a9 aA aB aD aL/\(-9223372036854775808<=n/\n<=9223372036854775807),[.agg (iF (F.ifR (F.tgB (F.hpI a0 a1 a2 a3 a4 a5 a6 a7 a8 a9 aA aB aC aD aE aF aG aH aI aJ aK aL aM aN) a3 n aF) (F.tkC aI aJ aK a0 a1 a2 a5 a6 (F.qeR aC aD (F.ckN aF n) 100)) a0) (F.ifR (F.tgB (F.hpI a0 a1 a2 a3 a4 a5 a6 a7 a8 a9 aA aB aC aD aE aF aG aH aI aJ aK aL aM aN) a3 n aF) (F.tkU aI aJ aK a0 a1 a2 a5 a6 (F.qeR aC aD (F.ckN aF n) 100)) a1) (F.ifR (F.tgB (F.hpI a0 a1 a2 a3 a4 a5 a6 a7 a8 a9 aA aB aC aD aE aF aG aH aI aJ aK aL aM aN) a3 n aF) (F.tkE aI aJ aK a0 a1 a2 a5 a6 (F.qeR aC aD (F.ckN aF n) 100)) a2) a3 a4 (F.ifR (F.tgB (F.hpI a0 a1 a2 a3 a4 a5 a6 a7 a8 a9 aA aB aC aD aE aF aG aH aI aJ aK aL aM aN) a3 n aF) (F.tkF aI aJ aK a0 a1 a2 a5 a6 (F.qeR aC aD (F.ckN aF n) 100)) a5) (F.ifR (F.tgB (F.hpI a0 a1 a2 a3 a4 a5 a6 a7 a8 a9 aA aB aC aD aE aF aG aH aI aJ aK aL aM aN) a3 n aF) (F.tkS aI aJ aK a0 a1 a2 a5 a6 (F.qeR aC aD (F.ckN aF n) 100)) a6) a7 a8 a9 aA aB aC (F.ifR (F.tgB (F.hpI a0 a1 a2 a3 a4 a5 a6 a7 a8 a9 aA aB aC aD aE aF aG aH aI aJ aK aL aM aN) a3 n aF) (F.qeL aC aD (F.ckN aF n) 100) aD) aE (F.ifN (F.tgB (F.hpI a0 a1 a2 a3 a4 a5 a6 a7 a8 a9 aA aB aC aD aE aF aG aH aI aJ aK aL aM aN) a3 n aF) (F.ckN aF n) aF) aG aH aI aJ aK aL aM aN),.j (F.ifN (F.tgB (F.hpI a0 a1 a2 a3 a4 a5 a6 a7 a8 a9 aA aB aC aD aE aF aG aH aI aJ aK aL aM aN) a3 n aF) (F.lenI (F.qeR aC aD (F.ckN aF n) 100)) 0)])
   |_=>none
 |_=>none
theorem aj:aT (ct F0):=by
 intro f ds pre res h hp;unfold ct at h;split at h<;>(try split at h)<;>cases h
 exact wd hp;exact wl hp;exact vY hp;exact qI hp;exact rx hp;exact qe hp
def mt (F:aP):MT:=fun f=>match f with
 | 11=>some fun ds=>match ds with
   |[.agg [.s 1 a0,.s 1 a1,.s 2 a2,.v (.int Za a3),.s 1 a4,.s 2 a5,.s 3 a6,.s 3 a7,.s 4 a8,.s 1 a9,.s 1 aA,.s 1 aB,.v (.int Za aC),.s 3 aD,.v (.int Za aE),.v (.int Za aF),.v (.int Za aG),.v (.int Za aH),.v (.bool aI),.v (.int Za aJ),.v (.int Za aK),.s 1 aL,.v (.int Za aM),.v (.int Za aN)],.one (.v (.int Za k))]=>some (fun _=>Rw [.sl [tI]] a0/\Rw [tB] a1/\Rw [tI,tI] a2/\Rw [tI] a4/\Rw [tI,tI] a5/\Rw [tI,tI,tI] a6/\Rw [tI,tI,tI] a7/\Rw [tI,tI,tI,tI] a8/\Rw [.sl [.sl [tI]]] a9/\Rw [.sl [tI,tI]] aA/\Rw [.sl [tI]] aB/\Rw [tI,tI,tI] aD/\Rw [tI] aL/\av [a0,a1,a2,a4,a5,a6,a7,a8,a9,aA,aB,aD,aL]<=1099511627776/\0<=k/\au [a0,a1,a2,a4,a5,a6,a7,a8,a9,aA,aB,aD,aL] k<=1152921504606846976,[.s 1 (F.mkN a0 k),.s 1 (F.mkN a1 (F.kN [a0] k)),.s 2 (F.mkN a2 (F.kN [a0,a1] k)),.s 1 (F.mkN a4 (F.kN [a0,a1,a2] k)),.s 2 (F.mkN a5 (F.kN [a0,a1,a2,a4] k)),.s 3 (F.mkN a6 (F.kN [a0,a1,a2,a4,a5] k)),.s 3 (F.mkN a7 (F.kN [a0,a1,a2,a4,a5,a6] k)),.s 4 (F.mkN a8 (F.kN [a0,a1,a2,a4,a5,a6,a7] k)),.s 1 (F.mkN a9 (F.kN [a0,a1,a2,a4,a5,a6,a7,a8] k)),.s 1 (F.mkN aA (F.kN [a0,a1,a2,a4,a5,a6,a7,a8,a9] k)),.s 1 (F.mkN aB (F.kN [a0,a1,a2,a4,a5,a6,a7,a8,a9,aA] k)),.s 3 (F.mkN aD (F.kN [a0,a1,a2,a4,a5,a6,a7,a8,a9,aA,aB] k)),.s 1 (F.mkN aL (F.kN [a0,a1,a2,a4,a5,a6,a7,a8,a9,aA,aB,aD] k))],[.j (F.kN [a0,a1,a2,a4,a5,a6,a7,a8,a9,aA,aB,aD,aL] k)])
   |_=>none
 |_=>none
theorem dB:gY (mt F0):=by
 intro f mk h ds pre outs res hm hp;unfold mt at h;split at h
 ·cases h;dsimp only at hm;split at hm
  ·cases hm;exact qN hp
  ·cases hm
 ·cases h
abbrev B:cF:={Φ:=aP,F0:=F0,ct:=ct,hc:=aj,mt:=mt,hm:=dB}
end FnExactHeapTickC
theorem iV (a0 a1 a2:aa)(a3:Int)(a4 a5 a6 a7 a8 a9 aA aB:aa)(aC:Int)(aD:aa)(aE aF aG aH:Int)(aI:Bool)(aJ aK:Int)(aL:aa)(aM aN a24:Int)(hp:Rw [.sl [tI]] a0/\Rw [tB] a1/\Rw [tI,tI] a2/\(-9223372036854775808<=a3/\a3<=9223372036854775807)/\Rw [tI] a4/\Rw [tI,tI] a5/\Rw [tI,tI,tI] a6/\Rw [tI,tI,tI] a7/\Rw [tI,tI,tI,tI] a8/\Rw [.sl [.sl [tI]]] a9/\Rw [.sl [tI,tI]] aA/\Rw [.sl [tI]] aB/\(-9223372036854775808<=aC/\aC<=9223372036854775807)/\Rw [tI,tI,tI] aD/\(-9223372036854775808<=aE/\aE<=9223372036854775807)/\(-9223372036854775808<=aF/\aF<=9223372036854775807)/\(-9223372036854775808<=aG/\aG<=9223372036854775807)/\(-9223372036854775808<=aH/\aH<=9223372036854775807)/\(-9223372036854775808<=aJ/\aJ<=9223372036854775807)/\(-9223372036854775808<=aK/\aK<=9223372036854775807)/\Rw [tI] aL/\(-9223372036854775808<=aM/\aM<=9223372036854775807)/\(-9223372036854775808<=aN/\aN<=9223372036854775807)/\(-9223372036854775808<=a24/\a24<=9223372036854775807)):ap 3 [.agg (iF a0 a1 a2 a3 a4 a5 a6 a7 a8 a9 aA aB aC aD aE aF aG aH aI aJ aK aL aM aN),.j a24] [.k true]:=by
 obtain⟨ha0,ha1,ha2,ha3,ha4,ha5,ha6,ha7,ha8,ha9,ha10,ha11,ha12,ha13,ha14,ha15,ha16,ha17,ha19,ha20,ha21,ha22,ha23,ha24⟩:=hp;by_cases hs:av [a0,a1,a2,a4,a5,a6,a7,a8,a9,aA,aB,aD,aL]<=1048576
 case neg=>
  have hsz:bN [a0,a1,a2,a4,a5,a6,a7,a8,a9,aA,aB,aD,aL] 1048576<0:=jv.2 (by omega);refine cb FnExactHeapTickC.B Tryz.func3 ?_
  intro O r F hO hr hF;cbv
  refine Zb ?_ (bu (fun hb=>?_) (fun hb=>?_))
  ·(subst hO hr hF;(try simp only[nc]at*);(try simp only[ak,SS,sa,az]at*))
   exact⟨ha0,ha1,ha2,ha4,ha5,ha6,ha7,ha8,ha9,ha10,ha11,ha13,ha21,by omega,by omega⟩
  ·cbv
   repeat' first|apply Zb|(apply bu<;>intro hb<;>cbv)
   all_goals(subst hO hr hF;(try simp only[nc]at*);(try simp only[ak,SS,sa,az]at*))
   all_goals first|trivial|exact rfl
  ·exfalso
   (subst hO hr hF;(try simp only[nc]at*);(try simp only[ak,SS,sa,az]at*))
   omega
 case pos=>
 have hsz:=NS hs;have hC:=Mj ha0 ha1 ha2 ha4 ha5 ha6 ha7 ha8 ha9 ha10 ha11 ha13 ha21 hs;have hX:iI (ifR (tgB (hpI a0 a1 a2 a3 a4 a5 a6 a7 a8 a9 aA aB aC aD aE aF aG aH aI aJ aK aL aM aN) a3 a24 aF) (tkC aI aJ aK a0 a1 a2 a5 a6 (qeR aC aD (ckN aF a24) 100)) a0) (ifR (tgB (hpI a0 a1 a2 a3 a4 a5 a6 a7 a8 a9 aA aB aC aD aE aF aG aH aI aJ aK aL aM aN) a3 a24 aF) (tkU aI aJ aK a0 a1 a2 a5 a6 (qeR aC aD (ckN aF a24) 100)) a1) (ifR (tgB (hpI a0 a1 a2 a3 a4 a5 a6 a7 a8 a9 aA aB aC aD aE aF aG aH aI aJ aK aL aM aN) a3 a24 aF) (tkE aI aJ aK a0 a1 a2 a5 a6 (qeR aC aD (ckN aF a24) 100)) a2) (a4) (ifR (tgB (hpI a0 a1 a2 a3 a4 a5 a6 a7 a8 a9 aA aB aC aD aE aF aG aH aI aJ aK aL aM aN) a3 a24 aF) (tkF aI aJ aK a0 a1 a2 a5 a6 (qeR aC aD (ckN aF a24) 100)) a5) (ifR (tgB (hpI a0 a1 a2 a3 a4 a5 a6 a7 a8 a9 aA aB aC aD aE aF aG aH aI aJ aK aL aM aN) a3 a24 aF) (tkS aI aJ aK a0 a1 a2 a5 a6 (qeR aC aD (ckN aF a24) 100)) a6) (a7) (a8) (a9) (aA) (aB) (ifR (tgB (hpI a0 a1 a2 a3 a4 a5 a6 a7 a8 a9 aA aB aC aD aE aF aG aH aI aJ aK aL aM aN) a3 a24 aF) (qeL aC aD (ckN aF a24) 100) aD) (aL):=Lg hC rfl;have hR0:=hX.r0;have hR1:=hX.r1;have hR2:=hX.r2;have hR3:=hX.r4;have hR4:=hX.r5;have hR5:=hX.r6;have hR6:=hX.r7;have hR7:=hX.r8;have hR8:=hX.r9;have hR9:=hX.r10;have hR10:=hX.r11;have hR11:=hX.r13;have hR12:=hX.r21;have hRc:av [ifR (tgB (hpI a0 a1 a2 a3 a4 a5 a6 a7 a8 a9 aA aB aC aD aE aF aG aH aI aJ aK aL aM aN) a3 a24 aF) (tkC aI aJ aK a0 a1 a2 a5 a6 (qeR aC aD (ckN aF a24) 100)) a0,ifR (tgB (hpI a0 a1 a2 a3 a4 a5 a6 a7 a8 a9 aA aB aC aD aE aF aG aH aI aJ aK aL aM aN) a3 a24 aF) (tkU aI aJ aK a0 a1 a2 a5 a6 (qeR aC aD (ckN aF a24) 100)) a1,ifR (tgB (hpI a0 a1 a2 a3 a4 a5 a6 a7 a8 a9 aA aB aC aD aE aF aG aH aI aJ aK aL aM aN) a3 a24 aF) (tkE aI aJ aK a0 a1 a2 a5 a6 (qeR aC aD (ckN aF a24) 100)) a2,a4,ifR (tgB (hpI a0 a1 a2 a3 a4 a5 a6 a7 a8 a9 aA aB aC aD aE aF aG aH aI aJ aK aL aM aN) a3 a24 aF) (tkF aI aJ aK a0 a1 a2 a5 a6 (qeR aC aD (ckN aF a24) 100)) a5,ifR (tgB (hpI a0 a1 a2 a3 a4 a5 a6 a7 a8 a9 aA aB aC aD aE aF aG aH aI aJ aK aL aM aN) a3 a24 aF) (tkS aI aJ aK a0 a1 a2 a5 a6 (qeR aC aD (ckN aF a24) 100)) a6,a7,a8,a9,aA,aB,ifR (tgB (hpI a0 a1 a2 a3 a4 a5 a6 a7 a8 a9 aA aB aC aD aE aF aG aH aI aJ aK aL aM aN) a3 a24 aF) (qeL aC aD (ckN aF a24) 100) aD,aL]<=1099511627776:=LO hX;have hsc:=Fc hs;have hAk:=KE ha0 ha1 ha2 ha4 ha5 ha6 ha7 ha8 ha9 ha10 ha11 ha13 ha21 (by omega);obtain⟨hRk,⟨hE1,hE2,hE3,hE4,hE5,hE6,hE7,hE8,hE9,hE10,hE11,hE12,-⟩,hM,hRm⟩:=Uk hR0 hR1 hR2 hR3 hR4 hR5 hR6 hR7 hR8 hR9 hR10 hR11 hR12 hRc;refine LX FnExactHeapTickC.B DU mixed 101 [false,false,false,false,true,false,false,false,false,true,false,true,false,false,false,true,false,false,false,false,false,true,false,true,false,false,true,false,false,false,true,false,true,false] _ [4] [.tmp 4] Tryz.func3 rfl rfl rfl rfl rfl ?_;intro O r F hO hr hF;cbv
 repeat' first|apply Zb|(apply bu<;>intro hb<;>cbv)|(refine⟨[0,1,2,3,4,5,6,7,8,9,10,11,12,13,14,15],[0,1,2,3,4,5,6,7,8,9,10,11,12,13,14,15],?_,?_⟩;(focus (cbv;done));cbv)
 all_goals(subst hO hr hF;(try simp only[nc]at*);(try simp only[ak,SS,sa,az]at*);(try simp only[Jt]at*))
 all_goals first|exact Zk|(show aV _ _=true;kernel_rfl)|exact⟨Zk,Zk⟩|exact⟨ha0,ha1,ha2,ha4,ha5,ha6,ha7,ha8,ha9,ha10,ha11,ha13,ha21,by omega,by omega⟩|exact⟨ha0,ha1,ha2,ha4,ha5,ha6,ha7,ha8,ha9,ha10,ha11,ha13,ha21,hs⟩|exact⟨ha0,ha1,ha2,ha4,ha5,ha6,ha7,ha8,ha9,ha10,ha11,ha13,ha21⟩|exact⟨trivial,ha0,ha1,ha2,ha4,ha5,ha6,ha7,ha8,ha9,ha10,ha11,ha13,ha21,by omega⟩|exact⟨rfl,ha0,ha1,ha2,ha4,ha5,ha6,ha7,ha8,ha9,ha10,ha11,ha13,ha21,by omega⟩|exact⟨ha0,ha1,ha2,ha4,ha5,ha6,ha7,ha8,ha9,ha10,ha11,ha13,ha21,by omega,by omega,hAk⟩|exact⟨trivial,hR0,hR1,hR2,hR3,hR4,hR5,hR6,hR7,hR8,hR9,hR10,hR11,hR12,hRc⟩|exact⟨rfl,hR0,hR1,hR2,hR3,hR4,hR5,hR6,hR7,hR8,hR9,hR10,hR11,hR12,hRc⟩|exact⟨hR0,hR1,hR2,hR3,hR4,hR5,hR6,hR7,hR8,hR9,hR10,hR11,hR12,hRc,by omega,hRk⟩|exact⟨⟨_,rfl,hR0,hRm.1⟩,⟨_,hE1,hR1,hRm.2.1⟩,⟨_,hE2,hR2,hRm.2.2.1⟩,⟨_,hE3,hR3,hRm.2.2.2.1⟩,⟨_,hE4,hR4,hRm.2.2.2.2.1⟩,⟨_,hE5,hR5,hRm.2.2.2.2.2.1⟩,⟨_,hE6,hR6,hRm.2.2.2.2.2.2.1⟩,⟨_,hE7,hR7,hRm.2.2.2.2.2.2.2.1⟩,⟨_,hE8,hR8,hRm.2.2.2.2.2.2.2.2.1⟩,⟨_,hE9,hR9,hRm.2.2.2.2.2.2.2.2.2.1⟩,⟨_,hE10,hR10,hRm.2.2.2.2.2.2.2.2.2.2.1⟩,⟨_,hE11,hR11,hRm.2.2.2.2.2.2.2.2.2.2.2.1⟩,⟨_,hE12,hR12,hRm.2.2.2.2.2.2.2.2.2.2.2.2⟩,by omega,le_of_eq_of_le hM hRk⟩|exact ca|exact absurd (by assumption) (FT (by omega))|exact absurd hM (by assumption)|exact absurd (by assumption) (by rw[hM];exact FT (by omega))|exact hC|exact⟨hC,ha24⟩|exact rfl|exact absurd rfl (by assumption)|(exfalso;omega)|trivial|trace_state
theorem nR (recs:aa)(h:zX [(true,[.sl [.sl [tI]],.sl [tB],.sl [tI,tI],tI,.sl [tI],.sl [tI,tI],.sl [tI,tI,tI],.sl [tI,tI,tI],.sl [tI,tI,tI,tI],.sl [.sl [.sl [tI]]],.sl [.sl [tI,tI]],.sl [.sl [tI]],tI,.sl [tI,tI,tI],tI,tI,tI,tI,tB,tI,tI,.sl [tI],tI,tI]),(false,[tI])] recs):ap 3 (xU [(true,[.sl [.sl [tI]],.sl [tB],.sl [tI,tI],tI,.sl [tI],.sl [tI,tI],.sl [tI,tI,tI],.sl [tI,tI,tI],.sl [tI,tI,tI,tI],.sl [.sl [.sl [tI]]],.sl [.sl [tI,tI]],.sl [.sl [tI]],tI,.sl [tI,tI,tI],tI,tI,tI,tI,tB,tI,tI,.sl [tI],tI,tI]),(false,[tI])] recs) [.k true]:=by
 match recs,h with
 | [[.s _ a0,.s _ a1,.s _ a2,.v (.int _ a3),.s _ a4,.s _ a5,.s _ a6,.s _ a7,.s _ a8,.s _ a9,.s _ aA,.s _ aB,.v (.int _ aC),.s _ aD,.v (.int _ aE),.v (.int _ aF),.v (.int _ aG),.v (.int _ aH),.v (.bool aI),.v (.int _ aJ),.v (.int _ aK),.s _ aL,.v (.int _ aM),.v (.int _ aN)],[.v (.int _ a24)]],h=>
   simp only[zX,cf,cD]at h;obtain⟨⟨⟨rfl,ha0,ka0⟩,⟨rfl,ha1,ka1⟩,⟨rfl,ha2,ka2⟩,⟨rfl,ha3⟩,⟨rfl,ha4,ka4⟩,⟨rfl,ha5,ka5⟩,⟨rfl,ha6,ka6⟩,⟨rfl,ha7,ka7⟩,⟨rfl,ha8,ka8⟩,⟨rfl,ha9,ka9⟩,⟨rfl,ha10,ka10⟩,⟨rfl,ha11,ka11⟩,⟨rfl,ha12⟩,⟨rfl,ha13,ka13⟩,⟨rfl,ha14⟩,⟨rfl,ha15⟩,⟨rfl,ha16⟩,⟨rfl,ha17⟩,_,⟨rfl,ha19⟩,⟨rfl,ha20⟩,⟨rfl,ha21,ka21⟩,⟨rfl,ha22⟩,⟨rfl,ha23⟩,_⟩,⟨⟨rfl,ha24⟩,_⟩,_⟩:=h;exact iV a0 a1 a2 a3 a4 a5 a6 a7 a8 a9 aA aB aC aD aE aF aG aH aI aJ aK aL aM aN a24 ⟨⟨ha0,ka0⟩,⟨ha1,ka1⟩,⟨ha2,ka2⟩,rJ ha3,⟨ha4,ka4⟩,⟨ha5,ka5⟩,⟨ha6,ka6⟩,⟨ha7,ka7⟩,⟨ha8,ka8⟩,⟨ha9,ka9⟩,⟨ha10,ka10⟩,⟨ha11,ka11⟩,rJ ha12,⟨ha13,ka13⟩,rJ ha14,rJ ha15,rJ ha16,rJ ha17,rJ ha19,rJ ha20,⟨ha21,ka21⟩,rJ ha22,rJ ha23,rJ ha24⟩
end Go.V