/- Contracts. -/
import Derived.Test.YtpldpilhgjpkjaaGreatWLawHBv
import Derived.Test.YtpldpilhgjpkjaaGreatWLawHCv
set_option linter.all false
open Go
open And renaming intro->Zb
open Int renaming le_trans->XD
open IntKind renaming i64->ZG,i64->Za
open List renaming cons_append->ZP,nil_append->ZJ
open Nat renaming add_zero->Zi
open Value renaming int->Zq
namespace Go.V
open Go Go.Proofs
set_option maxRecDepth 1000000
set_option maxHeartbeats 8000000
abbrev LJ:cT:=dG (fun F f=>match f with|81=>kP F|94=>kU F|103=>ky F|82=>fx F|95=>fy F|104=>fu F|83=>cQ F|96=>cR F|105=>cP F|84=>cQ F|97=>cR F|106=>cP F|85=>nZ F|98=>oj F|107=>nU F|86=>kL F|99=>kR F|108=>kv F|87=>nY F|100=>oh F|109=>nT F|88=>oc F|101=>oq F|110=>nW F|89=>pI F|102=>pJ F|111=>pG F|_=>fun _=>none) (by
 intro f;dsimp only;split;exact ym;exact yv;exact xZ;exact yp;exact yy;exact x7;exact Ao;exact Ax;exact Ag;exact yn;exact yw;exact x5;exact CC;exact CI;exact Ct;exact yj;exact yr;exact xW;exact CB;exact CH;exact Cs;exact CF;exact CL;exact Cw;exact EA;exact EB;exact Ey;exact cX)
abbrev Rx:cT:={
 Φ:=sF
 F0:=F0
 ct:=fun F f=>match f with|121=>iR F|122=>d6 F|123=>cA F|124=>cA F|125=>kD F|126=>iO F|127=>kC F|128=>kF F|129=>mj F|_=>fun _=>none
 hc:=(by
  intro f;dsimp only;split;exact tY;exact t7;exact vP;exact tZ;exact yb;exact tV;exact ya;exact yd;exact Aj;exact cX)
 mt:=fun F f=>match f with|112=>some (iW F)|113=>some (d7 F)|114=>some (cB F)|115=>some (cB F)|116=>some (kI F)|117=>some (iT F)|118=>some (kH F)|119=>some (kK F)|120=>some (mn F)|_=>none
 hm:=(by
  intro f mk h;dsimp only at h;split at h<;>cases h
  exact uf;exact ui;exact vT;exact ug;exact yg;exact t9;exact yf;exact yi;exact Ak)}
def nX:EC:=fun F=>fun
 |[.agg hl_,.one (.v (.int Za left))]=>hL hl_ fun a0 a1 a2 a3 a4 a5 a6 a7 a8 a9 aA aB aC aD aE aF aG aH aI aJ aK aL aM aN=>(fun _=>Rw [.sl [tI]] a0/\Rw [tB] a1/\Rw [tI,tI] a2/\Rw [tI] a4/\Rw [tI,tI] a5/\Rw [tI,tI,tI] a6/\Rw [tI,tI,tI] a7/\Rw [tI,tI,tI,tI] a8/\Rw [.sl [.sl [tI]]] a9/\Rw [.sl [tI,tI]] aA/\Rw [.sl [tI]] aB/\Rw [tI,tI,tI] aD/\Rw [tI] aL/\0<=left/\left<=1048576,[.j (F.szN [a0,a1,a2,a4,a5,a6,a7,a8,a9,aA,aB,aD,aL] left)])
 |_=>none
def Cz:ec 23 nX:=by
 intro _ _ _ h hp;dsimp only[nX,F0,hL]at h;split at h;rotate_left;cases h;split at h<;>cases h
 rename_i left _ a0 a1 a2 a3 a4 a5 a6 a7 a8 a9 aA aB aC aD aE aF aG aH aI aJ aK aL aM aN;obtain⟨w0,w1,w2,w3,w4,w5,w6,w7,w8,w9,w10,w11,w12,h0,h1⟩:=hp;refine cb LJ Tryz.func23 ?_
 intro O r F hO hr hF;cbv
 repeat' first|apply Zb|(apply bC<;>intro hb<;>cbv)
 all_goals(subst hO hr hF;(try simp only[nc]at*);(try simp only[ah,SS,sa,az]at*))
 all_goals iterate 13 (try simp(disch:=assumption) only[nH,ZP,ZJ]at*)
 all_goals first|trivial|(refine⟨Ud,Uc,by first|omega|exact XD (BP Ud) h1⟩)|(refine⟨Ud,Ud,Uc,by first|omega|exact XD (BP Ud) h1⟩)|(rw[mU Ud])|exact congrArg (fun x=>[DV.one (L.v (Zq ZG x))]) (gE (a:=[a0,a1,a2,a4]) (b:=[a5,a6,a7,a8,a9,aA,aB,aD,aL]) Ud).symm|exact congrArg (fun x=>[DV.one (L.v (Zq ZG x))]) (gE (a:=[a0,a1,a2,a4,a5]) (b:=[a6,a7,a8,a9,aA,aB,aD,aL]) Ud).symm|exact congrArg (fun x=>[DV.one (L.v (Zq ZG x))]) (gE (a:=[a0,a1,a2,a4,a5,a6]) (b:=[a7,a8,a9,aA,aB,aD,aL]) Ud).symm|exact congrArg (fun x=>[DV.one (L.v (Zq ZG x))]) (gE (a:=[a0,a1,a2,a4,a5,a6,a7]) (b:=[a8,a9,aA,aB,aD,aL]) Ud).symm|exact congrArg (fun x=>[DV.one (L.v (Zq ZG x))]) (gE (a:=[a0,a1,a2,a4,a5,a6,a7,a8]) (b:=[a9,aA,aB,aD,aL]) Ud).symm|exact congrArg (fun x=>[DV.one (L.v (Zq ZG x))]) (gE (a:=[a0,a1,a2,a4,a5,a6,a7,a8,a9]) (b:=[aA,aB,aD,aL]) Ud).symm|exact congrArg (fun x=>[DV.one (L.v (Zq ZG x))]) (gE (a:=[a0,a1,a2,a4,a5,a6,a7,a8,a9,aA,aB]) (b:=[aD,aL]) Ud).symm|exact congrArg (fun x=>[DV.one (L.v (Zq ZG x))]) (gE (a:=[a0,a1,a2,a4,a5,a6,a7,a8,a9,aA,aB,aD]) (b:=[aL]) Ud).symm|trace_state
def oe:EC:=fun F=>fun
 |[.agg hl_]=>hL hl_ fun a0 a1 a2 a3 a4 a5 a6 a7 a8 a9 aA aB aC aD aE aF aG aH aI aJ aK aL aM aN=>(fun _=>Rw [.sl [tI]] a0/\Rw [tB] a1/\Rw [tI,tI] a2/\Rw [tI] a4/\Rw [tI,tI] a5/\Rw [tI,tI,tI] a6/\Rw [tI,tI,tI] a7/\Rw [tI,tI,tI,tI] a8/\Rw [.sl [.sl [tI]]] a9/\Rw [.sl [tI,tI]] aA/\Rw [.sl [tI]] aB/\Rw [tI,tI,tI] aD/\Rw [tI] aL/\aP [a0,a1,a2,a4,a5,a6,a7,a8,a9,aA,aB,aD,aL]<=1048576,[.agg (hpL a0 a1 a2 a3 a4 a5 a6 a7 a8 a9 aA aB aC aD aE aF aG aH aI aJ aK aL aM aN)])
 |_=>none
def CG:ec 25 oe:=by
 intro _ _ _ h hp;dsimp only[oe,F0,hL]at h;split at h;rotate_left;cases h;split at h<;>cases h
 rename_i a0 a1 a2 a3 a4 a5 a6 a7 a8 a9 aA aB aC aD aE aF aG aH aI aJ aK aL aM aN;obtain⟨w0,w1,w2,w3,w4,w5,w6,w7,w8,w9,w10,w11,w12,hlim⟩:=hp;simp only[aP,Zi]at hlim;refine cb LJ Tryz.func25 ?_
 intro O r F hO hr hF;cbv
 repeat' first|apply Zb|(apply bC<;>intro hb<;>cbv)
 all_goals(subst hO hr hF;(try simp only[nc]at*);(try simp only[ah,SS,sa,az]at*))
 all_goals first|trivial|(refine⟨Ud,?_⟩;(try simp only[aP,Zi]);omega)|(refine⟨Ud,Ud,?_⟩;(try simp only[aP,Zi]);omega)|(refine⟨Ud,Ud,Ud,Ud,?_⟩;(try simp only[aP,Zi]);omega)|trace_state
def nS:EC:=fun F=>fun
 |[.agg hl_,d]=>hL hl_ fun a0 a1 a2 a3 a4 a5 a6 a7 a8 a9 aA aB aC aD aE aF aG aH aI aJ aK aL aM aN=>(fun _=>d=.agg (hpL a0 a1 a2 a3 a4 a5 a6 a7 a8 a9 aA aB aC aD aE aF aG aH aI aJ aK aL aM aN)/\Rw [.sl [tI]] a0/\Rw [tB] a1/\Rw [tI,tI] a2/\Rw [tI] a4/\Rw [tI,tI] a5/\Rw [tI,tI,tI] a6/\Rw [tI,tI,tI] a7/\Rw [tI,tI,tI,tI] a8/\Rw [.sl [.sl [tI]]] a9/\Rw [.sl [tI,tI]] aA/\Rw [.sl [tI]] aB/\Rw [tI,tI,tI] aD/\Rw [tI] aL/\aP [a0,a1,a2,a4,a5,a6,a7,a8,a9,aA,aB,aD,aL]<=1099511627776,[.k true])
 |_=>none
def Cr:ec 26 nS:=by
 intro _ _ _ h hp;dsimp only[nS,F0,hL]at h;split at h;rotate_left;cases h;split at h<;>cases h
 rename_i d _ a0 a1 a2 a3 a4 a5 a6 a7 a8 a9 aA aB aC aD aE aF aG aH aI aJ aK aL aM aN;obtain⟨rfl,w0,w1,w2,w3,w4,w5,w6,w7,w8,w9,w10,w11,w12,hlim⟩:=hp;simp only[aP,Zi]at hlim;refine cb LJ Tryz.func26 ?_
 intro O r F hO hr hF;cbv
 repeat' first|apply Zb|(apply bC<;>intro hb<;>cbv)
 all_goals(subst hO hr hF;(try simp only[nc]at*);(try simp only[ah,SS,sa,az]at*))
 all_goals first|trivial|(refine⟨trivial,Ud,?_⟩;(try simp only[aP,Zi]);omega)|(refine⟨trivial,Ud,Ud,?_⟩;(try simp only[aP,Zi]);omega)|(refine⟨trivial,Ud,Ud,Ud,Ud,?_⟩;(try simp only[aP,Zi]);omega)|trace_state
def kG:EM:=fun F=>fun
 |[.agg hl_,.one (.v (.int Za k))]=>hL hl_ fun a0 a1 a2 a3 a4 a5 a6 a7 a8 a9 aA aB aC aD aE aF aG aH aI aJ aK aL aM aN=>(fun _=>Rw [.sl [tI]] a0/\Rw [tB] a1/\Rw [tI,tI] a2/\Rw [tI] a4/\Rw [tI,tI] a5/\Rw [tI,tI,tI] a6/\Rw [tI,tI,tI] a7/\Rw [tI,tI,tI,tI] a8/\Rw [.sl [.sl [tI]]] a9/\Rw [.sl [tI,tI]] aA/\Rw [.sl [tI]] aB/\Rw [tI,tI,tI] aD/\Rw [tI] aL/\aP [a0,a1,a2,a4,a5,a6,a7,a8,a9,aA,aB,aD,aL]<=1099511627776/\0<=k/\bj [a0,a1,a2,a4,a5,a6,a7,a8,a9,aA,aB,aD,aL] k<=1152921504606846976,[.s 1 (F.mkN a0 k),.s 1 (F.mkN a1 (F.kN [a0] k)),.s 2 (F.mkN a2 (F.kN [a0,a1] k)),.s 1 (F.mkN a4 (F.kN [a0,a1,a2] k)),.s 2 (F.mkN a5 (F.kN [a0,a1,a2,a4] k)),.s 3 (F.mkN a6 (F.kN [a0,a1,a2,a4,a5] k)),.s 3 (F.mkN a7 (F.kN [a0,a1,a2,a4,a5,a6] k)),.s 4 (F.mkN a8 (F.kN [a0,a1,a2,a4,a5,a6,a7] k)),.s 1 (F.mkN a9 (F.kN [a0,a1,a2,a4,a5,a6,a7,a8] k)),.s 1 (F.mkN aA (F.kN [a0,a1,a2,a4,a5,a6,a7,a8,a9] k)),.s 1 (F.mkN aB (F.kN [a0,a1,a2,a4,a5,a6,a7,a8,a9,aA] k)),.s 3 (F.mkN aD (F.kN [a0,a1,a2,a4,a5,a6,a7,a8,a9,aA,aB] k)),.s 1 (F.mkN aL (F.kN [a0,a1,a2,a4,a5,a6,a7,a8,a9,aA,aB,aD] k))],[.j (F.kN [a0,a1,a2,a4,a5,a6,a7,a8,a9,aA,aB,aD,aL] k)])
 |_=>none
def ye:em 27 kG:=by
 intro _ _ _ _ h hp;dsimp only[kG,F0,hL]at h;split at h;rotate_left;cases h;split at h<;>cases h
 rename_i k _ a0 a1 a2 a3 a4 a5 a6 a7 a8 a9 aA aB aC aD aE aF aG aH aI aJ aK aL aM aN;obtain⟨w0,w1,w2,w3,w4,w5,w6,w7,w8,w9,w10,w11,w12,hlim,hk0,hkb⟩:=hp;simp only[aP,Zi]at hlim;have p0:bj [a0] k<=bj [a0,a1,a2,a4,a5,a6,a7,a8,a9,aA,aB,aD,aL] k/\0<=bj [a0] k:=bG (b:=[a1,a2,a4,a5,a6,a7,a8,a9,aA,aB,aD,aL]) hk0;have p1:bj [a0,a1] k<=bj [a0,a1,a2,a4,a5,a6,a7,a8,a9,aA,aB,aD,aL] k/\0<=bj [a0,a1] k:=bG (b:=[a2,a4,a5,a6,a7,a8,a9,aA,aB,aD,aL]) hk0;have p2:bj [a0,a1,a2] k<=bj [a0,a1,a2,a4,a5,a6,a7,a8,a9,aA,aB,aD,aL] k/\0<=bj [a0,a1,a2] k:=bG (b:=[a4,a5,a6,a7,a8,a9,aA,aB,aD,aL]) hk0;have p3:bj [a0,a1,a2,a4] k<=bj [a0,a1,a2,a4,a5,a6,a7,a8,a9,aA,aB,aD,aL] k/\0<=bj [a0,a1,a2,a4] k:=bG (b:=[a5,a6,a7,a8,a9,aA,aB,aD,aL]) hk0;have p4:bj [a0,a1,a2,a4,a5] k<=bj [a0,a1,a2,a4,a5,a6,a7,a8,a9,aA,aB,aD,aL] k/\0<=bj [a0,a1,a2,a4,a5] k:=bG (b:=[a6,a7,a8,a9,aA,aB,aD,aL]) hk0;have p5:bj [a0,a1,a2,a4,a5,a6] k<=bj [a0,a1,a2,a4,a5,a6,a7,a8,a9,aA,aB,aD,aL] k/\0<=bj [a0,a1,a2,a4,a5,a6] k:=bG (b:=[a7,a8,a9,aA,aB,aD,aL]) hk0;have p6:bj [a0,a1,a2,a4,a5,a6,a7] k<=bj [a0,a1,a2,a4,a5,a6,a7,a8,a9,aA,aB,aD,aL] k/\0<=bj [a0,a1,a2,a4,a5,a6,a7] k:=bG (b:=[a8,a9,aA,aB,aD,aL]) hk0;have p7:bj [a0,a1,a2,a4,a5,a6,a7,a8] k<=bj [a0,a1,a2,a4,a5,a6,a7,a8,a9,aA,aB,aD,aL] k/\0<=bj [a0,a1,a2,a4,a5,a6,a7,a8] k:=bG (b:=[a9,aA,aB,aD,aL]) hk0;have p8:bj [a0,a1,a2,a4,a5,a6,a7,a8,a9] k<=bj [a0,a1,a2,a4,a5,a6,a7,a8,a9,aA,aB,aD,aL] k/\0<=bj [a0,a1,a2,a4,a5,a6,a7,a8,a9] k:=bG (b:=[aA,aB,aD,aL]) hk0;have p9:bj [a0,a1,a2,a4,a5,a6,a7,a8,a9,aA] k<=bj [a0,a1,a2,a4,a5,a6,a7,a8,a9,aA,aB,aD,aL] k/\0<=bj [a0,a1,a2,a4,a5,a6,a7,a8,a9,aA] k:=bG (b:=[aB,aD,aL]) hk0;have p10:bj [a0,a1,a2,a4,a5,a6,a7,a8,a9,aA,aB] k<=bj [a0,a1,a2,a4,a5,a6,a7,a8,a9,aA,aB,aD,aL] k/\0<=bj [a0,a1,a2,a4,a5,a6,a7,a8,a9,aA,aB] k:=bG (b:=[aD,aL]) hk0;have p11:bj [a0,a1,a2,a4,a5,a6,a7,a8,a9,aA,aB,aD] k<=bj [a0,a1,a2,a4,a5,a6,a7,a8,a9,aA,aB,aD,aL] k/\0<=bj [a0,a1,a2,a4,a5,a6,a7,a8,a9,aA,aB,aD] k:=bG (b:=[aL]) hk0;have p12:bj [a0,a1,a2,a4,a5,a6,a7,a8,a9,aA,aB,aD,aL] k<=bj [a0,a1,a2,a4,a5,a6,a7,a8,a9,aA,aB,aD,aL] k/\0<=bj [a0,a1,a2,a4,a5,a6,a7,a8,a9,aA,aB,aD,aL] k:=bG (b:=[]) hk0;refine mb Rx [(2,0),(2,1),(2,2),(2,4),(2,5),(2,6),(2,7),(2,8),(2,9),(2,10),(2,11),(2,13),(2,21)] Tryz.func27 ?_
 intro O r os F hO hr hos hF;cbv
 repeat' first|apply Zb|(apply bC<;>intro hb<;>cbv)
 all_goals((try subst hos);subst hO hr hF;(try simp only[nc]at*);(try simp only[ah,SS,sa,az]at*);(try simp only[jJ,ZP,ZJ,cF]at*))
 all_goals first|trivial|(refine⟨Ud,?_,?_,?_⟩<;>(try simp only[jJ,ZP,ZJ,aP,Zi])<;>omega)|(refine⟨Ud,Ud,?_,?_,?_⟩<;>(try simp only[jJ,ZP,ZJ,aP,Zi])<;>omega)|trace_state
def kB:EC:=fun F=>fun
 |[.agg [.s 1 m0,.s 1 m1,.s 2 m2,.v (.int Za m3),.s 1 m4,.s 2 m5,.s 3 m6,.s 3 m7,.s 4 m8,.s 1 m9,.s 1 m10,.s 1 m11,.v (.int Za m12),.s 3 m13,.v (.int Za m14),.v (.int Za m15),.v (.int Za m16),.v (.int Za m17),.v (.bool m18),.v (.int Za m19),.v (.int Za m20),.s 1 m21,.v (.int Za m22),.v (.int Za m23)],.one (.v (.int Za k))]=>some (fun _=>(∃ a0,m0=dL a0 k/\Rw [.sl [tI]] a0/\au a0<=1099511627776)/\(∃ a1,m1=dL a1 (bj [m0] k)/\Rw [tB] a1/\au a1<=1099511627776)/\(∃ a2,m2=dL a2 (bj [m0,m1] k)/\Rw [tI,tI] a2/\au a2<=1099511627776)/\(∃ a4,m4=dL a4 (bj [m0,m1,m2] k)/\Rw [tI] a4/\au a4<=1099511627776)/\(∃ a5,m5=dL a5 (bj [m0,m1,m2,m4] k)/\Rw [tI,tI] a5/\au a5<=1099511627776)/\(∃ a6,m6=dL a6 (bj [m0,m1,m2,m4,m5] k)/\Rw [tI,tI,tI] a6/\au a6<=1099511627776)/\(∃ a7,m7=dL a7 (bj [m0,m1,m2,m4,m5,m6] k)/\Rw [tI,tI,tI] a7/\au a7<=1099511627776)/\(∃ a8,m8=dL a8 (bj [m0,m1,m2,m4,m5,m6,m7] k)/\Rw [tI,tI,tI,tI] a8/\au a8<=1099511627776)/\(∃ a9,m9=dL a9 (bj [m0,m1,m2,m4,m5,m6,m7,m8] k)/\Rw [.sl [.sl [tI]]] a9/\au a9<=1099511627776)/\(∃ aA,m10=dL aA (bj [m0,m1,m2,m4,m5,m6,m7,m8,m9] k)/\Rw [.sl [tI,tI]] aA/\au aA<=1099511627776)/\(∃ aB,m11=dL aB (bj [m0,m1,m2,m4,m5,m6,m7,m8,m9,m10] k)/\Rw [.sl [tI]] aB/\au aB<=1099511627776)/\(∃ aD,m13=dL aD (bj [m0,m1,m2,m4,m5,m6,m7,m8,m9,m10,m11] k)/\Rw [tI,tI,tI] aD/\au aD<=1099511627776)/\(∃ aL,m21=dL aL (bj [m0,m1,m2,m4,m5,m6,m7,m8,m9,m10,m11,m13] k)/\Rw [tI] aL/\au aL<=1099511627776)/\0<=k/\bj [m0,m1,m2,m4,m5,m6,m7,m8,m9,m10,m11,m13,m21] k<=1152921504606846976,[.j (F.kN [m0,m1,m2,m4,m5,m6,m7,m8,m9,m10,m11,m13,m21] k)])
 |_=>none
def x9:ec 28 kB:=by
 intro _ _ _ h hp;dsimp only[kB,F0]at h;split at h<;>cases h
 rename_i m0 m1 m2 m3 m4 m5 m6 m7 m8 m9 m10 m11 m12 m13 m14 m15 m16 m17 m18 m19 m20 m21 m22 m23 k;obtain⟨e0,e1,e2,e3,e4,e5,e6,e7,e8,e9,e10,e11,e12,hk0,hkb⟩:=hp;have p0:bj [m0] k<=bj [m0,m1,m2,m4,m5,m6,m7,m8,m9,m10,m11,m13,m21] k/\0<=bj [m0] k:=bG (b:=[m1,m2,m4,m5,m6,m7,m8,m9,m10,m11,m13,m21]) hk0;have p1:bj [m0,m1] k<=bj [m0,m1,m2,m4,m5,m6,m7,m8,m9,m10,m11,m13,m21] k/\0<=bj [m0,m1] k:=bG (b:=[m2,m4,m5,m6,m7,m8,m9,m10,m11,m13,m21]) hk0;have p2:bj [m0,m1,m2] k<=bj [m0,m1,m2,m4,m5,m6,m7,m8,m9,m10,m11,m13,m21] k/\0<=bj [m0,m1,m2] k:=bG (b:=[m4,m5,m6,m7,m8,m9,m10,m11,m13,m21]) hk0;have p3:bj [m0,m1,m2,m4] k<=bj [m0,m1,m2,m4,m5,m6,m7,m8,m9,m10,m11,m13,m21] k/\0<=bj [m0,m1,m2,m4] k:=bG (b:=[m5,m6,m7,m8,m9,m10,m11,m13,m21]) hk0;have p4:bj [m0,m1,m2,m4,m5] k<=bj [m0,m1,m2,m4,m5,m6,m7,m8,m9,m10,m11,m13,m21] k/\0<=bj [m0,m1,m2,m4,m5] k:=bG (b:=[m6,m7,m8,m9,m10,m11,m13,m21]) hk0;have p5:bj [m0,m1,m2,m4,m5,m6] k<=bj [m0,m1,m2,m4,m5,m6,m7,m8,m9,m10,m11,m13,m21] k/\0<=bj [m0,m1,m2,m4,m5,m6] k:=bG (b:=[m7,m8,m9,m10,m11,m13,m21]) hk0;have p6:bj [m0,m1,m2,m4,m5,m6,m7] k<=bj [m0,m1,m2,m4,m5,m6,m7,m8,m9,m10,m11,m13,m21] k/\0<=bj [m0,m1,m2,m4,m5,m6,m7] k:=bG (b:=[m8,m9,m10,m11,m13,m21]) hk0;have p7:bj [m0,m1,m2,m4,m5,m6,m7,m8] k<=bj [m0,m1,m2,m4,m5,m6,m7,m8,m9,m10,m11,m13,m21] k/\0<=bj [m0,m1,m2,m4,m5,m6,m7,m8] k:=bG (b:=[m9,m10,m11,m13,m21]) hk0;have p8:bj [m0,m1,m2,m4,m5,m6,m7,m8,m9] k<=bj [m0,m1,m2,m4,m5,m6,m7,m8,m9,m10,m11,m13,m21] k/\0<=bj [m0,m1,m2,m4,m5,m6,m7,m8,m9] k:=bG (b:=[m10,m11,m13,m21]) hk0;have p9:bj [m0,m1,m2,m4,m5,m6,m7,m8,m9,m10] k<=bj [m0,m1,m2,m4,m5,m6,m7,m8,m9,m10,m11,m13,m21] k/\0<=bj [m0,m1,m2,m4,m5,m6,m7,m8,m9,m10] k:=bG (b:=[m11,m13,m21]) hk0;have p10:bj [m0,m1,m2,m4,m5,m6,m7,m8,m9,m10,m11] k<=bj [m0,m1,m2,m4,m5,m6,m7,m8,m9,m10,m11,m13,m21] k/\0<=bj [m0,m1,m2,m4,m5,m6,m7,m8,m9,m10,m11] k:=bG (b:=[m13,m21]) hk0;have p11:bj [m0,m1,m2,m4,m5,m6,m7,m8,m9,m10,m11,m13] k<=bj [m0,m1,m2,m4,m5,m6,m7,m8,m9,m10,m11,m13,m21] k/\0<=bj [m0,m1,m2,m4,m5,m6,m7,m8,m9,m10,m11,m13] k:=bG (b:=[m21]) hk0;have p12:bj [m0,m1,m2,m4,m5,m6,m7,m8,m9,m10,m11,m13,m21] k<=bj [m0,m1,m2,m4,m5,m6,m7,m8,m9,m10,m11,m13,m21] k/\0<=bj [m0,m1,m2,m4,m5,m6,m7,m8,m9,m10,m11,m13,m21] k:=bG (b:=[]) hk0;refine cb Rx Tryz.func28 ?_
 intro O r F hO hr hF;cbv
 repeat' first|apply Zb|(apply bC<;>intro hb<;>cbv)
 all_goals(subst hO hr hF;(try simp only[nc]at*);(try simp only[ah,SS,sa,az]at*);(try simp only[jJ,ZP,ZJ]at*))
 all_goals first|trivial|(exfalso;omega)|(obtain⟨x,y1,y2,y3⟩:=e0;exact⟨x,y1,y2,y3,Uc,Uc⟩)|(obtain⟨x,y1,y2,y3⟩:=e1;exact⟨x,y1,y2,y3,Uc,Uc⟩)|(obtain⟨x,y1,y2,y3⟩:=e2;exact⟨x,y1,y2,y3,Uc,Uc⟩)|(obtain⟨x,y1,y2,y3⟩:=e3;exact⟨x,y1,y2,y3,Uc,Uc⟩)|(obtain⟨x,y1,y2,y3⟩:=e4;exact⟨x,y1,y2,y3,Uc,Uc⟩)|(obtain⟨x,y1,y2,y3⟩:=e5;exact⟨x,y1,y2,y3,Uc,Uc⟩)|(obtain⟨x,y1,y2,y3⟩:=e6;exact⟨x,y1,y2,y3,Uc,Uc⟩)|(obtain⟨x,y1,y2,y3⟩:=e7;exact⟨x,y1,y2,y3,Uc,Uc⟩)|(obtain⟨x,y1,y2,y3⟩:=e8;exact⟨x,y1,y2,y3,Uc,Uc⟩)|(obtain⟨x,y1,y2,y3⟩:=e9;exact⟨x,y1,y2,y3,Uc,Uc⟩)|(obtain⟨x,y1,y2,y3⟩:=e10;exact⟨x,y1,y2,y3,Uc,Uc⟩)|(obtain⟨x,y1,y2,y3⟩:=e11;exact⟨x,y1,y2,y3,Uc,Uc⟩)|(obtain⟨x,y1,y2,y3⟩:=e12;exact⟨x,y1,y2,y3,Uc,Uc⟩)|(refine⟨Ud,Uc,Uc⟩)|(refine⟨Ud,Ud,Uc,Uc⟩)|(refine⟨Ud,Ud,Ud,Uc,Uc⟩)|(refine⟨Ud,Ud,Ud,Ud,Uc,Uc⟩)|(refine⟨Ud,Ud,Ud,Ud,Ud,Uc,Uc⟩)|(refine⟨Ud,Ud,Ud,Ud,Ud,Ud,Uc,Uc⟩)|(refine⟨Ud,Ud,Ud,Ud,Ud,Ud,Ud,Uc,Uc⟩)|(refine⟨Ud,Ud,Ud,Ud,Ud,Ud,Ud,Ud,Uc,Uc⟩)|(refine⟨Ud,Ud,Ud,Ud,Ud,Ud,Ud,Ud,Ud,Uc,Uc⟩)|(refine⟨Ud,Ud,Ud,Ud,Ud,Ud,Ud,Ud,Ud,Ud,Uc,Uc⟩)|(refine⟨Ud,Ud,Ud,Ud,Ud,Ud,Ud,Ud,Ud,Ud,Ud,Uc,Uc⟩)|(refine⟨Ud,Ud,Ud,Ud,Ud,Ud,Ud,Ud,Ud,Ud,Ud,Ud,Uc,Uc⟩)|(refine⟨Ud,Ud,Ud,Ud,Ud,Ud,Ud,Ud,Ud,Ud,Ud,Ud,Ud,Uc,Uc⟩)|trace_state
end Go.V