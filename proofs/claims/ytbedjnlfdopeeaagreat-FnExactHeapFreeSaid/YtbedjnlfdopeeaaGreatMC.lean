/- Contracts. -/
import Derived.Test.YtbedjnlfdopeeaaGreatMB
set_option linter.all false
open Go
open And renaming intro->Zb
open Int renaming toNat_natCast->Zy,le_trans->XB
open IntKind renaming i64->Zp,i64->Za
open List renaming length_replicate->Yn,nil_append->ZI,cons_append->ZN
open List.cons renaming injEq->Yk
open Nat renaming zero_le->Zg,add_zero->Zj,zero_add->ZB,le_refl->Zd
open Value renaming int->Zi
open Value.bool renaming injEq->Yr
open Value.int renaming injEq->Yq
namespace Go.V
open Go Go.Proofs
set_option maxRecDepth 1000000
set_option maxHeartbeats 8000000
def nY:EC:=fun F=>fun
 |[.agg [.s 1 a0,.s 1 a1],.one (.v (.int Za left))]=>some (fun _=>Rw [.sl [tI,tI]] a0/\Rw [.sl [tI]] a1/\0<=left/\left<=1048576,[.j (F.szN [a0,a1] left)])
 |_=>none
theorem B6:ec 23 nY:=by
 intro _ _ _ h hp;dsimp only[nY,F0]at h;split at h<;>cases h
 rename_i a0 a1 left;obtain⟨w0,w1,h0,h1⟩:=hp;refine cb Lc Tryz.func23 ?_
 intro O r F hO hr hF;cbv
 repeat' first|apply Zb|(apply bF<;>intro hb<;>cbv)
 all_goals(subst hO hr hF;(try simp only[nc]at*);(try simp only[ah,SS,sa,az]at*))
 all_goals iterate 1 (try simp(disch:=assumption) only[nG,ZN,ZI]at*)
 all_goals exact agG
def oe:EC:=fun F=>fun
 |[.agg [.s 1 a0,.s 1 a1]]=>some (fun _=>Rw [.sl [tI,tI]] a0/\Rw [.sl [tI]] a1/\aQ [a0,a1]<=1048576,[.agg [.s 1 a0,.s 1 a1]])
 |_=>none
theorem Cb:ec 36 oe:=by
 intro _ _ _ h hp;dsimp only[oe,F0]at h;split at h<;>cases h
 rename_i a0 a1;obtain⟨w0,w1,hlim⟩:=hp;simp only[aQ,Zj]at hlim;refine cb Lc Tryz.func36 ?_
 exact agE
def nT:EC:=fun F=>fun
 |[.agg [.s 1 a0,.s 1 a1],d]=>some (fun _=>d=.agg [.s 1 a0,.s 1 a1]/\Rw [.sl [tI,tI]] a0/\Rw [.sl [tI]] a1/\aQ [a0,a1]<=1099511627776,[.k true])
 |_=>none
theorem BW:ec 50 nT:=by
 intro _ _ _ h hp;dsimp only[nT,F0]at h;split at h<;>cases h
 rename_i a0 a1 d;obtain⟨rfl,w0,w1,hlim⟩:=hp;simp only[aQ,Zj]at hlim;refine cb Lc Tryz.func50 ?_
 exact agD
def kW:EM:=fun F=>fun
 |[.agg [.s 1 a0,.s 1 a1],.one (.v (.int Za k))]=>some (fun _=>Rw [.sl [tI,tI]] a0/\Rw [.sl [tI]] a1/\aQ [a0,a1]<=1099511627776/\0<=k/\be [a0,a1] k<=1152921504606846976,[.s 1 (F.mkN a0 k),.s 1 (F.mkN a1 (F.kN [a0] k))],[.j (F.kN [a0,a1] k)])
 |_=>none
theorem xB:em 59 kW:=by
 intro _ _ _ _ h hp;dsimp only[kW,F0]at h;split at h<;>cases h
 rename_i a0 a1 k;obtain⟨w0,w1,hlim,hk0,hkb⟩:=hp;simp only[aQ,Zj]at hlim;have p0:be [a0] k<=be [a0,a1] k/\0<=be [a0] k:=bJ (b:=[a1]) hk0;have p1:be [a0,a1] k<=be [a0,a1] k/\0<=be [a0,a1] k:=bJ (b:=[]) hk0;refine mb QZ [(2,0),(2,1)] Tryz.func59 ?_
 exact QJ
def kR:EC:=fun F=>fun
 |[.agg [.s 1 m0,.s 1 m1],.one (.v (.int Za k))]=>some (fun _=>(∃ a0,m0=dY a0 k/\Rw [.sl [tI,tI]] a0/\ak a0<=1099511627776)/\(∃ a1,m1=dY a1 (be [m0] k)/\Rw [.sl [tI]] a1/\ak a1<=1099511627776)/\0<=k/\be [m0,m1] k<=1152921504606846976,[.j (F.kN [m0,m1] k)])
 |_=>none
theorem xv:ec 68 kR:=by
 intro _ _ _ h hp;dsimp only[kR,F0]at h;split at h<;>cases h
 rename_i m0 m1 k;obtain⟨e0,e1,hk0,hkb⟩:=hp;have p0:be [m0] k<=be [m0,m1] k/\0<=be [m0] k:=bJ (b:=[m1]) hk0;have p1:be [m0,m1] k<=be [m0,m1] k/\0<=be [m0,m1] k:=bJ (b:=[]) hk0;refine cb QZ Tryz.func68 ?_
 exact agm
abbrev Lf:da:=ez (fun F f=>match f with|98=>cR F|116=>cS F|150=>cQ F|_=>fun _=>none) (by
 intro f;dsimp only;split;exact xM;exact xU;exact xt;exact de)
abbrev Q1:da:={
 Φ:=rz
 F0:=F0
 ct:=fun F f=>match f with|162=>cy F|_=>fun _=>none
 hc:=(by
  intro f;dsimp only;split;exact tG;exact de)
 mt:=fun F f=>match f with|156=>some (cz F)|_=>none
 hm:=(by
  intro f mk h;dsimp only at h;split at h<;>cases h
  exact tP)}
def oc:EC:=fun F=>fun
 |[.agg [.v (.int Za a0),.s 3 a1],.one (.v (.int Za left))]=>some (fun _=>Rw [tI,tI,tI] a1/\0<=left/\left<=1048576,[.j (F.szN [a1] left)])
 |_=>none
theorem B9:ec 24 oc:=by
 intro _ _ _ h hp;dsimp only[oc,F0]at h;split at h<;>cases h
 rename_i a0 a1 left;obtain⟨w0,h0,h1⟩:=hp;refine cb Lf Tryz.func24 ?_
 exact agx
def oj:EC:=fun F=>fun
 |[.agg [.v (.int Za a0),.s 3 a1]]=>some (fun _=>Rw [tI,tI,tI] a1/\aQ [a1]<=1048576,[.agg [.i a0,.s 3 a1]])
 |_=>none
theorem Cf:ec 37 oj:=by
 intro _ _ _ h hp;dsimp only[oj,F0]at h;split at h<;>cases h
 rename_i a0 a1;obtain⟨w0,hlim⟩:=hp;simp only[aQ,Zj]at hlim;refine cb Lf Tryz.func37 ?_
 exact yt
def nW:EC:=fun F=>fun
 |[.agg [.v (.int Za a0),.s 3 a1],d]=>some (fun _=>d=.agg [.i a0,.s 3 a1]/\Rw [tI,tI,tI] a1/\aQ [a1]<=1099511627776,[.k true])
 |_=>none
theorem B3:ec 51 nW:=by
 intro _ _ _ h hp;dsimp only[nW,F0]at h;split at h<;>cases h
 rename_i a0 a1 d;obtain⟨rfl,w0,hlim⟩:=hp;simp only[aQ,Zj]at hlim;refine cb Lf Tryz.func51 ?_
 exact yt
def kZ:EM:=fun F=>fun
 |[.agg [.v (.int Za a0),.s 3 a1],.one (.v (.int Za k))]=>some (fun _=>Rw [tI,tI,tI] a1/\aQ [a1]<=1099511627776/\0<=k/\be [a1] k<=1152921504606846976,[.s 3 (F.mkN a1 k)],[.j (F.kN [a1] k)])
 |_=>none
theorem xE:em 60 kZ:=by
 intro _ _ _ _ h hp;dsimp only[kZ,F0]at h;split at h<;>cases h
 rename_i a0 a1 k;obtain⟨w0,hlim,hk0,hkb⟩:=hp;simp only[aQ,Zj]at hlim;have p0:be [a1] k<=be [a1] k/\0<=be [a1] k:=bJ (b:=[]) hk0;refine mb Q1 [(2,1)] Tryz.func60 ?_
 exact QM
def kU:EC:=fun F=>fun
 |[.agg [.v (.int Za m0),.s 3 m1],.one (.v (.int Za k))]=>some (fun _=>(∃ a1,m1=dY a1 k/\Rw [tI,tI,tI] a1/\ak a1<=1099511627776)/\0<=k/\be [m1] k<=1152921504606846976,[.j (F.kN [m1] k)])
 |_=>none
theorem xz:ec 69 kU:=by
 intro _ _ _ h hp;dsimp only[kU,F0]at h;split at h<;>cases h
 rename_i m0 m1 k;obtain⟨e0,hk0,hkb⟩:=hp;have p0:be [m1] k<=be [m1] k/\0<=be [m1] k:=bJ (b:=[]) hk0;refine cb Q1 Tryz.func69 ?_
 exact QK
abbrev Le:da:=ez (fun F f=>match f with|94=>hN F|108=>hP F|142=>hK F|_=>fun _=>none) (by
 intro f;dsimp only;split;exact nL;exact nM;exact nK;exact de)
abbrev Q0:da:={
 Φ:=rz
 F0:=F0
 ct:=fun F f=>match f with|159=>fS F|_=>fun _=>none
 hc:=(by
  intro f;dsimp only;split;exact kB;exact de)
 mt:=fun F f=>match f with|153=>some (fT F)|_=>none
 hm:=(by
  intro f mk h;dsimp only at h;split at h<;>cases h
  exact kC)}
def oa:EC:=fun F=>fun
 |[.agg [.v (.int Za a0),.v (.int Za a1),.s 1 a2],.one (.v (.int Za left))]=>some (fun _=>Rw [tI] a2/\0<=left/\left<=1048576,[.j (F.szN [a2] left)])
 |_=>none
theorem B8:ec 99 oa:=by
 intro _ _ _ h hp;dsimp only[oa,F0]at h;split at h<;>cases h
 rename_i a0 a1 a2 left;obtain⟨w0,h0,h1⟩:=hp;refine cb Le Tryz.func99 ?_
 exact agy
def oi:EC:=fun F=>fun
 |[.agg [.v (.int Za a0),.v (.int Za a1),.s 1 a2]]=>some (fun _=>Rw [tI] a2/\aQ [a2]<=1048576,[.agg [.i a0,.i a1,.s 1 a2]])
 |_=>none
theorem Cd:ec 117 oi:=by
 intro _ _ _ h hp;dsimp only[oi,F0]at h;split at h<;>cases h
 rename_i a0 a1 a2;obtain⟨w0,hlim⟩:=hp;simp only[aQ,Zj]at hlim;refine cb Le Tryz.func117 ?_
 exact yt
def nV:EC:=fun F=>fun
 |[.agg [.v (.int Za a0),.v (.int Za a1),.s 1 a2],d]=>some (fun _=>d=.agg [.i a0,.i a1,.s 1 a2]/\Rw [tI] a2/\aQ [a2]<=1099511627776,[.k true])
 |_=>none
theorem BZ:ec 151 nV:=by
 intro _ _ _ h hp;dsimp only[nV,F0]at h;split at h<;>cases h
 rename_i a0 a1 a2 d;obtain⟨rfl,w0,hlim⟩:=hp;simp only[aQ,Zj]at hlim;refine cb Le Tryz.func151 ?_
 exact yt
def kY:EM:=fun F=>fun
 |[.agg [.v (.int Za a0),.v (.int Za a1),.s 1 a2],.one (.v (.int Za k))]=>some (fun _=>Rw [tI] a2/\aQ [a2]<=1099511627776/\0<=k/\be [a2] k<=1152921504606846976,[.s 1 (F.mkN a2 k)],[.j (F.kN [a2] k)])
 |_=>none
theorem xD:em 157 kY:=by
 intro _ _ _ _ h hp;dsimp only[kY,F0]at h;split at h<;>cases h
 rename_i a0 a1 a2 k;obtain⟨w0,hlim,hk0,hkb⟩:=hp;simp only[aQ,Zj]at hlim;have p0:be [a2] k<=be [a2] k/\0<=be [a2] k:=bJ (b:=[]) hk0;refine mb Q0 [(2,2)] Tryz.func157 ?_
 exact QM
def kT:EC:=fun F=>fun
 |[.agg [.v (.int Za m0),.v (.int Za m1),.s 1 m2],.one (.v (.int Za k))]=>some (fun _=>(∃ a2,m2=dY a2 k/\Rw [tI] a2/\ak a2<=1099511627776)/\0<=k/\be [m2] k<=1152921504606846976,[.j (F.kN [m2] k)])
 |_=>none
theorem xy:ec 163 kT:=by
 intro _ _ _ h hp;dsimp only[kT,F0]at h;split at h<;>cases h
 rename_i m0 m1 m2 k;obtain⟨e0,hk0,hkb⟩:=hp;have p0:be [m2] k<=be [m2] k/\0<=be [m2] k:=bJ (b:=[]) hk0;refine cb Q0 Tryz.func163 ?_
 exact QK
abbrev TU:da:=ez (fun F f=>match f with|99=>oa F|117=>oi F|151=>nV F|_=>fun _=>none) (by
 intro f;dsimp only;split;exact B8;exact Cd;exact BZ;exact de)
abbrev acl:da:={
 Φ:=rz
 F0:=F0
 ct:=fun F f=>match f with|163=>kT F|_=>fun _=>none
 hc:=(by
  intro f;dsimp only;split;exact xy;exact de)
 mt:=fun F f=>match f with|157=>some (kY F)|_=>none
 hm:=(by
  intro f mk h;dsimp only at h;split at h<;>cases h
  exact xD)}
def pm:EC:=fun F=>fun
 |[.agg [.v (.int Za a0),.v (.int Za a1),.s 1 a2,.v (.int Za a3),.v (.int Za a4)],.one (.v (.int Za left))]=>some (fun _=>Rw [tI] a2/\0<=left/\left<=1048576,[.j (F.szN [a2] left)])
 |_=>none
theorem DT:ec 25 pm:=by
 intro _ _ _ h hp;dsimp only[pm,F0]at h;split at h<;>cases h
 rename_i a0 a1 a2 a3 a4 left;obtain⟨w0,h0,h1⟩:=hp;refine cb TU Tryz.func25 ?_
 exact agy
def po:EC:=fun F=>fun
 |[.agg [.v (.int Za a0),.v (.int Za a1),.s 1 a2,.v (.int Za a3),.v (.int Za a4)]]=>some (fun _=>Rw [tI] a2/\aQ [a2]<=1048576,[.agg [.i a0,.i a1,.s 1 a2,.i a3,.i a4]])
 |_=>none
theorem DU:ec 38 po:=by
 intro _ _ _ h hp;dsimp only[po,F0]at h;split at h<;>cases h
 rename_i a0 a1 a2 a3 a4;obtain⟨w0,hlim⟩:=hp;simp only[aQ,Zj]at hlim;refine cb TU Tryz.func38 ?_
 exact yt
def pj:EC:=fun F=>fun
 |[.agg [.v (.int Za a0),.v (.int Za a1),.s 1 a2,.v (.int Za a3),.v (.int Za a4)],d]=>some (fun _=>d=.agg [.i a0,.i a1,.s 1 a2,.i a3,.i a4]/\Rw [tI] a2/\aQ [a2]<=1099511627776,[.k true])
 |_=>none
theorem DO:ec 52 pj:=by
 intro _ _ _ h hp;dsimp only[pj,F0]at h;split at h<;>cases h
 rename_i a0 a1 a2 a3 a4 d;obtain⟨rfl,w0,hlim⟩:=hp;simp only[aQ,Zj]at hlim;refine cb TU Tryz.func52 ?_
 exact yt
def mB:EM:=fun F=>fun
 |[.agg [.v (.int Za a0),.v (.int Za a1),.s 1 a2,.v (.int Za a3),.v (.int Za a4)],.one (.v (.int Za k))]=>some (fun _=>Rw [tI] a2/\aQ [a2]<=1099511627776/\0<=k/\be [a2] k<=1152921504606846976,[.s 1 (F.mkN a2 k)],[.j (F.kN [a2] k)])
 |_=>none
theorem zB:em 61 mB:=by
 intro _ _ _ _ h hp;dsimp only[mB,F0]at h;split at h<;>cases h
 rename_i a0 a1 a2 a3 a4 k;obtain⟨w0,hlim,hk0,hkb⟩:=hp;simp only[aQ,Zj]at hlim;have p0:be [a2] k<=be [a2] k/\0<=be [a2] k:=bJ (b:=[]) hk0;refine mb acl [(2,2)] Tryz.func61 ?_
 exact QM
def mA:EC:=fun F=>fun
 |[.agg [.v (.int Za m0),.v (.int Za m1),.s 1 m2,.v (.int Za m3),.v (.int Za m4)],.one (.v (.int Za k))]=>some (fun _=>(∃ a2,m2=dY a2 k/\Rw [tI] a2/\ak a2<=1099511627776)/\0<=k/\be [m2] k<=1152921504606846976,[.j (F.kN [m2] k)])
 |_=>none
theorem zA:ec 70 mA:=by
 intro _ _ _ h hp;dsimp only[mA,F0]at h;split at h<;>cases h
 rename_i m0 m1 m2 m3 m4 k;obtain⟨e0,hk0,hkb⟩:=hp;have p0:be [m2] k<=be [m2] k/\0<=be [m2] k:=bJ (b:=[]) hk0;refine cb acl Tryz.func70 ?_
 exact QK
abbrev Lb:da:=ez (fun F f=>match f with|17=>lc F|30=>lq F|44=>kO F|18=>fD F|31=>fE F|45=>fA F|19=>cR F|32=>cS F|46=>cQ F|20=>cR F|33=>cS F|47=>cQ F|21=>nZ F|34=>oh F|48=>nU F|22=>k7 F|35=>li F|49=>kK F|23=>nY F|36=>oe F|50=>nT F|24=>oc F|37=>oj F|51=>nW F|25=>pm F|38=>po F|52=>pj F|_=>fun _=>none) (by
 intro f;dsimp only;split;exact xI;exact xQ;exact xo;exact xL;exact xT;exact xr;exact zF;exact zO;exact zx;exact xJ;exact xR;exact xp;exact B7;exact Cc;exact BX;exact xF;exact xN;exact xj;exact B6;exact Cb;exact BW;exact B9;exact Cf;exact B3;exact DT;exact DU;exact DO;exact de)
abbrev QY:da:={
 Φ:=rz
 F0:=F0
 ct:=fun F f=>match f with|62=>iW F|63=>eh F|64=>cy F|65=>cy F|66=>kS F|67=>iT F|68=>kR F|69=>kU F|70=>mA F|_=>fun _=>none
 hc:=(by
  intro f;dsimp only;split;exact tC;exact tF;exact ve;exact tD;exact xx;exact tx;exact xv;exact xz;exact zA;exact de)
 mt:=fun F f=>match f with|53=>some (jc F)|54=>some (er F)|55=>some (cz F)|56=>some (cz F)|57=>some (kX F)|58=>some (iY F)|59=>some (kW F)|60=>some (kZ F)|61=>some (mB F)|_=>none
 hm:=(by
  intro f mk h;dsimp only at h;split at h<;>cases h
  exact tL;exact tO;exact vj;exact tM;exact xC;exact tH;exact xB;exact xE;exact zB)}
def nX:EC:=fun F=>fun
 |[.agg hl_,.one (.v (.int Za left))]=>hL hl_ fun a0 a1 a2 a3 a4 a5 a6 a7 a8 a9 aA aB aC aD aE aF aG aH aI aJ aK aL aM aN=>(fun _=>Rw [.sl [tI]] a0/\Rw [tB] a1/\Rw [tI,tI] a2/\Rw [tI] a4/\Rw [tI,tI] a5/\Rw [tI,tI,tI] a6/\Rw [tI,tI,tI] a7/\Rw [tI,tI,tI,tI] a8/\Rw [.sl [.sl [tI]]] a9/\Rw [.sl [tI,tI]] aA/\Rw [.sl [tI]] aB/\Rw [tI,tI,tI] aD/\Rw [tI] aL/\0<=left/\left<=1048576,[.j (F.szN [a0,a1,a2,a4,a5,a6,a7,a8,a9,aA,aB,aD,aL] left)])
 |_=>none
theorem B5:ec 6 nX:=by
 intro _ _ _ h hp;dsimp only[nX,F0,hL]at h;split at h;rotate_left;cases h;split at h<;>cases h
 rename_i left _ a0 a1 a2 a3 a4 a5 a6 a7 a8 a9 aA aB aC aD aE aF aG aH aI aJ aK aL aM aN;obtain⟨w0,w1,w2,w3,w4,w5,w6,w7,w8,w9,w10,w11,w12,h0,h1⟩:=hp;refine cb Lb Tryz.func6 ?_
 intro O r F hO hr hF;cbv
 repeat' first|apply Zb|(apply bF<;>intro hb<;>cbv)
 all_goals(subst hO hr hF;(try simp only[nc]at*);(try simp only[ah,SS,sa,az]at*))
 all_goals iterate 13 (try simp(disch:=assumption) only[nG,ZN,ZI]at*)
 all_goals first|trivial|(refine⟨by assumption,by omega,by first|omega|exact XB (Bi (by assumption)) h1⟩)|(refine⟨by assumption,by assumption,by omega,by first|omega|exact XB (Bi (by assumption)) h1⟩)|(rw[mX (by assumption)])|exact congrArg (fun x=>[DV.one (L.v (Zi Zp x))]) (gK (a:=[a0,a1,a2,a4]) (b:=[a5,a6,a7,a8,a9,aA,aB,aD,aL]) (by assumption)).symm|exact congrArg (fun x=>[DV.one (L.v (Zi Zp x))]) (gK (a:=[a0,a1,a2,a4,a5]) (b:=[a6,a7,a8,a9,aA,aB,aD,aL]) (by assumption)).symm|exact congrArg (fun x=>[DV.one (L.v (Zi Zp x))]) (gK (a:=[a0,a1,a2,a4,a5,a6]) (b:=[a7,a8,a9,aA,aB,aD,aL]) (by assumption)).symm|exact congrArg (fun x=>[DV.one (L.v (Zi Zp x))]) (gK (a:=[a0,a1,a2,a4,a5,a6,a7]) (b:=[a8,a9,aA,aB,aD,aL]) (by assumption)).symm|exact congrArg (fun x=>[DV.one (L.v (Zi Zp x))]) (gK (a:=[a0,a1,a2,a4,a5,a6,a7,a8]) (b:=[a9,aA,aB,aD,aL]) (by assumption)).symm|exact congrArg (fun x=>[DV.one (L.v (Zi Zp x))]) (gK (a:=[a0,a1,a2,a4,a5,a6,a7,a8,a9]) (b:=[aA,aB,aD,aL]) (by assumption)).symm|exact congrArg (fun x=>[DV.one (L.v (Zi Zp x))]) (gK (a:=[a0,a1,a2,a4,a5,a6,a7,a8,a9,aA,aB]) (b:=[aD,aL]) (by assumption)).symm|exact congrArg (fun x=>[DV.one (L.v (Zi Zp x))]) (gK (a:=[a0,a1,a2,a4,a5,a6,a7,a8,a9,aA,aB,aD]) (b:=[aL]) (by assumption)).symm|trace_state
def od:EC:=fun F=>fun
 |[.agg hl_]=>hL hl_ fun a0 a1 a2 a3 a4 a5 a6 a7 a8 a9 aA aB aC aD aE aF aG aH aI aJ aK aL aM aN=>(fun _=>Rw [.sl [tI]] a0/\Rw [tB] a1/\Rw [tI,tI] a2/\Rw [tI] a4/\Rw [tI,tI] a5/\Rw [tI,tI,tI] a6/\Rw [tI,tI,tI] a7/\Rw [tI,tI,tI,tI] a8/\Rw [.sl [.sl [tI]]] a9/\Rw [.sl [tI,tI]] aA/\Rw [.sl [tI]] aB/\Rw [tI,tI,tI] aD/\Rw [tI] aL/\aQ [a0,a1,a2,a4,a5,a6,a7,a8,a9,aA,aB,aD,aL]<=1048576,[.agg (hpL a0 a1 a2 a3 a4 a5 a6 a7 a8 a9 aA aB aC aD aE aF aG aH aI aJ aK aL aM aN)])
 |_=>none
theorem Ca:ec 8 od:=by
 intro _ _ _ h hp;dsimp only[od,F0,hL]at h;split at h;rotate_left;cases h;split at h<;>cases h
 rename_i a0 a1 a2 a3 a4 a5 a6 a7 a8 a9 aA aB aC aD aE aF aG aH aI aJ aK aL aM aN;obtain⟨w0,w1,w2,w3,w4,w5,w6,w7,w8,w9,w10,w11,w12,hlim⟩:=hp;simp only[aQ,Zj]at hlim;refine cb Lb Tryz.func8 ?_
 intro O r F hO hr hF;cbv
 repeat' first|apply Zb|(apply bF<;>intro hb<;>cbv)
 all_goals(subst hO hr hF;(try simp only[nc]at*);(try simp only[ah,SS,sa,az]at*))
 all_goals first|trivial|(refine⟨by assumption,?_⟩;(try simp only[aQ,Zj]);omega)|(refine⟨by assumption,by assumption,?_⟩;(try simp only[aQ,Zj]);omega)|(refine⟨by assumption,by assumption,by assumption,by assumption,?_⟩;(try simp only[aQ,Zj]);omega)|trace_state
def nS:EC:=fun F=>fun
 |[.agg hl_,d]=>hL hl_ fun a0 a1 a2 a3 a4 a5 a6 a7 a8 a9 aA aB aC aD aE aF aG aH aI aJ aK aL aM aN=>(fun _=>d=.agg (hpL a0 a1 a2 a3 a4 a5 a6 a7 a8 a9 aA aB aC aD aE aF aG aH aI aJ aK aL aM aN)/\Rw [.sl [tI]] a0/\Rw [tB] a1/\Rw [tI,tI] a2/\Rw [tI] a4/\Rw [tI,tI] a5/\Rw [tI,tI,tI] a6/\Rw [tI,tI,tI] a7/\Rw [tI,tI,tI,tI] a8/\Rw [.sl [.sl [tI]]] a9/\Rw [.sl [tI,tI]] aA/\Rw [.sl [tI]] aB/\Rw [tI,tI,tI] aD/\Rw [tI] aL/\aQ [a0,a1,a2,a4,a5,a6,a7,a8,a9,aA,aB,aD,aL]<=1099511627776,[.k true])
 |_=>none
theorem BV:ec 10 nS:=by
 intro _ _ _ h hp;dsimp only[nS,F0,hL]at h;split at h;rotate_left;cases h;split at h<;>cases h
 rename_i d _ a0 a1 a2 a3 a4 a5 a6 a7 a8 a9 aA aB aC aD aE aF aG aH aI aJ aK aL aM aN;obtain⟨rfl,w0,w1,w2,w3,w4,w5,w6,w7,w8,w9,w10,w11,w12,hlim⟩:=hp;simp only[aQ,Zj]at hlim;refine cb Lb Tryz.func10 ?_
 intro O r F hO hr hF;cbv
 repeat' first|apply Zb|(apply bF<;>intro hb<;>cbv)
 all_goals(subst hO hr hF;(try simp only[nc]at*);(try simp only[ah,SS,sa,az]at*))
 all_goals first|trivial|(refine⟨trivial,by assumption,?_⟩;(try simp only[aQ,Zj]);omega)|(refine⟨trivial,by assumption,by assumption,?_⟩;(try simp only[aQ,Zj]);omega)|(refine⟨trivial,by assumption,by assumption,by assumption,by assumption,?_⟩;(try simp only[aQ,Zj]);omega)|trace_state
def kV:EM:=fun F=>fun
 |[.agg hl_,.one (.v (.int Za k))]=>hL hl_ fun a0 a1 a2 a3 a4 a5 a6 a7 a8 a9 aA aB aC aD aE aF aG aH aI aJ aK aL aM aN=>(fun _=>Rw [.sl [tI]] a0/\Rw [tB] a1/\Rw [tI,tI] a2/\Rw [tI] a4/\Rw [tI,tI] a5/\Rw [tI,tI,tI] a6/\Rw [tI,tI,tI] a7/\Rw [tI,tI,tI,tI] a8/\Rw [.sl [.sl [tI]]] a9/\Rw [.sl [tI,tI]] aA/\Rw [.sl [tI]] aB/\Rw [tI,tI,tI] aD/\Rw [tI] aL/\aQ [a0,a1,a2,a4,a5,a6,a7,a8,a9,aA,aB,aD,aL]<=1099511627776/\0<=k/\be [a0,a1,a2,a4,a5,a6,a7,a8,a9,aA,aB,aD,aL] k<=1152921504606846976,[.s 1 (F.mkN a0 k),.s 1 (F.mkN a1 (F.kN [a0] k)),.s 2 (F.mkN a2 (F.kN [a0,a1] k)),.s 1 (F.mkN a4 (F.kN [a0,a1,a2] k)),.s 2 (F.mkN a5 (F.kN [a0,a1,a2,a4] k)),.s 3 (F.mkN a6 (F.kN [a0,a1,a2,a4,a5] k)),.s 3 (F.mkN a7 (F.kN [a0,a1,a2,a4,a5,a6] k)),.s 4 (F.mkN a8 (F.kN [a0,a1,a2,a4,a5,a6,a7] k)),.s 1 (F.mkN a9 (F.kN [a0,a1,a2,a4,a5,a6,a7,a8] k)),.s 1 (F.mkN aA (F.kN [a0,a1,a2,a4,a5,a6,a7,a8,a9] k)),.s 1 (F.mkN aB (F.kN [a0,a1,a2,a4,a5,a6,a7,a8,a9,aA] k)),.s 3 (F.mkN aD (F.kN [a0,a1,a2,a4,a5,a6,a7,a8,a9,aA,aB] k)),.s 1 (F.mkN aL (F.kN [a0,a1,a2,a4,a5,a6,a7,a8,a9,aA,aB,aD] k))],[.j (F.kN [a0,a1,a2,a4,a5,a6,a7,a8,a9,aA,aB,aD,aL] k)])
 |_=>none
theorem xA:em 11 kV:=by
 intro _ _ _ _ h hp;dsimp only[kV,F0,hL]at h;split at h;rotate_left;cases h;split at h<;>cases h
 rename_i k _ a0 a1 a2 a3 a4 a5 a6 a7 a8 a9 aA aB aC aD aE aF aG aH aI aJ aK aL aM aN;obtain⟨w0,w1,w2,w3,w4,w5,w6,w7,w8,w9,w10,w11,w12,hlim,hk0,hkb⟩:=hp;simp only[aQ,Zj]at hlim;have p0:be [a0] k<=be [a0,a1,a2,a4,a5,a6,a7,a8,a9,aA,aB,aD,aL] k/\0<=be [a0] k:=bJ (b:=[a1,a2,a4,a5,a6,a7,a8,a9,aA,aB,aD,aL]) hk0;have p1:be [a0,a1] k<=be [a0,a1,a2,a4,a5,a6,a7,a8,a9,aA,aB,aD,aL] k/\0<=be [a0,a1] k:=bJ (b:=[a2,a4,a5,a6,a7,a8,a9,aA,aB,aD,aL]) hk0;have p2:be [a0,a1,a2] k<=be [a0,a1,a2,a4,a5,a6,a7,a8,a9,aA,aB,aD,aL] k/\0<=be [a0,a1,a2] k:=bJ (b:=[a4,a5,a6,a7,a8,a9,aA,aB,aD,aL]) hk0;have p3:be [a0,a1,a2,a4] k<=be [a0,a1,a2,a4,a5,a6,a7,a8,a9,aA,aB,aD,aL] k/\0<=be [a0,a1,a2,a4] k:=bJ (b:=[a5,a6,a7,a8,a9,aA,aB,aD,aL]) hk0;have p4:be [a0,a1,a2,a4,a5] k<=be [a0,a1,a2,a4,a5,a6,a7,a8,a9,aA,aB,aD,aL] k/\0<=be [a0,a1,a2,a4,a5] k:=bJ (b:=[a6,a7,a8,a9,aA,aB,aD,aL]) hk0;have p5:be [a0,a1,a2,a4,a5,a6] k<=be [a0,a1,a2,a4,a5,a6,a7,a8,a9,aA,aB,aD,aL] k/\0<=be [a0,a1,a2,a4,a5,a6] k:=bJ (b:=[a7,a8,a9,aA,aB,aD,aL]) hk0;have p6:be [a0,a1,a2,a4,a5,a6,a7] k<=be [a0,a1,a2,a4,a5,a6,a7,a8,a9,aA,aB,aD,aL] k/\0<=be [a0,a1,a2,a4,a5,a6,a7] k:=bJ (b:=[a8,a9,aA,aB,aD,aL]) hk0;have p7:be [a0,a1,a2,a4,a5,a6,a7,a8] k<=be [a0,a1,a2,a4,a5,a6,a7,a8,a9,aA,aB,aD,aL] k/\0<=be [a0,a1,a2,a4,a5,a6,a7,a8] k:=bJ (b:=[a9,aA,aB,aD,aL]) hk0;have p8:be [a0,a1,a2,a4,a5,a6,a7,a8,a9] k<=be [a0,a1,a2,a4,a5,a6,a7,a8,a9,aA,aB,aD,aL] k/\0<=be [a0,a1,a2,a4,a5,a6,a7,a8,a9] k:=bJ (b:=[aA,aB,aD,aL]) hk0;have p9:be [a0,a1,a2,a4,a5,a6,a7,a8,a9,aA] k<=be [a0,a1,a2,a4,a5,a6,a7,a8,a9,aA,aB,aD,aL] k/\0<=be [a0,a1,a2,a4,a5,a6,a7,a8,a9,aA] k:=bJ (b:=[aB,aD,aL]) hk0;have p10:be [a0,a1,a2,a4,a5,a6,a7,a8,a9,aA,aB] k<=be [a0,a1,a2,a4,a5,a6,a7,a8,a9,aA,aB,aD,aL] k/\0<=be [a0,a1,a2,a4,a5,a6,a7,a8,a9,aA,aB] k:=bJ (b:=[aD,aL]) hk0;have p11:be [a0,a1,a2,a4,a5,a6,a7,a8,a9,aA,aB,aD] k<=be [a0,a1,a2,a4,a5,a6,a7,a8,a9,aA,aB,aD,aL] k/\0<=be [a0,a1,a2,a4,a5,a6,a7,a8,a9,aA,aB,aD] k:=bJ (b:=[aL]) hk0;have p12:be [a0,a1,a2,a4,a5,a6,a7,a8,a9,aA,aB,aD,aL] k<=be [a0,a1,a2,a4,a5,a6,a7,a8,a9,aA,aB,aD,aL] k/\0<=be [a0,a1,a2,a4,a5,a6,a7,a8,a9,aA,aB,aD,aL] k:=bJ (b:=[]) hk0;refine mb QY [(2,0),(2,1),(2,2),(2,4),(2,5),(2,6),(2,7),(2,8),(2,9),(2,10),(2,11),(2,13),(2,21)] Tryz.func11 ?_
 intro O r os F hO hr hos hF;cbv
 repeat' first|apply Zb|(apply bF<;>intro hb<;>cbv)
 all_goals((try subst hos);subst hO hr hF;(try simp only[nc]at*);(try simp only[ah,SS,sa,az]at*);(try simp only[jU,ZN,ZI,cF]at*))
 all_goals first|trivial|(refine⟨by assumption,?_,?_,?_⟩<;>(try simp only[jU,ZN,ZI,aQ,Zj])<;>omega)|(refine⟨by assumption,by assumption,?_,?_,?_⟩<;>(try simp only[jU,ZN,ZI,aQ,Zj])<;>omega)|trace_state
def kQ:EC:=fun F=>fun
 |[.agg [.s 1 m0,.s 1 m1,.s 2 m2,.v (.int Za m3),.s 1 m4,.s 2 m5,.s 3 m6,.s 3 m7,.s 4 m8,.s 1 m9,.s 1 m10,.s 1 m11,.v (.int Za m12),.s 3 m13,.v (.int Za m14),.v (.int Za m15),.v (.int Za m16),.v (.int Za m17),.v (.bool m18),.v (.int Za m19),.v (.int Za m20),.s 1 m21,.v (.int Za m22),.v (.int Za m23)],.one (.v (.int Za k))]=>some (fun _=>(∃ a0,m0=dY a0 k/\Rw [.sl [tI]] a0/\ak a0<=1099511627776)/\(∃ a1,m1=dY a1 (be [m0] k)/\Rw [tB] a1/\ak a1<=1099511627776)/\(∃ a2,m2=dY a2 (be [m0,m1] k)/\Rw [tI,tI] a2/\ak a2<=1099511627776)/\(∃ a4,m4=dY a4 (be [m0,m1,m2] k)/\Rw [tI] a4/\ak a4<=1099511627776)/\(∃ a5,m5=dY a5 (be [m0,m1,m2,m4] k)/\Rw [tI,tI] a5/\ak a5<=1099511627776)/\(∃ a6,m6=dY a6 (be [m0,m1,m2,m4,m5] k)/\Rw [tI,tI,tI] a6/\ak a6<=1099511627776)/\(∃ a7,m7=dY a7 (be [m0,m1,m2,m4,m5,m6] k)/\Rw [tI,tI,tI] a7/\ak a7<=1099511627776)/\(∃ a8,m8=dY a8 (be [m0,m1,m2,m4,m5,m6,m7] k)/\Rw [tI,tI,tI,tI] a8/\ak a8<=1099511627776)/\(∃ a9,m9=dY a9 (be [m0,m1,m2,m4,m5,m6,m7,m8] k)/\Rw [.sl [.sl [tI]]] a9/\ak a9<=1099511627776)/\(∃ aA,m10=dY aA (be [m0,m1,m2,m4,m5,m6,m7,m8,m9] k)/\Rw [.sl [tI,tI]] aA/\ak aA<=1099511627776)/\(∃ aB,m11=dY aB (be [m0,m1,m2,m4,m5,m6,m7,m8,m9,m10] k)/\Rw [.sl [tI]] aB/\ak aB<=1099511627776)/\(∃ aD,m13=dY aD (be [m0,m1,m2,m4,m5,m6,m7,m8,m9,m10,m11] k)/\Rw [tI,tI,tI] aD/\ak aD<=1099511627776)/\(∃ aL,m21=dY aL (be [m0,m1,m2,m4,m5,m6,m7,m8,m9,m10,m11,m13] k)/\Rw [tI] aL/\ak aL<=1099511627776)/\0<=k/\be [m0,m1,m2,m4,m5,m6,m7,m8,m9,m10,m11,m13,m21] k<=1152921504606846976,[.j (F.kN [m0,m1,m2,m4,m5,m6,m7,m8,m9,m10,m11,m13,m21] k)])
 |_=>none
theorem xu:ec 12 kQ:=by
 intro _ _ _ h hp;dsimp only[kQ,F0]at h;split at h<;>cases h
 rename_i m0 m1 m2 m3 m4 m5 m6 m7 m8 m9 m10 m11 m12 m13 m14 m15 m16 m17 m18 m19 m20 m21 m22 m23 k;obtain⟨e0,e1,e2,e3,e4,e5,e6,e7,e8,e9,e10,e11,e12,hk0,hkb⟩:=hp;have p0:be [m0] k<=be [m0,m1,m2,m4,m5,m6,m7,m8,m9,m10,m11,m13,m21] k/\0<=be [m0] k:=bJ (b:=[m1,m2,m4,m5,m6,m7,m8,m9,m10,m11,m13,m21]) hk0;have p1:be [m0,m1] k<=be [m0,m1,m2,m4,m5,m6,m7,m8,m9,m10,m11,m13,m21] k/\0<=be [m0,m1] k:=bJ (b:=[m2,m4,m5,m6,m7,m8,m9,m10,m11,m13,m21]) hk0;have p2:be [m0,m1,m2] k<=be [m0,m1,m2,m4,m5,m6,m7,m8,m9,m10,m11,m13,m21] k/\0<=be [m0,m1,m2] k:=bJ (b:=[m4,m5,m6,m7,m8,m9,m10,m11,m13,m21]) hk0;have p3:be [m0,m1,m2,m4] k<=be [m0,m1,m2,m4,m5,m6,m7,m8,m9,m10,m11,m13,m21] k/\0<=be [m0,m1,m2,m4] k:=bJ (b:=[m5,m6,m7,m8,m9,m10,m11,m13,m21]) hk0;have p4:be [m0,m1,m2,m4,m5] k<=be [m0,m1,m2,m4,m5,m6,m7,m8,m9,m10,m11,m13,m21] k/\0<=be [m0,m1,m2,m4,m5] k:=bJ (b:=[m6,m7,m8,m9,m10,m11,m13,m21]) hk0;have p5:be [m0,m1,m2,m4,m5,m6] k<=be [m0,m1,m2,m4,m5,m6,m7,m8,m9,m10,m11,m13,m21] k/\0<=be [m0,m1,m2,m4,m5,m6] k:=bJ (b:=[m7,m8,m9,m10,m11,m13,m21]) hk0;have p6:be [m0,m1,m2,m4,m5,m6,m7] k<=be [m0,m1,m2,m4,m5,m6,m7,m8,m9,m10,m11,m13,m21] k/\0<=be [m0,m1,m2,m4,m5,m6,m7] k:=bJ (b:=[m8,m9,m10,m11,m13,m21]) hk0;have p7:be [m0,m1,m2,m4,m5,m6,m7,m8] k<=be [m0,m1,m2,m4,m5,m6,m7,m8,m9,m10,m11,m13,m21] k/\0<=be [m0,m1,m2,m4,m5,m6,m7,m8] k:=bJ (b:=[m9,m10,m11,m13,m21]) hk0;have p8:be [m0,m1,m2,m4,m5,m6,m7,m8,m9] k<=be [m0,m1,m2,m4,m5,m6,m7,m8,m9,m10,m11,m13,m21] k/\0<=be [m0,m1,m2,m4,m5,m6,m7,m8,m9] k:=bJ (b:=[m10,m11,m13,m21]) hk0;have p9:be [m0,m1,m2,m4,m5,m6,m7,m8,m9,m10] k<=be [m0,m1,m2,m4,m5,m6,m7,m8,m9,m10,m11,m13,m21] k/\0<=be [m0,m1,m2,m4,m5,m6,m7,m8,m9,m10] k:=bJ (b:=[m11,m13,m21]) hk0;have p10:be [m0,m1,m2,m4,m5,m6,m7,m8,m9,m10,m11] k<=be [m0,m1,m2,m4,m5,m6,m7,m8,m9,m10,m11,m13,m21] k/\0<=be [m0,m1,m2,m4,m5,m6,m7,m8,m9,m10,m11] k:=bJ (b:=[m13,m21]) hk0;have p11:be [m0,m1,m2,m4,m5,m6,m7,m8,m9,m10,m11,m13] k<=be [m0,m1,m2,m4,m5,m6,m7,m8,m9,m10,m11,m13,m21] k/\0<=be [m0,m1,m2,m4,m5,m6,m7,m8,m9,m10,m11,m13] k:=bJ (b:=[m21]) hk0;have p12:be [m0,m1,m2,m4,m5,m6,m7,m8,m9,m10,m11,m13,m21] k<=be [m0,m1,m2,m4,m5,m6,m7,m8,m9,m10,m11,m13,m21] k/\0<=be [m0,m1,m2,m4,m5,m6,m7,m8,m9,m10,m11,m13,m21] k:=bJ (b:=[]) hk0;refine cb QY Tryz.func12 ?_
 intro O r F hO hr hF;cbv
 repeat' first|apply Zb|(apply bF<;>intro hb<;>cbv)
 all_goals(subst hO hr hF;(try simp only[nc]at*);(try simp only[ah,SS,sa,az]at*);(try simp only[jU,ZN,ZI]at*))
 all_goals first|trivial|(exfalso;omega)|(obtain⟨x,y1,y2,y3⟩:=e0;exact⟨x,y1,y2,y3,by omega,by omega⟩)|(obtain⟨x,y1,y2,y3⟩:=e1;exact⟨x,y1,y2,y3,by omega,by omega⟩)|(obtain⟨x,y1,y2,y3⟩:=e2;exact⟨x,y1,y2,y3,by omega,by omega⟩)|(obtain⟨x,y1,y2,y3⟩:=e3;exact⟨x,y1,y2,y3,by omega,by omega⟩)|(obtain⟨x,y1,y2,y3⟩:=e4;exact⟨x,y1,y2,y3,by omega,by omega⟩)|(obtain⟨x,y1,y2,y3⟩:=e5;exact⟨x,y1,y2,y3,by omega,by omega⟩)|(obtain⟨x,y1,y2,y3⟩:=e6;exact⟨x,y1,y2,y3,by omega,by omega⟩)|(obtain⟨x,y1,y2,y3⟩:=e7;exact⟨x,y1,y2,y3,by omega,by omega⟩)|(obtain⟨x,y1,y2,y3⟩:=e8;exact⟨x,y1,y2,y3,by omega,by omega⟩)|(obtain⟨x,y1,y2,y3⟩:=e9;exact⟨x,y1,y2,y3,by omega,by omega⟩)|(obtain⟨x,y1,y2,y3⟩:=e10;exact⟨x,y1,y2,y3,by omega,by omega⟩)|(obtain⟨x,y1,y2,y3⟩:=e11;exact⟨x,y1,y2,y3,by omega,by omega⟩)|(obtain⟨x,y1,y2,y3⟩:=e12;exact⟨x,y1,y2,y3,by omega,by omega⟩)|(refine⟨by assumption,by omega,by omega⟩)|(refine⟨by assumption,by assumption,by omega,by omega⟩)|(refine⟨by assumption,by assumption,by assumption,by omega,by omega⟩)|(refine⟨by assumption,by assumption,by assumption,by assumption,by omega,by omega⟩)|(refine⟨by assumption,by assumption,by assumption,by assumption,by assumption,by omega,by omega⟩)|(refine⟨by assumption,by assumption,by assumption,by assumption,by assumption,by assumption,by omega,by omega⟩)|(refine⟨by assumption,by assumption,by assumption,by assumption,by assumption,by assumption,by assumption,by omega,by omega⟩)|(refine⟨by assumption,by assumption,by assumption,by assumption,by assumption,by assumption,by assumption,by assumption,by omega,by omega⟩)|(refine⟨by assumption,by assumption,by assumption,by assumption,by assumption,by assumption,by assumption,by assumption,by assumption,by omega,by omega⟩)|(refine⟨by assumption,by assumption,by assumption,by assumption,by assumption,by assumption,by assumption,by assumption,by assumption,by assumption,by omega,by omega⟩)|(refine⟨by assumption,by assumption,by assumption,by assumption,by assumption,by assumption,by assumption,by assumption,by assumption,by assumption,by assumption,by omega,by omega⟩)|(refine⟨by assumption,by assumption,by assumption,by assumption,by assumption,by assumption,by assumption,by assumption,by assumption,by assumption,by assumption,by assumption,by omega,by omega⟩)|(refine⟨by assumption,by assumption,by assumption,by assumption,by assumption,by assumption,by assumption,by assumption,by assumption,by assumption,by assumption,by assumption,by assumption,by omega,by omega⟩)|trace_state
end Go.V
