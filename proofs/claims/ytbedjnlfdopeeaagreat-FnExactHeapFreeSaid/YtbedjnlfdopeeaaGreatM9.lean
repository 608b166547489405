/- Contracts. -/
import Derived.Test.YtbedjnlfdopeeaaGreatM2
set_option linter.all false
open Go
open And renaming intro->Zb
open Int renaming toNat_natCast->Zy,le_trans->XB
open IntKind renaming i64->Zp,i64->Za
open List renaming length_replicate->Yn,nil_append->ZI,cons_append->ZN
open List.cons renaming injEq->Yk
open Nat renaming zero_le->Zg,add_zero->Zj,zero_add->ZB,le_refl->Zd
open Value renaming int->Zi
open Value.bool renaming injEq->Yr
open Value.int renaming injEq->Yq
namespace Go.V
open Go Go.Proofs
set_option maxRecDepth 1000000
set_option maxHeartbeats 8000000
def iV:EC:=fun F=>fun
 |[.agg [.s 1 m0,.s 1 m1],.one (.v (.int Za k))]=>some (fun _=>(∃ a0,m0=dY a0 k/\Rw [.sl [tI]] a0/\ak a0<=1099511627776)/\(∃ a1,m1=dY a1 (be [m0] k)/\Rw [tB] a1/\ak a1<=1099511627776)/\0<=k/\be [m0,m1] k<=1152921504606846976,[.j (F.kN [m0,m1] k)])
 |_=>none
theorem tA:ec 254 iV:=by
 intro _ _ _ h hp;dsimp only[iV,F0]at h;split at h<;>cases h
 rename_i m0 m1 k;obtain⟨e0,e1,hk0,hkb⟩:=hp;have p0:be [m0] k<=be [m0,m1] k/\0<=be [m0] k:=bJ (b:=[m1]) hk0;have p1:be [m0,m1] k<=be [m0,m1] k/\0<=be [m0,m1] k:=bJ (b:=[]) hk0;refine cb IR Tryz.func254 ?_
 exact agm
def mH:EC:=fun F=>fun
 |[.agg [.v (.int Za a0),.v (.int Za a1)]]=>some (fun _=>True,[.agg [.i a0,.i a1]])
 |_=>none
theorem zJ:ec 359 mH:=by
 intro _ _ _ h hp;dsimp only[mH,F0]at h;split at h<;>cases h
 rename_i a0 a1;refine cb nB Tryz.func359 ?_
 exact yt
def my:EC:=fun F=>fun
 |[.agg [.v (.int Za a0),.v (.int Za a1)],d]=>some (fun _=>d=.agg [.i a0,.i a1],[.k true])
 |_=>none
theorem zq:ec 363 my:=by
 intro _ _ _ h hp;dsimp only[my,F0]at h;split at h<;>cases h
 rename_i a0 a1 d;subst hp;refine cb nB Tryz.func363 ?_
 exact yt
abbrev Dv:da:=ez (fun F f=>match f with|359=>mH F|363=>my F|_=>fun _=>none) (by
 intro f;dsimp only;split;exact zJ;exact zq;exact de)
def k8:EC:=fun F=>fun
 |[.one (.s 2 es),.one (.v (.int Za left))]=>some (fun _=>Rw [tI,tI] es/\0<=left/\left<=1048576,[.j (F.szN [es] left)])
 |_=>none
theorem xG:ec 302 k8:=by
 intro _ _ _ h hp;dsimp only[k8,F0]at h;split at h<;>cases h
 rename_i es left;obtain⟨hw,h0,h1⟩:=hp;have hc:ak es=es.length:=hw.cnt rfl;have hm:=hw.1;unfold maxLen at hm;have hs:bO .sub Za left es.length=left-es.length:=dG (by omega);have hn:dV [es] left=if left<es.length then-1 else left-es.length:=by unfold dV;rw[eH,hc]
 refine cb Dv Tryz.func302 ?_
 exact QN
def lm:EC:=fun F=>fun
 |[.one (.s 2 es)]=>some (fun _=>Rw [tI,tI] es/\ak es<=1048576,[.one (.s 2 es)])
 |_=>none
theorem xO:ec 308 lm:=by
 intro _ _ _ h hp;dsimp only[lm,F0]at h;split at h<;>cases h
 rename_i es;obtain⟨hw,hlim⟩:=hp;have hwf:Wf [.i 0,.i 0] es:=hw.wf;have hlen:=ew hlim;refine cb Dv Tryz.func308 ?_
 intro O r F hO hr hF;cbv
 have h0z:cE es [.i 0,.i 0] 0=O.rep (O.zi (O.ln es)) [.i 0,.i 0]:=by
  subst hO;rw[dU];rfl
 refine⟨?_,?_,[0,3,4],[3],Int×aa,fun s=>[.reg 4 (.j s.1),.leaf 3 0 ⟨0,0,none,.own (.s 2 s.2)⟩],fun s=>0<=s.1/\s.1.toNat<=es.length/\s.2=cE es [.i 0,.i 0] s.1.toNat,fun s=>es.length-s.1.toNat,⟨(0,O.rep (O.zi (O.ln es)) [.i 0,.i 0]),?_,?_⟩,?_⟩
 ·subst hO;exact qi (b:=16) (show es.length*_<=_ by omega) (show es.length<=_ by omega)
 ·subst hO;exact⟨rfl,rfl⟩
 ·exact⟨by omega,Zg _,h0z.symm⟩
 ·cbv
 ·rintro⟨i,m⟩ hi;replace hi:0<=i/\i.toNat<=es.length/\m=cE es [.i 0,.i 0] i.toNat:=hi;obtain⟨g0,g1,hm⟩:=hi;cbv
  repeat' first|apply Zb|(apply bF<;>intro hb<;>cbv)|(refine ag (O.ar .add Za i 1,O.up (.s 2 m) [(O.ad 0 i,0)] [.i (O.gi es i 0),.i (O.gi es i 1)]) ?_ ?_ ?_;focus (cbv;done))
  all_goals(subst hO hr hF;(try simp only[nc]at*);(try simp only[ah,SS,sa,az]at*);(try simp only[pI,Yn,Zy]at*);(try have hlt:i<es.length:=by assumption);(try have he:es.getD i.toNat []=[.i (ab es i 0),.i (ab es i 1)]:=(ao hwf g0 hlt).symm))
  all_goals exact QL
def kL:EC:=fun F=>fun
 |[.one (.s 2 es),d]=>some (fun _=>d=.one (.s 2 es)/\Rw [tI,tI] es/\ak es<=1099511627776,[.k true])
 |_=>none
theorem xk:ec 323 kL:=by
 intro _ _ _ h hp;dsimp only[kL,F0]at h;split at h<;>cases h
 rename_i es d;obtain⟨rfl,hw,hlim⟩:=hp;have hwf:Wf [.i 0,.i 0] es:=hw.wf;have hlen:=ew hlim;refine cb Dv Tryz.func323 ?_
 intro O r F hO hr hF;cbv
 apply bF<;>intro hb<;>cbv
 ·(subst hO hr hF;(try simp only[nc]at*);(try simp only[ah,SS,sa,az]at*));exact absurd rfl hb
 ·clear hb;refine⟨[0,1,5],[],Int,fun i=>[.reg 5 (.j i)],fun i=>0<=i/\i.toNat<=es.length,fun i=>es.length-i.toNat,⟨0,?_,?_⟩,?_⟩;exact⟨by omega,Zg _⟩
  ·cbv
  ·rintro i hi;replace hi:0<=i/\i.toNat<=es.length:=hi;obtain⟨g0,g1⟩:=hi;cbv
   repeat' first|apply Zb|(apply bF<;>intro hb<;>cbv)|(refine ag (O.ar .add Za i 1) ?_ ?_ ?_;focus (cbv;done))
   all_goals(subst hO hr hF;(try simp only[nc]at*);(try simp only[ah,SS,sa,az]at*);(try have hlt:i<es.length:=by assumption);(try have he:es.getD i.toNat []=[.i (ab es i 0),.i (ab es i 1)]:=(ao hwf g0 hlt).symm))
   all_goals exact TK
def iZ:EM:=fun F=>fun
 |[.one (.s 2 es),.one (.v (.int Za k))]=>some (fun _=>Rw [tI,tI] es/\ak es<=1099511627776/\0<=k/\be [es] k<=1152921504606846976,[.s 2 (F.mkN es k)],[.j (F.kN [es] k)])
 |_=>none
theorem tJ:em 326 iZ:=by
 intro _ _ _ _ h hp;dsimp only[iZ,F0]at h;split at h<;>cases h
 rename_i es k;obtain⟨hw,hlim,hk0,hkb⟩:=hp;have hwf:Wf [.i 0,.i 0] es:=hw.wf;have hlen:=ew hlim;refine mb nB [(0,0)] Tryz.func326 ?_
 intro O r os F hO hr hos hF;cbv
 refine⟨[0,1,5],[0],Int×Int×aa,fun s=>match s with|(i,k',cur)=>[.reg 5 (.j i),.reg 1 (.j k'),.leaf 0 0 ⟨0,0,some 0,.own (.s 2 cur)⟩],fun s=>0<=s.1/\s.1.toNat<=es.length/\s.2.1=fU es k s.1.toNat/\s.2.2=gG es k s.1.toNat,fun s=>es.length-s.1.toNat,⟨(0,k,es),?_,?_⟩,?_⟩;exact⟨by omega,Zg _,bT.symm,eW.symm⟩
 ·cbv
 ·rintro⟨i,k',cur⟩ hi;replace hi:0<=i/\i.toNat<=es.length/\k'=fU es k i.toNat/\cur=gG es k i.toNat:=hi;obtain⟨g0,g1,hk',hc⟩:=hi;cbv
  repeat' first|apply Zb|(apply bF<;>intro hb<;>cbv)|(refine ag (O.ar .add Za i 1,O.ar .add Za (O.ar .add Za (k') 1) 1,O.up (.s 2 (O.up (.s 2 (cur)) [(O.ad 0 i,0)] [.i (k')])) [(O.ad 0 i,1)] [.i (O.ar .add Za (k') 1)]) ?_ ?_ ?_;focus (cbv;done))
  all_goals((try subst hos);subst hO hr hF;(try simp only[nc]at*);(try simp only[ah,SS,sa,az]at*);(try have hlt:i<es.length:=by assumption);(try have he:es.getD i.toNat []=[.i (ab es i 0),.i (ab es i 1)]:=(ao hwf g0 hlt).symm);(try have hcg:cur.getD i.toNat []=[.i (ab es i 0),.i (ab es i 1)]:=by rw[hc,eV g1];exact he))
  all_goals exact TH
def iU:EC:=fun F=>fun
 |[.one (.s 2 ms),.one (.v (.int Za k))]=>some (fun _=>∃ es,ms=dY es k/\Rw [tI,tI] es/\ak es<=1099511627776/\0<=k/\be [ms] k<=1152921504606846976,[.j (F.kN [ms] k)])
 |_=>none
theorem tz:ec 328 iU:=by
 intro _ _ _ h hp;dsimp only[iU,F0]at h;split at h<;>cases h
 rename_i ms k;obtain⟨es,hms,hw,hlim,hk0,hkb⟩:=hp;have hlen:=ew hlim;have hml:ms.length=es.length:=by rw[hms];exact cF
 have hkk:be [ms] k=be [es] k:=by rw[hms];exact qg
 have hwm:Wf [.i 0,.i 0] ms:=by rw[hms];exact dS hw
 have hwf:Wf [.i 0,.i 0] es:=hw.wf;have hat:∀ n,n<es.length->ms.getD n []=(gY (es.getD n []) (fU es k n)).1:=fun n hn=>by rw[hms];exact lC hn
 refine cb nB Tryz.func328 ?_
 intro O r F hO hr hF;cbv
 refine⟨[0,1,5],[],Int×Int,fun s=>match s with|(i,k')=>[.reg 5 (.j i),.reg 1 (.j k')],fun s=>0<=s.1/\s.1.toNat<=es.length/\s.2=fU es k s.1.toNat,fun s=>es.length-s.1.toNat,⟨(0,k),?_,?_⟩,?_⟩;exact⟨by omega,Zg _,bT.symm⟩
 ·cbv
 ·rintro⟨i,k'⟩ hi;replace hi:0<=i/\i.toNat<=es.length/\k'=fU es k i.toNat:=hi;obtain⟨g0,g1,hk'⟩:=hi;cbv
  repeat' first|apply Zb|(apply bF<;>intro hb<;>cbv)|(refine ag (O.ar .add Za i 1,O.ar .add Za (O.ar .add Za (k') 1) 1) ?_ ?_ ?_;focus (cbv;done))
  all_goals(subst hO hr hF;(try simp only[nc]at*);(try simp only[ah,SS,sa,az]at*);(try have hltm:i<ms.length:=by assumption);(try have hlt:i<es.length:=by omega);(try have he:es.getD i.toNat []=[.i (ab es i 0),.i (ab es i 1)]:=(ao hwf g0 hlt).symm);(try rw[fa (n:=es.length) g0 hlt (by omega)]);(try have hlt':i.toNat<es.length:=by omega);(try have hct:=dz (es:=es) (n:=i.toNat) (by omega);rw[he]at hct;simp only[cU,fR,Zj,ZB]at hct);(try have hks:=dW (es:=es) (k:=k) hlt';rw[he]at hks;simp only[gY,iH]at hks);(try have hem:([.i (ab ms i 0),.i (ab ms i 1)]:ay)=_:=(ao hwm g0 hltm).trans (hat i.toNat hlt');rw[he]at hem;simp only[gY,iH,Yk,L.v.injEq,Yq,Yr,L.s.injEq,true_and,and_true]at hem))
  all_goals exact TJ
abbrev Hi:da:=ez (fun F f=>match f with|302=>k8 F|308=>lm F|323=>kL F|_=>fun _=>none) (by
 intro f;dsimp only;split;exact xG;exact xO;exact xk;exact de)
abbrev Lh:da:={
 Φ:=rz
 F0:=F0
 ct:=fun F f=>match f with|328=>iU F|_=>fun _=>none
 hc:=(by
  intro f;dsimp only;split;exact tz;exact de)
 mt:=fun F f=>match f with|326=>some (iZ F)|_=>none
 hm:=(by
  intro f mk h;dsimp only at h;split at h<;>cases h
  exact tJ)}
def mE:EC:=fun F=>fun
 |[.agg [.s 2 a0],.one (.v (.int Za left))]=>some (fun _=>Rw [tI,tI] a0/\0<=left/\left<=1048576,[.j (F.szN [a0] left)])
 |_=>none
theorem zG:ec 210 mE:=by
 intro _ _ _ h hp;dsimp only[mE,F0]at h;split at h<;>cases h
 rename_i a0 left;obtain⟨w0,h0,h1⟩:=hp;refine cb Hi Tryz.func210 ?_
 intro O r F hO hr hF;cbv
 repeat' first|apply Zb|(apply bF<;>intro hb<;>cbv)
 all_goals(subst hO hr hF;(try simp only[nc]at*);(try simp only[ah,SS,sa,az]at*);(try simp(disch:=assumption) only[nG,ZN,ZI]at*))
 all_goals first|trivial|(rw[mX (by assumption)])|trace_state
def mI:EC:=fun F=>fun
 |[.agg [.s 2 a0]]=>some (fun _=>Rw [tI,tI] a0/\aQ [a0]<=1048576,[.agg [.s 2 a0]])
 |_=>none
theorem zQ:ec 218 mI:=by
 intro _ _ _ h hp;dsimp only[mI,F0]at h;split at h<;>cases h
 rename_i a0;obtain⟨w0,hlim⟩:=hp;simp only[aQ,Zj]at hlim;refine cb Hi Tryz.func218 ?_
 exact yt
def mz:EC:=fun F=>fun
 |[.agg [.s 2 a0],d]=>some (fun _=>d=.agg [.s 2 a0]/\Rw [tI,tI] a0/\aQ [a0]<=1099511627776,[.k true])
 |_=>none
theorem zz:ec 248 mz:=by
 intro _ _ _ h hp;dsimp only[mz,F0]at h;split at h<;>cases h
 rename_i a0 d;obtain⟨rfl,w0,hlim⟩:=hp;simp only[aQ,Zj]at hlim;refine cb Hi Tryz.func248 ?_
 exact yt
def jN:EM:=fun F=>fun
 |[.agg [.s 2 a0],.one (.v (.int Za k))]=>some (fun _=>Rw [tI,tI] a0/\aQ [a0]<=1099511627776/\0<=k/\be [a0] k<=1152921504606846976,[.s 2 (F.mkN a0 k)],[.j (F.kN [a0] k)])
 |_=>none
theorem vk:em 252 jN:=by
 intro _ _ _ _ h hp;dsimp only[jN,F0]at h;split at h<;>cases h
 rename_i a0 k;obtain⟨w0,hlim,hk0,hkb⟩:=hp;simp only[aQ,Zj]at hlim;have p0:be [a0] k<=be [a0] k/\0<=be [a0] k:=bJ (b:=[]) hk0;refine mb Lh [(2,0)] Tryz.func252 ?_
 exact QM
def jL:EC:=fun F=>fun
 |[.agg [.s 2 m0],.one (.v (.int Za k))]=>some (fun _=>(∃ a0,m0=dY a0 k/\Rw [tI,tI] a0/\ak a0<=1099511627776)/\0<=k/\be [m0] k<=1152921504606846976,[.j (F.kN [m0] k)])
 |_=>none
theorem vf:ec 255 jL:=by
 intro _ _ _ h hp;dsimp only[jL,F0]at h;split at h<;>cases h
 rename_i m0 k;obtain⟨e0,hk0,hkb⟩:=hp;have p0:be [m0] k<=be [m0] k/\0<=be [m0] k:=bJ (b:=[]) hk0;refine cb Lh Tryz.func255 ?_
 exact QK
abbrev yR:da:=ez (fun F f=>match f with|209=>k9 F|217=>lp F|247=>kM F|210=>mE F|218=>mI F|248=>mz F|_=>fun _=>none) (by
 intro f;dsimp only;split;exact xH;exact xP;exact xm;exact zG;exact zQ;exact zz;exact de)
abbrev Fv:da:={
 Φ:=rz
 F0:=F0
 ct:=fun F f=>match f with|254=>iV F|255=>jL F|_=>fun _=>none
 hc:=(by
  intro f;dsimp only;split;exact tA;exact vf;exact de)
 mt:=fun F f=>match f with|251=>some (ja F)|252=>some (jN F)|_=>none
 hm:=(by
  intro f mk h;dsimp only at h;split at h<;>cases h
  exact tK;exact vk)}
def jO:EC:=fun F=>fun
 |[.agg [.s 1 a0,.s 1 a1,.s 2 a2],.one (.v (.int Za left))]=>some (fun _=>Rw [.sl [tI]] a0/\Rw [tB] a1/\Rw [tI,tI] a2/\0<=left/\left<=1048576,[.j (F.szN [a0,a1,a2] left)])
 |_=>none
theorem vm:ec 93 jO:=by
 intro _ _ _ h hp;dsimp only[jO,F0]at h;split at h<;>cases h
 rename_i a0 a1 a2 left;obtain⟨w0,w1,w2,h0,h1⟩:=hp;refine cb yR Tryz.func93 ?_
 intro O r F hO hr hF;cbv
 repeat' first|apply Zb|(apply bF<;>intro hb<;>cbv)
 all_goals(subst hO hr hF;(try simp only[nc]at*);(try simp only[ah,SS,sa,az]at*);(try simp(disch:=assumption) only[nG,ZN,ZI]at*))
 all_goals first|trivial|(refine⟨by assumption,by omega,by first|omega|exact XB (Bi (by assumption)) h1⟩)|(rw[mX (by assumption)])|exact congrArg (fun x=>[DV.one (L.v (Zi Zp x))]) (gK (a:=[a0,a1]) (b:=[a2]) (by assumption)).symm|trace_state
def jP:EC:=fun F=>fun
 |[.agg [.s 1 a0,.s 1 a1,.s 2 a2]]=>some (fun _=>Rw [.sl [tI]] a0/\Rw [tB] a1/\Rw [tI,tI] a2/\aQ [a0,a1,a2]<=1048576,[.agg [.s 1 a0,.s 1 a1,.s 2 a2]])
 |_=>none
theorem vo:ec 107 jP:=by
 intro _ _ _ h hp;dsimp only[jP,F0]at h;split at h<;>cases h
 rename_i a0 a1 a2;obtain⟨w0,w1,w2,hlim⟩:=hp;simp only[aQ,Zj]at hlim;refine cb yR Tryz.func107 ?_
 intro O r F hO hr hF;cbv
 repeat' first|apply Zb|(apply bF<;>intro hb<;>cbv)
 all_goals(subst hO hr hF;(try simp only[nc]at*);(try simp only[ah,SS,sa,az]at*))
 all_goals first|trivial|(refine⟨by assumption,?_⟩;(try simp only[aQ,Zj]);omega)|(refine⟨by assumption,by assumption,?_⟩;(try simp only[aQ,Zj]);omega)|trace_state
def jJ:EC:=fun F=>fun
 |[.agg [.s 1 a0,.s 1 a1,.s 2 a2],d]=>some (fun _=>d=.agg [.s 1 a0,.s 1 a1,.s 2 a2]/\Rw [.sl [tI]] a0/\Rw [tB] a1/\Rw [tI,tI] a2/\aQ [a0,a1,a2]<=1099511627776,[.k true])
 |_=>none
theorem u9:ec 141 jJ:=by
 intro _ _ _ h hp;dsimp only[jJ,F0]at h;split at h<;>cases h
 rename_i a0 a1 a2 d;obtain⟨rfl,w0,w1,w2,hlim⟩:=hp;simp only[aQ,Zj]at hlim;refine cb yR Tryz.func141 ?_
 intro O r F hO hr hF;cbv
 repeat' first|apply Zb|(apply bF<;>intro hb<;>cbv)
 all_goals(subst hO hr hF;(try simp only[nc]at*);(try simp only[ah,SS,sa,az]at*))
 all_goals first|trivial|(refine⟨trivial,by assumption,?_⟩;(try simp only[aQ,Zj]);omega)|(refine⟨trivial,by assumption,by assumption,?_⟩;(try simp only[aQ,Zj]);omega)|trace_state
def ir:EM:=fun F=>fun
 |[.agg [.s 1 a0,.s 1 a1,.s 2 a2],.one (.v (.int Za k))]=>some (fun _=>Rw [.sl [tI]] a0/\Rw [tB] a1/\Rw [tI,tI] a2/\aQ [a0,a1,a2]<=1099511627776/\0<=k/\be [a0,a1,a2] k<=1152921504606846976,[.s 1 (F.mkN a0 k),.s 1 (F.mkN a1 (F.kN [a0] k)),.s 2 (F.mkN a2 (F.kN [a0,a1] k))],[.j (F.kN [a0,a1,a2] k)])
 |_=>none
theorem sH:em 152 ir:=by
 intro _ _ _ _ h hp;dsimp only[ir,F0]at h;split at h<;>cases h
 rename_i a0 a1 a2 k;obtain⟨w0,w1,w2,hlim,hk0,hkb⟩:=hp;simp only[aQ,Zj]at hlim;have p0:be [a0] k<=be [a0,a1,a2] k/\0<=be [a0] k:=bJ (b:=[a1,a2]) hk0;have p1:be [a0,a1] k<=be [a0,a1,a2] k/\0<=be [a0,a1] k:=bJ (b:=[a2]) hk0;have p2:be [a0,a1,a2] k<=be [a0,a1,a2] k/\0<=be [a0,a1,a2] k:=bJ (b:=[]) hk0;refine mb Fv [(2,0),(2,1),(2,2)] Tryz.func152 ?_
 exact QJ
def iq:EC:=fun F=>fun
 |[.agg [.s 1 m0,.s 1 m1,.s 2 m2],.one (.v (.int Za k))]=>some (fun _=>(∃ a0,m0=dY a0 k/\Rw [.sl [tI]] a0/\ak a0<=1099511627776)/\(∃ a1,m1=dY a1 (be [m0] k)/\Rw [tB] a1/\ak a1<=1099511627776)/\(∃ a2,m2=dY a2 (be [m0,m1] k)/\Rw [tI,tI] a2/\ak a2<=1099511627776)/\0<=k/\be [m0,m1,m2] k<=1152921504606846976,[.j (F.kN [m0,m1,m2] k)])
 |_=>none
theorem sG:ec 158 iq:=by
 intro _ _ _ h hp;dsimp only[iq,F0]at h;split at h<;>cases h
 rename_i m0 m1 m2 k;obtain⟨e0,e1,e2,hk0,hkb⟩:=hp;have p0:be [m0] k<=be [m0,m1,m2] k/\0<=be [m0] k:=bJ (b:=[m1,m2]) hk0;have p1:be [m0,m1] k<=be [m0,m1,m2] k/\0<=be [m0,m1] k:=bJ (b:=[m2]) hk0;have p2:be [m0,m1,m2] k<=be [m0,m1,m2] k/\0<=be [m0,m1,m2] k:=bJ (b:=[]) hk0;refine cb Fv Tryz.func158 ?_
 intro O r F hO hr hF;cbv
 repeat' first|apply Zb|(apply bF<;>intro hb<;>cbv)
 all_goals(subst hO hr hF;(try simp only[nc]at*);(try simp only[ah,SS,sa,az]at*);(try simp only[jU,ZN,ZI]at*))
 all_goals first|trivial|(exfalso;omega)|(obtain⟨x,y1,y2,y3⟩:=e0;exact⟨x,y1,y2,y3,by omega,by omega⟩)|(obtain⟨x,y1,y2,y3⟩:=e1;exact⟨x,y1,y2,y3,by omega,by omega⟩)|(obtain⟨x,y1,y2,y3⟩:=e2;exact⟨x,y1,y2,y3,by omega,by omega⟩)|(refine⟨by assumption,by omega,by omega⟩)|(refine⟨by assumption,by assumption,by omega,by omega⟩)|(refine⟨by assumption,by assumption,by assumption,by omega,by omega⟩)|trace_state
abbrev Dx:da:=ez (fun F f=>match f with|93=>jO F|107=>jP F|141=>jJ F|94=>hN F|108=>hP F|142=>hK F|_=>fun _=>none) (by
 intro f;dsimp only;split;exact vm;exact vo;exact u9;exact nL;exact nM;exact nK;exact de)
abbrev IU:da:={
 Φ:=rz
 F0:=F0
 ct:=fun F f=>match f with|158=>iq F|159=>fS F|_=>fun _=>none
 hc:=(by
  intro f;dsimp only;split;exact sG;exact kB;exact de)
 mt:=fun F f=>match f with|152=>some (ir F)|153=>some (fT F)|_=>none
 hm:=(by
  intro f mk h;dsimp only at h;split at h<;>cases h
  exact sH;exact kC)}
def lc:EC:=fun F=>fun
 |[.agg [.s 1 a0,.s 1 a1,.s 2 a2,.v (.int Za a3),.s 1 a4],.one (.v (.int Za left))]=>some (fun _=>Rw [.sl [tI]] a0/\Rw [tB] a1/\Rw [tI,tI] a2/\Rw [tI] a4/\0<=left/\left<=1048576,[.j (F.szN [a0,a1,a2,a4] left)])
 |_=>none
theorem xI:ec 17 lc:=by
 intro _ _ _ h hp;dsimp only[lc,F0]at h;split at h<;>cases h
 rename_i a0 a1 a2 a3 a4 left;obtain⟨w0,w1,w2,w3,h0,h1⟩:=hp;refine cb Dx Tryz.func17 ?_
 intro O r F hO hr hF;cbv
 repeat' first|apply Zb|(apply bF<;>intro hb<;>cbv)
 all_goals(subst hO hr hF;(try simp only[nc]at*);(try simp only[ah,SS,sa,az]at*);(try simp(disch:=assumption) only[nG,ZN,ZI]at*))
 all_goals first|trivial|(refine⟨by assumption,by omega,by first|omega|exact XB (Bi (by assumption)) h1⟩)|(rw[mX (by assumption)])|exact congrArg (fun x=>[DV.one (L.v (Zi Zp x))]) (gK (a:=[a0,a1,a2]) (b:=[a4]) (by assumption)).symm|trace_state
def lq:EC:=fun F=>fun
 |[.agg [.s 1 a0,.s 1 a1,.s 2 a2,.v (.int Za a3),.s 1 a4]]=>some (fun _=>Rw [.sl [tI]] a0/\Rw [tB] a1/\Rw [tI,tI] a2/\Rw [tI] a4/\aQ [a0,a1,a2,a4]<=1048576,[.agg [.s 1 a0,.s 1 a1,.s 2 a2,.i a3,.s 1 a4]])
 |_=>none
theorem xQ:ec 30 lq:=by
 intro _ _ _ h hp;dsimp only[lq,F0]at h;split at h<;>cases h
 rename_i a0 a1 a2 a3 a4;obtain⟨w0,w1,w2,w3,hlim⟩:=hp;simp only[aQ,Zj]at hlim;refine cb Dx Tryz.func30 ?_
 intro O r F hO hr hF;cbv
 repeat' first|apply Zb|(apply bF<;>intro hb<;>cbv)
 all_goals(subst hO hr hF;(try simp only[nc]at*);(try simp only[ah,SS,sa,az]at*))
 all_goals first|trivial|(refine⟨by assumption,?_⟩;(try simp only[aQ,Zj]);omega)|(refine⟨by assumption,by assumption,by assumption,?_⟩;(try simp only[aQ,Zj]);omega)|trace_state
def kO:EC:=fun F=>fun
 |[.agg [.s 1 a0,.s 1 a1,.s 2 a2,.v (.int Za a3),.s 1 a4],d]=>some (fun _=>d=.agg [.s 1 a0,.s 1 a1,.s 2 a2,.i a3,.s 1 a4]/\Rw [.sl [tI]] a0/\Rw [tB] a1/\Rw [tI,tI] a2/\Rw [tI] a4/\aQ [a0,a1,a2,a4]<=1099511627776,[.k true])
 |_=>none
theorem xo:ec 44 kO:=by
 intro _ _ _ h hp;dsimp only[kO,F0]at h;split at h<;>cases h
 rename_i a0 a1 a2 a3 a4 d;obtain⟨rfl,w0,w1,w2,w3,hlim⟩:=hp;simp only[aQ,Zj]at hlim;refine cb Dx Tryz.func44 ?_
 intro O r F hO hr hF;cbv
 repeat' first|apply Zb|(apply bF<;>intro hb<;>cbv)
 all_goals(subst hO hr hF;(try simp only[nc]at*);(try simp only[ah,SS,sa,az]at*))
 all_goals first|trivial|(refine⟨trivial,by assumption,?_⟩;(try simp only[aQ,Zj]);omega)|(refine⟨trivial,by assumption,by assumption,by assumption,?_⟩;(try simp only[aQ,Zj]);omega)|trace_state
def jc:EM:=fun F=>fun
 |[.agg [.s 1 a0,.s 1 a1,.s 2 a2,.v (.int Za a3),.s 1 a4],.one (.v (.int Za k))]=>some (fun _=>Rw [.sl [tI]] a0/\Rw [tB] a1/\Rw [tI,tI] a2/\Rw [tI] a4/\aQ [a0,a1,a2,a4]<=1099511627776/\0<=k/\be [a0,a1,a2,a4] k<=1152921504606846976,[.s 1 (F.mkN a0 k),.s 1 (F.mkN a1 (F.kN [a0] k)),.s 2 (F.mkN a2 (F.kN [a0,a1] k)),.s 1 (F.mkN a4 (F.kN [a0,a1,a2] k))],[.j (F.kN [a0,a1,a2,a4] k)])
 |_=>none
theorem tL:em 53 jc:=by
 intro _ _ _ _ h hp;dsimp only[jc,F0]at h;split at h<;>cases h
 rename_i a0 a1 a2 a3 a4 k;obtain⟨w0,w1,w2,w3,hlim,hk0,hkb⟩:=hp;simp only[aQ,Zj]at hlim;have p0:be [a0] k<=be [a0,a1,a2,a4] k/\0<=be [a0] k:=bJ (b:=[a1,a2,a4]) hk0;have p1:be [a0,a1] k<=be [a0,a1,a2,a4] k/\0<=be [a0,a1] k:=bJ (b:=[a2,a4]) hk0;have p2:be [a0,a1,a2] k<=be [a0,a1,a2,a4] k/\0<=be [a0,a1,a2] k:=bJ (b:=[a4]) hk0;have p3:be [a0,a1,a2,a4] k<=be [a0,a1,a2,a4] k/\0<=be [a0,a1,a2,a4] k:=bJ (b:=[]) hk0;refine mb IU [(2,0),(2,1),(2,2),(2,4)] Tryz.func53 ?_
 exact QJ
def iW:EC:=fun F=>fun
 |[.agg [.s 1 m0,.s 1 m1,.s 2 m2,.v (.int Za m3),.s 1 m4],.one (.v (.int Za k))]=>some (fun _=>(∃ a0,m0=dY a0 k/\Rw [.sl [tI]] a0/\ak a0<=1099511627776)/\(∃ a1,m1=dY a1 (be [m0] k)/\Rw [tB] a1/\ak a1<=1099511627776)/\(∃ a2,m2=dY a2 (be [m0,m1] k)/\Rw [tI,tI] a2/\ak a2<=1099511627776)/\(∃ a4,m4=dY a4 (be [m0,m1,m2] k)/\Rw [tI] a4/\ak a4<=1099511627776)/\0<=k/\be [m0,m1,m2,m4] k<=1152921504606846976,[.j (F.kN [m0,m1,m2,m4] k)])
 |_=>none
theorem tC:ec 62 iW:=by
 intro _ _ _ h hp;dsimp only[iW,F0]at h;split at h<;>cases h
 rename_i m0 m1 m2 m3 m4 k;obtain⟨e0,e1,e2,e3,hk0,hkb⟩:=hp;have p0:be [m0] k<=be [m0,m1,m2,m4] k/\0<=be [m0] k:=bJ (b:=[m1,m2,m4]) hk0;have p1:be [m0,m1] k<=be [m0,m1,m2,m4] k/\0<=be [m0,m1] k:=bJ (b:=[m2,m4]) hk0;have p2:be [m0,m1,m2] k<=be [m0,m1,m2,m4] k/\0<=be [m0,m1,m2] k:=bJ (b:=[m4]) hk0;have p3:be [m0,m1,m2,m4] k<=be [m0,m1,m2,m4] k/\0<=be [m0,m1,m2,m4] k:=bJ (b:=[]) hk0;refine cb IU Tryz.func62 ?_
 intro O r F hO hr hF;cbv
 repeat' first|apply Zb|(apply bF<;>intro hb<;>cbv)
 all_goals(subst hO hr hF;(try simp only[nc]at*);(try simp only[ah,SS,sa,az]at*);(try simp only[jU,ZN,ZI]at*))
 all_goals first|trivial|(exfalso;omega)|(obtain⟨x,y1,y2,y3⟩:=e0;exact⟨x,y1,y2,y3,by omega,by omega⟩)|(obtain⟨x,y1,y2,y3⟩:=e1;exact⟨x,y1,y2,y3,by omega,by omega⟩)|(obtain⟨x,y1,y2,y3⟩:=e2;exact⟨x,y1,y2,y3,by omega,by omega⟩)|(obtain⟨x,y1,y2,y3⟩:=e3;exact⟨x,y1,y2,y3,by omega,by omega⟩)|(refine⟨by assumption,by omega,by omega⟩)|(refine⟨by assumption,by assumption,by omega,by omega⟩)|(refine⟨by assumption,by assumption,by assumption,by omega,by omega⟩)|(refine⟨by assumption,by assumption,by assumption,by assumption,by omega,by omega⟩)|trace_state
def pp:EC:=fun F=>fun
 |[.agg [.v (.int Za a0),.v (.int Za a1),.v (.int Za a2),.v (.int Za a3)]]=>some (fun _=>True,[.agg [.i a0,.i a1,.i a2,.i a3]])
 |_=>none
theorem DW:ec 112 pp:=by
 intro _ _ _ h hp;dsimp only[pp,F0]at h;split at h<;>cases h
 rename_i a0 a1 a2 a3;refine cb nB Tryz.func112 ?_
 exact yt
def pk:EC:=fun F=>fun
 |[.agg [.v (.int Za a0),.v (.int Za a1),.v (.int Za a2),.v (.int Za a3)],d]=>some (fun _=>d=.agg [.i a0,.i a1,.i a2,.i a3],[.k true])
 |_=>none
theorem DR:ec 146 pk:=by
 intro _ _ _ h hp;dsimp only[pk,F0]at h;split at h<;>cases h
 rename_i a0 a1 a2 a3 d;subst hp;refine cb nB Tryz.func146 ?_
 exact yt
abbrev Ld:da:=ez (fun F f=>match f with|112=>pp F|146=>pk F|_=>fun _=>none) (by
 intro f;dsimp only;split;exact DW;exact DR;exact de)
def nZ:EC:=fun F=>fun
 |[.one (.s 4 es),.one (.v (.int Za left))]=>some (fun _=>Rw [tI,tI,tI,tI] es/\0<=left/\left<=1048576,[.j (F.szN [es] left)])
 |_=>none
theorem B7:ec 21 nZ:=by
 intro _ _ _ h hp;dsimp only[nZ,F0]at h;split at h<;>cases h
 rename_i es left;obtain⟨hw,h0,h1⟩:=hp;have hc:ak es=es.length:=hw.cnt rfl;have hm:=hw.1;unfold maxLen at hm;have hs:bO .sub Za left es.length=left-es.length:=dG (by omega);have hn:dV [es] left=if left<es.length then-1 else left-es.length:=by unfold dV;rw[eH,hc]
 refine cb Ld Tryz.func21 ?_
 exact QN
def oh:EC:=fun F=>fun
 |[.one (.s 4 es)]=>some (fun _=>Rw [tI,tI,tI,tI] es/\ak es<=1048576,[.one (.s 4 es)])
 |_=>none
theorem Cc:ec 34 oh:=by
 intro _ _ _ h hp;dsimp only[oh,F0]at h;split at h<;>cases h
 rename_i es;obtain⟨hw,hlim⟩:=hp;have hwf:Wf [.i 0,.i 0,.i 0,.i 0] es:=hw.wf;have hlen:=ew hlim;refine cb Ld Tryz.func34 ?_
 intro O r F hO hr hF;cbv
 have h0z:cE es [.i 0,.i 0,.i 0,.i 0] 0=O.rep (O.zi (O.ln es)) [.i 0,.i 0,.i 0,.i 0]:=by
  subst hO;rw[dU];rfl
 refine⟨?_,?_,[0,3,4],[3],Int×aa,fun s=>[.reg 4 (.j s.1),.leaf 3 0 ⟨0,0,none,.own (.s 4 s.2)⟩],fun s=>0<=s.1/\s.1.toNat<=es.length/\s.2=cE es [.i 0,.i 0,.i 0,.i 0] s.1.toNat,fun s=>es.length-s.1.toNat,⟨(0,O.rep (O.zi (O.ln es)) [.i 0,.i 0,.i 0,.i 0]),?_,?_⟩,?_⟩
 ·subst hO;exact qi (b:=32) (show es.length*_<=_ by omega) (show es.length<=_ by omega)
 ·subst hO;exact⟨rfl,rfl⟩
 ·exact⟨by omega,Zg _,h0z.symm⟩
 ·cbv
 ·rintro⟨i,m⟩ hi;replace hi:0<=i/\i.toNat<=es.length/\m=cE es [.i 0,.i 0,.i 0,.i 0] i.toNat:=hi;obtain⟨g0,g1,hm⟩:=hi;cbv
  repeat' first|apply Zb|(apply bF<;>intro hb<;>cbv)|(refine ag (O.ar .add Za i 1,O.up (.s 4 m) [(O.ad 0 i,0)] [.i (O.gi es i 0),.i (O.gi es i 1),.i (O.gi es i 2),.i (O.gi es i 3)]) ?_ ?_ ?_;focus (cbv;done))
  all_goals(subst hO hr hF;(try simp only[nc]at*);(try simp only[ah,SS,sa,az]at*);(try simp only[pI,Yn,Zy]at*);(try have hlt:i<es.length:=by assumption);(try have he:es.getD i.toNat []=[.i (ab es i 0),.i (ab es i 1),.i (ab es i 2),.i (ab es i 3)]:=(ao hwf g0 hlt).symm))
  all_goals exact QL
def nU:EC:=fun F=>fun
 |[.one (.s 4 es),d]=>some (fun _=>d=.one (.s 4 es)/\Rw [tI,tI,tI,tI] es/\ak es<=1099511627776,[.k true])
 |_=>none
theorem BX:ec 48 nU:=by
 intro _ _ _ h hp;dsimp only[nU,F0]at h;split at h<;>cases h
 rename_i es d;obtain⟨rfl,hw,hlim⟩:=hp;have hwf:Wf [.i 0,.i 0,.i 0,.i 0] es:=hw.wf;have hlen:=ew hlim;refine cb Ld Tryz.func48 ?_
 intro O r F hO hr hF;cbv
 apply bF<;>intro hb<;>cbv
 ·(subst hO hr hF;(try simp only[nc]at*);(try simp only[ah,SS,sa,az]at*));exact absurd rfl hb
 ·clear hb;refine⟨[0,1,5],[],Int,fun i=>[.reg 5 (.j i)],fun i=>0<=i/\i.toNat<=es.length,fun i=>es.length-i.toNat,⟨0,?_,?_⟩,?_⟩;exact⟨by omega,Zg _⟩
  ·cbv
  ·rintro i hi;replace hi:0<=i/\i.toNat<=es.length:=hi;obtain⟨g0,g1⟩:=hi;cbv
   repeat' first|apply Zb|(apply bF<;>intro hb<;>cbv)|(refine ag (O.ar .add Za i 1) ?_ ?_ ?_;focus (cbv;done))
   all_goals(subst hO hr hF;(try simp only[nc]at*);(try simp only[ah,SS,sa,az]at*);(try have hlt:i<es.length:=by assumption);(try have he:es.getD i.toNat []=[.i (ab es i 0),.i (ab es i 1),.i (ab es i 2),.i (ab es i 3)]:=(ao hwf g0 hlt).symm))
   all_goals exact TK
def kX:EM:=fun F=>fun
 |[.one (.s 4 es),.one (.v (.int Za k))]=>some (fun _=>Rw [tI,tI,tI,tI] es/\ak es<=1099511627776/\0<=k/\be [es] k<=1152921504606846976,[.s 4 (F.mkN es k)],[.j (F.kN [es] k)])
 |_=>none
theorem xC:em 57 kX:=by
 intro _ _ _ _ h hp;dsimp only[kX,F0]at h;split at h<;>cases h
 rename_i es k;obtain⟨hw,hlim,hk0,hkb⟩:=hp;have hwf:Wf [.i 0,.i 0,.i 0,.i 0] es:=hw.wf;have hlen:=ew hlim;refine mb nB [(0,0)] Tryz.func57 ?_
 intro O r os F hO hr hos hF;cbv
 refine⟨[0,1,5],[0],Int×Int×aa,fun s=>match s with|(i,k',cur)=>[.reg 5 (.j i),.reg 1 (.j k'),.leaf 0 0 ⟨0,0,some 0,.own (.s 4 cur)⟩],fun s=>0<=s.1/\s.1.toNat<=es.length/\s.2.1=fU es k s.1.toNat/\s.2.2=gG es k s.1.toNat,fun s=>es.length-s.1.toNat,⟨(0,k,es),?_,?_⟩,?_⟩;exact⟨by omega,Zg _,bT.symm,eW.symm⟩
 ·cbv
 ·rintro⟨i,k',cur⟩ hi;replace hi:0<=i/\i.toNat<=es.length/\k'=fU es k i.toNat/\cur=gG es k i.toNat:=hi;obtain⟨g0,g1,hk',hc⟩:=hi;cbv
  repeat' first|apply Zb|(apply bF<;>intro hb<;>cbv)|(refine ag (O.ar .add Za i 1,O.ar .add Za (O.ar .add Za (O.ar .add Za (O.ar .add Za (k') 1) 1) 1) 1,O.up (.s 4 (O.up (.s 4 (O.up (.s 4 (O.up (.s 4 (cur)) [(O.ad 0 i,0)] [.i (k')])) [(O.ad 0 i,1)] [.i (O.ar .add Za (k') 1)])) [(O.ad 0 i,2)] [.i (O.ar .add Za (O.ar .add Za (k') 1) 1)])) [(O.ad 0 i,3)] [.i (O.ar .add Za (O.ar .add Za (O.ar .add Za (k') 1) 1) 1)]) ?_ ?_ ?_;focus (cbv;done))
  all_goals((try subst hos);subst hO hr hF;(try simp only[nc]at*);(try simp only[ah,SS,sa,az]at*);(try have hlt:i<es.length:=by assumption);(try have he:es.getD i.toNat []=[.i (ab es i 0),.i (ab es i 1),.i (ab es i 2),.i (ab es i 3)]:=(ao hwf g0 hlt).symm);(try have hcg:cur.getD i.toNat []=[.i (ab es i 0),.i (ab es i 1),.i (ab es i 2),.i (ab es i 3)]:=by rw[hc,eV g1];exact he))
  all_goals exact TH
def kS:EC:=fun F=>fun
 |[.one (.s 4 ms),.one (.v (.int Za k))]=>some (fun _=>∃ es,ms=dY es k/\Rw [tI,tI,tI,tI] es/\ak es<=1099511627776/\0<=k/\be [ms] k<=1152921504606846976,[.j (F.kN [ms] k)])
 |_=>none
theorem xx:ec 66 kS:=by
 intro _ _ _ h hp;dsimp only[kS,F0]at h;split at h<;>cases h
 rename_i ms k;obtain⟨es,hms,hw,hlim,hk0,hkb⟩:=hp;have hlen:=ew hlim;have hml:ms.length=es.length:=by rw[hms];exact cF
 have hkk:be [ms] k=be [es] k:=by rw[hms];exact qg
 have hwm:Wf [.i 0,.i 0,.i 0,.i 0] ms:=by rw[hms];exact dS hw
 have hwf:Wf [.i 0,.i 0,.i 0,.i 0] es:=hw.wf;have hat:∀ n,n<es.length->ms.getD n []=(gY (es.getD n []) (fU es k n)).1:=fun n hn=>by rw[hms];exact lC hn
 refine cb nB Tryz.func66 ?_
 intro O r F hO hr hF;cbv
 refine⟨[0,1,5],[],Int×Int,fun s=>match s with|(i,k')=>[.reg 5 (.j i),.reg 1 (.j k')],fun s=>0<=s.1/\s.1.toNat<=es.length/\s.2=fU es k s.1.toNat,fun s=>es.length-s.1.toNat,⟨(0,k),?_,?_⟩,?_⟩;exact⟨by omega,Zg _,bT.symm⟩
 ·cbv
 ·rintro⟨i,k'⟩ hi;replace hi:0<=i/\i.toNat<=es.length/\k'=fU es k i.toNat:=hi;obtain⟨g0,g1,hk'⟩:=hi;cbv
  repeat' first|apply Zb|(apply bF<;>intro hb<;>cbv)|(refine ag (O.ar .add Za i 1,O.ar .add Za (O.ar .add Za (O.ar .add Za (O.ar .add Za (k') 1) 1) 1) 1) ?_ ?_ ?_;focus (cbv;done))
  all_goals(subst hO hr hF;(try simp only[nc]at*);(try simp only[ah,SS,sa,az]at*);(try have hltm:i<ms.length:=by assumption);(try have hlt:i<es.length:=by omega);(try have he:es.getD i.toNat []=[.i (ab es i 0),.i (ab es i 1),.i (ab es i 2),.i (ab es i 3)]:=(ao hwf g0 hlt).symm);(try rw[fa (n:=es.length) g0 hlt (by omega)]);(try have hlt':i.toNat<es.length:=by omega);(try have hct:=dz (es:=es) (n:=i.toNat) (by omega);rw[he]at hct;simp only[cU,fR,Zj,ZB]at hct);(try have hks:=dW (es:=es) (k:=k) hlt';rw[he]at hks;simp only[gY,iH]at hks);(try have hem:([.i (ab ms i 0),.i (ab ms i 1),.i (ab ms i 2),.i (ab ms i 3)]:ay)=_:=(ao hwm g0 hltm).trans (hat i.toNat hlt');rw[he]at hem;simp only[gY,iH,Yk,L.v.injEq,Yq,Yr,L.s.injEq,true_and,and_true]at hem))
  all_goals exact TJ
end Go.V
