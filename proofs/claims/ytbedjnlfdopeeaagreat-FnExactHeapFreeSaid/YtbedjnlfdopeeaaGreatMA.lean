/- Contracts. -/
import Derived.Test.YtbedjnlfdopeeaaGreatM9
set_option linter.all false
open Go
open And renaming intro->Zb
open Int renaming toNat_natCast->Zy,le_trans->XB
open IntKind renaming i64->Zp,i64->Za
open List renaming length_replicate->Yn,nil_append->ZI,cons_append->ZN
open List.cons renaming injEq->Yk
open Nat renaming zero_le->Zg,add_zero->Zj,zero_add->ZB,le_refl->Zd
open Value renaming int->Zi
open Value.bool renaming injEq->Yr
open Value.int renaming injEq->Yq
namespace Go.V
open Go Go.Proofs
set_option maxRecDepth 1000000
set_option maxHeartbeats 8000000
def dp:EC:=fun F=>fun
 |[.agg [.v (.int Za a0),.v (.int Za a1),.v (.int Za a2)]]=>some (fun _=>True,[.agg [.i a0,.i a1,.i a2]])
 |_=>none
theorem zP:ec 220 dp:=by
 intro _ _ _ h hp;dsimp only[dp,F0]at h;split at h<;>cases h
 rename_i a0 a1 a2;refine cb nB Tryz.func220 ?_
 exact yt
def dm:EC:=fun F=>fun
 |[.agg [.v (.int Za a0),.v (.int Za a1),.v (.int Za a2)],d]=>some (fun _=>d=.agg [.i a0,.i a1,.i a2],[.k true])
 |_=>none
theorem zy:ec 250 dm:=by
 intro _ _ _ h hp;dsimp only[dm,F0]at h;split at h<;>cases h
 rename_i a0 a1 a2 d;subst hp;refine cb nB Tryz.func250 ?_
 exact yt
abbrev DD:da:=ez (fun F f=>match f with|220=>dp F|250=>dm F|_=>fun _=>none) (by
 intro f;dsimp only;split;exact zP;exact zy;exact de)
def cR:EC:=fun F=>fun
 |[.one (.s 3 es),.one (.v (.int Za left))]=>some (fun _=>Rw [tI,tI,tI] es/\0<=left/\left<=1048576,[.j (F.szN [es] left)])
 |_=>none
theorem xM:ec 98 cR:=by
 intro _ _ _ h hp;dsimp only[cR,F0]at h;split at h<;>cases h
 rename_i es left;obtain⟨hw,h0,h1⟩:=hp;have hc:ak es=es.length:=hw.cnt rfl;have hm:=hw.1;unfold maxLen at hm;have hs:bO .sub Za left es.length=left-es.length:=dG (by omega);have hn:dV [es] left=if left<es.length then-1 else left-es.length:=by unfold dV;rw[eH,hc]
 refine cb DD Tryz.func98 ?_
 exact QN
def cS:EC:=fun F=>fun
 |[.one (.s 3 es)]=>some (fun _=>Rw [tI,tI,tI] es/\ak es<=1048576,[.one (.s 3 es)])
 |_=>none
theorem xU:ec 116 cS:=by
 intro _ _ _ h hp;dsimp only[cS,F0]at h;split at h<;>cases h
 rename_i es;obtain⟨hw,hlim⟩:=hp;have hwf:Wf [.i 0,.i 0,.i 0] es:=hw.wf;have hlen:=ew hlim;refine cb DD Tryz.func116 ?_
 intro O r F hO hr hF;cbv
 have h0z:cE es [.i 0,.i 0,.i 0] 0=O.rep (O.zi (O.ln es)) [.i 0,.i 0,.i 0]:=by
  subst hO;rw[dU];rfl
 refine⟨?_,?_,[0,3,4],[3],Int×aa,fun s=>[.reg 4 (.j s.1),.leaf 3 0 ⟨0,0,none,.own (.s 3 s.2)⟩],fun s=>0<=s.1/\s.1.toNat<=es.length/\s.2=cE es [.i 0,.i 0,.i 0] s.1.toNat,fun s=>es.length-s.1.toNat,⟨(0,O.rep (O.zi (O.ln es)) [.i 0,.i 0,.i 0]),?_,?_⟩,?_⟩
 ·subst hO;exact qi (b:=24) (show es.length*_<=_ by omega) (show es.length<=_ by omega)
 ·subst hO;exact⟨rfl,rfl⟩
 ·exact⟨by omega,Zg _,h0z.symm⟩
 ·cbv
 ·rintro⟨i,m⟩ hi;replace hi:0<=i/\i.toNat<=es.length/\m=cE es [.i 0,.i 0,.i 0] i.toNat:=hi;obtain⟨g0,g1,hm⟩:=hi;cbv
  repeat' first|apply Zb|(apply bF<;>intro hb<;>cbv)|(refine ag (O.ar .add Za i 1,O.up (.s 3 m) [(O.ad 0 i,0)] [.i (O.gi es i 0),.i (O.gi es i 1),.i (O.gi es i 2)]) ?_ ?_ ?_;focus (cbv;done))
  all_goals(subst hO hr hF;(try simp only[nc]at*);(try simp only[ah,SS,sa,az]at*);(try simp only[pI,Yn,Zy]at*);(try have hlt:i<es.length:=by assumption);(try have he:es.getD i.toNat []=[.i (ab es i 0),.i (ab es i 1),.i (ab es i 2)]:=(ao hwf g0 hlt).symm))
  all_goals exact QL
def cQ:EC:=fun F=>fun
 |[.one (.s 3 es),d]=>some (fun _=>d=.one (.s 3 es)/\Rw [tI,tI,tI] es/\ak es<=1099511627776,[.k true])
 |_=>none
theorem xt:ec 150 cQ:=by
 intro _ _ _ h hp;dsimp only[cQ,F0]at h;split at h<;>cases h
 rename_i es d;obtain⟨rfl,hw,hlim⟩:=hp;have hwf:Wf [.i 0,.i 0,.i 0] es:=hw.wf;have hlen:=ew hlim;refine cb DD Tryz.func150 ?_
 intro O r F hO hr hF;cbv
 apply bF<;>intro hb<;>cbv
 ·(subst hO hr hF;(try simp only[nc]at*);(try simp only[ah,SS,sa,az]at*));exact absurd rfl hb
 ·clear hb;refine⟨[0,1,5],[],Int,fun i=>[.reg 5 (.j i)],fun i=>0<=i/\i.toNat<=es.length,fun i=>es.length-i.toNat,⟨0,?_,?_⟩,?_⟩;exact⟨by omega,Zg _⟩
  ·cbv
  ·rintro i hi;replace hi:0<=i/\i.toNat<=es.length:=hi;obtain⟨g0,g1⟩:=hi;cbv
   repeat' first|apply Zb|(apply bF<;>intro hb<;>cbv)|(refine ag (O.ar .add Za i 1) ?_ ?_ ?_;focus (cbv;done))
   all_goals(subst hO hr hF;(try simp only[nc]at*);(try simp only[ah,SS,sa,az]at*);(try have hlt:i<es.length:=by assumption);(try have he:es.getD i.toNat []=[.i (ab es i 0),.i (ab es i 1),.i (ab es i 2)]:=(ao hwf g0 hlt).symm))
   all_goals exact TK
def cz:EM:=fun F=>fun
 |[.one (.s 3 es),.one (.v (.int Za k))]=>some (fun _=>Rw [tI,tI,tI] es/\ak es<=1099511627776/\0<=k/\be [es] k<=1152921504606846976,[.s 3 (F.mkN es k)],[.j (F.kN [es] k)])
 |_=>none
theorem tP:em 156 cz:=by
 intro _ _ _ _ h hp;dsimp only[cz,F0]at h;split at h<;>cases h
 rename_i es k;obtain⟨hw,hlim,hk0,hkb⟩:=hp;have hwf:Wf [.i 0,.i 0,.i 0] es:=hw.wf;have hlen:=ew hlim;refine mb nB [(0,0)] Tryz.func156 ?_
 intro O r os F hO hr hos hF;cbv
 refine⟨[0,1,5],[0],Int×Int×aa,fun s=>match s with|(i,k',cur)=>[.reg 5 (.j i),.reg 1 (.j k'),.leaf 0 0 ⟨0,0,some 0,.own (.s 3 cur)⟩],fun s=>0<=s.1/\s.1.toNat<=es.length/\s.2.1=fU es k s.1.toNat/\s.2.2=gG es k s.1.toNat,fun s=>es.length-s.1.toNat,⟨(0,k,es),?_,?_⟩,?_⟩;exact⟨by omega,Zg _,bT.symm,eW.symm⟩
 ·cbv
 ·rintro⟨i,k',cur⟩ hi;replace hi:0<=i/\i.toNat<=es.length/\k'=fU es k i.toNat/\cur=gG es k i.toNat:=hi;obtain⟨g0,g1,hk',hc⟩:=hi;cbv
  repeat' first|apply Zb|(apply bF<;>intro hb<;>cbv)|(refine ag (O.ar .add Za i 1,O.ar .add Za (O.ar .add Za (O.ar .add Za (k') 1) 1) 1,O.up (.s 3 (O.up (.s 3 (O.up (.s 3 (cur)) [(O.ad 0 i,0)] [.i (k')])) [(O.ad 0 i,1)] [.i (O.ar .add Za (k') 1)])) [(O.ad 0 i,2)] [.i (O.ar .add Za (O.ar .add Za (k') 1) 1)]) ?_ ?_ ?_;focus (cbv;done))
  all_goals((try subst hos);subst hO hr hF;(try simp only[nc]at*);(try simp only[ah,SS,sa,az]at*);(try have hlt:i<es.length:=by assumption);(try have he:es.getD i.toNat []=[.i (ab es i 0),.i (ab es i 1),.i (ab es i 2)]:=(ao hwf g0 hlt).symm);(try have hcg:cur.getD i.toNat []=[.i (ab es i 0),.i (ab es i 1),.i (ab es i 2)]:=by rw[hc,eV g1];exact he))
  all_goals exact TH
def cy:EC:=fun F=>fun
 |[.one (.s 3 ms),.one (.v (.int Za k))]=>some (fun _=>∃ es,ms=dY es k/\Rw [tI,tI,tI] es/\ak es<=1099511627776/\0<=k/\be [ms] k<=1152921504606846976,[.j (F.kN [ms] k)])
 |_=>none
theorem tG:ec 162 cy:=by
 intro _ _ _ h hp;dsimp only[cy,F0]at h;split at h<;>cases h
 rename_i ms k;obtain⟨es,hms,hw,hlim,hk0,hkb⟩:=hp;have hlen:=ew hlim;have hml:ms.length=es.length:=by rw[hms];exact cF
 have hkk:be [ms] k=be [es] k:=by rw[hms];exact qg
 have hwm:Wf [.i 0,.i 0,.i 0] ms:=by rw[hms];exact dS hw
 have hwf:Wf [.i 0,.i 0,.i 0] es:=hw.wf;have hat:∀ n,n<es.length->ms.getD n []=(gY (es.getD n []) (fU es k n)).1:=fun n hn=>by rw[hms];exact lC hn
 refine cb nB Tryz.func162 ?_
 intro O r F hO hr hF;cbv
 refine⟨[0,1,5],[],Int×Int,fun s=>match s with|(i,k')=>[.reg 5 (.j i),.reg 1 (.j k')],fun s=>0<=s.1/\s.1.toNat<=es.length/\s.2=fU es k s.1.toNat,fun s=>es.length-s.1.toNat,⟨(0,k),?_,?_⟩,?_⟩;exact⟨by omega,Zg _,bT.symm⟩
 ·cbv
 ·rintro⟨i,k'⟩ hi;replace hi:0<=i/\i.toNat<=es.length/\k'=fU es k i.toNat:=hi;obtain⟨g0,g1,hk'⟩:=hi;cbv
  repeat' first|apply Zb|(apply bF<;>intro hb<;>cbv)|(refine ag (O.ar .add Za i 1,O.ar .add Za (O.ar .add Za (O.ar .add Za (k') 1) 1) 1) ?_ ?_ ?_;focus (cbv;done))
  all_goals(subst hO hr hF;(try simp only[nc]at*);(try simp only[ah,SS,sa,az]at*);(try have hltm:i<ms.length:=by assumption);(try have hlt:i<es.length:=by omega);(try have he:es.getD i.toNat []=[.i (ab es i 0),.i (ab es i 1),.i (ab es i 2)]:=(ao hwf g0 hlt).symm);(try rw[fa (n:=es.length) g0 hlt (by omega)]);(try have hlt':i.toNat<es.length:=by omega);(try have hct:=dz (es:=es) (n:=i.toNat) (by omega);rw[he]at hct;simp only[cU,fR,Zj,ZB]at hct);(try have hks:=dW (es:=es) (k:=k) hlt';rw[he]at hks;simp only[gY,iH]at hks);(try have hem:([.i (ab ms i 0),.i (ab ms i 1),.i (ab ms i 2)]:ay)=_:=(ao hwm g0 hltm).trans (hat i.toNat hlt');rw[he]at hem;simp only[gY,iH,Yk,L.v.injEq,Yq,Yr,L.s.injEq,true_and,and_true]at hem))
  all_goals exact TJ
def f9:EC:=fun F=>fun
 |[.agg [.v (.int Za a0),.v (.int Za a1)]]=>some (fun _=>True,[.agg [.i a0,.i a1]])
 |_=>none
theorem Ce:ec 309 f9:=by
 intro _ _ _ h hp;dsimp only[f9,F0]at h;split at h<;>cases h
 rename_i a0 a1;refine cb nB Tryz.func309 ?_
 exact yt
def f8:EC:=fun F=>fun
 |[.agg [.v (.int Za a0),.v (.int Za a1)],d]=>some (fun _=>d=.agg [.i a0,.i a1],[.k true])
 |_=>none
theorem B0:ec 324 f8:=by
 intro _ _ _ h hp;dsimp only[f8,F0]at h;split at h<;>cases h
 rename_i a0 a1 d;subst hp;refine cb nB Tryz.func324 ?_
 exact yt
abbrev Hg:da:=ez (fun F f=>match f with|309=>f9 F|324=>f8 F|_=>fun _=>none) (by
 intro f;dsimp only;split;exact Ce;exact B0;exact de)
def fD:EC:=fun F=>fun
 |[.one (.s 2 es),.one (.v (.int Za left))]=>some (fun _=>Rw [tI,tI] es/\0<=left/\left<=1048576,[.j (F.szN [es] left)])
 |_=>none
theorem zE:ec 211 fD:=by
 intro _ _ _ h hp;dsimp only[fD,F0]at h;split at h<;>cases h
 rename_i es left;obtain⟨hw,h0,h1⟩:=hp;have hc:ak es=es.length:=hw.cnt rfl;have hm:=hw.1;unfold maxLen at hm;have hs:bO .sub Za left es.length=left-es.length:=dG (by omega);have hn:dV [es] left=if left<es.length then-1 else left-es.length:=by unfold dV;rw[eH,hc]
 refine cb Hg Tryz.func211 ?_
 exact QN
def fE:EC:=fun F=>fun
 |[.one (.s 2 es)]=>some (fun _=>Rw [tI,tI] es/\ak es<=1048576,[.one (.s 2 es)])
 |_=>none
theorem zM:ec 219 fE:=by
 intro _ _ _ h hp;dsimp only[fE,F0]at h;split at h<;>cases h
 rename_i es;obtain⟨hw,hlim⟩:=hp;have hwf:Wf [.i 0,.i 0] es:=hw.wf;have hlen:=ew hlim;refine cb Hg Tryz.func219 ?_
 intro O r F hO hr hF;cbv
 have h0z:cE es [.i 0,.i 0] 0=O.rep (O.zi (O.ln es)) [.i 0,.i 0]:=by
  subst hO;rw[dU];rfl
 refine⟨?_,?_,[0,3,4],[3],Int×aa,fun s=>[.reg 4 (.j s.1),.leaf 3 0 ⟨0,0,none,.own (.s 2 s.2)⟩],fun s=>0<=s.1/\s.1.toNat<=es.length/\s.2=cE es [.i 0,.i 0] s.1.toNat,fun s=>es.length-s.1.toNat,⟨(0,O.rep (O.zi (O.ln es)) [.i 0,.i 0]),?_,?_⟩,?_⟩
 ·subst hO;exact qi (b:=16) (show es.length*_<=_ by omega) (show es.length<=_ by omega)
 ·subst hO;exact⟨rfl,rfl⟩
 ·exact⟨by omega,Zg _,h0z.symm⟩
 ·cbv
 ·rintro⟨i,m⟩ hi;replace hi:0<=i/\i.toNat<=es.length/\m=cE es [.i 0,.i 0] i.toNat:=hi;obtain⟨g0,g1,hm⟩:=hi;cbv
  repeat' first|apply Zb|(apply bF<;>intro hb<;>cbv)|(refine ag (O.ar .add Za i 1,O.up (.s 2 m) [(O.ad 0 i,0)] [.i (O.gi es i 0),.i (O.gi es i 1)]) ?_ ?_ ?_;focus (cbv;done))
  all_goals(subst hO hr hF;(try simp only[nc]at*);(try simp only[ah,SS,sa,az]at*);(try simp only[pI,Yn,Zy]at*);(try have hlt:i<es.length:=by assumption);(try have he:es.getD i.toNat []=[.i (ab es i 0),.i (ab es i 1)]:=(ao hwf g0 hlt).symm))
  all_goals exact QL
def fA:EC:=fun F=>fun
 |[.one (.s 2 es),d]=>some (fun _=>d=.one (.s 2 es)/\Rw [tI,tI] es/\ak es<=1099511627776,[.k true])
 |_=>none
theorem zu:ec 249 fA:=by
 intro _ _ _ h hp;dsimp only[fA,F0]at h;split at h<;>cases h
 rename_i es d;obtain⟨rfl,hw,hlim⟩:=hp;have hwf:Wf [.i 0,.i 0] es:=hw.wf;have hlen:=ew hlim;refine cb Hg Tryz.func249 ?_
 intro O r F hO hr hF;cbv
 apply bF<;>intro hb<;>cbv
 ·(subst hO hr hF;(try simp only[nc]at*);(try simp only[ah,SS,sa,az]at*));exact absurd rfl hb
 ·clear hb;refine⟨[0,1,5],[],Int,fun i=>[.reg 5 (.j i)],fun i=>0<=i/\i.toNat<=es.length,fun i=>es.length-i.toNat,⟨0,?_,?_⟩,?_⟩;exact⟨by omega,Zg _⟩
  ·cbv
  ·rintro i hi;replace hi:0<=i/\i.toNat<=es.length:=hi;obtain⟨g0,g1⟩:=hi;cbv
   repeat' first|apply Zb|(apply bF<;>intro hb<;>cbv)|(refine ag (O.ar .add Za i 1) ?_ ?_ ?_;focus (cbv;done))
   all_goals(subst hO hr hF;(try simp only[nc]at*);(try simp only[ah,SS,sa,az]at*);(try have hlt:i<es.length:=by assumption);(try have he:es.getD i.toNat []=[.i (ab es i 0),.i (ab es i 1)]:=(ao hwf g0 hlt).symm))
   all_goals exact TK
def er:EM:=fun F=>fun
 |[.one (.s 2 es),.one (.v (.int Za k))]=>some (fun _=>Rw [tI,tI] es/\ak es<=1099511627776/\0<=k/\be [es] k<=1152921504606846976,[.s 2 (F.mkN es k)],[.j (F.kN [es] k)])
 |_=>none
theorem vh:em 253 er:=by
 intro _ _ _ _ h hp;dsimp only[er,F0]at h;split at h<;>cases h
 rename_i es k;obtain⟨hw,hlim,hk0,hkb⟩:=hp;have hwf:Wf [.i 0,.i 0] es:=hw.wf;have hlen:=ew hlim;refine mb nB [(0,0)] Tryz.func253 ?_
 intro O r os F hO hr hos hF;cbv
 refine⟨[0,1,5],[0],Int×Int×aa,fun s=>match s with|(i,k',cur)=>[.reg 5 (.j i),.reg 1 (.j k'),.leaf 0 0 ⟨0,0,some 0,.own (.s 2 cur)⟩],fun s=>0<=s.1/\s.1.toNat<=es.length/\s.2.1=fU es k s.1.toNat/\s.2.2=gG es k s.1.toNat,fun s=>es.length-s.1.toNat,⟨(0,k,es),?_,?_⟩,?_⟩;exact⟨by omega,Zg _,bT.symm,eW.symm⟩
 ·cbv
 ·rintro⟨i,k',cur⟩ hi;replace hi:0<=i/\i.toNat<=es.length/\k'=fU es k i.toNat/\cur=gG es k i.toNat:=hi;obtain⟨g0,g1,hk',hc⟩:=hi;cbv
  repeat' first|apply Zb|(apply bF<;>intro hb<;>cbv)|(refine ag (O.ar .add Za i 1,O.ar .add Za (O.ar .add Za (k') 1) 1,O.up (.s 2 (O.up (.s 2 (cur)) [(O.ad 0 i,0)] [.i (k')])) [(O.ad 0 i,1)] [.i (O.ar .add Za (k') 1)]) ?_ ?_ ?_;focus (cbv;done))
  all_goals((try subst hos);subst hO hr hF;(try simp only[nc]at*);(try simp only[ah,SS,sa,az]at*);(try have hlt:i<es.length:=by assumption);(try have he:es.getD i.toNat []=[.i (ab es i 0),.i (ab es i 1)]:=(ao hwf g0 hlt).symm);(try have hcg:cur.getD i.toNat []=[.i (ab es i 0),.i (ab es i 1)]:=by rw[hc,eV g1];exact he))
  all_goals exact TH
def eh:EC:=fun F=>fun
 |[.one (.s 2 ms),.one (.v (.int Za k))]=>some (fun _=>∃ es,ms=dY es k/\Rw [tI,tI] es/\ak es<=1099511627776/\0<=k/\be [ms] k<=1152921504606846976,[.j (F.kN [ms] k)])
 |_=>none
theorem vd:ec 256 eh:=by
 intro _ _ _ h hp;dsimp only[eh,F0]at h;split at h<;>cases h
 rename_i ms k;obtain⟨es,hms,hw,hlim,hk0,hkb⟩:=hp;have hlen:=ew hlim;have hml:ms.length=es.length:=by rw[hms];exact cF
 have hkk:be [ms] k=be [es] k:=by rw[hms];exact qg
 have hwm:Wf [.i 0,.i 0] ms:=by rw[hms];exact dS hw
 have hwf:Wf [.i 0,.i 0] es:=hw.wf;have hat:∀ n,n<es.length->ms.getD n []=(gY (es.getD n []) (fU es k n)).1:=fun n hn=>by rw[hms];exact lC hn
 refine cb nB Tryz.func256 ?_
 intro O r F hO hr hF;cbv
 refine⟨[0,1,5],[],Int×Int,fun s=>match s with|(i,k')=>[.reg 5 (.j i),.reg 1 (.j k')],fun s=>0<=s.1/\s.1.toNat<=es.length/\s.2=fU es k s.1.toNat,fun s=>es.length-s.1.toNat,⟨(0,k),?_,?_⟩,?_⟩;exact⟨by omega,Zg _,bT.symm⟩
 ·cbv
 ·rintro⟨i,k'⟩ hi;replace hi:0<=i/\i.toNat<=es.length/\k'=fU es k i.toNat:=hi;obtain⟨g0,g1,hk'⟩:=hi;cbv
  repeat' first|apply Zb|(apply bF<;>intro hb<;>cbv)|(refine ag (O.ar .add Za i 1,O.ar .add Za (O.ar .add Za (k') 1) 1) ?_ ?_ ?_;focus (cbv;done))
  all_goals(subst hO hr hF;(try simp only[nc]at*);(try simp only[ah,SS,sa,az]at*);(try have hltm:i<ms.length:=by assumption);(try have hlt:i<es.length:=by omega);(try have he:es.getD i.toNat []=[.i (ab es i 0),.i (ab es i 1)]:=(ao hwf g0 hlt).symm);(try rw[fa (n:=es.length) g0 hlt (by omega)]);(try have hlt':i.toNat<es.length:=by omega);(try have hct:=dz (es:=es) (n:=i.toNat) (by omega);rw[he]at hct;simp only[cU,fR,Zj,ZB]at hct);(try have hks:=dW (es:=es) (k:=k) hlt';rw[he]at hks;simp only[gY,iH]at hks);(try have hem:([.i (ab ms i 0),.i (ab ms i 1)]:ay)=_:=(ao hwm g0 hltm).trans (hat i.toNat hlt');rw[he]at hem;simp only[gY,iH,Yk,L.v.injEq,Yq,Yr,L.s.injEq,true_and,and_true]at hem))
  all_goals exact TJ
theorem zN:ec 109 f9:=by
 intro _ _ _ h hp;dsimp only[f9,F0]at h;split at h<;>cases h
 rename_i a0 a1;refine cb nB Tryz.func109 ?_
 exact yt
theorem zw:ec 143 f8:=by
 intro _ _ _ h hp;dsimp only[f8,F0]at h;split at h<;>cases h
 rename_i a0 a1 d;subst hp;refine cb nB Tryz.func143 ?_
 exact yt
abbrev DC:da:=ez (fun F f=>match f with|109=>f9 F|143=>f8 F|_=>fun _=>none) (by
 intro f;dsimp only;split;exact zN;exact zw;exact de)
theorem xL:ec 18 fD:=by
 intro _ _ _ h hp;dsimp only[fD,F0]at h;split at h<;>cases h
 rename_i es left;obtain⟨hw,h0,h1⟩:=hp;have hc:ak es=es.length:=hw.cnt rfl;have hm:=hw.1;unfold maxLen at hm;have hs:bO .sub Za left es.length=left-es.length:=dG (by omega);have hn:dV [es] left=if left<es.length then-1 else left-es.length:=by unfold dV;rw[eH,hc]
 refine cb DC Tryz.func18 ?_
 exact QN
theorem xT:ec 31 fE:=by
 intro _ _ _ h hp;dsimp only[fE,F0]at h;split at h<;>cases h
 rename_i es;obtain⟨hw,hlim⟩:=hp;have hwf:Wf [.i 0,.i 0] es:=hw.wf;have hlen:=ew hlim;refine cb DC Tryz.func31 ?_
 intro O r F hO hr hF;cbv
 have h0z:cE es [.i 0,.i 0] 0=O.rep (O.zi (O.ln es)) [.i 0,.i 0]:=by
  subst hO;rw[dU];rfl
 refine⟨?_,?_,[0,3,4],[3],Int×aa,fun s=>[.reg 4 (.j s.1),.leaf 3 0 ⟨0,0,none,.own (.s 2 s.2)⟩],fun s=>0<=s.1/\s.1.toNat<=es.length/\s.2=cE es [.i 0,.i 0] s.1.toNat,fun s=>es.length-s.1.toNat,⟨(0,O.rep (O.zi (O.ln es)) [.i 0,.i 0]),?_,?_⟩,?_⟩
 ·subst hO;exact qi (b:=16) (show es.length*_<=_ by omega) (show es.length<=_ by omega)
 ·subst hO;exact⟨rfl,rfl⟩
 ·exact⟨by omega,Zg _,h0z.symm⟩
 ·cbv
 ·rintro⟨i,m⟩ hi;replace hi:0<=i/\i.toNat<=es.length/\m=cE es [.i 0,.i 0] i.toNat:=hi;obtain⟨g0,g1,hm⟩:=hi;cbv
  repeat' first|apply Zb|(apply bF<;>intro hb<;>cbv)|(refine ag (O.ar .add Za i 1,O.up (.s 2 m) [(O.ad 0 i,0)] [.i (O.gi es i 0),.i (O.gi es i 1)]) ?_ ?_ ?_;focus (cbv;done))
  all_goals(subst hO hr hF;(try simp only[nc]at*);(try simp only[ah,SS,sa,az]at*);(try simp only[pI,Yn,Zy]at*);(try have hlt:i<es.length:=by assumption);(try have he:es.getD i.toNat []=[.i (ab es i 0),.i (ab es i 1)]:=(ao hwf g0 hlt).symm))
  all_goals exact QL
theorem xr:ec 45 fA:=by
 intro _ _ _ h hp;dsimp only[fA,F0]at h;split at h<;>cases h
 rename_i es d;obtain⟨rfl,hw,hlim⟩:=hp;have hwf:Wf [.i 0,.i 0] es:=hw.wf;have hlen:=ew hlim;refine cb DC Tryz.func45 ?_
 intro O r F hO hr hF;cbv
 apply bF<;>intro hb<;>cbv
 ·(subst hO hr hF;(try simp only[nc]at*);(try simp only[ah,SS,sa,az]at*));exact absurd rfl hb
 ·clear hb;refine⟨[0,1,5],[],Int,fun i=>[.reg 5 (.j i)],fun i=>0<=i/\i.toNat<=es.length,fun i=>es.length-i.toNat,⟨0,?_,?_⟩,?_⟩;exact⟨by omega,Zg _⟩
  ·cbv
  ·rintro i hi;replace hi:0<=i/\i.toNat<=es.length:=hi;obtain⟨g0,g1⟩:=hi;cbv
   repeat' first|apply Zb|(apply bF<;>intro hb<;>cbv)|(refine ag (O.ar .add Za i 1) ?_ ?_ ?_;focus (cbv;done))
   all_goals(subst hO hr hF;(try simp only[nc]at*);(try simp only[ah,SS,sa,az]at*);(try have hlt:i<es.length:=by assumption);(try have he:es.getD i.toNat []=[.i (ab es i 0),.i (ab es i 1)]:=(ao hwf g0 hlt).symm))
   all_goals exact TK
theorem tO:em 54 er:=by
 intro _ _ _ _ h hp;dsimp only[er,F0]at h;split at h<;>cases h
 rename_i es k;obtain⟨hw,hlim,hk0,hkb⟩:=hp;have hwf:Wf [.i 0,.i 0] es:=hw.wf;have hlen:=ew hlim;refine mb nB [(0,0)] Tryz.func54 ?_
 intro O r os F hO hr hos hF;cbv
 refine⟨[0,1,5],[0],Int×Int×aa,fun s=>match s with|(i,k',cur)=>[.reg 5 (.j i),.reg 1 (.j k'),.leaf 0 0 ⟨0,0,some 0,.own (.s 2 cur)⟩],fun s=>0<=s.1/\s.1.toNat<=es.length/\s.2.1=fU es k s.1.toNat/\s.2.2=gG es k s.1.toNat,fun s=>es.length-s.1.toNat,⟨(0,k,es),?_,?_⟩,?_⟩;exact⟨by omega,Zg _,bT.symm,eW.symm⟩
 ·cbv
 ·rintro⟨i,k',cur⟩ hi;replace hi:0<=i/\i.toNat<=es.length/\k'=fU es k i.toNat/\cur=gG es k i.toNat:=hi;obtain⟨g0,g1,hk',hc⟩:=hi;cbv
  repeat' first|apply Zb|(apply bF<;>intro hb<;>cbv)|(refine ag (O.ar .add Za i 1,O.ar .add Za (O.ar .add Za (k') 1) 1,O.up (.s 2 (O.up (.s 2 (cur)) [(O.ad 0 i,0)] [.i (k')])) [(O.ad 0 i,1)] [.i (O.ar .add Za (k') 1)]) ?_ ?_ ?_;focus (cbv;done))
  all_goals((try subst hos);subst hO hr hF;(try simp only[nc]at*);(try simp only[ah,SS,sa,az]at*);(try have hlt:i<es.length:=by assumption);(try have he:es.getD i.toNat []=[.i (ab es i 0),.i (ab es i 1)]:=(ao hwf g0 hlt).symm);(try have hcg:cur.getD i.toNat []=[.i (ab es i 0),.i (ab es i 1)]:=by rw[hc,eV g1];exact he))
  all_goals exact TH
theorem tF:ec 63 eh:=by
 intro _ _ _ h hp;dsimp only[eh,F0]at h;split at h<;>cases h
 rename_i ms k;obtain⟨es,hms,hw,hlim,hk0,hkb⟩:=hp;have hlen:=ew hlim;have hml:ms.length=es.length:=by rw[hms];exact cF
 have hkk:be [ms] k=be [es] k:=by rw[hms];exact qg
 have hwm:Wf [.i 0,.i 0] ms:=by rw[hms];exact dS hw
 have hwf:Wf [.i 0,.i 0] es:=hw.wf;have hat:∀ n,n<es.length->ms.getD n []=(gY (es.getD n []) (fU es k n)).1:=fun n hn=>by rw[hms];exact lC hn
 refine cb nB Tryz.func63 ?_
 intro O r F hO hr hF;cbv
 refine⟨[0,1,5],[],Int×Int,fun s=>match s with|(i,k')=>[.reg 5 (.j i),.reg 1 (.j k')],fun s=>0<=s.1/\s.1.toNat<=es.length/\s.2=fU es k s.1.toNat,fun s=>es.length-s.1.toNat,⟨(0,k),?_,?_⟩,?_⟩;exact⟨by omega,Zg _,bT.symm⟩
 ·cbv
 ·rintro⟨i,k'⟩ hi;replace hi:0<=i/\i.toNat<=es.length/\k'=fU es k i.toNat:=hi;obtain⟨g0,g1,hk'⟩:=hi;cbv
  repeat' first|apply Zb|(apply bF<;>intro hb<;>cbv)|(refine ag (O.ar .add Za i 1,O.ar .add Za (O.ar .add Za (k') 1) 1) ?_ ?_ ?_;focus (cbv;done))
  all_goals(subst hO hr hF;(try simp only[nc]at*);(try simp only[ah,SS,sa,az]at*);(try have hltm:i<ms.length:=by assumption);(try have hlt:i<es.length:=by omega);(try have he:es.getD i.toNat []=[.i (ab es i 0),.i (ab es i 1)]:=(ao hwf g0 hlt).symm);(try rw[fa (n:=es.length) g0 hlt (by omega)]);(try have hlt':i.toNat<es.length:=by omega);(try have hct:=dz (es:=es) (n:=i.toNat) (by omega);rw[he]at hct;simp only[cU,fR,Zj,ZB]at hct);(try have hks:=dW (es:=es) (k:=k) hlt';rw[he]at hks;simp only[gY,iH]at hks);(try have hem:([.i (ab ms i 0),.i (ab ms i 1)]:ay)=_:=(ao hwm g0 hltm).trans (hat i.toNat hlt');rw[he]at hem;simp only[gY,iH,Yk,L.v.injEq,Yq,Yr,L.s.injEq,true_and,and_true]at hem))
  all_goals exact TJ
theorem Cg:ec 110 dp:=by
 intro _ _ _ h hp;dsimp only[dp,F0]at h;split at h<;>cases h
 rename_i a0 a1 a2;refine cb nB Tryz.func110 ?_
 exact yt
theorem B4:ec 144 dm:=by
 intro _ _ _ h hp;dsimp only[dm,F0]at h;split at h<;>cases h
 rename_i a0 a1 a2 d;subst hp;refine cb nB Tryz.func144 ?_
 exact yt
abbrev Hh:da:=ez (fun F f=>match f with|110=>dp F|144=>dm F|_=>fun _=>none) (by
 intro f;dsimp only;split;exact Cg;exact B4;exact de)
theorem zF:ec 19 cR:=by
 intro _ _ _ h hp;dsimp only[cR,F0]at h;split at h<;>cases h
 rename_i es left;obtain⟨hw,h0,h1⟩:=hp;have hc:ak es=es.length:=hw.cnt rfl;have hm:=hw.1;unfold maxLen at hm;have hs:bO .sub Za left es.length=left-es.length:=dG (by omega);have hn:dV [es] left=if left<es.length then-1 else left-es.length:=by unfold dV;rw[eH,hc]
 refine cb Hh Tryz.func19 ?_
 exact QN
theorem zO:ec 32 cS:=by
 intro _ _ _ h hp;dsimp only[cS,F0]at h;split at h<;>cases h
 rename_i es;obtain⟨hw,hlim⟩:=hp;have hwf:Wf [.i 0,.i 0,.i 0] es:=hw.wf;have hlen:=ew hlim;refine cb Hh Tryz.func32 ?_
 intro O r F hO hr hF;cbv
 have h0z:cE es [.i 0,.i 0,.i 0] 0=O.rep (O.zi (O.ln es)) [.i 0,.i 0,.i 0]:=by
  subst hO;rw[dU];rfl
 refine⟨?_,?_,[0,3,4],[3],Int×aa,fun s=>[.reg 4 (.j s.1),.leaf 3 0 ⟨0,0,none,.own (.s 3 s.2)⟩],fun s=>0<=s.1/\s.1.toNat<=es.length/\s.2=cE es [.i 0,.i 0,.i 0] s.1.toNat,fun s=>es.length-s.1.toNat,⟨(0,O.rep (O.zi (O.ln es)) [.i 0,.i 0,.i 0]),?_,?_⟩,?_⟩
 ·subst hO;exact qi (b:=24) (show es.length*_<=_ by omega) (show es.length<=_ by omega)
 ·subst hO;exact⟨rfl,rfl⟩
 ·exact⟨by omega,Zg _,h0z.symm⟩
 ·cbv
 ·rintro⟨i,m⟩ hi;replace hi:0<=i/\i.toNat<=es.length/\m=cE es [.i 0,.i 0,.i 0] i.toNat:=hi;obtain⟨g0,g1,hm⟩:=hi;cbv
  repeat' first|apply Zb|(apply bF<;>intro hb<;>cbv)|(refine ag (O.ar .add Za i 1,O.up (.s 3 m) [(O.ad 0 i,0)] [.i (O.gi es i 0),.i (O.gi es i 1),.i (O.gi es i 2)]) ?_ ?_ ?_;focus (cbv;done))
  all_goals(subst hO hr hF;(try simp only[nc]at*);(try simp only[ah,SS,sa,az]at*);(try simp only[pI,Yn,Zy]at*);(try have hlt:i<es.length:=by assumption);(try have he:es.getD i.toNat []=[.i (ab es i 0),.i (ab es i 1),.i (ab es i 2)]:=(ao hwf g0 hlt).symm))
  all_goals exact QL
theorem zx:ec 46 cQ:=by
 intro _ _ _ h hp;dsimp only[cQ,F0]at h;split at h<;>cases h
 rename_i es d;obtain⟨rfl,hw,hlim⟩:=hp;have hwf:Wf [.i 0,.i 0,.i 0] es:=hw.wf;have hlen:=ew hlim;refine cb Hh Tryz.func46 ?_
 intro O r F hO hr hF;cbv
 apply bF<;>intro hb<;>cbv
 ·(subst hO hr hF;(try simp only[nc]at*);(try simp only[ah,SS,sa,az]at*));exact absurd rfl hb
 ·clear hb;refine⟨[0,1,5],[],Int,fun i=>[.reg 5 (.j i)],fun i=>0<=i/\i.toNat<=es.length,fun i=>es.length-i.toNat,⟨0,?_,?_⟩,?_⟩;exact⟨by omega,Zg _⟩
  ·cbv
  ·rintro i hi;replace hi:0<=i/\i.toNat<=es.length:=hi;obtain⟨g0,g1⟩:=hi;cbv
   repeat' first|apply Zb|(apply bF<;>intro hb<;>cbv)|(refine ag (O.ar .add Za i 1) ?_ ?_ ?_;focus (cbv;done))
   all_goals(subst hO hr hF;(try simp only[nc]at*);(try simp only[ah,SS,sa,az]at*);(try have hlt:i<es.length:=by assumption);(try have he:es.getD i.toNat []=[.i (ab es i 0),.i (ab es i 1),.i (ab es i 2)]:=(ao hwf g0 hlt).symm))
   all_goals exact TK
theorem vj:em 55 cz:=by
 intro _ _ _ _ h hp;dsimp only[cz,F0]at h;split at h<;>cases h
 rename_i es k;obtain⟨hw,hlim,hk0,hkb⟩:=hp;have hwf:Wf [.i 0,.i 0,.i 0] es:=hw.wf;have hlen:=ew hlim;refine mb nB [(0,0)] Tryz.func55 ?_
 intro O r os F hO hr hos hF;cbv
 refine⟨[0,1,5],[0],Int×Int×aa,fun s=>match s with|(i,k',cur)=>[.reg 5 (.j i),.reg 1 (.j k'),.leaf 0 0 ⟨0,0,some 0,.own (.s 3 cur)⟩],fun s=>0<=s.1/\s.1.toNat<=es.length/\s.2.1=fU es k s.1.toNat/\s.2.2=gG es k s.1.toNat,fun s=>es.length-s.1.toNat,⟨(0,k,es),?_,?_⟩,?_⟩;exact⟨by omega,Zg _,bT.symm,eW.symm⟩
 ·cbv
 ·rintro⟨i,k',cur⟩ hi;replace hi:0<=i/\i.toNat<=es.length/\k'=fU es k i.toNat/\cur=gG es k i.toNat:=hi;obtain⟨g0,g1,hk',hc⟩:=hi;cbv
  repeat' first|apply Zb|(apply bF<;>intro hb<;>cbv)|(refine ag (O.ar .add Za i 1,O.ar .add Za (O.ar .add Za (O.ar .add Za (k') 1) 1) 1,O.up (.s 3 (O.up (.s 3 (O.up (.s 3 (cur)) [(O.ad 0 i,0)] [.i (k')])) [(O.ad 0 i,1)] [.i (O.ar .add Za (k') 1)])) [(O.ad 0 i,2)] [.i (O.ar .add Za (O.ar .add Za (k') 1) 1)]) ?_ ?_ ?_;focus (cbv;done))
  all_goals((try subst hos);subst hO hr hF;(try simp only[nc]at*);(try simp only[ah,SS,sa,az]at*);(try have hlt:i<es.length:=by assumption);(try have he:es.getD i.toNat []=[.i (ab es i 0),.i (ab es i 1),.i (ab es i 2)]:=(ao hwf g0 hlt).symm);(try have hcg:cur.getD i.toNat []=[.i (ab es i 0),.i (ab es i 1),.i (ab es i 2)]:=by rw[hc,eV g1];exact he))
  all_goals exact TH
theorem ve:ec 64 cy:=by
 intro _ _ _ h hp;dsimp only[cy,F0]at h;split at h<;>cases h
 rename_i ms k;obtain⟨es,hms,hw,hlim,hk0,hkb⟩:=hp;have hlen:=ew hlim;have hml:ms.length=es.length:=by rw[hms];exact cF
 have hkk:be [ms] k=be [es] k:=by rw[hms];exact qg
 have hwm:Wf [.i 0,.i 0,.i 0] ms:=by rw[hms];exact dS hw
 have hwf:Wf [.i 0,.i 0,.i 0] es:=hw.wf;have hat:∀ n,n<es.length->ms.getD n []=(gY (es.getD n []) (fU es k n)).1:=fun n hn=>by rw[hms];exact lC hn
 refine cb nB Tryz.func64 ?_
 intro O r F hO hr hF;cbv
 refine⟨[0,1,5],[],Int×Int,fun s=>match s with|(i,k')=>[.reg 5 (.j i),.reg 1 (.j k')],fun s=>0<=s.1/\s.1.toNat<=es.length/\s.2=fU es k s.1.toNat,fun s=>es.length-s.1.toNat,⟨(0,k),?_,?_⟩,?_⟩;exact⟨by omega,Zg _,bT.symm⟩
 ·cbv
 ·rintro⟨i,k'⟩ hi;replace hi:0<=i/\i.toNat<=es.length/\k'=fU es k i.toNat:=hi;obtain⟨g0,g1,hk'⟩:=hi;cbv
  repeat' first|apply Zb|(apply bF<;>intro hb<;>cbv)|(refine ag (O.ar .add Za i 1,O.ar .add Za (O.ar .add Za (O.ar .add Za (k') 1) 1) 1) ?_ ?_ ?_;focus (cbv;done))
  all_goals(subst hO hr hF;(try simp only[nc]at*);(try simp only[ah,SS,sa,az]at*);(try have hltm:i<ms.length:=by assumption);(try have hlt:i<es.length:=by omega);(try have he:es.getD i.toNat []=[.i (ab es i 0),.i (ab es i 1),.i (ab es i 2)]:=(ao hwf g0 hlt).symm);(try rw[fa (n:=es.length) g0 hlt (by omega)]);(try have hlt':i.toNat<es.length:=by omega);(try have hct:=dz (es:=es) (n:=i.toNat) (by omega);rw[he]at hct;simp only[cU,fR,Zj,ZB]at hct);(try have hks:=dW (es:=es) (k:=k) hlt';rw[he]at hks;simp only[gY,iH]at hks);(try have hem:([.i (ab ms i 0),.i (ab ms i 1),.i (ab ms i 2)]:ay)=_:=(ao hwm g0 hltm).trans (hat i.toNat hlt');rw[he]at hem;simp only[gY,iH,Yk,L.v.injEq,Yq,Yr,L.s.injEq,true_and,and_true]at hem))
  all_goals exact TJ
end Go.V
