/- Contracts. -/
import Derived.Test.YtbedjnlfdopeeaaGreatMA
set_option linter.all false
open Go
open And renaming intro->Zb
open Int renaming toNat_natCast->Zy,le_trans->XB
open IntKind renaming i64->Zp,i64->Za
open List renaming length_replicate->Yn,nil_append->ZI,cons_append->ZN
open List.cons renaming injEq->Yk
open Nat renaming zero_le->Zg,add_zero->Zj,zero_add->ZB,le_refl->Zd
open Value renaming int->Zi
open Value.bool renaming injEq->Yr
open Value.int renaming injEq->Yq
namespace Go.V
open Go Go.Proofs
set_option maxRecDepth 1000000
set_option maxHeartbeats 8000000
theorem zK:ec 111 dp:=by
 intro _ _ _ h hp;dsimp only[dp,F0]at h;split at h<;>cases h
 rename_i a0 a1 a2;refine cb nB Tryz.func111 ?_
 exact yt
theorem zt:ec 145 dm:=by
 intro _ _ _ h hp;dsimp only[dm,F0]at h;split at h<;>cases h
 rename_i a0 a1 a2 d;subst hp;refine cb nB Tryz.func145 ?_
 exact yt
abbrev Dy:da:=ez (fun F f=>match f with|111=>dp F|145=>dm F|_=>fun _=>none) (by
 intro f;dsimp only;split;exact zK;exact zt;exact de)
theorem xJ:ec 20 cR:=by
 intro _ _ _ h hp;dsimp only[cR,F0]at h;split at h<;>cases h
 rename_i es left;obtain⟨hw,h0,h1⟩:=hp;have hc:ak es=es.length:=hw.cnt rfl;have hm:=hw.1;unfold maxLen at hm;have hs:bO .sub Za left es.length=left-es.length:=dG (by omega);have hn:dV [es] left=if left<es.length then-1 else left-es.length:=by unfold dV;rw[eH,hc]
 refine cb Dy Tryz.func20 ?_
 exact QN
theorem xR:ec 33 cS:=by
 intro _ _ _ h hp;dsimp only[cS,F0]at h;split at h<;>cases h
 rename_i es;obtain⟨hw,hlim⟩:=hp;have hwf:Wf [.i 0,.i 0,.i 0] es:=hw.wf;have hlen:=ew hlim;refine cb Dy Tryz.func33 ?_
 intro O r F hO hr hF;cbv
 have h0z:cE es [.i 0,.i 0,.i 0] 0=O.rep (O.zi (O.ln es)) [.i 0,.i 0,.i 0]:=by
  subst hO;rw[dU];rfl
 refine⟨?_,?_,[0,3,4],[3],Int×aa,fun s=>[.reg 4 (.j s.1),.leaf 3 0 ⟨0,0,none,.own (.s 3 s.2)⟩],fun s=>0<=s.1/\s.1.toNat<=es.length/\s.2=cE es [.i 0,.i 0,.i 0] s.1.toNat,fun s=>es.length-s.1.toNat,⟨(0,O.rep (O.zi (O.ln es)) [.i 0,.i 0,.i 0]),?_,?_⟩,?_⟩
 ·subst hO;exact qi (b:=24) (show es.length*_<=_ by omega) (show es.length<=_ by omega)
 ·subst hO;exact⟨rfl,rfl⟩
 ·exact⟨by omega,Zg _,h0z.symm⟩
 ·cbv
 ·rintro⟨i,m⟩ hi;replace hi:0<=i/\i.toNat<=es.length/\m=cE es [.i 0,.i 0,.i 0] i.toNat:=hi;obtain⟨g0,g1,hm⟩:=hi;cbv
  repeat' first|apply Zb|(apply bF<;>intro hb<;>cbv)|(refine ag (O.ar .add Za i 1,O.up (.s 3 m) [(O.ad 0 i,0)] [.i (O.gi es i 0),.i (O.gi es i 1),.i (O.gi es i 2)]) ?_ ?_ ?_;focus (cbv;done))
  all_goals(subst hO hr hF;(try simp only[nc]at*);(try simp only[ah,SS,sa,az]at*);(try simp only[pI,Yn,Zy]at*);(try have hlt:i<es.length:=by assumption);(try have he:es.getD i.toNat []=[.i (ab es i 0),.i (ab es i 1),.i (ab es i 2)]:=(ao hwf g0 hlt).symm))
  all_goals exact QL
theorem xp:ec 47 cQ:=by
 intro _ _ _ h hp;dsimp only[cQ,F0]at h;split at h<;>cases h
 rename_i es d;obtain⟨rfl,hw,hlim⟩:=hp;have hwf:Wf [.i 0,.i 0,.i 0] es:=hw.wf;have hlen:=ew hlim;refine cb Dy Tryz.func47 ?_
 intro O r F hO hr hF;cbv
 apply bF<;>intro hb<;>cbv
 ·(subst hO hr hF;(try simp only[nc]at*);(try simp only[ah,SS,sa,az]at*));exact absurd rfl hb
 ·clear hb;refine⟨[0,1,5],[],Int,fun i=>[.reg 5 (.j i)],fun i=>0<=i/\i.toNat<=es.length,fun i=>es.length-i.toNat,⟨0,?_,?_⟩,?_⟩;exact⟨by omega,Zg _⟩
  ·cbv
  ·rintro i hi;replace hi:0<=i/\i.toNat<=es.length:=hi;obtain⟨g0,g1⟩:=hi;cbv
   repeat' first|apply Zb|(apply bF<;>intro hb<;>cbv)|(refine ag (O.ar .add Za i 1) ?_ ?_ ?_;focus (cbv;done))
   all_goals(subst hO hr hF;(try simp only[nc]at*);(try simp only[ah,SS,sa,az]at*);(try have hlt:i<es.length:=by assumption);(try have he:es.getD i.toNat []=[.i (ab es i 0),.i (ab es i 1),.i (ab es i 2)]:=(ao hwf g0 hlt).symm))
   all_goals exact TK
theorem tM:em 56 cz:=by
 intro _ _ _ _ h hp;dsimp only[cz,F0]at h;split at h<;>cases h
 rename_i es k;obtain⟨hw,hlim,hk0,hkb⟩:=hp;have hwf:Wf [.i 0,.i 0,.i 0] es:=hw.wf;have hlen:=ew hlim;refine mb nB [(0,0)] Tryz.func56 ?_
 intro O r os F hO hr hos hF;cbv
 refine⟨[0,1,5],[0],Int×Int×aa,fun s=>match s with|(i,k',cur)=>[.reg 5 (.j i),.reg 1 (.j k'),.leaf 0 0 ⟨0,0,some 0,.own (.s 3 cur)⟩],fun s=>0<=s.1/\s.1.toNat<=es.length/\s.2.1=fU es k s.1.toNat/\s.2.2=gG es k s.1.toNat,fun s=>es.length-s.1.toNat,⟨(0,k,es),?_,?_⟩,?_⟩;exact⟨by omega,Zg _,bT.symm,eW.symm⟩
 ·cbv
 ·rintro⟨i,k',cur⟩ hi;replace hi:0<=i/\i.toNat<=es.length/\k'=fU es k i.toNat/\cur=gG es k i.toNat:=hi;obtain⟨g0,g1,hk',hc⟩:=hi;cbv
  repeat' first|apply Zb|(apply bF<;>intro hb<;>cbv)|(refine ag (O.ar .add Za i 1,O.ar .add Za (O.ar .add Za (O.ar .add Za (k') 1) 1) 1,O.up (.s 3 (O.up (.s 3 (O.up (.s 3 (cur)) [(O.ad 0 i,0)] [.i (k')])) [(O.ad 0 i,1)] [.i (O.ar .add Za (k') 1)])) [(O.ad 0 i,2)] [.i (O.ar .add Za (O.ar .add Za (k') 1) 1)]) ?_ ?_ ?_;focus (cbv;done))
  all_goals((try subst hos);subst hO hr hF;(try simp only[nc]at*);(try simp only[ah,SS,sa,az]at*);(try have hlt:i<es.length:=by assumption);(try have he:es.getD i.toNat []=[.i (ab es i 0),.i (ab es i 1),.i (ab es i 2)]:=(ao hwf g0 hlt).symm);(try have hcg:cur.getD i.toNat []=[.i (ab es i 0),.i (ab es i 1),.i (ab es i 2)]:=by rw[hc,eV g1];exact he))
  all_goals exact TH
theorem tD:ec 65 cy:=by
 intro _ _ _ h hp;dsimp only[cy,F0]at h;split at h<;>cases h
 rename_i ms k;obtain⟨es,hms,hw,hlim,hk0,hkb⟩:=hp;have hlen:=ew hlim;have hml:ms.length=es.length:=by rw[hms];exact cF
 have hkk:be [ms] k=be [es] k:=by rw[hms];exact qg
 have hwm:Wf [.i 0,.i 0,.i 0] ms:=by rw[hms];exact dS hw
 have hwf:Wf [.i 0,.i 0,.i 0] es:=hw.wf;have hat:∀ n,n<es.length->ms.getD n []=(gY (es.getD n []) (fU es k n)).1:=fun n hn=>by rw[hms];exact lC hn
 refine cb nB Tryz.func65 ?_
 intro O r F hO hr hF;cbv
 refine⟨[0,1,5],[],Int×Int,fun s=>match s with|(i,k')=>[.reg 5 (.j i),.reg 1 (.j k')],fun s=>0<=s.1/\s.1.toNat<=es.length/\s.2=fU es k s.1.toNat,fun s=>es.length-s.1.toNat,⟨(0,k),?_,?_⟩,?_⟩;exact⟨by omega,Zg _,bT.symm⟩
 ·cbv
 ·rintro⟨i,k'⟩ hi;replace hi:0<=i/\i.toNat<=es.length/\k'=fU es k i.toNat:=hi;obtain⟨g0,g1,hk'⟩:=hi;cbv
  repeat' first|apply Zb|(apply bF<;>intro hb<;>cbv)|(refine ag (O.ar .add Za i 1,O.ar .add Za (O.ar .add Za (O.ar .add Za (k') 1) 1) 1) ?_ ?_ ?_;focus (cbv;done))
  all_goals(subst hO hr hF;(try simp only[nc]at*);(try simp only[ah,SS,sa,az]at*);(try have hltm:i<ms.length:=by assumption);(try have hlt:i<es.length:=by omega);(try have he:es.getD i.toNat []=[.i (ab es i 0),.i (ab es i 1),.i (ab es i 2)]:=(ao hwf g0 hlt).symm);(try rw[fa (n:=es.length) g0 hlt (by omega)]);(try have hlt':i.toNat<es.length:=by omega);(try have hct:=dz (es:=es) (n:=i.toNat) (by omega);rw[he]at hct;simp only[cU,fR,Zj,ZB]at hct);(try have hks:=dW (es:=es) (k:=k) hlt';rw[he]at hks;simp only[gY,iH]at hks);(try have hem:([.i (ab ms i 0),.i (ab ms i 1),.i (ab ms i 2)]:ay)=_:=(ao hwm g0 hltm).trans (hat i.toNat hlt');rw[he]at hem;simp only[gY,iH,Yk,L.v.injEq,Yq,Yr,L.s.injEq,true_and,and_true]at hem))
  all_goals exact TJ
abbrev He:da:=ez (fun F f=>match f with|97=>gB F|115=>gC F|149=>gA F|_=>fun _=>none) (by
 intro f;dsimp only;split;exact lZ;exact ma;exact lY;exact de)
def mD:EC:=fun F=>fun
 |[.agg [.s 1 a0],.one (.v (.int Za left))]=>some (fun _=>Rw [.sl [tI]] a0/\0<=left/\left<=1048576,[.j (F.szN [a0] left)])
 |_=>none
theorem zD:ec 95 mD:=by
 intro _ _ _ h hp;dsimp only[mD,F0]at h;split at h<;>cases h
 rename_i a0 left;obtain⟨w0,h0,h1⟩:=hp;refine cb He Tryz.func95 ?_
 exact agx
def mG:EC:=fun F=>fun
 |[.agg [.s 1 a0]]=>some (fun _=>Rw [.sl [tI]] a0/\aQ [a0]<=1048576,[.agg [.s 1 a0]])
 |_=>none
theorem zI:ec 113 mG:=by
 intro _ _ _ h hp;dsimp only[mG,F0]at h;split at h<;>cases h
 rename_i a0;obtain⟨w0,hlim⟩:=hp;simp only[aQ,Zj]at hlim;refine cb He Tryz.func113 ?_
 exact yt
def mw:EC:=fun F=>fun
 |[.agg [.s 1 a0],d]=>some (fun _=>d=.agg [.s 1 a0]/\Rw [.sl [tI]] a0/\aQ [a0]<=1099511627776,[.k true])
 |_=>none
theorem zo:ec 147 mw:=by
 intro _ _ _ h hp;dsimp only[mw,F0]at h;split at h<;>cases h
 rename_i a0 d;obtain⟨rfl,w0,hlim⟩:=hp;simp only[aQ,Zj]at hlim;refine cb He Tryz.func147 ?_
 exact yt
abbrev Du:da:=ez (fun F f=>match f with|95=>mD F|113=>mG F|147=>mw F|_=>fun _=>none) (by
 intro f;dsimp only;split;exact zD;exact zI;exact zo;exact de)
abbrev IQ:da:={
 Φ:=rz
 F0:=F0
 ct:=fun F f=>match f with|160=>fB F|_=>fun _=>none
 hc:=(by
  intro f;dsimp only;split;exact jE;exact de)
 mt:=fun F f=>match f with|154=>some (fC F)|_=>none
 hm:=(by
  intro f mk h;dsimp only at h;split at h<;>cases h
  exact jF)}
def k7:EC:=fun F=>fun
 |[.one (.s 1 es),.one (.v (.int Za left))]=>some (fun _=>Rw [.sl [.sl [tI]]] es/\0<=left/\left<=1048576,[.j (F.szN [es] left)])
 |_=>none
theorem xF:ec 22 k7:=by
 intro _ _ _ h hp;dsimp only[k7,F0]at h;split at h<;>cases h
 rename_i es left;obtain⟨hw,h0,h1⟩:=hp;have hwf:Wf [.s 1 []] es:=hw.wf;have hm:=hw.1;unfold maxLen at hm;have hs:bO .sub Za left es.length=left-es.length:=dG (by omega);have hcE:ak es=es.length+bL es:=rfl;have hn:dV [es] left=if left<ak es then-1 else left-ak es:=by unfold dV;rw[eH]
 refine cb Du Tryz.func22 ?_
 intro O r F hO hr hF;cbv
 apply bF<;>intro hb<;>cbv
 ·repeat' first|apply Zb|(apply bF<;>intro hb<;>cbv)
  all_goals exact aci
 have hb0:0<=left-es.length:=by
  (subst hO hr hF;(try simp only[nc]at*);(try simp only[ah,SS,sa,az]at*))
  rw[hs]at hb;exact hb
 clear hb;refine⟨[0,1,5],[],Int×Int,fun s=>match s with|(i,l)=>[.reg 5 (.j i),.reg 1 (.j l)],fun s=>0<=s.1/\s.1.toNat<=es.length/\0<=s.2/\s.2=left-es.length-bL (es.take s.1.toNat),fun s=>es.length-s.1.toNat,⟨(0,O.ar .sub Za left (O.zi (O.ln es))),?_,?_⟩,?_⟩
 ·(subst hO hr hF;(try simp only[nc]at*);(try simp only[ah,SS,sa,az]at*))
  rw[hs];exact⟨by omega,Zg _,hb0,by simp[bL]⟩
 ·cbv
 ·rintro⟨i,l⟩ hi;replace hi:0<=i/\i.toNat<=es.length/\0<=l/\l=left-es.length-bL (es.take i.toNat):=hi;obtain⟨g0,g1,g2,g3⟩:=hi;cbv
  repeat' first|apply Zb|(apply bF<;>intro hb<;>cbv)|(refine ag (O.ar .add Za i 1,F.szN [O.gs es i 0] l) ?_ ?_ ?_;focus (cbv;done))
  all_goals(subst hO hr hF;(try simp only[nc]at*);(try simp only[ah,SS,sa,az]at*))
  all_goals have hle:=bS (es:=es) (n:=i.toNat)
  all_goals have hsz:=pM (a:=[aw es i 0]) (left:=l)
  all_goals((have hsz2:0<=dV [aw es i 0] l->dV [aw es i 0] l=l-aQ [aw es i 0]:=uF);(try have hlt:i<es.length:=by assumption);(try have he:es.getD i.toNat []=[.s 1 (aw es i 0)]:=(ao hwf g0 hlt).symm);(try rw[fa (n:=es.length) g0 hlt (by omega)]);(try have hr0:Rw [.sl [tI]] (aw es i 0):=Rw.sub (fs:=[.sl [.sl [tI]]]) hw (by omega) rfl))
  all_goals exact acf
def li:EC:=fun F=>fun
 |[.one (.s 1 es)]=>some (fun _=>Rw [.sl [.sl [tI]]] es/\ak es<=1048576,[.one (.s 1 es)])
 |_=>none
theorem xN:ec 35 li:=by
 intro _ _ _ h hp;dsimp only[li,F0]at h;split at h<;>cases h
 rename_i es;obtain⟨hw,hlim⟩:=hp;have hwf:Wf [.s 1 []] es:=hw.wf;have hlen:=ew hlim;refine cb Du Tryz.func35 ?_
 intro O r F hO hr hF;cbv
 have h0z:cE es [.s 1 []] 0=O.rep (O.zi (O.ln es)) [.s 1 []]:=by
  subst hO;rw[dU];rfl
 refine⟨?_,?_,[0,3,4],[3],Int×aa,fun s=>[.reg 4 (.j s.1),.leaf 3 0 ⟨0,0,none,.own (.s 1 s.2)⟩],fun s=>0<=s.1/\s.1.toNat<=es.length/\s.2=cE es [.s 1 []] s.1.toNat,fun s=>es.length-s.1.toNat,⟨(0,O.rep (O.zi (O.ln es)) [.s 1 []]),?_,?_⟩,?_⟩
 ·subst hO;exact qi (b:=24) (show es.length*_<=_ by omega) (show es.length<=_ by omega)
 ·subst hO;exact⟨rfl,rfl⟩
 ·exact⟨by omega,Zg _,h0z.symm⟩
 ·cbv
 ·rintro⟨i,m⟩ hi;replace hi:0<=i/\i.toNat<=es.length/\m=cE es [.s 1 []] i.toNat:=hi;obtain⟨g0,g1,hm⟩:=hi;cbv
  repeat' first|apply Zb|(apply bF<;>intro hb<;>cbv)|(refine ag (O.ar .add Za i 1,O.up (.s 1 m) [(O.ad 0 i,0)] [.s 1 (O.gs es i 0)]) ?_ ?_ ?_;focus (cbv;done))
  all_goals(subst hO hr hF;(try simp only[nc]at*);(try simp only[ah,SS,sa,az]at*);(try simp only[pI,Yn,Zy]at*);(try have hlt:i<es.length:=by assumption);(try have he:es.getD i.toNat []=[.s 1 (aw es i 0)]:=(ao hwf g0 hlt).symm);(try rw[fa (n:=es.length) g0 hlt (by omega)]);(try have hr0:Rw [.sl [tI]] (aw es i 0):=Rw.sub (fs:=[.sl [.sl [tI]]]) hw (by omega) rfl))
  all_goals exact ace
def kK:EC:=fun F=>fun
 |[.one (.s 1 es),d]=>some (fun _=>d=.one (.s 1 es)/\Rw [.sl [.sl [tI]]] es/\ak es<=1099511627776,[.k true])
 |_=>none
theorem xj:ec 49 kK:=by
 intro _ _ _ h hp;dsimp only[kK,F0]at h;split at h<;>cases h
 rename_i es d;obtain⟨rfl,hw,hlim⟩:=hp;have hwf:Wf [.s 1 []] es:=hw.wf;have hlen:=ew hlim;refine cb Du Tryz.func49 ?_
 intro O r F hO hr hF;cbv
 apply bF<;>intro hb<;>cbv
 ·(subst hO hr hF;(try simp only[nc]at*);(try simp only[ah,SS,sa,az]at*));exact absurd rfl hb
 ·clear hb;refine⟨[0,1,5],[],Int,fun i=>[.reg 5 (.j i)],fun i=>0<=i/\i.toNat<=es.length,fun i=>es.length-i.toNat,⟨0,?_,?_⟩,?_⟩;exact⟨by omega,Zg _⟩
  ·cbv
  ·rintro i hi;replace hi:0<=i/\i.toNat<=es.length:=hi;obtain⟨g0,g1⟩:=hi;cbv
   repeat' first|apply Zb|(apply bF<;>intro hb<;>cbv)|(refine ag (O.ar .add Za i 1) ?_ ?_ ?_;focus (cbv;done))
   all_goals(subst hO hr hF;(try simp only[nc]at*);(try simp only[ah,SS,sa,az]at*);(try have hlt:i<es.length:=by assumption);(try have he:es.getD i.toNat []=[.s 1 (aw es i 0)]:=(ao hwf g0 hlt).symm);(try rw[fa (n:=es.length) g0 hlt (by omega)]);(try have hr0:Rw [.sl [tI]] (aw es i 0):=Rw.sub (fs:=[.sl [.sl [tI]]]) hw (by omega) rfl))
   all_goals exact acg
def iY:EM:=fun F=>fun
 |[.one (.s 1 es),.one (.v (.int Za k))]=>some (fun _=>Rw [.sl [.sl [tI]]] es/\ak es<=1099511627776/\0<=k/\be [es] k<=1152921504606846976,[.s 1 (F.mkN es k)],[.j (F.kN [es] k)])
 |_=>none
theorem tH:em 58 iY:=by
 intro _ _ _ _ h hp;dsimp only[iY,F0]at h;split at h<;>cases h
 rename_i es k;obtain⟨hw,hlim,hk0,hkb⟩:=hp;have hwf:Wf [.s 1 []] es:=hw.wf;have hlen:=ew hlim;refine mb IQ [(0,0)] Tryz.func58 ?_
 intro O r os F hO hr hos hF;cbv
 refine⟨[0,1,5],[0],Int×Int×aa,fun s=>match s with|(i,k',cur)=>[.reg 5 (.j i),.reg 1 (.j k'),.leaf 0 0 ⟨0,0,some 0,.own (.s 1 cur)⟩],fun s=>0<=s.1/\s.1.toNat<=es.length/\s.2.1=fU es k s.1.toNat/\s.2.2=gG es k s.1.toNat,fun s=>es.length-s.1.toNat,⟨(0,k,es),?_,?_⟩,?_⟩;exact⟨by omega,Zg _,bT.symm,eW.symm⟩
 ·cbv
 ·rintro⟨i,k',cur⟩ hi;replace hi:0<=i/\i.toNat<=es.length/\k'=fU es k i.toNat/\cur=gG es k i.toNat:=hi;obtain⟨g0,g1,hk',hc⟩:=hi;cbv
  repeat' first|apply Zb|(apply bF<;>intro hb<;>cbv)|(refine ag (O.ar .add Za i 1,F.kN [O.ps (.s 1 (cur)) [(O.ad 0 i,0)]] (k'),O.up (.s 1 (cur)) [(O.ad 0 i,0)] [.s 1 (F.mkN (O.ps (.s 1 (cur)) [(O.ad 0 i,0)]) (k'))]) ?_ ?_ ?_;focus (cbv;done))
  all_goals((try subst hos);subst hO hr hF;(try simp only[nc]at*);(try simp only[ah,SS,sa,az]at*);(try have hlt:i<es.length:=by assumption);(try have he:es.getD i.toNat []=[.s 1 (aw es i 0)]:=(ao hwf g0 hlt).symm);(try have hcg:cur.getD i.toNat []=[.s 1 (aw es i 0)]:=by rw[hc,eV g1];exact he);(try rw[fa (n:=es.length) g0 hlt (by omega)]);(try have hlt':i.toNat<es.length:=by omega);(try have hr0:Rw [.sl [tI]] (aw es i 0):=Rw.sub (fs:=[.sl [.sl [tI]]]) hw (by omega) rfl))
  all_goals exact zq3
def iT:EC:=fun F=>fun
 |[.one (.s 1 ms),.one (.v (.int Za k))]=>some (fun _=>∃ es,ms=dY es k/\Rw [.sl [.sl [tI]]] es/\ak es<=1099511627776/\0<=k/\be [ms] k<=1152921504606846976,[.j (F.kN [ms] k)])
 |_=>none
theorem tx:ec 67 iT:=by
 intro _ _ _ h hp;dsimp only[iT,F0]at h;split at h<;>cases h
 rename_i ms k;obtain⟨es,hms,hw,hlim,hk0,hkb⟩:=hp;have hlen:=ew hlim;have hml:ms.length=es.length:=by rw[hms];exact cF
 have hkk:be [ms] k=be [es] k:=by rw[hms];exact qg
 have hwm:Wf [.s 1 []] ms:=by rw[hms];exact dS hw
 have hwf:Wf [.s 1 []] es:=hw.wf;have hat:∀ n,n<es.length->ms.getD n []=(gY (es.getD n []) (fU es k n)).1:=fun n hn=>by rw[hms];exact lC hn
 refine cb IQ Tryz.func67 ?_
 intro O r F hO hr hF;cbv
 refine⟨[0,1,5],[],Int×Int,fun s=>match s with|(i,k')=>[.reg 5 (.j i),.reg 1 (.j k')],fun s=>0<=s.1/\s.1.toNat<=es.length/\s.2=fU es k s.1.toNat,fun s=>es.length-s.1.toNat,⟨(0,k),?_,?_⟩,?_⟩;exact⟨by omega,Zg _,bT.symm⟩
 ·cbv
 ·rintro⟨i,k'⟩ hi;replace hi:0<=i/\i.toNat<=es.length/\k'=fU es k i.toNat:=hi;obtain⟨g0,g1,hk'⟩:=hi;cbv
  repeat' first|apply Zb|(apply bF<;>intro hb<;>cbv)|(refine ag (O.ar .add Za i 1,F.kN [O.gs ms i 0] (k')) ?_ ?_ ?_;focus (cbv;done))
  all_goals(subst hO hr hF;(try simp only[nc]at*);(try simp only[ah,SS,sa,az]at*);(try have hltm:i<ms.length:=by assumption);(try have hlt:i<es.length:=by omega);(try have he:es.getD i.toNat []=[.s 1 (aw es i 0)]:=(ao hwf g0 hlt).symm);(try rw[fa (n:=es.length) g0 hlt (by omega)]);(try have hlt':i.toNat<es.length:=by omega);(try have hr0:Rw [.sl [tI]] (aw es i 0):=Rw.sub (fs:=[.sl [.sl [tI]]]) hw (by omega) rfl);(try have hct:=dz (es:=es) (n:=i.toNat) (by omega);rw[he]at hct;simp only[cU,fR,Zj,ZB]at hct);(try have hks:=dW (es:=es) (k:=k) hlt';rw[he]at hks;simp only[gY,iH]at hks);(try have hem:([.s 1 (aw ms i 0)]:ay)=_:=(ao hwm g0 hltm).trans (hat i.toNat hlt');rw[he]at hem;simp only[gY,iH,Yk,L.v.injEq,Yq,Yr,L.s.injEq,true_and,and_true]at hem))
  all_goals exact zq5
abbrev Dz:da:=ez (fun F f=>match f with|211=>fD F|219=>fE F|249=>fA F|_=>fun _=>none) (by
 intro f;dsimp only;split;exact zE;exact zM;exact zu;exact de)
abbrev IV:da:={
 Φ:=rz
 F0:=F0
 ct:=fun F f=>match f with|256=>eh F|_=>fun _=>none
 hc:=(by
  intro f;dsimp only;split;exact vd;exact de)
 mt:=fun F f=>match f with|253=>some (er F)|_=>none
 hm:=(by
  intro f mk h;dsimp only at h;split at h<;>cases h
  exact vh)}
def lh:EC:=fun F=>fun
 |[.one (.s 1 es),.one (.v (.int Za left))]=>some (fun _=>Rw [.sl [tI,tI]] es/\0<=left/\left<=1048576,[.j (F.szN [es] left)])
 |_=>none
theorem xK:ec 96 lh:=by
 intro _ _ _ h hp;dsimp only[lh,F0]at h;split at h<;>cases h
 rename_i es left;obtain⟨hw,h0,h1⟩:=hp;have hwf:Wf [.s 2 []] es:=hw.wf;have hm:=hw.1;unfold maxLen at hm;have hs:bO .sub Za left es.length=left-es.length:=dG (by omega);have hcE:ak es=es.length+bL es:=rfl;have hn:dV [es] left=if left<ak es then-1 else left-ak es:=by unfold dV;rw[eH]
 refine cb Dz Tryz.func96 ?_
 intro O r F hO hr hF;cbv
 apply bF<;>intro hb<;>cbv
 ·repeat' first|apply Zb|(apply bF<;>intro hb<;>cbv)
  all_goals exact aci
 have hb0:0<=left-es.length:=by
  (subst hO hr hF;(try simp only[nc]at*);(try simp only[ah,SS,sa,az]at*))
  rw[hs]at hb;exact hb
 clear hb;refine⟨[0,1,5],[],Int×Int,fun s=>match s with|(i,l)=>[.reg 5 (.j i),.reg 1 (.j l)],fun s=>0<=s.1/\s.1.toNat<=es.length/\0<=s.2/\s.2=left-es.length-bL (es.take s.1.toNat),fun s=>es.length-s.1.toNat,⟨(0,O.ar .sub Za left (O.zi (O.ln es))),?_,?_⟩,?_⟩
 ·(subst hO hr hF;(try simp only[nc]at*);(try simp only[ah,SS,sa,az]at*))
  rw[hs];exact⟨by omega,Zg _,hb0,by simp[bL]⟩
 ·cbv
 ·rintro⟨i,l⟩ hi;replace hi:0<=i/\i.toNat<=es.length/\0<=l/\l=left-es.length-bL (es.take i.toNat):=hi;obtain⟨g0,g1,g2,g3⟩:=hi;cbv
  repeat' first|apply Zb|(apply bF<;>intro hb<;>cbv)|(refine ag (O.ar .add Za i 1,F.szN [O.gs es i 0] l) ?_ ?_ ?_;focus (cbv;done))
  all_goals(subst hO hr hF;(try simp only[nc]at*);(try simp only[ah,SS,sa,az]at*))
  all_goals have hle:=bS (es:=es) (n:=i.toNat)
  all_goals have hsz:=pM (a:=[aw es i 0]) (left:=l)
  all_goals((have hsz2:0<=dV [aw es i 0] l->dV [aw es i 0] l=l-aQ [aw es i 0]:=uF);(try have hlt:i<es.length:=by assumption);(try have he:es.getD i.toNat []=[.s 2 (aw es i 0)]:=(ao hwf g0 hlt).symm);(try rw[fa (n:=es.length) g0 hlt (by omega)]);(try have hr0:Rw [tI,tI] (aw es i 0):=Rw.sub (fs:=[.sl [tI,tI]]) hw (by omega) rfl))
  all_goals exact acf
def lr:EC:=fun F=>fun
 |[.one (.s 1 es)]=>some (fun _=>Rw [.sl [tI,tI]] es/\ak es<=1048576,[.one (.s 1 es)])
 |_=>none
theorem xS:ec 114 lr:=by
 intro _ _ _ h hp;dsimp only[lr,F0]at h;split at h<;>cases h
 rename_i es;obtain⟨hw,hlim⟩:=hp;have hwf:Wf [.s 2 []] es:=hw.wf;have hlen:=ew hlim;refine cb Dz Tryz.func114 ?_
 intro O r F hO hr hF;cbv
 have h0z:cE es [.s 2 []] 0=O.rep (O.zi (O.ln es)) [.s 2 []]:=by
  subst hO;rw[dU];rfl
 refine⟨?_,?_,[0,3,4],[3],Int×aa,fun s=>[.reg 4 (.j s.1),.leaf 3 0 ⟨0,0,none,.own (.s 1 s.2)⟩],fun s=>0<=s.1/\s.1.toNat<=es.length/\s.2=cE es [.s 2 []] s.1.toNat,fun s=>es.length-s.1.toNat,⟨(0,O.rep (O.zi (O.ln es)) [.s 2 []]),?_,?_⟩,?_⟩
 ·subst hO;exact qi (b:=24) (show es.length*_<=_ by omega) (show es.length<=_ by omega)
 ·subst hO;exact⟨rfl,rfl⟩
 ·exact⟨by omega,Zg _,h0z.symm⟩
 ·cbv
 ·rintro⟨i,m⟩ hi;replace hi:0<=i/\i.toNat<=es.length/\m=cE es [.s 2 []] i.toNat:=hi;obtain⟨g0,g1,hm⟩:=hi;cbv
  repeat' first|apply Zb|(apply bF<;>intro hb<;>cbv)|(refine ag (O.ar .add Za i 1,O.up (.s 1 m) [(O.ad 0 i,0)] [.s 2 (O.gs es i 0)]) ?_ ?_ ?_;focus (cbv;done))
  all_goals(subst hO hr hF;(try simp only[nc]at*);(try simp only[ah,SS,sa,az]at*);(try simp only[pI,Yn,Zy]at*);(try have hlt:i<es.length:=by assumption);(try have he:es.getD i.toNat []=[.s 2 (aw es i 0)]:=(ao hwf g0 hlt).symm);(try rw[fa (n:=es.length) g0 hlt (by omega)]);(try have hr0:Rw [tI,tI] (aw es i 0):=Rw.sub (fs:=[.sl [tI,tI]]) hw (by omega) rfl))
  all_goals exact ace
def kP:EC:=fun F=>fun
 |[.one (.s 1 es),d]=>some (fun _=>d=.one (.s 1 es)/\Rw [.sl [tI,tI]] es/\ak es<=1099511627776,[.k true])
 |_=>none
theorem xq:ec 148 kP:=by
 intro _ _ _ h hp;dsimp only[kP,F0]at h;split at h<;>cases h
 rename_i es d;obtain⟨rfl,hw,hlim⟩:=hp;have hwf:Wf [.s 2 []] es:=hw.wf;have hlen:=ew hlim;refine cb Dz Tryz.func148 ?_
 intro O r F hO hr hF;cbv
 apply bF<;>intro hb<;>cbv
 ·(subst hO hr hF;(try simp only[nc]at*);(try simp only[ah,SS,sa,az]at*));exact absurd rfl hb
 ·clear hb;refine⟨[0,1,5],[],Int,fun i=>[.reg 5 (.j i)],fun i=>0<=i/\i.toNat<=es.length,fun i=>es.length-i.toNat,⟨0,?_,?_⟩,?_⟩;exact⟨by omega,Zg _⟩
  ·cbv
  ·rintro i hi;replace hi:0<=i/\i.toNat<=es.length:=hi;obtain⟨g0,g1⟩:=hi;cbv
   repeat' first|apply Zb|(apply bF<;>intro hb<;>cbv)|(refine ag (O.ar .add Za i 1) ?_ ?_ ?_;focus (cbv;done))
   all_goals(subst hO hr hF;(try simp only[nc]at*);(try simp only[ah,SS,sa,az]at*);(try have hlt:i<es.length:=by assumption);(try have he:es.getD i.toNat []=[.s 2 (aw es i 0)]:=(ao hwf g0 hlt).symm);(try rw[fa (n:=es.length) g0 hlt (by omega)]);(try have hr0:Rw [tI,tI] (aw es i 0):=Rw.sub (fs:=[.sl [tI,tI]]) hw (by omega) rfl))
   all_goals exact acg
def jd:EM:=fun F=>fun
 |[.one (.s 1 es),.one (.v (.int Za k))]=>some (fun _=>Rw [.sl [tI,tI]] es/\ak es<=1099511627776/\0<=k/\be [es] k<=1152921504606846976,[.s 1 (F.mkN es k)],[.j (F.kN [es] k)])
 |_=>none
theorem tN:em 155 jd:=by
 intro _ _ _ _ h hp;dsimp only[jd,F0]at h;split at h<;>cases h
 rename_i es k;obtain⟨hw,hlim,hk0,hkb⟩:=hp;have hwf:Wf [.s 2 []] es:=hw.wf;have hlen:=ew hlim;refine mb IV [(0,0)] Tryz.func155 ?_
 intro O r os F hO hr hos hF;cbv
 refine⟨[0,1,5],[0],Int×Int×aa,fun s=>match s with|(i,k',cur)=>[.reg 5 (.j i),.reg 1 (.j k'),.leaf 0 0 ⟨0,0,some 0,.own (.s 1 cur)⟩],fun s=>0<=s.1/\s.1.toNat<=es.length/\s.2.1=fU es k s.1.toNat/\s.2.2=gG es k s.1.toNat,fun s=>es.length-s.1.toNat,⟨(0,k,es),?_,?_⟩,?_⟩;exact⟨by omega,Zg _,bT.symm,eW.symm⟩
 ·cbv
 ·rintro⟨i,k',cur⟩ hi;replace hi:0<=i/\i.toNat<=es.length/\k'=fU es k i.toNat/\cur=gG es k i.toNat:=hi;obtain⟨g0,g1,hk',hc⟩:=hi;cbv
  repeat' first|apply Zb|(apply bF<;>intro hb<;>cbv)|(refine ag (O.ar .add Za i 1,F.kN [O.ps (.s 1 (cur)) [(O.ad 0 i,0)]] (k'),O.up (.s 1 (cur)) [(O.ad 0 i,0)] [.s 2 (F.mkN (O.ps (.s 1 (cur)) [(O.ad 0 i,0)]) (k'))]) ?_ ?_ ?_;focus (cbv;done))
  all_goals((try subst hos);subst hO hr hF;(try simp only[nc]at*);(try simp only[ah,SS,sa,az]at*);(try have hlt:i<es.length:=by assumption);(try have he:es.getD i.toNat []=[.s 2 (aw es i 0)]:=(ao hwf g0 hlt).symm);(try have hcg:cur.getD i.toNat []=[.s 2 (aw es i 0)]:=by rw[hc,eV g1];exact he);(try rw[fa (n:=es.length) g0 hlt (by omega)]);(try have hlt':i.toNat<es.length:=by omega);(try have hr0:Rw [tI,tI] (aw es i 0):=Rw.sub (fs:=[.sl [tI,tI]]) hw (by omega) rfl))
  all_goals exact zq3
def iX:EC:=fun F=>fun
 |[.one (.s 1 ms),.one (.v (.int Za k))]=>some (fun _=>∃ es,ms=dY es k/\Rw [.sl [tI,tI]] es/\ak es<=1099511627776/\0<=k/\be [ms] k<=1152921504606846976,[.j (F.kN [ms] k)])
 |_=>none
theorem tE:ec 161 iX:=by
 intro _ _ _ h hp;dsimp only[iX,F0]at h;split at h<;>cases h
 rename_i ms k;obtain⟨es,hms,hw,hlim,hk0,hkb⟩:=hp;have hlen:=ew hlim;have hml:ms.length=es.length:=by rw[hms];exact cF
 have hkk:be [ms] k=be [es] k:=by rw[hms];exact qg
 have hwm:Wf [.s 2 []] ms:=by rw[hms];exact dS hw
 have hwf:Wf [.s 2 []] es:=hw.wf;have hat:∀ n,n<es.length->ms.getD n []=(gY (es.getD n []) (fU es k n)).1:=fun n hn=>by rw[hms];exact lC hn
 refine cb IV Tryz.func161 ?_
 intro O r F hO hr hF;cbv
 refine⟨[0,1,5],[],Int×Int,fun s=>match s with|(i,k')=>[.reg 5 (.j i),.reg 1 (.j k')],fun s=>0<=s.1/\s.1.toNat<=es.length/\s.2=fU es k s.1.toNat,fun s=>es.length-s.1.toNat,⟨(0,k),?_,?_⟩,?_⟩;exact⟨by omega,Zg _,bT.symm⟩
 ·cbv
 ·rintro⟨i,k'⟩ hi;replace hi:0<=i/\i.toNat<=es.length/\k'=fU es k i.toNat:=hi;obtain⟨g0,g1,hk'⟩:=hi;cbv
  repeat' first|apply Zb|(apply bF<;>intro hb<;>cbv)|(refine ag (O.ar .add Za i 1,F.kN [O.gs ms i 0] (k')) ?_ ?_ ?_;focus (cbv;done))
  all_goals(subst hO hr hF;(try simp only[nc]at*);(try simp only[ah,SS,sa,az]at*);(try have hltm:i<ms.length:=by assumption);(try have hlt:i<es.length:=by omega);(try have he:es.getD i.toNat []=[.s 2 (aw es i 0)]:=(ao hwf g0 hlt).symm);(try rw[fa (n:=es.length) g0 hlt (by omega)]);(try have hlt':i.toNat<es.length:=by omega);(try have hr0:Rw [tI,tI] (aw es i 0):=Rw.sub (fs:=[.sl [tI,tI]]) hw (by omega) rfl);(try have hct:=dz (es:=es) (n:=i.toNat) (by omega);rw[he]at hct;simp only[cU,fR,Zj,ZB]at hct);(try have hks:=dW (es:=es) (k:=k) hlt';rw[he]at hks;simp only[gY,iH]at hks);(try have hem:([.s 2 (aw ms i 0)]:ay)=_:=(ao hwm g0 hltm).trans (hat i.toNat hlt');rw[he]at hem;simp only[gY,iH,Yk,L.v.injEq,Yq,Yr,L.s.injEq,true_and,and_true]at hem))
  all_goals exact zq5
abbrev Lc:da:=ez (fun F f=>match f with|96=>lh F|114=>lr F|148=>kP F|97=>gB F|115=>gC F|149=>gA F|_=>fun _=>none) (by
 intro f;dsimp only;split;exact xK;exact xS;exact xq;exact lZ;exact ma;exact lY;exact de)
abbrev QZ:da:={
 Φ:=rz
 F0:=F0
 ct:=fun F f=>match f with|161=>iX F|160=>fB F|_=>fun _=>none
 hc:=(by
  intro f;dsimp only;split;exact tE;exact jE;exact de)
 mt:=fun F f=>match f with|155=>some (jd F)|154=>some (fC F)|_=>none
 hm:=(by
  intro f mk h;dsimp only at h;split at h<;>cases h
  exact tN;exact jF)}
end Go.V
