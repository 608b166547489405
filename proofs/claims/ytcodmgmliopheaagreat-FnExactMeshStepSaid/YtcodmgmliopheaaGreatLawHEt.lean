/- Contracts. -/
import Derived.Test.YtcodmgmliopheaaGreatS13
set_option linter.all false
open Go
open And renaming intro->AT
open Int renaming toNat_natCast->V4
open List renaming length_replicate->Ws
open List.cons renaming injEq->WI
open Nat renaming zero_le->No,add_zero->VL,zero_add->Wc
open Value.bool renaming injEq->WE
open Value.int renaming injEq->WL
namespace Go.V
open Go Go.Proofs
set_option maxRecDepth 1000000
set_option maxHeartbeats 8000000
theorem yy {a0 a1 a2 a3:Int}(hp:True):aw 153 [.agg [.i a0,.i a1,.i a2,.i a3]] [.agg [.i a0,.i a1,.i a2,.i a3]]:=by
 refine cb nB Tryz.func153 ?_
 exact su
theorem yv {a0 a1 a2 a3:Int}{d:DV}(hp:d=.agg [.i a0,.i a1,.i a2,.i a3]):aw 183 [.agg [.i a0,.i a1,.i a2,.i a3],d] [.k true]:=by
 subst hp;refine cb nB Tryz.func183 ?_
 exact su
namespace LObjS
def ct (F:aQ):CT:=fun f ds=>match f,ds with
 |153,[.agg [.v (.int .i64 a0),.v (.int .i64 a1),.v (.int .i64 a2),.v (.int .i64 a3)]]=>some (fun _=>True,[.agg [.i a0,.i a1,.i a2,.i a3]])
 |183,[.agg [.v (.int .i64 a0),.v (.int .i64 a1),.v (.int .i64 a2),.v (.int .i64 a3)],d]=>some (fun _=>d=.agg [.i a0,.i a1,.i a2,.i a3],[.k true])
 |_,_=>none
theorem aj :aR (ct F0):=by
 intro f ds pre res h hp;unfold ct at h;split at h<;>cases h
 exact yy hp;exact yv hp
abbrev B :cy:=tb aj
end LObjS
theorem wG {es:aa}{left:Int}(hp:Rw [tI,tI,tI,tI] es/\0<=left/\left<=1048576):aw 36 [.one (.s 4 es),.j left] [.j (bK [es] left)]:=by
 obtain⟨hw,h0,h1⟩:=hp;have hc:ag es=es.length:=hw.cnt rfl;have hm:=hw.1;unfold maxLen at hm;have hs:bJ .sub .i64 left es.length=left-es.length:=cO (by omega);have hn:bK [es] left=if left<es.length then-1 else left-es.length:=by unfold bK;rw[cV,hc]
 refine cb LObjS.B Tryz.func36 ?_
 exact Jk
theorem wL {es:aa}(hp:Rw [tI,tI,tI,tI] es/\ag es<=1048576):aw 48 [.one (.s 4 es)] [.one (.s 4 es)]:=by
 obtain⟨hw,hlim⟩:=hp;have hwf:Wf [.i 0,.i 0,.i 0,.i 0] es:=hw.wf;have hlen:=cQ hlim;refine cb LObjS.B Tryz.func48 ?_
 intro O r F hO hr hF;cbv
 have h0z:bZ es [.i 0,.i 0,.i 0,.i 0] 0=O.rep (O.zi (O.ln es)) [.i 0,.i 0,.i 0,.i 0]:=by
  subst hO;rw[cH];rfl
 refine⟨?_,?_,[0,3,4],[3],Int×aa,fun s=>[.reg 4 (.j s.1),.leaf 3 0 ⟨0,0,none,.own (.s 4 s.2)⟩],fun s=>0<=s.1/\s.1.toNat<=es.length/\s.2=bZ es [.i 0,.i 0,.i 0,.i 0] s.1.toNat,fun s=>es.length-s.1.toNat,⟨(0,O.rep (O.zi (O.ln es)) [.i 0,.i 0,.i 0,.i 0]),?_,?_⟩,?_⟩
 ·subst hO;exact jX (b:=32) (show es.length*_<=_ by omega) (show es.length<=_ by omega)
 ·subst hO;exact⟨rfl,rfl⟩
 ·exact⟨by omega,No _,h0z.symm⟩
 ·cbv
 ·rintro⟨i,m⟩ hi;replace hi:0<=i/\i.toNat<=es.length/\m=bZ es [.i 0,.i 0,.i 0,.i 0] i.toNat:=hi;obtain⟨g0,g1,hm⟩:=hi;cbv
  repeat' first|apply AT|(apply bi<;>intro hb<;>cbv)|(refine ab (O.ar .add .i64 i 1,O.up (.s 4 m) [(O.ad 0 i,0)] [.i (O.gi es i 0),.i (O.gi es i 1),.i (O.gi es i 2),.i (O.gi es i 3)]) ?_ ?_ ?_;focus (cbv;done))
  all_goals(subst hO hr hF;(try simp only[nc]at*);(try simp only[ah,SS,sa,az]at*);(try simp only[jC,Ws,V4]at*);(try have hlt:i<es.length:=by assumption);(try have he:es.getD i.toNat []=[.i (af es i 0),.i (af es i 1),.i (af es i 2),.i (af es i 3)]:=(au hwf g0 hlt).symm))
  all_goals exact Jj
theorem wz {es:aa}{d:DV}(hp:d=.one (.s 4 es)/\Rw [tI,tI,tI,tI] es/\ag es<=1099511627776):aw 60 [.one (.s 4 es),d] [.k true]:=by
 obtain⟨rfl,hw,hlim⟩:=hp;have hwf:Wf [.i 0,.i 0,.i 0,.i 0] es:=hw.wf;have hlen:=cQ hlim;refine cb LObjS.B Tryz.func60 ?_
 intro O r F hO hr hF;cbv
 apply bi<;>intro hb<;>cbv
 ·(subst hO hr hF;(try simp only[nc]at*);(try simp only[ah,SS,sa,az]at*));exact absurd rfl hb
 ·clear hb;refine⟨[0,1,5],[],Int,fun i=>[.reg 5 (.j i)],fun i=>0<=i/\i.toNat<=es.length,fun i=>es.length-i.toNat,⟨0,?_,?_⟩,?_⟩
  ·exact⟨by omega,No _⟩
  ·cbv
  ·rintro i hi;replace hi:0<=i/\i.toNat<=es.length:=hi;obtain⟨g0,g1⟩:=hi;cbv
   repeat' first|apply AT|(apply bi<;>intro hb<;>cbv)|(refine ab (O.ar .add .i64 i 1) ?_ ?_ ?_;focus (cbv;done))
   all_goals(subst hO hr hF;(try simp only[nc]at*);(try simp only[ah,SS,sa,az]at*);(try have hlt:i<es.length:=by assumption);(try have he:es.getD i.toNat []=[.i (af es i 0),.i (af es i 1),.i (af es i 2),.i (af es i 3)]:=(au hwf g0 hlt).symm))
   all_goals exact KW
theorem rr {es:aa}{k:Int}(hp:Rw [tI,tI,tI,tI] es/\ag es<=1099511627776/\0<=k/\am [es] k<=1152921504606846976):ed 69 [.one (.s 4 es),.j k] [.s 4 (ao es k)] [.j (am [es] k)]:=by
 obtain⟨hw,hlim,hk0,hkb⟩:=hp;have hwf:Wf [.i 0,.i 0,.i 0,.i 0] es:=hw.wf;have hlen:=cQ hlim;refine mb nB [(0,0)] Tryz.func69 ?_
 intro O r os F hO hr hos hF;cbv
 refine⟨[0,1,5],[0],Int×Int×aa,fun s=>match s with|(i,k',cur)=>[.reg 5 (.j i),.reg 1 (.j k'),.leaf 0 0 ⟨0,0,some 0,.own (.s 4 cur)⟩],fun s=>0<=s.1/\s.1.toNat<=es.length/\s.2.1=dF es k s.1.toNat/\s.2.2=dS es k s.1.toNat,fun s=>es.length-s.1.toNat,⟨(0,k,es),?_,?_⟩,?_⟩
 ·exact⟨by omega,No _,bG.symm,cX.symm⟩
 ·cbv
 ·rintro⟨i,k',cur⟩ hi;replace hi:0<=i/\i.toNat<=es.length/\k'=dF es k i.toNat/\cur=dS es k i.toNat:=hi;obtain⟨g0,g1,hk',hc⟩:=hi;cbv
  repeat' first|apply AT|(apply bi<;>intro hb<;>cbv)|(refine ab (O.ar .add .i64 i 1,O.ar .add .i64 (O.ar .add .i64 (O.ar .add .i64 (O.ar .add .i64 (k') 1) 1) 1) 1,O.up (.s 4 (O.up (.s 4 (O.up (.s 4 (O.up (.s 4 (cur)) [(O.ad 0 i,0)] [.i (k')])) [(O.ad 0 i,1)] [.i (O.ar .add .i64 (k') 1)])) [(O.ad 0 i,2)] [.i (O.ar .add .i64 (O.ar .add .i64 (k') 1) 1)])) [(O.ad 0 i,3)] [.i (O.ar .add .i64 (O.ar .add .i64 (O.ar .add .i64 (k') 1) 1) 1)]) ?_ ?_ ?_;focus (cbv;done))
  all_goals((try subst hos);subst hO hr hF;(try simp only[nc]at*);(try simp only[ah,SS,sa,az]at*);(try have hlt:i<es.length:=by assumption);(try have he:es.getD i.toNat []=[.i (af es i 0),.i (af es i 1),.i (af es i 2),.i (af es i 3)]:=(au hwf g0 hlt).symm);(try have hcg:cur.getD i.toNat []=[.i (af es i 0),.i (af es i 1),.i (af es i 2),.i (af es i 3)]:=by rw[hc,cW g1];exact he))
  all_goals exact KU
theorem ri {ms:aa}{k:Int}(hp:∃ es,ms=ao es k/\Rw [tI,tI,tI,tI] es/\ag es<=1099511627776/\0<=k/\am [ms] k<=1152921504606846976):aw 78 [.one (.s 4 ms),.j k] [.j (am [ms] k)]:=by
 obtain⟨es,hms,hw,hlim,hk0,hkb⟩:=hp;have hlen:=cQ hlim;have hml:ms.length=es.length:=by rw[hms];exact b8
 have hkk:am [ms] k=am [es] k:=by rw[hms];exact jV
 have hwm:Wf [.i 0,.i 0,.i 0,.i 0] ms:=by rw[hms];exact cG hw
 have hwf:Wf [.i 0,.i 0,.i 0,.i 0] es:=hw.wf;have hat:∀ n,n<es.length->ms.getD n []=(eo (es.getD n []) (dF es k n)).1:=fun n hn=>by rw[hms];exact fP hn
 refine cb nB Tryz.func78 ?_
 intro O r F hO hr hF;cbv
 refine⟨[0,1,5],[],Int×Int,fun s=>match s with|(i,k')=>[.reg 5 (.j i),.reg 1 (.j k')],fun s=>0<=s.1/\s.1.toNat<=es.length/\s.2=dF es k s.1.toNat,fun s=>es.length-s.1.toNat,⟨(0,k),?_,?_⟩,?_⟩
 ·exact⟨by omega,No _,bG.symm⟩
 ·cbv
 ·rintro⟨i,k'⟩ hi;replace hi:0<=i/\i.toNat<=es.length/\k'=dF es k i.toNat:=hi;obtain⟨g0,g1,hk'⟩:=hi;cbv
  repeat' first|apply AT|(apply bi<;>intro hb<;>cbv)|(refine ab (O.ar .add .i64 i 1,O.ar .add .i64 (O.ar .add .i64 (O.ar .add .i64 (O.ar .add .i64 (k') 1) 1) 1) 1) ?_ ?_ ?_;focus (cbv;done))
  all_goals(subst hO hr hF;(try simp only[nc]at*);(try simp only[ah,SS,sa,az]at*);(try have hltm:i<ms.length:=by assumption);(try have hlt:i<es.length:=by omega);(try have he:es.getD i.toNat []=[.i (af es i 0),.i (af es i 1),.i (af es i 2),.i (af es i 3)]:=(au hwf g0 hlt).symm);(try rw[da (n:=es.length) g0 hlt (by omega)]);(try have hlt':i.toNat<es.length:=by omega);(try have hct:=cq (es:=es) (n:=i.toNat) (by omega);rw[he]at hct;simp only[cL,eC,VL,Wc]at hct);(try have hks:=cI (es:=es) (k:=k) hlt';rw[he]at hks;simp only[eo,eM]at hks);(try have hem:([.i (af ms i 0),.i (af ms i 1),.i (af ms i 2),.i (af ms i 3)]:ay)=_:=(au hwm g0 hltm).trans (hat i.toNat hlt');rw[he]at hem;simp only[eo,eM,WI,L.v.injEq,WL,WE,L.s.injEq,true_and,and_true]at hem))
  all_goals exact KV
theorem tQ {a0 a1 a2:Int}(hp:True):aw 282 [.agg [.i a0,.i a1,.i a2]] [.agg [.i a0,.i a1,.i a2]]:=by
 refine cb nB Tryz.func282 ?_
 exact su
theorem tx {a0 a1 a2:Int}{d:DV}(hp:d=.agg [.i a0,.i a1,.i a2]):aw 301 [.agg [.i a0,.i a1,.i a2],d] [.k true]:=by
 subst hp;refine cb nB Tryz.func301 ?_
 exact su
namespace LStaleS
def ct (F:aQ):CT:=fun f ds=>match f,ds with
 |282,[.agg [.v (.int .i64 a0),.v (.int .i64 a1),.v (.int .i64 a2)]]=>some (fun _=>True,[.agg [.i a0,.i a1,.i a2]])
 |301,[.agg [.v (.int .i64 a0),.v (.int .i64 a1),.v (.int .i64 a2)],d]=>some (fun _=>d=.agg [.i a0,.i a1,.i a2],[.k true])
 |_,_=>none
theorem aj :aR (ct F0):=by
 intro f ds pre res h hp;unfold ct at h;split at h<;>cases h
 exact tQ hp;exact tx hp
abbrev B :cy:=tb aj
end LStaleS
theorem rF {es:aa}{left:Int}(hp:Rw [tI,tI,tI] es/\0<=left/\left<=1048576):aw 127 [.one (.s 3 es),.j left] [.j (bK [es] left)]:=by
 obtain⟨hw,h0,h1⟩:=hp;have hc:ag es=es.length:=hw.cnt rfl;have hm:=hw.1;unfold maxLen at hm;have hs:bJ .sub .i64 left es.length=left-es.length:=cO (by omega);have hn:bK [es] left=if left<es.length then-1 else left-es.length:=by unfold bK;rw[cV,hc]
 refine cb LStaleS.B Tryz.func127 ?_
 exact Jk
theorem rN {es:aa}(hp:Rw [tI,tI,tI] es/\ag es<=1048576):aw 157 [.one (.s 3 es)] [.one (.s 3 es)]:=by
 obtain⟨hw,hlim⟩:=hp;have hwf:Wf [.i 0,.i 0,.i 0] es:=hw.wf;have hlen:=cQ hlim;refine cb LStaleS.B Tryz.func157 ?_
 intro O r F hO hr hF;cbv
 have h0z:bZ es [.i 0,.i 0,.i 0] 0=O.rep (O.zi (O.ln es)) [.i 0,.i 0,.i 0]:=by
  subst hO;rw[cH];rfl
 refine⟨?_,?_,[0,3,4],[3],Int×aa,fun s=>[.reg 4 (.j s.1),.leaf 3 0 ⟨0,0,none,.own (.s 3 s.2)⟩],fun s=>0<=s.1/\s.1.toNat<=es.length/\s.2=bZ es [.i 0,.i 0,.i 0] s.1.toNat,fun s=>es.length-s.1.toNat,⟨(0,O.rep (O.zi (O.ln es)) [.i 0,.i 0,.i 0]),?_,?_⟩,?_⟩
 ·subst hO;exact jX (b:=24) (show es.length*_<=_ by omega) (show es.length<=_ by omega)
 ·subst hO;exact⟨rfl,rfl⟩
 ·exact⟨by omega,No _,h0z.symm⟩
 ·cbv
 ·rintro⟨i,m⟩ hi;replace hi:0<=i/\i.toNat<=es.length/\m=bZ es [.i 0,.i 0,.i 0] i.toNat:=hi;obtain⟨g0,g1,hm⟩:=hi;cbv
  repeat' first|apply AT|(apply bi<;>intro hb<;>cbv)|(refine ab (O.ar .add .i64 i 1,O.up (.s 3 m) [(O.ad 0 i,0)] [.i (O.gi es i 0),.i (O.gi es i 1),.i (O.gi es i 2)]) ?_ ?_ ?_;focus (cbv;done))
  all_goals(subst hO hr hF;(try simp only[nc]at*);(try simp only[ah,SS,sa,az]at*);(try simp only[jC,Ws,V4]at*);(try have hlt:i<es.length:=by assumption);(try have he:es.getD i.toNat []=[.i (af es i 0),.i (af es i 1),.i (af es i 2)]:=(au hwf g0 hlt).symm))
  all_goals exact Jj
theorem ra {es:aa}{d:DV}(hp:d=.one (.s 3 es)/\Rw [tI,tI,tI] es/\ag es<=1099511627776):aw 187 [.one (.s 3 es),d] [.k true]:=by
 obtain⟨rfl,hw,hlim⟩:=hp;have hwf:Wf [.i 0,.i 0,.i 0] es:=hw.wf;have hlen:=cQ hlim;refine cb LStaleS.B Tryz.func187 ?_
 intro O r F hO hr hF;cbv
 apply bi<;>intro hb<;>cbv
 ·(subst hO hr hF;(try simp only[nc]at*);(try simp only[ah,SS,sa,az]at*));exact absurd rfl hb
 ·clear hb;refine⟨[0,1,5],[],Int,fun i=>[.reg 5 (.j i)],fun i=>0<=i/\i.toNat<=es.length,fun i=>es.length-i.toNat,⟨0,?_,?_⟩,?_⟩
  ·exact⟨by omega,No _⟩
  ·cbv
  ·rintro i hi;replace hi:0<=i/\i.toNat<=es.length:=hi;obtain⟨g0,g1⟩:=hi;cbv
   repeat' first|apply AT|(apply bi<;>intro hb<;>cbv)|(refine ab (O.ar .add .i64 i 1) ?_ ?_ ?_;focus (cbv;done))
   all_goals(subst hO hr hF;(try simp only[nc]at*);(try simp only[ah,SS,sa,az]at*);(try have hlt:i<es.length:=by assumption);(try have he:es.getD i.toNat []=[.i (af es i 0),.i (af es i 1),.i (af es i 2)]:=(au hwf g0 hlt).symm))
   all_goals exact KW
theorem nA {es:aa}{k:Int}(hp:Rw [tI,tI,tI] es/\ag es<=1099511627776/\0<=k/\am [es] k<=1152921504606846976):ed 193 [.one (.s 3 es),.j k] [.s 3 (ao es k)] [.j (am [es] k)]:=by
 obtain⟨hw,hlim,hk0,hkb⟩:=hp;have hwf:Wf [.i 0,.i 0,.i 0] es:=hw.wf;have hlen:=cQ hlim;refine mb nB [(0,0)] Tryz.func193 ?_
 intro O r os F hO hr hos hF;cbv
 refine⟨[0,1,5],[0],Int×Int×aa,fun s=>match s with|(i,k',cur)=>[.reg 5 (.j i),.reg 1 (.j k'),.leaf 0 0 ⟨0,0,some 0,.own (.s 3 cur)⟩],fun s=>0<=s.1/\s.1.toNat<=es.length/\s.2.1=dF es k s.1.toNat/\s.2.2=dS es k s.1.toNat,fun s=>es.length-s.1.toNat,⟨(0,k,es),?_,?_⟩,?_⟩
 ·exact⟨by omega,No _,bG.symm,cX.symm⟩
 ·cbv
 ·rintro⟨i,k',cur⟩ hi;replace hi:0<=i/\i.toNat<=es.length/\k'=dF es k i.toNat/\cur=dS es k i.toNat:=hi;obtain⟨g0,g1,hk',hc⟩:=hi;cbv
  repeat' first|apply AT|(apply bi<;>intro hb<;>cbv)|(refine ab (O.ar .add .i64 i 1,O.ar .add .i64 (O.ar .add .i64 (O.ar .add .i64 (k') 1) 1) 1,O.up (.s 3 (O.up (.s 3 (O.up (.s 3 (cur)) [(O.ad 0 i,0)] [.i (k')])) [(O.ad 0 i,1)] [.i (O.ar .add .i64 (k') 1)])) [(O.ad 0 i,2)] [.i (O.ar .add .i64 (O.ar .add .i64 (k') 1) 1)]) ?_ ?_ ?_;focus (cbv;done))
  all_goals((try subst hos);subst hO hr hF;(try simp only[nc]at*);(try simp only[ah,SS,sa,az]at*);(try have hlt:i<es.length:=by assumption);(try have he:es.getD i.toNat []=[.i (af es i 0),.i (af es i 1),.i (af es i 2)]:=(au hwf g0 hlt).symm);(try have hcg:cur.getD i.toNat []=[.i (af es i 0),.i (af es i 1),.i (af es i 2)]:=by rw[hc,cW g1];exact he))
  all_goals exact KU
theorem ni {ms:aa}{k:Int}(hp:∃ es,ms=ao es k/\Rw [tI,tI,tI] es/\ag es<=1099511627776/\0<=k/\am [ms] k<=1152921504606846976):aw 199 [.one (.s 3 ms),.j k] [.j (am [ms] k)]:=by
 obtain⟨es,hms,hw,hlim,hk0,hkb⟩:=hp;have hlen:=cQ hlim;have hml:ms.length=es.length:=by rw[hms];exact b8
 have hkk:am [ms] k=am [es] k:=by rw[hms];exact jV
 have hwm:Wf [.i 0,.i 0,.i 0] ms:=by rw[hms];exact cG hw
 have hwf:Wf [.i 0,.i 0,.i 0] es:=hw.wf;have hat:∀ n,n<es.length->ms.getD n []=(eo (es.getD n []) (dF es k n)).1:=fun n hn=>by rw[hms];exact fP hn
 refine cb nB Tryz.func199 ?_
 intro O r F hO hr hF;cbv
 refine⟨[0,1,5],[],Int×Int,fun s=>match s with|(i,k')=>[.reg 5 (.j i),.reg 1 (.j k')],fun s=>0<=s.1/\s.1.toNat<=es.length/\s.2=dF es k s.1.toNat,fun s=>es.length-s.1.toNat,⟨(0,k),?_,?_⟩,?_⟩
 ·exact⟨by omega,No _,bG.symm⟩
 ·cbv
 ·rintro⟨i,k'⟩ hi;replace hi:0<=i/\i.toNat<=es.length/\k'=dF es k i.toNat:=hi;obtain⟨g0,g1,hk'⟩:=hi;cbv
  repeat' first|apply AT|(apply bi<;>intro hb<;>cbv)|(refine ab (O.ar .add .i64 i 1,O.ar .add .i64 (O.ar .add .i64 (O.ar .add .i64 (k') 1) 1) 1) ?_ ?_ ?_;focus (cbv;done))
  all_goals(subst hO hr hF;(try simp only[nc]at*);(try simp only[ah,SS,sa,az]at*);(try have hltm:i<ms.length:=by assumption);(try have hlt:i<es.length:=by omega);(try have he:es.getD i.toNat []=[.i (af es i 0),.i (af es i 1),.i (af es i 2)]:=(au hwf g0 hlt).symm);(try rw[da (n:=es.length) g0 hlt (by omega)]);(try have hlt':i.toNat<es.length:=by omega);(try have hct:=cq (es:=es) (n:=i.toNat) (by omega);rw[he]at hct;simp only[cL,eC,VL,Wc]at hct);(try have hks:=cI (es:=es) (k:=k) hlt';rw[he]at hks;simp only[eo,eM]at hks);(try have hem:([.i (af ms i 0),.i (af ms i 1),.i (af ms i 2)]:ay)=_:=(au hwm g0 hltm).trans (hat i.toNat hlt');rw[he]at hem;simp only[eo,eM,WI,L.v.injEq,WL,WE,L.s.injEq,true_and,and_true]at hem))
  all_goals exact KV
theorem wN {a0 a1:Int}(hp:True):aw 376 [.agg [.i a0,.i a1]] [.agg [.i a0,.i a1]]:=by
 refine cb nB Tryz.func376 ?_
 exact su
theorem wB {a0 a1:Int}{d:DV}(hp:d=.agg [.i a0,.i a1]):aw 387 [.agg [.i a0,.i a1],d] [.k true]:=by
 subst hp;refine cb nB Tryz.func387 ?_
 exact su
namespace LPostS
def ct (F:aQ):CT:=fun f ds=>match f,ds with
 |376,[.agg [.v (.int .i64 a0),.v (.int .i64 a1)]]=>some (fun _=>True,[.agg [.i a0,.i a1]])
 |387,[.agg [.v (.int .i64 a0),.v (.int .i64 a1)],d]=>some (fun _=>d=.agg [.i a0,.i a1],[.k true])
 |_,_=>none
theorem aj :aR (ct F0):=by
 intro f ds pre res h hp;unfold ct at h;split at h<;>cases h
 exact wN hp;exact wB hp
abbrev B :cy:=tb aj
end LPostS
theorem tF {es:aa}{left:Int}(hp:Rw [tI,tI] es/\0<=left/\left<=1048576):aw 261 [.one (.s 2 es),.j left] [.j (bK [es] left)]:=by
 obtain⟨hw,h0,h1⟩:=hp;have hc:ag es=es.length:=hw.cnt rfl;have hm:=hw.1;unfold maxLen at hm;have hs:bJ .sub .i64 left es.length=left-es.length:=cO (by omega);have hn:bK [es] left=if left<es.length then-1 else left-es.length:=by unfold bK;rw[cV,hc]
 refine cb LPostS.B Tryz.func261 ?_
 exact Jk
theorem tN {es:aa}(hp:Rw [tI,tI] es/\ag es<=1048576):aw 281 [.one (.s 2 es)] [.one (.s 2 es)]:=by
 obtain⟨hw,hlim⟩:=hp;have hwf:Wf [.i 0,.i 0] es:=hw.wf;have hlen:=cQ hlim;refine cb LPostS.B Tryz.func281 ?_
 intro O r F hO hr hF;cbv
 have h0z:bZ es [.i 0,.i 0] 0=O.rep (O.zi (O.ln es)) [.i 0,.i 0]:=by
  subst hO;rw[cH];rfl
 refine⟨?_,?_,[0,3,4],[3],Int×aa,fun s=>[.reg 4 (.j s.1),.leaf 3 0 ⟨0,0,none,.own (.s 2 s.2)⟩],fun s=>0<=s.1/\s.1.toNat<=es.length/\s.2=bZ es [.i 0,.i 0] s.1.toNat,fun s=>es.length-s.1.toNat,⟨(0,O.rep (O.zi (O.ln es)) [.i 0,.i 0]),?_,?_⟩,?_⟩
 ·subst hO;exact jX (b:=16) (show es.length*_<=_ by omega) (show es.length<=_ by omega)
 ·subst hO;exact⟨rfl,rfl⟩
 ·exact⟨by omega,No _,h0z.symm⟩
 ·cbv
 ·rintro⟨i,m⟩ hi;replace hi:0<=i/\i.toNat<=es.length/\m=bZ es [.i 0,.i 0] i.toNat:=hi;obtain⟨g0,g1,hm⟩:=hi;cbv
  repeat' first|apply AT|(apply bi<;>intro hb<;>cbv)|(refine ab (O.ar .add .i64 i 1,O.up (.s 2 m) [(O.ad 0 i,0)] [.i (O.gi es i 0),.i (O.gi es i 1)]) ?_ ?_ ?_;focus (cbv;done))
  all_goals(subst hO hr hF;(try simp only[nc]at*);(try simp only[ah,SS,sa,az]at*);(try simp only[jC,Ws,V4]at*);(try have hlt:i<es.length:=by assumption);(try have he:es.getD i.toNat []=[.i (af es i 0),.i (af es i 1)]:=(au hwf g0 hlt).symm))
  all_goals exact Jj
theorem tt {es:aa}{d:DV}(hp:d=.one (.s 2 es)/\Rw [tI,tI] es/\ag es<=1099511627776):aw 300 [.one (.s 2 es),d] [.k true]:=by
 obtain⟨rfl,hw,hlim⟩:=hp;have hwf:Wf [.i 0,.i 0] es:=hw.wf;have hlen:=cQ hlim;refine cb LPostS.B Tryz.func300 ?_
 intro O r F hO hr hF;cbv
 apply bi<;>intro hb<;>cbv
 ·(subst hO hr hF;(try simp only[nc]at*);(try simp only[ah,SS,sa,az]at*));exact absurd rfl hb
 ·clear hb;refine⟨[0,1,5],[],Int,fun i=>[.reg 5 (.j i)],fun i=>0<=i/\i.toNat<=es.length,fun i=>es.length-i.toNat,⟨0,?_,?_⟩,?_⟩
  ·exact⟨by omega,No _⟩
  ·cbv
  ·rintro i hi;replace hi:0<=i/\i.toNat<=es.length:=hi;obtain⟨g0,g1⟩:=hi;cbv
   repeat' first|apply AT|(apply bi<;>intro hb<;>cbv)|(refine ab (O.ar .add .i64 i 1) ?_ ?_ ?_;focus (cbv;done))
   all_goals(subst hO hr hF;(try simp only[nc]at*);(try simp only[ah,SS,sa,az]at*);(try have hlt:i<es.length:=by assumption);(try have he:es.getD i.toNat []=[.i (af es i 0),.i (af es i 1)]:=(au hwf g0 hlt).symm))
   all_goals exact KW
theorem pe {es:aa}{k:Int}(hp:Rw [tI,tI] es/\ag es<=1099511627776/\0<=k/\am [es] k<=1152921504606846976):ed 304 [.one (.s 2 es),.j k] [.s 2 (ao es k)] [.j (am [es] k)]:=by
 obtain⟨hw,hlim,hk0,hkb⟩:=hp;have hwf:Wf [.i 0,.i 0] es:=hw.wf;have hlen:=cQ hlim;refine mb nB [(0,0)] Tryz.func304 ?_
 intro O r os F hO hr hos hF;cbv
 refine⟨[0,1,5],[0],Int×Int×aa,fun s=>match s with|(i,k',cur)=>[.reg 5 (.j i),.reg 1 (.j k'),.leaf 0 0 ⟨0,0,some 0,.own (.s 2 cur)⟩],fun s=>0<=s.1/\s.1.toNat<=es.length/\s.2.1=dF es k s.1.toNat/\s.2.2=dS es k s.1.toNat,fun s=>es.length-s.1.toNat,⟨(0,k,es),?_,?_⟩,?_⟩
 ·exact⟨by omega,No _,bG.symm,cX.symm⟩
 ·cbv
 ·rintro⟨i,k',cur⟩ hi;replace hi:0<=i/\i.toNat<=es.length/\k'=dF es k i.toNat/\cur=dS es k i.toNat:=hi;obtain⟨g0,g1,hk',hc⟩:=hi;cbv
  repeat' first|apply AT|(apply bi<;>intro hb<;>cbv)|(refine ab (O.ar .add .i64 i 1,O.ar .add .i64 (O.ar .add .i64 (k') 1) 1,O.up (.s 2 (O.up (.s 2 (cur)) [(O.ad 0 i,0)] [.i (k')])) [(O.ad 0 i,1)] [.i (O.ar .add .i64 (k') 1)]) ?_ ?_ ?_;focus (cbv;done))
  all_goals((try subst hos);subst hO hr hF;(try simp only[nc]at*);(try simp only[ah,SS,sa,az]at*);(try have hlt:i<es.length:=by assumption);(try have he:es.getD i.toNat []=[.i (af es i 0),.i (af es i 1)]:=(au hwf g0 hlt).symm);(try have hcg:cur.getD i.toNat []=[.i (af es i 0),.i (af es i 1)]:=by rw[hc,cW g1];exact he))
  all_goals exact KU
theorem o9 {ms:aa}{k:Int}(hp:∃ es,ms=ao es k/\Rw [tI,tI] es/\ag es<=1099511627776/\0<=k/\am [ms] k<=1152921504606846976):aw 307 [.one (.s 2 ms),.j k] [.j (am [ms] k)]:=by
 obtain⟨es,hms,hw,hlim,hk0,hkb⟩:=hp;have hlen:=cQ hlim;have hml:ms.length=es.length:=by rw[hms];exact b8
 have hkk:am [ms] k=am [es] k:=by rw[hms];exact jV
 have hwm:Wf [.i 0,.i 0] ms:=by rw[hms];exact cG hw
 have hwf:Wf [.i 0,.i 0] es:=hw.wf;have hat:∀ n,n<es.length->ms.getD n []=(eo (es.getD n []) (dF es k n)).1:=fun n hn=>by rw[hms];exact fP hn
 refine cb nB Tryz.func307 ?_
 intro O r F hO hr hF;cbv
 refine⟨[0,1,5],[],Int×Int,fun s=>match s with|(i,k')=>[.reg 5 (.j i),.reg 1 (.j k')],fun s=>0<=s.1/\s.1.toNat<=es.length/\s.2=dF es k s.1.toNat,fun s=>es.length-s.1.toNat,⟨(0,k),?_,?_⟩,?_⟩
 ·exact⟨by omega,No _,bG.symm⟩
 ·cbv
 ·rintro⟨i,k'⟩ hi;replace hi:0<=i/\i.toNat<=es.length/\k'=dF es k i.toNat:=hi;obtain⟨g0,g1,hk'⟩:=hi;cbv
  repeat' first|apply AT|(apply bi<;>intro hb<;>cbv)|(refine ab (O.ar .add .i64 i 1,O.ar .add .i64 (O.ar .add .i64 (k') 1) 1) ?_ ?_ ?_;focus (cbv;done))
  all_goals(subst hO hr hF;(try simp only[nc]at*);(try simp only[ah,SS,sa,az]at*);(try have hltm:i<ms.length:=by assumption);(try have hlt:i<es.length:=by omega);(try have he:es.getD i.toNat []=[.i (af es i 0),.i (af es i 1)]:=(au hwf g0 hlt).symm);(try rw[da (n:=es.length) g0 hlt (by omega)]);(try have hlt':i.toNat<es.length:=by omega);(try have hct:=cq (es:=es) (n:=i.toNat) (by omega);rw[he]at hct;simp only[cL,eC,VL,Wc]at hct);(try have hks:=cI (es:=es) (k:=k) hlt';rw[he]at hks;simp only[eo,eM]at hks);(try have hem:([.i (af ms i 0),.i (af ms i 1)]:ay)=_:=(au hwm g0 hltm).trans (hat i.toNat hlt');rw[he]at hem;simp only[eo,eM,WI,L.v.injEq,WL,WE,L.s.injEq,true_and,and_true]at hem))
  all_goals exact KV
end Go.V