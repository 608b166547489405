/- Contracts. -/
import Derived.Test.YtcodmgmliopheaaGreatS13
set_option linter.all false
namespace Go.V
open Go Go.Proofs
set_option maxRecDepth 1000000
set_option maxHeartbeats 8000000
theorem xW {a0 a1 a2 a3:Int}(hp:True):ap 153 [.agg [.i a0,.i a1,.i a2,.i a3]] [.agg [.i a0,.i a1,.i a2,.i a3]]:=by
 refine cb nB Tryz.func153 ?_
 exact rT
theorem xT {a0 a1 a2 a3:Int}{d:DV}(hp:d=.agg [.i a0,.i a1,.i a2,.i a3]):ap 183 [.agg [.i a0,.i a1,.i a2,.i a3],d] [.k true]:=by
 subst hp;refine cb nB Tryz.func183 ?_
 exact rT
namespace LObjS
def ct (F:aQ):CT:=fun f ds=>match f,ds with
 |153,[.agg [.v (.int .i64 a0),.v (.int .i64 a1),.v (.int .i64 a2),.v (.int .i64 a3)]]=>some (fun _=>True,[.agg [.i a0,.i a1,.i a2,.i a3]])
 |183,[.agg [.v (.int .i64 a0),.v (.int .i64 a1),.v (.int .i64 a2),.v (.int .i64 a3)],d]=>some (fun _=>d=.agg [.i a0,.i a1,.i a2,.i a3],[.k true])
 |_,_=>none
theorem ah :aR (ct F0):=by
 intro f ds pre res h hp;unfold ct at h;split at h<;>cases h
 exact xW hp;exact xT hp
abbrev B :cq:=tb ah
end LObjS
theorem v9 {es:aa}{left:Int}(hp:Rw [tI,tI,tI,tI] es/\0<=left/\left<=1048576):ap 36 [.one (.s 4 es),.j left] [.j (bJ [es] left)]:=by
 obtain⟨hw,h0,h1⟩:=hp;have hc:ag es=es.length:=hw.cnt rfl;have hm:=hw.1;unfold maxLen at hm;have hs:bH .sub .i64 left es.length=left-es.length:=cB (by omega);have hn:bJ [es] left=if left<es.length then-1 else left-es.length:=by unfold bJ;rw[cP,hc]
 refine cb LObjS.B Tryz.func36 ?_
 exact zo
theorem wg {es:aa}(hp:Rw [tI,tI,tI,tI] es/\ag es<=1048576):ap 48 [.one (.s 4 es)] [.one (.s 4 es)]:=by
 obtain⟨hw,hlim⟩:=hp;have hwf:Wf [.i 0,.i 0,.i 0,.i 0] es:=hw.wf;have hlen:=cK hlim;refine cb LObjS.B Tryz.func48 ?_
 intro O r F hO hr hF;cbv
 have h0z:b8 es [.i 0,.i 0,.i 0,.i 0] 0=O.rep (O.zi (O.ln es)) [.i 0,.i 0,.i 0,.i 0]:=by
  subst hO;rw[cE];rfl
 refine⟨?_,?_,[0,3,4],[3],Int×aa,fun s=>[.reg 4 (.j s.1),.leaf 3 0 ⟨0,0,none,.own (.s 4 s.2)⟩],fun s=>0<=s.1/\s.1.toNat<=es.length/\s.2=b8 es [.i 0,.i 0,.i 0,.i 0] s.1.toNat,fun s=>es.length-s.1.toNat,⟨(0,O.rep (O.zi (O.ln es)) [.i 0,.i 0,.i 0,.i 0]),?_,?_⟩,?_⟩
 ·subst hO;exact jG (b:=32) (show es.length*_<=_ by omega) (show es.length<=_ by omega)
 ·subst hO;exact⟨rfl,rfl⟩
 ·exact⟨by omega,Nat.zero_le _,h0z.symm⟩
 ·cbv
 ·rintro⟨i,m⟩ hi;replace hi:0<=i/\i.toNat<=es.length/\m=b8 es [.i 0,.i 0,.i 0,.i 0] i.toNat:=hi;obtain⟨g0,g1,hm⟩:=hi;cbv
  repeat' first|apply And.intro|(apply bi<;>intro hb<;>cbv)|(refine ab (O.ar .add .i64 i 1,O.up (.s 4 m) [(O.ad 0 i,0)] [.i (O.gi es i 0),.i (O.gi es i 1),.i (O.gi es i 2),.i (O.gi es i 3)]) ?_ ?_ ?_;focus (cbv;done))
  all_goals(subst hO hr hF;(try simp only[nc]at*);(try simp only[ai,SS,sa,az]at*);(try simp only[kU,List.length_replicate,Int.toNat_natCast]at*);(try have hlt:i<es.length:=by assumption);(try have he:es.getD i.toNat []=[.i (af es i 0),.i (af es i 1),.i (af es i 2),.i (af es i 3)]:=(au hwf g0 hlt).symm))
  all_goals exact JJ
theorem vY {es:aa}{d:DV}(hp:d=.one (.s 4 es)/\Rw [tI,tI,tI,tI] es/\ag es<=1099511627776):ap 60 [.one (.s 4 es),d] [.k true]:=by
 obtain⟨rfl,hw,hlim⟩:=hp;have hwf:Wf [.i 0,.i 0,.i 0,.i 0] es:=hw.wf;have hlen:=cK hlim;refine cb LObjS.B Tryz.func60 ?_
 intro O r F hO hr hF;cbv
 apply bi<;>intro hb<;>cbv
 ·(subst hO hr hF;(try simp only[nc]at*);(try simp only[ai,SS,sa,az]at*));exact absurd rfl hb
 ·clear hb;refine⟨[0,1,5],[],Int,fun i=>[.reg 5 (.j i)],fun i=>0<=i/\i.toNat<=es.length,fun i=>es.length-i.toNat,⟨0,?_,?_⟩,?_⟩
  ·exact⟨by omega,Nat.zero_le _⟩
  ·cbv
  ·rintro i hi;replace hi:0<=i/\i.toNat<=es.length:=hi;obtain⟨g0,g1⟩:=hi;cbv
   repeat' first|apply And.intro|(apply bi<;>intro hb<;>cbv)|(refine ab (O.ar .add .i64 i 1) ?_ ?_ ?_;focus (cbv;done))
   all_goals(subst hO hr hF;(try simp only[nc]at*);(try simp only[ai,SS,sa,az]at*);(try have hlt:i<es.length:=by assumption);(try have he:es.getD i.toNat []=[.i (af es i 0),.i (af es i 1),.i (af es i 2),.i (af es i 3)]:=(au hwf g0 hlt).symm))
   all_goals exact Lw
theorem qQ {es:aa}{k:Int}(hp:Rw [tI,tI,tI,tI] es/\ag es<=1099511627776/\0<=k/\am [es] k<=1152921504606846976):dZ 69 [.one (.s 4 es),.j k] [.s 4 (ao es k)] [.j (am [es] k)]:=by
 obtain⟨hw,hlim,hk0,hkb⟩:=hp;have hwf:Wf [.i 0,.i 0,.i 0,.i 0] es:=hw.wf;have hlen:=cK hlim;refine mb nB [(0,0)] Tryz.func69 ?_
 intro O r os F hO hr hos hF;cbv
 refine⟨[0,1,5],[0],Int×Int×aa,fun s=>match s with|(i,k',cur)=>[.reg 5 (.j i),.reg 1 (.j k'),.leaf 0 0 ⟨0,0,some 0,.own (.s 4 cur)⟩],fun s=>0<=s.1/\s.1.toNat<=es.length/\s.2.1=du es k s.1.toNat/\s.2.2=dM es k s.1.toNat,fun s=>es.length-s.1.toNat,⟨(0,k,es),?_,?_⟩,?_⟩
 ·exact⟨by omega,Nat.zero_le _,bG.symm,cR.symm⟩
 ·cbv
 ·rintro⟨i,k',cur⟩ hi;replace hi:0<=i/\i.toNat<=es.length/\k'=du es k i.toNat/\cur=dM es k i.toNat:=hi;obtain⟨g0,g1,hk',hc⟩:=hi;cbv
  repeat' first|apply And.intro|(apply bi<;>intro hb<;>cbv)|(refine ab (O.ar .add .i64 i 1,O.ar .add .i64 (O.ar .add .i64 (O.ar .add .i64 (O.ar .add .i64 (k') 1) 1) 1) 1,O.up (.s 4 (O.up (.s 4 (O.up (.s 4 (O.up (.s 4 (cur)) [(O.ad 0 i,0)] [.i (k')])) [(O.ad 0 i,1)] [.i (O.ar .add .i64 (k') 1)])) [(O.ad 0 i,2)] [.i (O.ar .add .i64 (O.ar .add .i64 (k') 1) 1)])) [(O.ad 0 i,3)] [.i (O.ar .add .i64 (O.ar .add .i64 (O.ar .add .i64 (k') 1) 1) 1)]) ?_ ?_ ?_;focus (cbv;done))
  all_goals((try subst hos);subst hO hr hF;(try simp only[nc]at*);(try simp only[ai,SS,sa,az]at*);(try have hlt:i<es.length:=by assumption);(try have he:es.getD i.toNat []=[.i (af es i 0),.i (af es i 1),.i (af es i 2),.i (af es i 3)]:=(au hwf g0 hlt).symm);(try have hcg:cur.getD i.toNat []=[.i (af es i 0),.i (af es i 1),.i (af es i 2),.i (af es i 3)]:=by rw[hc,cQ g1];exact he))
  all_goals exact Lu
theorem qM {ms:aa}{k:Int}(hp:∃ es,ms=ao es k/\Rw [tI,tI,tI,tI] es/\ag es<=1099511627776/\0<=k/\am [ms] k<=1152921504606846976):ap 78 [.one (.s 4 ms),.j k] [.j (am [ms] k)]:=by
 obtain⟨es,hms,hw,hlim,hk0,hkb⟩:=hp;have hlen:=cK hlim;have hml:ms.length=es.length:=by rw[hms];exact b9
 have hkk:am [ms] k=am [es] k:=by rw[hms];exact jE
 have hwm:Wf [.i 0,.i 0,.i 0,.i 0] ms:=by rw[hms];exact cD hw
 have hwf:Wf [.i 0,.i 0,.i 0,.i 0] es:=hw.wf;have hat:∀ n,n<es.length->ms.getD n []=(d6 (es.getD n []) (du es k n)).1:=fun n hn=>by rw[hms];exact fN hn
 refine cb nB Tryz.func78 ?_
 intro O r F hO hr hF;cbv
 refine⟨[0,1,5],[],Int×Int,fun s=>match s with|(i,k')=>[.reg 5 (.j i),.reg 1 (.j k')],fun s=>0<=s.1/\s.1.toNat<=es.length/\s.2=du es k s.1.toNat,fun s=>es.length-s.1.toNat,⟨(0,k),?_,?_⟩,?_⟩
 ·exact⟨by omega,Nat.zero_le _,bG.symm⟩
 ·cbv
 ·rintro⟨i,k'⟩ hi;replace hi:0<=i/\i.toNat<=es.length/\k'=du es k i.toNat:=hi;obtain⟨g0,g1,hk'⟩:=hi;cbv
  repeat' first|apply And.intro|(apply bi<;>intro hb<;>cbv)|(refine ab (O.ar .add .i64 i 1,O.ar .add .i64 (O.ar .add .i64 (O.ar .add .i64 (O.ar .add .i64 (k') 1) 1) 1) 1) ?_ ?_ ?_;focus (cbv;done))
  all_goals(subst hO hr hF;(try simp only[nc]at*);(try simp only[ai,SS,sa,az]at*);(try have hltm:i<ms.length:=by assumption);(try have hlt:i<es.length:=by omega);(try have he:es.getD i.toNat []=[.i (af es i 0),.i (af es i 1),.i (af es i 2),.i (af es i 3)]:=(au hwf g0 hlt).symm);(try rw[cS (n:=es.length) g0 hlt (by omega)]);(try have hlt':i.toNat<es.length:=by omega);(try have hct:=cg (es:=es) (n:=i.toNat) (by omega);rw[he]at hct;simp only[cz,dz,Nat.add_zero,Nat.zero_add]at hct);(try have hks:=cF (es:=es) (k:=k) hlt';rw[he]at hks;simp only[d6,eA]at hks);(try have hem:([.i (af ms i 0),.i (af ms i 1),.i (af ms i 2),.i (af ms i 3)]:ay)=_:=(au hwm g0 hltm).trans (hat i.toNat hlt');rw[he]at hem;simp only[d6,eA,List.cons.injEq,L.v.injEq,Value.int.injEq,Value.bool.injEq,L.s.injEq,true_and,and_true]at hem))
  all_goals exact Lv
theorem tA {a0 a1 a2:Int}(hp:True):ap 282 [.agg [.i a0,.i a1,.i a2]] [.agg [.i a0,.i a1,.i a2]]:=by
 refine cb nB Tryz.func282 ?_
 exact rT
theorem s8 {a0 a1 a2:Int}{d:DV}(hp:d=.agg [.i a0,.i a1,.i a2]):ap 301 [.agg [.i a0,.i a1,.i a2],d] [.k true]:=by
 subst hp;refine cb nB Tryz.func301 ?_
 exact rT
namespace LStaleS
def ct (F:aQ):CT:=fun f ds=>match f,ds with
 |282,[.agg [.v (.int .i64 a0),.v (.int .i64 a1),.v (.int .i64 a2)]]=>some (fun _=>True,[.agg [.i a0,.i a1,.i a2]])
 |301,[.agg [.v (.int .i64 a0),.v (.int .i64 a1),.v (.int .i64 a2)],d]=>some (fun _=>d=.agg [.i a0,.i a1,.i a2],[.k true])
 |_,_=>none
theorem ah :aR (ct F0):=by
 intro f ds pre res h hp;unfold ct at h;split at h<;>cases h
 exact tA hp;exact s8 hp
abbrev B :cq:=tb ah
end LStaleS
theorem q7 {es:aa}{left:Int}(hp:Rw [tI,tI,tI] es/\0<=left/\left<=1048576):ap 127 [.one (.s 3 es),.j left] [.j (bJ [es] left)]:=by
 obtain⟨hw,h0,h1⟩:=hp;have hc:ag es=es.length:=hw.cnt rfl;have hm:=hw.1;unfold maxLen at hm;have hs:bH .sub .i64 left es.length=left-es.length:=cB (by omega);have hn:bJ [es] left=if left<es.length then-1 else left-es.length:=by unfold bJ;rw[cP,hc]
 refine cb LStaleS.B Tryz.func127 ?_
 exact zo
theorem rn {es:aa}(hp:Rw [tI,tI,tI] es/\ag es<=1048576):ap 157 [.one (.s 3 es)] [.one (.s 3 es)]:=by
 obtain⟨hw,hlim⟩:=hp;have hwf:Wf [.i 0,.i 0,.i 0] es:=hw.wf;have hlen:=cK hlim;refine cb LStaleS.B Tryz.func157 ?_
 intro O r F hO hr hF;cbv
 have h0z:b8 es [.i 0,.i 0,.i 0] 0=O.rep (O.zi (O.ln es)) [.i 0,.i 0,.i 0]:=by
  subst hO;rw[cE];rfl
 refine⟨?_,?_,[0,3,4],[3],Int×aa,fun s=>[.reg 4 (.j s.1),.leaf 3 0 ⟨0,0,none,.own (.s 3 s.2)⟩],fun s=>0<=s.1/\s.1.toNat<=es.length/\s.2=b8 es [.i 0,.i 0,.i 0] s.1.toNat,fun s=>es.length-s.1.toNat,⟨(0,O.rep (O.zi (O.ln es)) [.i 0,.i 0,.i 0]),?_,?_⟩,?_⟩
 ·subst hO;exact jG (b:=24) (show es.length*_<=_ by omega) (show es.length<=_ by omega)
 ·subst hO;exact⟨rfl,rfl⟩
 ·exact⟨by omega,Nat.zero_le _,h0z.symm⟩
 ·cbv
 ·rintro⟨i,m⟩ hi;replace hi:0<=i/\i.toNat<=es.length/\m=b8 es [.i 0,.i 0,.i 0] i.toNat:=hi;obtain⟨g0,g1,hm⟩:=hi;cbv
  repeat' first|apply And.intro|(apply bi<;>intro hb<;>cbv)|(refine ab (O.ar .add .i64 i 1,O.up (.s 3 m) [(O.ad 0 i,0)] [.i (O.gi es i 0),.i (O.gi es i 1),.i (O.gi es i 2)]) ?_ ?_ ?_;focus (cbv;done))
  all_goals(subst hO hr hF;(try simp only[nc]at*);(try simp only[ai,SS,sa,az]at*);(try simp only[kU,List.length_replicate,Int.toNat_natCast]at*);(try have hlt:i<es.length:=by assumption);(try have he:es.getD i.toNat []=[.i (af es i 0),.i (af es i 1),.i (af es i 2)]:=(au hwf g0 hlt).symm))
  all_goals exact JJ
theorem qK {es:aa}{d:DV}(hp:d=.one (.s 3 es)/\Rw [tI,tI,tI] es/\ag es<=1099511627776):ap 187 [.one (.s 3 es),d] [.k true]:=by
 obtain⟨rfl,hw,hlim⟩:=hp;have hwf:Wf [.i 0,.i 0,.i 0] es:=hw.wf;have hlen:=cK hlim;refine cb LStaleS.B Tryz.func187 ?_
 intro O r F hO hr hF;cbv
 apply bi<;>intro hb<;>cbv
 ·(subst hO hr hF;(try simp only[nc]at*);(try simp only[ai,SS,sa,az]at*));exact absurd rfl hb
 ·clear hb;refine⟨[0,1,5],[],Int,fun i=>[.reg 5 (.j i)],fun i=>0<=i/\i.toNat<=es.length,fun i=>es.length-i.toNat,⟨0,?_,?_⟩,?_⟩
  ·exact⟨by omega,Nat.zero_le _⟩
  ·cbv
  ·rintro i hi;replace hi:0<=i/\i.toNat<=es.length:=hi;obtain⟨g0,g1⟩:=hi;cbv
   repeat' first|apply And.intro|(apply bi<;>intro hb<;>cbv)|(refine ab (O.ar .add .i64 i 1) ?_ ?_ ?_;focus (cbv;done))
   all_goals(subst hO hr hF;(try simp only[nc]at*);(try simp only[ai,SS,sa,az]at*);(try have hlt:i<es.length:=by assumption);(try have he:es.getD i.toNat []=[.i (af es i 0),.i (af es i 1),.i (af es i 2)]:=(au hwf g0 hlt).symm))
   all_goals exact Lw
theorem mR {es:aa}{k:Int}(hp:Rw [tI,tI,tI] es/\ag es<=1099511627776/\0<=k/\am [es] k<=1152921504606846976):dZ 193 [.one (.s 3 es),.j k] [.s 3 (ao es k)] [.j (am [es] k)]:=by
 obtain⟨hw,hlim,hk0,hkb⟩:=hp;have hwf:Wf [.i 0,.i 0,.i 0] es:=hw.wf;have hlen:=cK hlim;refine mb nB [(0,0)] Tryz.func193 ?_
 intro O r os F hO hr hos hF;cbv
 refine⟨[0,1,5],[0],Int×Int×aa,fun s=>match s with|(i,k',cur)=>[.reg 5 (.j i),.reg 1 (.j k'),.leaf 0 0 ⟨0,0,some 0,.own (.s 3 cur)⟩],fun s=>0<=s.1/\s.1.toNat<=es.length/\s.2.1=du es k s.1.toNat/\s.2.2=dM es k s.1.toNat,fun s=>es.length-s.1.toNat,⟨(0,k,es),?_,?_⟩,?_⟩
 ·exact⟨by omega,Nat.zero_le _,bG.symm,cR.symm⟩
 ·cbv
 ·rintro⟨i,k',cur⟩ hi;replace hi:0<=i/\i.toNat<=es.length/\k'=du es k i.toNat/\cur=dM es k i.toNat:=hi;obtain⟨g0,g1,hk',hc⟩:=hi;cbv
  repeat' first|apply And.intro|(apply bi<;>intro hb<;>cbv)|(refine ab (O.ar .add .i64 i 1,O.ar .add .i64 (O.ar .add .i64 (O.ar .add .i64 (k') 1) 1) 1,O.up (.s 3 (O.up (.s 3 (O.up (.s 3 (cur)) [(O.ad 0 i,0)] [.i (k')])) [(O.ad 0 i,1)] [.i (O.ar .add .i64 (k') 1)])) [(O.ad 0 i,2)] [.i (O.ar .add .i64 (O.ar .add .i64 (k') 1) 1)]) ?_ ?_ ?_;focus (cbv;done))
  all_goals((try subst hos);subst hO hr hF;(try simp only[nc]at*);(try simp only[ai,SS,sa,az]at*);(try have hlt:i<es.length:=by assumption);(try have he:es.getD i.toNat []=[.i (af es i 0),.i (af es i 1),.i (af es i 2)]:=(au hwf g0 hlt).symm);(try have hcg:cur.getD i.toNat []=[.i (af es i 0),.i (af es i 1),.i (af es i 2)]:=by rw[hc,cQ g1];exact he))
  all_goals exact Lu
theorem mJ {ms:aa}{k:Int}(hp:∃ es,ms=ao es k/\Rw [tI,tI,tI] es/\ag es<=1099511627776/\0<=k/\am [ms] k<=1152921504606846976):ap 199 [.one (.s 3 ms),.j k] [.j (am [ms] k)]:=by
 obtain⟨es,hms,hw,hlim,hk0,hkb⟩:=hp;have hlen:=cK hlim;have hml:ms.length=es.length:=by rw[hms];exact b9
 have hkk:am [ms] k=am [es] k:=by rw[hms];exact jE
 have hwm:Wf [.i 0,.i 0,.i 0] ms:=by rw[hms];exact cD hw
 have hwf:Wf [.i 0,.i 0,.i 0] es:=hw.wf;have hat:∀ n,n<es.length->ms.getD n []=(d6 (es.getD n []) (du es k n)).1:=fun n hn=>by rw[hms];exact fN hn
 refine cb nB Tryz.func199 ?_
 intro O r F hO hr hF;cbv
 refine⟨[0,1,5],[],Int×Int,fun s=>match s with|(i,k')=>[.reg 5 (.j i),.reg 1 (.j k')],fun s=>0<=s.1/\s.1.toNat<=es.length/\s.2=du es k s.1.toNat,fun s=>es.length-s.1.toNat,⟨(0,k),?_,?_⟩,?_⟩
 ·exact⟨by omega,Nat.zero_le _,bG.symm⟩
 ·cbv
 ·rintro⟨i,k'⟩ hi;replace hi:0<=i/\i.toNat<=es.length/\k'=du es k i.toNat:=hi;obtain⟨g0,g1,hk'⟩:=hi;cbv
  repeat' first|apply And.intro|(apply bi<;>intro hb<;>cbv)|(refine ab (O.ar .add .i64 i 1,O.ar .add .i64 (O.ar .add .i64 (O.ar .add .i64 (k') 1) 1) 1) ?_ ?_ ?_;focus (cbv;done))
  all_goals(subst hO hr hF;(try simp only[nc]at*);(try simp only[ai,SS,sa,az]at*);(try have hltm:i<ms.length:=by assumption);(try have hlt:i<es.length:=by omega);(try have he:es.getD i.toNat []=[.i (af es i 0),.i (af es i 1),.i (af es i 2)]:=(au hwf g0 hlt).symm);(try rw[cS (n:=es.length) g0 hlt (by omega)]);(try have hlt':i.toNat<es.length:=by omega);(try have hct:=cg (es:=es) (n:=i.toNat) (by omega);rw[he]at hct;simp only[cz,dz,Nat.add_zero,Nat.zero_add]at hct);(try have hks:=cF (es:=es) (k:=k) hlt';rw[he]at hks;simp only[d6,eA]at hks);(try have hem:([.i (af ms i 0),.i (af ms i 1),.i (af ms i 2)]:ay)=_:=(au hwm g0 hltm).trans (hat i.toNat hlt');rw[he]at hem;simp only[d6,eA,List.cons.injEq,L.v.injEq,Value.int.injEq,Value.bool.injEq,L.s.injEq,true_and,and_true]at hem))
  all_goals exact Lv
theorem wi {a0 a1:Int}(hp:True):ap 376 [.agg [.i a0,.i a1]] [.agg [.i a0,.i a1]]:=by
 refine cb nB Tryz.func376 ?_
 exact rT
theorem v5 {a0 a1:Int}{d:DV}(hp:d=.agg [.i a0,.i a1]):ap 387 [.agg [.i a0,.i a1],d] [.k true]:=by
 subst hp;refine cb nB Tryz.func387 ?_
 exact rT
namespace LPostS
def ct (F:aQ):CT:=fun f ds=>match f,ds with
 |376,[.agg [.v (.int .i64 a0),.v (.int .i64 a1)]]=>some (fun _=>True,[.agg [.i a0,.i a1]])
 |387,[.agg [.v (.int .i64 a0),.v (.int .i64 a1)],d]=>some (fun _=>d=.agg [.i a0,.i a1],[.k true])
 |_,_=>none
theorem ah :aR (ct F0):=by
 intro f ds pre res h hp;unfold ct at h;split at h<;>cases h
 exact wi hp;exact v5 hp
abbrev B :cq:=tb ah
end LPostS
theorem tg {es:aa}{left:Int}(hp:Rw [tI,tI] es/\0<=left/\left<=1048576):ap 261 [.one (.s 2 es),.j left] [.j (bJ [es] left)]:=by
 obtain⟨hw,h0,h1⟩:=hp;have hc:ag es=es.length:=hw.cnt rfl;have hm:=hw.1;unfold maxLen at hm;have hs:bH .sub .i64 left es.length=left-es.length:=cB (by omega);have hn:bJ [es] left=if left<es.length then-1 else left-es.length:=by unfold bJ;rw[cP,hc]
 refine cb LPostS.B Tryz.func261 ?_
 exact zo
theorem tw {es:aa}(hp:Rw [tI,tI] es/\ag es<=1048576):ap 281 [.one (.s 2 es)] [.one (.s 2 es)]:=by
 obtain⟨hw,hlim⟩:=hp;have hwf:Wf [.i 0,.i 0] es:=hw.wf;have hlen:=cK hlim;refine cb LPostS.B Tryz.func281 ?_
 intro O r F hO hr hF;cbv
 have h0z:b8 es [.i 0,.i 0] 0=O.rep (O.zi (O.ln es)) [.i 0,.i 0]:=by
  subst hO;rw[cE];rfl
 refine⟨?_,?_,[0,3,4],[3],Int×aa,fun s=>[.reg 4 (.j s.1),.leaf 3 0 ⟨0,0,none,.own (.s 2 s.2)⟩],fun s=>0<=s.1/\s.1.toNat<=es.length/\s.2=b8 es [.i 0,.i 0] s.1.toNat,fun s=>es.length-s.1.toNat,⟨(0,O.rep (O.zi (O.ln es)) [.i 0,.i 0]),?_,?_⟩,?_⟩
 ·subst hO;exact jG (b:=16) (show es.length*_<=_ by omega) (show es.length<=_ by omega)
 ·subst hO;exact⟨rfl,rfl⟩
 ·exact⟨by omega,Nat.zero_le _,h0z.symm⟩
 ·cbv
 ·rintro⟨i,m⟩ hi;replace hi:0<=i/\i.toNat<=es.length/\m=b8 es [.i 0,.i 0] i.toNat:=hi;obtain⟨g0,g1,hm⟩:=hi;cbv
  repeat' first|apply And.intro|(apply bi<;>intro hb<;>cbv)|(refine ab (O.ar .add .i64 i 1,O.up (.s 2 m) [(O.ad 0 i,0)] [.i (O.gi es i 0),.i (O.gi es i 1)]) ?_ ?_ ?_;focus (cbv;done))
  all_goals(subst hO hr hF;(try simp only[nc]at*);(try simp only[ai,SS,sa,az]at*);(try simp only[kU,List.length_replicate,Int.toNat_natCast]at*);(try have hlt:i<es.length:=by assumption);(try have he:es.getD i.toNat []=[.i (af es i 0),.i (af es i 1)]:=(au hwf g0 hlt).symm))
  all_goals exact JJ
theorem sY {es:aa}{d:DV}(hp:d=.one (.s 2 es)/\Rw [tI,tI] es/\ag es<=1099511627776):ap 300 [.one (.s 2 es),d] [.k true]:=by
 obtain⟨rfl,hw,hlim⟩:=hp;have hwf:Wf [.i 0,.i 0] es:=hw.wf;have hlen:=cK hlim;refine cb LPostS.B Tryz.func300 ?_
 intro O r F hO hr hF;cbv
 apply bi<;>intro hb<;>cbv
 ·(subst hO hr hF;(try simp only[nc]at*);(try simp only[ai,SS,sa,az]at*));exact absurd rfl hb
 ·clear hb;refine⟨[0,1,5],[],Int,fun i=>[.reg 5 (.j i)],fun i=>0<=i/\i.toNat<=es.length,fun i=>es.length-i.toNat,⟨0,?_,?_⟩,?_⟩
  ·exact⟨by omega,Nat.zero_le _⟩
  ·cbv
  ·rintro i hi;replace hi:0<=i/\i.toNat<=es.length:=hi;obtain⟨g0,g1⟩:=hi;cbv
   repeat' first|apply And.intro|(apply bi<;>intro hb<;>cbv)|(refine ab (O.ar .add .i64 i 1) ?_ ?_ ?_;focus (cbv;done))
   all_goals(subst hO hr hF;(try simp only[nc]at*);(try simp only[ai,SS,sa,az]at*);(try have hlt:i<es.length:=by assumption);(try have he:es.getD i.toNat []=[.i (af es i 0),.i (af es i 1)]:=(au hwf g0 hlt).symm))
   all_goals exact Lw
theorem oN {es:aa}{k:Int}(hp:Rw [tI,tI] es/\ag es<=1099511627776/\0<=k/\am [es] k<=1152921504606846976):dZ 304 [.one (.s 2 es),.j k] [.s 2 (ao es k)] [.j (am [es] k)]:=by
 obtain⟨hw,hlim,hk0,hkb⟩:=hp;have hwf:Wf [.i 0,.i 0] es:=hw.wf;have hlen:=cK hlim;refine mb nB [(0,0)] Tryz.func304 ?_
 intro O r os F hO hr hos hF;cbv
 refine⟨[0,1,5],[0],Int×Int×aa,fun s=>match s with|(i,k',cur)=>[.reg 5 (.j i),.reg 1 (.j k'),.leaf 0 0 ⟨0,0,some 0,.own (.s 2 cur)⟩],fun s=>0<=s.1/\s.1.toNat<=es.length/\s.2.1=du es k s.1.toNat/\s.2.2=dM es k s.1.toNat,fun s=>es.length-s.1.toNat,⟨(0,k,es),?_,?_⟩,?_⟩
 ·exact⟨by omega,Nat.zero_le _,bG.symm,cR.symm⟩
 ·cbv
 ·rintro⟨i,k',cur⟩ hi;replace hi:0<=i/\i.toNat<=es.length/\k'=du es k i.toNat/\cur=dM es k i.toNat:=hi;obtain⟨g0,g1,hk',hc⟩:=hi;cbv
  repeat' first|apply And.intro|(apply bi<;>intro hb<;>cbv)|(refine ab (O.ar .add .i64 i 1,O.ar .add .i64 (O.ar .add .i64 (k') 1) 1,O.up (.s 2 (O.up (.s 2 (cur)) [(O.ad 0 i,0)] [.i (k')])) [(O.ad 0 i,1)] [.i (O.ar .add .i64 (k') 1)]) ?_ ?_ ?_;focus (cbv;done))
  all_goals((try subst hos);subst hO hr hF;(try simp only[nc]at*);(try simp only[ai,SS,sa,az]at*);(try have hlt:i<es.length:=by assumption);(try have he:es.getD i.toNat []=[.i (af es i 0),.i (af es i 1)]:=(au hwf g0 hlt).symm);(try have hcg:cur.getD i.toNat []=[.i (af es i 0),.i (af es i 1)]:=by rw[hc,cQ g1];exact he))
  all_goals exact Lu
theorem oJ {ms:aa}{k:Int}(hp:∃ es,ms=ao es k/\Rw [tI,tI] es/\ag es<=1099511627776/\0<=k/\am [ms] k<=1152921504606846976):ap 307 [.one (.s 2 ms),.j k] [.j (am [ms] k)]:=by
 obtain⟨es,hms,hw,hlim,hk0,hkb⟩:=hp;have hlen:=cK hlim;have hml:ms.length=es.length:=by rw[hms];exact b9
 have hkk:am [ms] k=am [es] k:=by rw[hms];exact jE
 have hwm:Wf [.i 0,.i 0] ms:=by rw[hms];exact cD hw
 have hwf:Wf [.i 0,.i 0] es:=hw.wf;have hat:∀ n,n<es.length->ms.getD n []=(d6 (es.getD n []) (du es k n)).1:=fun n hn=>by rw[hms];exact fN hn
 refine cb nB Tryz.func307 ?_
 intro O r F hO hr hF;cbv
 refine⟨[0,1,5],[],Int×Int,fun s=>match s with|(i,k')=>[.reg 5 (.j i),.reg 1 (.j k')],fun s=>0<=s.1/\s.1.toNat<=es.length/\s.2=du es k s.1.toNat,fun s=>es.length-s.1.toNat,⟨(0,k),?_,?_⟩,?_⟩
 ·exact⟨by omega,Nat.zero_le _,bG.symm⟩
 ·cbv
 ·rintro⟨i,k'⟩ hi;replace hi:0<=i/\i.toNat<=es.length/\k'=du es k i.toNat:=hi;obtain⟨g0,g1,hk'⟩:=hi;cbv
  repeat' first|apply And.intro|(apply bi<;>intro hb<;>cbv)|(refine ab (O.ar .add .i64 i 1,O.ar .add .i64 (O.ar .add .i64 (k') 1) 1) ?_ ?_ ?_;focus (cbv;done))
  all_goals(subst hO hr hF;(try simp only[nc]at*);(try simp only[ai,SS,sa,az]at*);(try have hltm:i<ms.length:=by assumption);(try have hlt:i<es.length:=by omega);(try have he:es.getD i.toNat []=[.i (af es i 0),.i (af es i 1)]:=(au hwf g0 hlt).symm);(try rw[cS (n:=es.length) g0 hlt (by omega)]);(try have hlt':i.toNat<es.length:=by omega);(try have hct:=cg (es:=es) (n:=i.toNat) (by omega);rw[he]at hct;simp only[cz,dz,Nat.add_zero,Nat.zero_add]at hct);(try have hks:=cF (es:=es) (k:=k) hlt';rw[he]at hks;simp only[d6,eA]at hks);(try have hem:([.i (af ms i 0),.i (af ms i 1)]:ay)=_:=(au hwm g0 hltm).trans (hat i.toNat hlt');rw[he]at hem;simp only[d6,eA,List.cons.injEq,L.v.injEq,Value.int.injEq,Value.bool.injEq,L.s.injEq,true_and,and_true]at hem))
  all_goals exact Lv
end Go.V