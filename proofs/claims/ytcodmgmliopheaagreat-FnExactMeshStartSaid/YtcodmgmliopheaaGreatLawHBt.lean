/- Contracts. -/
import Derived.Test.YtcodmgmliopheaaGreatLawHEt
set_option linter.all false
namespace Go.V
open Go Go.Proofs
set_option maxRecDepth 1000000
set_option maxHeartbeats 8000000
theorem tx {a0 a1:Int}(hp:True):ap 150 [.agg [.i a0,.i a1]] [.agg [.i a0,.i a1]]:=by
 refine cb nB Tryz.func150 ?_
 exact rT
theorem sZ {a0 a1:Int}{d:DV}(hp:d=.agg [.i a0,.i a1]):ap 180 [.agg [.i a0,.i a1],d] [.k true]:=by
 subst hp;refine cb nB Tryz.func180 ?_
 exact rT
namespace LRangeS
def ct (F:aQ):CT:=fun f ds=>match f,ds with
 |150,[.agg [.v (.int .i64 a0),.v (.int .i64 a1)]]=>some (fun _=>True,[.agg [.i a0,.i a1]])
 |180,[.agg [.v (.int .i64 a0),.v (.int .i64 a1)],d]=>some (fun _=>d=.agg [.i a0,.i a1],[.k true])
 |_,_=>none
theorem ah :aR (ct F0):=by
 intro f ds pre res h hp;unfold ct at h;split at h<;>cases h
 exact tx hp;exact sZ hp
abbrev B :cq:=tb ah
end LRangeS
theorem qZ {es:aa}{left:Int}(hp:Rw [tI,tI] es/\0<=left/\left<=1048576):ap 33 [.one (.s 2 es),.j left] [.j (bJ [es] left)]:=by
 obtain⟨hw,h0,h1⟩:=hp;have hc:ag es=es.length:=hw.cnt rfl;have hm:=hw.1;unfold maxLen at hm;have hs:bH .sub .i64 left es.length=left-es.length:=cB (by omega);have hn:bJ [es] left=if left<es.length then-1 else left-es.length:=by unfold bJ;rw[cP,hc]
 refine cb LRangeS.B Tryz.func33 ?_
 exact zo
theorem rl {es:aa}(hp:Rw [tI,tI] es/\ag es<=1048576):ap 45 [.one (.s 2 es)] [.one (.s 2 es)]:=by
 obtain⟨hw,hlim⟩:=hp;have hwf:Wf [.i 0,.i 0] es:=hw.wf;have hlen:=cK hlim;refine cb LRangeS.B Tryz.func45 ?_
 intro O r F hO hr hF;cbv
 have h0z:b8 es [.i 0,.i 0] 0=O.rep (O.zi (O.ln es)) [.i 0,.i 0]:=by
  subst hO;rw[cE];rfl
 refine⟨?_,?_,[0,3,4],[3],Int×aa,fun s=>[.reg 4 (.j s.1),.leaf 3 0 ⟨0,0,none,.own (.s 2 s.2)⟩],fun s=>0<=s.1/\s.1.toNat<=es.length/\s.2=b8 es [.i 0,.i 0] s.1.toNat,fun s=>es.length-s.1.toNat,⟨(0,O.rep (O.zi (O.ln es)) [.i 0,.i 0]),?_,?_⟩,?_⟩
 ·subst hO;exact jG (b:=16) (show es.length*_<=_ by omega) (show es.length<=_ by omega)
 ·subst hO;exact⟨rfl,rfl⟩
 ·exact⟨by omega,Nat.zero_le _,h0z.symm⟩
 ·cbv
 ·rintro⟨i,m⟩ hi;replace hi:0<=i/\i.toNat<=es.length/\m=b8 es [.i 0,.i 0] i.toNat:=hi;obtain⟨g0,g1,hm⟩:=hi;cbv
  repeat' first|apply And.intro|(apply bi<;>intro hb<;>cbv)|(refine ab (O.ar .add .i64 i 1,O.up (.s 2 m) [(O.ad 0 i,0)] [.i (O.gi es i 0),.i (O.gi es i 1)]) ?_ ?_ ?_;focus (cbv;done))
  all_goals(subst hO hr hF;(try simp only[nc]at*);(try simp only[ai,SS,sa,az]at*);(try simp only[kU,List.length_replicate,Int.toNat_natCast]at*);(try have hlt:i<es.length:=by assumption);(try have he:es.getD i.toNat []=[.i (af es i 0),.i (af es i 1)]:=(au hwf g0 hlt).symm))
  all_goals exact JJ
theorem qJ {es:aa}{d:DV}(hp:d=.one (.s 2 es)/\Rw [tI,tI] es/\ag es<=1099511627776):ap 57 [.one (.s 2 es),d] [.k true]:=by
 obtain⟨rfl,hw,hlim⟩:=hp;have hwf:Wf [.i 0,.i 0] es:=hw.wf;have hlen:=cK hlim;refine cb LRangeS.B Tryz.func57 ?_
 intro O r F hO hr hF;cbv
 apply bi<;>intro hb<;>cbv
 ·(subst hO hr hF;(try simp only[nc]at*);(try simp only[ai,SS,sa,az]at*));exact absurd rfl hb
 ·clear hb;refine⟨[0,1,5],[],Int,fun i=>[.reg 5 (.j i)],fun i=>0<=i/\i.toNat<=es.length,fun i=>es.length-i.toNat,⟨0,?_,?_⟩,?_⟩
  ·exact⟨by omega,Nat.zero_le _⟩
  ·cbv
  ·rintro i hi;replace hi:0<=i/\i.toNat<=es.length:=hi;obtain⟨g0,g1⟩:=hi;cbv
   repeat' first|apply And.intro|(apply bi<;>intro hb<;>cbv)|(refine ab (O.ar .add .i64 i 1) ?_ ?_ ?_;focus (cbv;done))
   all_goals(subst hO hr hF;(try simp only[nc]at*);(try simp only[ai,SS,sa,az]at*);(try have hlt:i<es.length:=by assumption);(try have he:es.getD i.toNat []=[.i (af es i 0),.i (af es i 1)]:=(au hwf g0 hlt).symm))
   all_goals exact Lw
theorem mQ {es:aa}{k:Int}(hp:Rw [tI,tI] es/\ag es<=1099511627776/\0<=k/\am [es] k<=1152921504606846976):dZ 66 [.one (.s 2 es),.j k] [.s 2 (ao es k)] [.j (am [es] k)]:=by
 obtain⟨hw,hlim,hk0,hkb⟩:=hp;have hwf:Wf [.i 0,.i 0] es:=hw.wf;have hlen:=cK hlim;refine mb nB [(0,0)] Tryz.func66 ?_
 intro O r os F hO hr hos hF;cbv
 refine⟨[0,1,5],[0],Int×Int×aa,fun s=>match s with|(i,k',cur)=>[.reg 5 (.j i),.reg 1 (.j k'),.leaf 0 0 ⟨0,0,some 0,.own (.s 2 cur)⟩],fun s=>0<=s.1/\s.1.toNat<=es.length/\s.2.1=du es k s.1.toNat/\s.2.2=dM es k s.1.toNat,fun s=>es.length-s.1.toNat,⟨(0,k,es),?_,?_⟩,?_⟩
 ·exact⟨by omega,Nat.zero_le _,bG.symm,cR.symm⟩
 ·cbv
 ·rintro⟨i,k',cur⟩ hi;replace hi:0<=i/\i.toNat<=es.length/\k'=du es k i.toNat/\cur=dM es k i.toNat:=hi;obtain⟨g0,g1,hk',hc⟩:=hi;cbv
  repeat' first|apply And.intro|(apply bi<;>intro hb<;>cbv)|(refine ab (O.ar .add .i64 i 1,O.ar .add .i64 (O.ar .add .i64 (k') 1) 1,O.up (.s 2 (O.up (.s 2 (cur)) [(O.ad 0 i,0)] [.i (k')])) [(O.ad 0 i,1)] [.i (O.ar .add .i64 (k') 1)]) ?_ ?_ ?_;focus (cbv;done))
  all_goals((try subst hos);subst hO hr hF;(try simp only[nc]at*);(try simp only[ai,SS,sa,az]at*);(try have hlt:i<es.length:=by assumption);(try have he:es.getD i.toNat []=[.i (af es i 0),.i (af es i 1)]:=(au hwf g0 hlt).symm);(try have hcg:cur.getD i.toNat []=[.i (af es i 0),.i (af es i 1)]:=by rw[hc,cQ g1];exact he))
  all_goals exact Lu
theorem mI {ms:aa}{k:Int}(hp:∃ es,ms=ao es k/\Rw [tI,tI] es/\ag es<=1099511627776/\0<=k/\am [ms] k<=1152921504606846976):ap 75 [.one (.s 2 ms),.j k] [.j (am [ms] k)]:=by
 obtain⟨es,hms,hw,hlim,hk0,hkb⟩:=hp;have hlen:=cK hlim;have hml:ms.length=es.length:=by rw[hms];exact b9
 have hkk:am [ms] k=am [es] k:=by rw[hms];exact jE
 have hwm:Wf [.i 0,.i 0] ms:=by rw[hms];exact cD hw
 have hwf:Wf [.i 0,.i 0] es:=hw.wf;have hat:∀ n,n<es.length->ms.getD n []=(d6 (es.getD n []) (du es k n)).1:=fun n hn=>by rw[hms];exact fN hn
 refine cb nB Tryz.func75 ?_
 intro O r F hO hr hF;cbv
 refine⟨[0,1,5],[],Int×Int,fun s=>match s with|(i,k')=>[.reg 5 (.j i),.reg 1 (.j k')],fun s=>0<=s.1/\s.1.toNat<=es.length/\s.2=du es k s.1.toNat,fun s=>es.length-s.1.toNat,⟨(0,k),?_,?_⟩,?_⟩
 ·exact⟨by omega,Nat.zero_le _,bG.symm⟩
 ·cbv
 ·rintro⟨i,k'⟩ hi;replace hi:0<=i/\i.toNat<=es.length/\k'=du es k i.toNat:=hi;obtain⟨g0,g1,hk'⟩:=hi;cbv
  repeat' first|apply And.intro|(apply bi<;>intro hb<;>cbv)|(refine ab (O.ar .add .i64 i 1,O.ar .add .i64 (O.ar .add .i64 (k') 1) 1) ?_ ?_ ?_;focus (cbv;done))
  all_goals(subst hO hr hF;(try simp only[nc]at*);(try simp only[ai,SS,sa,az]at*);(try have hltm:i<ms.length:=by assumption);(try have hlt:i<es.length:=by omega);(try have he:es.getD i.toNat []=[.i (af es i 0),.i (af es i 1)]:=(au hwf g0 hlt).symm);(try rw[cS (n:=es.length) g0 hlt (by omega)]);(try have hlt':i.toNat<es.length:=by omega);(try have hct:=cg (es:=es) (n:=i.toNat) (by omega);rw[he]at hct;simp only[cz,dz,Nat.add_zero,Nat.zero_add]at hct);(try have hks:=cF (es:=es) (k:=k) hlt';rw[he]at hks;simp only[d6,eA]at hks);(try have hem:([.i (af ms i 0),.i (af ms i 1)]:ay)=_:=(au hwm g0 hltm).trans (hat i.toNat hlt');rw[he]at hem;simp only[d6,eA,List.cons.injEq,L.v.injEq,Value.int.injEq,Value.bool.injEq,L.s.injEq,true_and,and_true]at hem))
  all_goals exact Lv
theorem wl {a0 a1 a2:Int}(hp:True):ap 151 [.agg [.i a0,.i a1,.i a2]] [.agg [.i a0,.i a1,.i a2]]:=by
 refine cb nB Tryz.func151 ?_
 exact rT
theorem v7 {a0 a1 a2:Int}{d:DV}(hp:d=.agg [.i a0,.i a1,.i a2]):ap 181 [.agg [.i a0,.i a1,.i a2],d] [.k true]:=by
 subst hp;refine cb nB Tryz.func181 ?_
 exact rT
namespace LSpanS
def ct (F:aQ):CT:=fun f ds=>match f,ds with
 |151,[.agg [.v (.int .i64 a0),.v (.int .i64 a1),.v (.int .i64 a2)]]=>some (fun _=>True,[.agg [.i a0,.i a1,.i a2]])
 |181,[.agg [.v (.int .i64 a0),.v (.int .i64 a1),.v (.int .i64 a2)],d]=>some (fun _=>d=.agg [.i a0,.i a1,.i a2],[.k true])
 |_,_=>none
theorem ah :aR (ct F0):=by
 intro f ds pre res h hp;unfold ct at h;split at h<;>cases h
 exact wl hp;exact v7 hp
abbrev B :cq:=tb ah
end LSpanS
theorem tj {es:aa}{left:Int}(hp:Rw [tI,tI,tI] es/\0<=left/\left<=1048576):ap 34 [.one (.s 3 es),.j left] [.j (bJ [es] left)]:=by
 obtain⟨hw,h0,h1⟩:=hp;have hc:ag es=es.length:=hw.cnt rfl;have hm:=hw.1;unfold maxLen at hm;have hs:bH .sub .i64 left es.length=left-es.length:=cB (by omega);have hn:bJ [es] left=if left<es.length then-1 else left-es.length:=by unfold bJ;rw[cP,hc]
 refine cb LSpanS.B Tryz.func34 ?_
 exact zo
theorem tz {es:aa}(hp:Rw [tI,tI,tI] es/\ag es<=1048576):ap 46 [.one (.s 3 es)] [.one (.s 3 es)]:=by
 obtain⟨hw,hlim⟩:=hp;have hwf:Wf [.i 0,.i 0,.i 0] es:=hw.wf;have hlen:=cK hlim;refine cb LSpanS.B Tryz.func46 ?_
 intro O r F hO hr hF;cbv
 have h0z:b8 es [.i 0,.i 0,.i 0] 0=O.rep (O.zi (O.ln es)) [.i 0,.i 0,.i 0]:=by
  subst hO;rw[cE];rfl
 refine⟨?_,?_,[0,3,4],[3],Int×aa,fun s=>[.reg 4 (.j s.1),.leaf 3 0 ⟨0,0,none,.own (.s 3 s.2)⟩],fun s=>0<=s.1/\s.1.toNat<=es.length/\s.2=b8 es [.i 0,.i 0,.i 0] s.1.toNat,fun s=>es.length-s.1.toNat,⟨(0,O.rep (O.zi (O.ln es)) [.i 0,.i 0,.i 0]),?_,?_⟩,?_⟩
 ·subst hO;exact jG (b:=24) (show es.length*_<=_ by omega) (show es.length<=_ by omega)
 ·subst hO;exact⟨rfl,rfl⟩
 ·exact⟨by omega,Nat.zero_le _,h0z.symm⟩
 ·cbv
 ·rintro⟨i,m⟩ hi;replace hi:0<=i/\i.toNat<=es.length/\m=b8 es [.i 0,.i 0,.i 0] i.toNat:=hi;obtain⟨g0,g1,hm⟩:=hi;cbv
  repeat' first|apply And.intro|(apply bi<;>intro hb<;>cbv)|(refine ab (O.ar .add .i64 i 1,O.up (.s 3 m) [(O.ad 0 i,0)] [.i (O.gi es i 0),.i (O.gi es i 1),.i (O.gi es i 2)]) ?_ ?_ ?_;focus (cbv;done))
  all_goals(subst hO hr hF;(try simp only[nc]at*);(try simp only[ai,SS,sa,az]at*);(try simp only[kU,List.length_replicate,Int.toNat_natCast]at*);(try have hlt:i<es.length:=by assumption);(try have he:es.getD i.toNat []=[.i (af es i 0),.i (af es i 1),.i (af es i 2)]:=(au hwf g0 hlt).symm))
  all_goals exact JJ
theorem s7 {es:aa}{d:DV}(hp:d=.one (.s 3 es)/\Rw [tI,tI,tI] es/\ag es<=1099511627776):ap 58 [.one (.s 3 es),d] [.k true]:=by
 obtain⟨rfl,hw,hlim⟩:=hp;have hwf:Wf [.i 0,.i 0,.i 0] es:=hw.wf;have hlen:=cK hlim;refine cb LSpanS.B Tryz.func58 ?_
 intro O r F hO hr hF;cbv
 apply bi<;>intro hb<;>cbv
 ·(subst hO hr hF;(try simp only[nc]at*);(try simp only[ai,SS,sa,az]at*));exact absurd rfl hb
 ·clear hb;refine⟨[0,1,5],[],Int,fun i=>[.reg 5 (.j i)],fun i=>0<=i/\i.toNat<=es.length,fun i=>es.length-i.toNat,⟨0,?_,?_⟩,?_⟩
  ·exact⟨by omega,Nat.zero_le _⟩
  ·cbv
  ·rintro i hi;replace hi:0<=i/\i.toNat<=es.length:=hi;obtain⟨g0,g1⟩:=hi;cbv
   repeat' first|apply And.intro|(apply bi<;>intro hb<;>cbv)|(refine ab (O.ar .add .i64 i 1) ?_ ?_ ?_;focus (cbv;done))
   all_goals(subst hO hr hF;(try simp only[nc]at*);(try simp only[ai,SS,sa,az]at*);(try have hlt:i<es.length:=by assumption);(try have he:es.getD i.toNat []=[.i (af es i 0),.i (af es i 1),.i (af es i 2)]:=(au hwf g0 hlt).symm))
   all_goals exact Lw
theorem oO {es:aa}{k:Int}(hp:Rw [tI,tI,tI] es/\ag es<=1099511627776/\0<=k/\am [es] k<=1152921504606846976):dZ 67 [.one (.s 3 es),.j k] [.s 3 (ao es k)] [.j (am [es] k)]:=by
 obtain⟨hw,hlim,hk0,hkb⟩:=hp;have hwf:Wf [.i 0,.i 0,.i 0] es:=hw.wf;have hlen:=cK hlim;refine mb nB [(0,0)] Tryz.func67 ?_
 intro O r os F hO hr hos hF;cbv
 refine⟨[0,1,5],[0],Int×Int×aa,fun s=>match s with|(i,k',cur)=>[.reg 5 (.j i),.reg 1 (.j k'),.leaf 0 0 ⟨0,0,some 0,.own (.s 3 cur)⟩],fun s=>0<=s.1/\s.1.toNat<=es.length/\s.2.1=du es k s.1.toNat/\s.2.2=dM es k s.1.toNat,fun s=>es.length-s.1.toNat,⟨(0,k,es),?_,?_⟩,?_⟩
 ·exact⟨by omega,Nat.zero_le _,bG.symm,cR.symm⟩
 ·cbv
 ·rintro⟨i,k',cur⟩ hi;replace hi:0<=i/\i.toNat<=es.length/\k'=du es k i.toNat/\cur=dM es k i.toNat:=hi;obtain⟨g0,g1,hk',hc⟩:=hi;cbv
  repeat' first|apply And.intro|(apply bi<;>intro hb<;>cbv)|(refine ab (O.ar .add .i64 i 1,O.ar .add .i64 (O.ar .add .i64 (O.ar .add .i64 (k') 1) 1) 1,O.up (.s 3 (O.up (.s 3 (O.up (.s 3 (cur)) [(O.ad 0 i,0)] [.i (k')])) [(O.ad 0 i,1)] [.i (O.ar .add .i64 (k') 1)])) [(O.ad 0 i,2)] [.i (O.ar .add .i64 (O.ar .add .i64 (k') 1) 1)]) ?_ ?_ ?_;focus (cbv;done))
  all_goals((try subst hos);subst hO hr hF;(try simp only[nc]at*);(try simp only[ai,SS,sa,az]at*);(try have hlt:i<es.length:=by assumption);(try have he:es.getD i.toNat []=[.i (af es i 0),.i (af es i 1),.i (af es i 2)]:=(au hwf g0 hlt).symm);(try have hcg:cur.getD i.toNat []=[.i (af es i 0),.i (af es i 1),.i (af es i 2)]:=by rw[hc,cQ g1];exact he))
  all_goals exact Lu
theorem oK {ms:aa}{k:Int}(hp:∃ es,ms=ao es k/\Rw [tI,tI,tI] es/\ag es<=1099511627776/\0<=k/\am [ms] k<=1152921504606846976):ap 76 [.one (.s 3 ms),.j k] [.j (am [ms] k)]:=by
 obtain⟨es,hms,hw,hlim,hk0,hkb⟩:=hp;have hlen:=cK hlim;have hml:ms.length=es.length:=by rw[hms];exact b9
 have hkk:am [ms] k=am [es] k:=by rw[hms];exact jE
 have hwm:Wf [.i 0,.i 0,.i 0] ms:=by rw[hms];exact cD hw
 have hwf:Wf [.i 0,.i 0,.i 0] es:=hw.wf;have hat:∀ n,n<es.length->ms.getD n []=(d6 (es.getD n []) (du es k n)).1:=fun n hn=>by rw[hms];exact fN hn
 refine cb nB Tryz.func76 ?_
 intro O r F hO hr hF;cbv
 refine⟨[0,1,5],[],Int×Int,fun s=>match s with|(i,k')=>[.reg 5 (.j i),.reg 1 (.j k')],fun s=>0<=s.1/\s.1.toNat<=es.length/\s.2=du es k s.1.toNat,fun s=>es.length-s.1.toNat,⟨(0,k),?_,?_⟩,?_⟩
 ·exact⟨by omega,Nat.zero_le _,bG.symm⟩
 ·cbv
 ·rintro⟨i,k'⟩ hi;replace hi:0<=i/\i.toNat<=es.length/\k'=du es k i.toNat:=hi;obtain⟨g0,g1,hk'⟩:=hi;cbv
  repeat' first|apply And.intro|(apply bi<;>intro hb<;>cbv)|(refine ab (O.ar .add .i64 i 1,O.ar .add .i64 (O.ar .add .i64 (O.ar .add .i64 (k') 1) 1) 1) ?_ ?_ ?_;focus (cbv;done))
  all_goals(subst hO hr hF;(try simp only[nc]at*);(try simp only[ai,SS,sa,az]at*);(try have hltm:i<ms.length:=by assumption);(try have hlt:i<es.length:=by omega);(try have he:es.getD i.toNat []=[.i (af es i 0),.i (af es i 1),.i (af es i 2)]:=(au hwf g0 hlt).symm);(try rw[cS (n:=es.length) g0 hlt (by omega)]);(try have hlt':i.toNat<es.length:=by omega);(try have hct:=cg (es:=es) (n:=i.toNat) (by omega);rw[he]at hct;simp only[cz,dz,Nat.add_zero,Nat.zero_add]at hct);(try have hks:=cF (es:=es) (k:=k) hlt';rw[he]at hks;simp only[d6,eA]at hks);(try have hem:([.i (af ms i 0),.i (af ms i 1),.i (af ms i 2)]:ay)=_:=(au hwm g0 hltm).trans (hat i.toNat hlt');rw[he]at hem;simp only[d6,eA,List.cons.injEq,L.v.injEq,Value.int.injEq,Value.bool.injEq,L.s.injEq,true_and,and_true]at hem))
  all_goals exact Lv
theorem tu {a0 a1 a2:Int}(hp:True):ap 152 [.agg [.i a0,.i a1,.i a2]] [.agg [.i a0,.i a1,.i a2]]:=by
 refine cb nB Tryz.func152 ?_
 exact rT
theorem sX {a0 a1 a2:Int}{d:DV}(hp:d=.agg [.i a0,.i a1,.i a2]):ap 182 [.agg [.i a0,.i a1,.i a2],d] [.k true]:=by
 subst hp;refine cb nB Tryz.func182 ?_
 exact rT
namespace LLargeS
def ct (F:aQ):CT:=fun f ds=>match f,ds with
 |152,[.agg [.v (.int .i64 a0),.v (.int .i64 a1),.v (.int .i64 a2)]]=>some (fun _=>True,[.agg [.i a0,.i a1,.i a2]])
 |182,[.agg [.v (.int .i64 a0),.v (.int .i64 a1),.v (.int .i64 a2)],d]=>some (fun _=>d=.agg [.i a0,.i a1,.i a2],[.k true])
 |_,_=>none
theorem ah :aR (ct F0):=by
 intro f ds pre res h hp;unfold ct at h;split at h<;>cases h
 exact tu hp;exact sX hp
abbrev B :cq:=tb ah
end LLargeS
theorem qX {es:aa}{left:Int}(hp:Rw [tI,tI,tI] es/\0<=left/\left<=1048576):ap 35 [.one (.s 3 es),.j left] [.j (bJ [es] left)]:=by
 obtain⟨hw,h0,h1⟩:=hp;have hc:ag es=es.length:=hw.cnt rfl;have hm:=hw.1;unfold maxLen at hm;have hs:bH .sub .i64 left es.length=left-es.length:=cB (by omega);have hn:bJ [es] left=if left<es.length then-1 else left-es.length:=by unfold bJ;rw[cP,hc]
 refine cb LLargeS.B Tryz.func35 ?_
 exact zo
theorem ri {es:aa}(hp:Rw [tI,tI,tI] es/\ag es<=1048576):ap 47 [.one (.s 3 es)] [.one (.s 3 es)]:=by
 obtain⟨hw,hlim⟩:=hp;have hwf:Wf [.i 0,.i 0,.i 0] es:=hw.wf;have hlen:=cK hlim;refine cb LLargeS.B Tryz.func47 ?_
 intro O r F hO hr hF;cbv
 have h0z:b8 es [.i 0,.i 0,.i 0] 0=O.rep (O.zi (O.ln es)) [.i 0,.i 0,.i 0]:=by
  subst hO;rw[cE];rfl
 refine⟨?_,?_,[0,3,4],[3],Int×aa,fun s=>[.reg 4 (.j s.1),.leaf 3 0 ⟨0,0,none,.own (.s 3 s.2)⟩],fun s=>0<=s.1/\s.1.toNat<=es.length/\s.2=b8 es [.i 0,.i 0,.i 0] s.1.toNat,fun s=>es.length-s.1.toNat,⟨(0,O.rep (O.zi (O.ln es)) [.i 0,.i 0,.i 0]),?_,?_⟩,?_⟩
 ·subst hO;exact jG (b:=24) (show es.length*_<=_ by omega) (show es.length<=_ by omega)
 ·subst hO;exact⟨rfl,rfl⟩
 ·exact⟨by omega,Nat.zero_le _,h0z.symm⟩
 ·cbv
 ·rintro⟨i,m⟩ hi;replace hi:0<=i/\i.toNat<=es.length/\m=b8 es [.i 0,.i 0,.i 0] i.toNat:=hi;obtain⟨g0,g1,hm⟩:=hi;cbv
  repeat' first|apply And.intro|(apply bi<;>intro hb<;>cbv)|(refine ab (O.ar .add .i64 i 1,O.up (.s 3 m) [(O.ad 0 i,0)] [.i (O.gi es i 0),.i (O.gi es i 1),.i (O.gi es i 2)]) ?_ ?_ ?_;focus (cbv;done))
  all_goals(subst hO hr hF;(try simp only[nc]at*);(try simp only[ai,SS,sa,az]at*);(try simp only[kU,List.length_replicate,Int.toNat_natCast]at*);(try have hlt:i<es.length:=by assumption);(try have he:es.getD i.toNat []=[.i (af es i 0),.i (af es i 1),.i (af es i 2)]:=(au hwf g0 hlt).symm))
  all_goals exact JJ
theorem qH {es:aa}{d:DV}(hp:d=.one (.s 3 es)/\Rw [tI,tI,tI] es/\ag es<=1099511627776):ap 59 [.one (.s 3 es),d] [.k true]:=by
 obtain⟨rfl,hw,hlim⟩:=hp;have hwf:Wf [.i 0,.i 0,.i 0] es:=hw.wf;have hlen:=cK hlim;refine cb LLargeS.B Tryz.func59 ?_
 intro O r F hO hr hF;cbv
 apply bi<;>intro hb<;>cbv
 ·(subst hO hr hF;(try simp only[nc]at*);(try simp only[ai,SS,sa,az]at*));exact absurd rfl hb
 ·clear hb;refine⟨[0,1,5],[],Int,fun i=>[.reg 5 (.j i)],fun i=>0<=i/\i.toNat<=es.length,fun i=>es.length-i.toNat,⟨0,?_,?_⟩,?_⟩
  ·exact⟨by omega,Nat.zero_le _⟩
  ·cbv
  ·rintro i hi;replace hi:0<=i/\i.toNat<=es.length:=hi;obtain⟨g0,g1⟩:=hi;cbv
   repeat' first|apply And.intro|(apply bi<;>intro hb<;>cbv)|(refine ab (O.ar .add .i64 i 1) ?_ ?_ ?_;focus (cbv;done))
   all_goals(subst hO hr hF;(try simp only[nc]at*);(try simp only[ai,SS,sa,az]at*);(try have hlt:i<es.length:=by assumption);(try have he:es.getD i.toNat []=[.i (af es i 0),.i (af es i 1),.i (af es i 2)]:=(au hwf g0 hlt).symm))
   all_goals exact Lw
theorem mO {es:aa}{k:Int}(hp:Rw [tI,tI,tI] es/\ag es<=1099511627776/\0<=k/\am [es] k<=1152921504606846976):dZ 68 [.one (.s 3 es),.j k] [.s 3 (ao es k)] [.j (am [es] k)]:=by
 obtain⟨hw,hlim,hk0,hkb⟩:=hp;have hwf:Wf [.i 0,.i 0,.i 0] es:=hw.wf;have hlen:=cK hlim;refine mb nB [(0,0)] Tryz.func68 ?_
 intro O r os F hO hr hos hF;cbv
 refine⟨[0,1,5],[0],Int×Int×aa,fun s=>match s with|(i,k',cur)=>[.reg 5 (.j i),.reg 1 (.j k'),.leaf 0 0 ⟨0,0,some 0,.own (.s 3 cur)⟩],fun s=>0<=s.1/\s.1.toNat<=es.length/\s.2.1=du es k s.1.toNat/\s.2.2=dM es k s.1.toNat,fun s=>es.length-s.1.toNat,⟨(0,k,es),?_,?_⟩,?_⟩
 ·exact⟨by omega,Nat.zero_le _,bG.symm,cR.symm⟩
 ·cbv
 ·rintro⟨i,k',cur⟩ hi;replace hi:0<=i/\i.toNat<=es.length/\k'=du es k i.toNat/\cur=dM es k i.toNat:=hi;obtain⟨g0,g1,hk',hc⟩:=hi;cbv
  repeat' first|apply And.intro|(apply bi<;>intro hb<;>cbv)|(refine ab (O.ar .add .i64 i 1,O.ar .add .i64 (O.ar .add .i64 (O.ar .add .i64 (k') 1) 1) 1,O.up (.s 3 (O.up (.s 3 (O.up (.s 3 (cur)) [(O.ad 0 i,0)] [.i (k')])) [(O.ad 0 i,1)] [.i (O.ar .add .i64 (k') 1)])) [(O.ad 0 i,2)] [.i (O.ar .add .i64 (O.ar .add .i64 (k') 1) 1)]) ?_ ?_ ?_;focus (cbv;done))
  all_goals((try subst hos);subst hO hr hF;(try simp only[nc]at*);(try simp only[ai,SS,sa,az]at*);(try have hlt:i<es.length:=by assumption);(try have he:es.getD i.toNat []=[.i (af es i 0),.i (af es i 1),.i (af es i 2)]:=(au hwf g0 hlt).symm);(try have hcg:cur.getD i.toNat []=[.i (af es i 0),.i (af es i 1),.i (af es i 2)]:=by rw[hc,cQ g1];exact he))
  all_goals exact Lu
theorem mG {ms:aa}{k:Int}(hp:∃ es,ms=ao es k/\Rw [tI,tI,tI] es/\ag es<=1099511627776/\0<=k/\am [ms] k<=1152921504606846976):ap 77 [.one (.s 3 ms),.j k] [.j (am [ms] k)]:=by
 obtain⟨es,hms,hw,hlim,hk0,hkb⟩:=hp;have hlen:=cK hlim;have hml:ms.length=es.length:=by rw[hms];exact b9
 have hkk:am [ms] k=am [es] k:=by rw[hms];exact jE
 have hwm:Wf [.i 0,.i 0,.i 0] ms:=by rw[hms];exact cD hw
 have hwf:Wf [.i 0,.i 0,.i 0] es:=hw.wf;have hat:∀ n,n<es.length->ms.getD n []=(d6 (es.getD n []) (du es k n)).1:=fun n hn=>by rw[hms];exact fN hn
 refine cb nB Tryz.func77 ?_
 intro O r F hO hr hF;cbv
 refine⟨[0,1,5],[],Int×Int,fun s=>match s with|(i,k')=>[.reg 5 (.j i),.reg 1 (.j k')],fun s=>0<=s.1/\s.1.toNat<=es.length/\s.2=du es k s.1.toNat,fun s=>es.length-s.1.toNat,⟨(0,k),?_,?_⟩,?_⟩
 ·exact⟨by omega,Nat.zero_le _,bG.symm⟩
 ·cbv
 ·rintro⟨i,k'⟩ hi;replace hi:0<=i/\i.toNat<=es.length/\k'=du es k i.toNat:=hi;obtain⟨g0,g1,hk'⟩:=hi;cbv
  repeat' first|apply And.intro|(apply bi<;>intro hb<;>cbv)|(refine ab (O.ar .add .i64 i 1,O.ar .add .i64 (O.ar .add .i64 (O.ar .add .i64 (k') 1) 1) 1) ?_ ?_ ?_;focus (cbv;done))
  all_goals(subst hO hr hF;(try simp only[nc]at*);(try simp only[ai,SS,sa,az]at*);(try have hltm:i<ms.length:=by assumption);(try have hlt:i<es.length:=by omega);(try have he:es.getD i.toNat []=[.i (af es i 0),.i (af es i 1),.i (af es i 2)]:=(au hwf g0 hlt).symm);(try rw[cS (n:=es.length) g0 hlt (by omega)]);(try have hlt':i.toNat<es.length:=by omega);(try have hct:=cg (es:=es) (n:=i.toNat) (by omega);rw[he]at hct;simp only[cz,dz,Nat.add_zero,Nat.zero_add]at hct);(try have hks:=cF (es:=es) (k:=k) hlt';rw[he]at hks;simp only[d6,eA]at hks);(try have hem:([.i (af ms i 0),.i (af ms i 1),.i (af ms i 2)]:ay)=_:=(au hwm g0 hltm).trans (hat i.toNat hlt');rw[he]at hem;simp only[d6,eA,List.cons.injEq,L.v.injEq,Value.int.injEq,Value.bool.injEq,L.s.injEq,true_and,and_true]at hem))
  all_goals exact Lv
end Go.V