/- Contracts. -/
import Derived.Test.YticfhgfgobafbaaGreatS9
set_option linter.all false
namespace Go.V
open Go Go.Proofs
set_option maxRecDepth 1000000
set_option maxHeartbeats 8000000
theorem uj {a0 a1 a2 a3:Int}(hp:True):ao 104 [.agg [.i a0,.i a1,.i a2,.i a3]] [.agg [.i a0,.i a1,.i a2,.i a3]]:=by
 refine cb nB Tryz.func104 ?_
 exact o9
theorem ug {a0 a1 a2 a3:Int}{d:DV}(hp:d=.agg [.i a0,.i a1,.i a2,.i a3]):ao 125 [.agg [.i a0,.i a1,.i a2,.i a3],d] [.k true]:=by
 subst hp;refine cb nB Tryz.func125 ?_
 exact o9
namespace LObjS
def ct (F:aO):CT:=fun f ds=>match f,ds with
 |104,[.agg [.v (.int .i64 a0),.v (.int .i64 a1),.v (.int .i64 a2),.v (.int .i64 a3)]]=>some (fun _=>True,[.agg [.i a0,.i a1,.i a2,.i a3]])
 |125,[.agg [.v (.int .i64 a0),.v (.int .i64 a1),.v (.int .i64 a2),.v (.int .i64 a3)],d]=>some (fun _=>d=.agg [.i a0,.i a1,.i a2,.i a3],[.k true])
 |_,_=>none
theorem aj :aR (ct F0):=by
 intro f ds pre res h hp;unfold ct at h;split at h<;>cases h
 exact uj hp;exact ug hp
abbrev B :cD:=tb aj
end LObjS
theorem sD {es:aa}{left:Int}(hp:Rw [tI,tI,tI,tI] es/\0<=left/\left<=1048576):ao 20 [.one (.s 4 es),.j left] [.j (bA [es] left)]:=by
 obtain⟨hw,h0,h1⟩:=hp;have hc:ak es=es.length:=hw.cnt rfl;have hm:=hw.1;unfold maxLen at hm;have hs:bP .sub .i64 left es.length=left-es.length:=cR (by omega);have hn:bA [es] left=if left<es.length then-1 else left-es.length:=by unfold bA;rw[cG,hc]
 refine cb LObjS.B Tryz.func20 ?_
 exact ES
theorem sH {es:aa}(hp:Rw [tI,tI,tI,tI] es/\ak es<=1048576):ao 32 [.one (.s 4 es)] [.one (.s 4 es)]:=by
 obtain⟨hw,hlim⟩:=hp;have hwf:Wf [.i 0,.i 0,.i 0,.i 0] es:=hw.wf;have hlen:=dm hlim;refine cb LObjS.B Tryz.func32 ?_
 intro O r F hO hr hF;cbv
 have h0z:bT es [.i 0,.i 0,.i 0,.i 0] 0=O.rep (O.zi (O.ln es)) [.i 0,.i 0,.i 0,.i 0]:=by
  subst hO;rw[cz];rfl
 refine⟨?_,?_,[0,3,4],[3],Int×aa,fun s=>[.reg 4 (.j s.1),.leaf 3 0 ⟨0,0,none,.own (.s 4 s.2)⟩],fun s=>0<=s.1/\s.1.toNat<=es.length/\s.2=bT es [.i 0,.i 0,.i 0,.i 0] s.1.toNat,fun s=>es.length-s.1.toNat,⟨(0,O.rep (O.zi (O.ln es)) [.i 0,.i 0,.i 0,.i 0]),?_,?_⟩,?_⟩
 ·subst hO;exact iB (b:=32) (show es.length*_<=_ by omega) (show es.length<=_ by omega)
 ·subst hO;exact⟨rfl,rfl⟩
 ·exact⟨by omega,Nat.zero_le _,h0z.symm⟩
 ·cbv
 ·rintro⟨i,m⟩ hi;replace hi:0<=i/\i.toNat<=es.length/\m=bT es [.i 0,.i 0,.i 0,.i 0] i.toNat:=hi;obtain⟨g0,g1,hm⟩:=hi;cbv
  repeat' first|apply And.intro|(apply bi<;>intro hb<;>cbv)|(refine ab (O.ar .add .i64 i 1,O.up (.s 4 m) [(O.ad 0 i,0)] [.i (O.gi es i 0),.i (O.gi es i 1),.i (O.gi es i 2),.i (O.gi es i 3)]) ?_ ?_ ?_;focus (cbv;done))
  all_goals(subst hO hr hF;(try simp only[nc]at*);(try simp only[ai,SS,sa,az]at*);(try simp only[mK,List.length_replicate,Int.toNat_natCast]at*);(try have hlt:i<es.length:=by assumption);(try have he:es.getD i.toNat []=[.i (af es i 0),.i (af es i 1),.i (af es i 2),.i (af es i 3)]:=(au hwf g0 hlt).symm))
  all_goals exact EQ
theorem su {es:aa}{d:DV}(hp:d=.one (.s 4 es)/\Rw [tI,tI,tI,tI] es/\ak es<=1099511627776):ao 49 [.one (.s 4 es),d] [.k true]:=by
 obtain⟨rfl,hw,hlim⟩:=hp;have hwf:Wf [.i 0,.i 0,.i 0,.i 0] es:=hw.wf;have hlen:=dm hlim;refine cb LObjS.B Tryz.func49 ?_
 intro O r F hO hr hF;cbv
 apply bi<;>intro hb<;>cbv
 ·(subst hO hr hF;(try simp only[nc]at*);(try simp only[ai,SS,sa,az]at*));exact absurd rfl hb
 ·clear hb;refine⟨[0,1,5],[],Int,fun i=>[.reg 5 (.j i)],fun i=>0<=i/\i.toNat<=es.length,fun i=>es.length-i.toNat,⟨0,?_,?_⟩,?_⟩
  ·exact⟨by omega,Nat.zero_le _⟩
  ·cbv
  ·rintro i hi;replace hi:0<=i/\i.toNat<=es.length:=hi;obtain⟨g0,g1⟩:=hi;cbv
   repeat' first|apply And.intro|(apply bi<;>intro hb<;>cbv)|(refine ab (O.ar .add .i64 i 1) ?_ ?_ ?_;focus (cbv;done))
   all_goals(subst hO hr hF;(try simp only[nc]at*);(try simp only[ai,SS,sa,az]at*);(try have hlt:i<es.length:=by assumption);(try have he:es.getD i.toNat []=[.i (af es i 0),.i (af es i 1),.i (af es i 2),.i (af es i 3)]:=(au hwf g0 hlt).symm))
   all_goals exact Gl
theorem oi {es:aa}{k:Int}(hp:Rw [tI,tI,tI,tI] es/\ak es<=1099511627776/\0<=k/\aX [es] k<=1152921504606846976):dK 58 [.one (.s 4 es),.j k] [.s 4 (bV es k)] [.j (aX [es] k)]:=by
 obtain⟨hw,hlim,hk0,hkb⟩:=hp;have hwf:Wf [.i 0,.i 0,.i 0,.i 0] es:=hw.wf;have hlen:=dm hlim;refine mb nB [(0,0)] Tryz.func58 ?_
 intro O r os F hO hr hos hF;cbv
 refine⟨[0,1,5],[0],Int×Int×aa,fun s=>match s with|(i,k',cur)=>[.reg 5 (.j i),.reg 1 (.j k'),.leaf 0 0 ⟨0,0,some 0,.own (.s 4 cur)⟩],fun s=>0<=s.1/\s.1.toNat<=es.length/\s.2.1=fR es k s.1.toNat/\s.2.2=dA es k s.1.toNat,fun s=>es.length-s.1.toNat,⟨(0,k,es),?_,?_⟩,?_⟩
 ·exact⟨by omega,Nat.zero_le _,cv.symm,cM.symm⟩
 ·cbv
 ·rintro⟨i,k',cur⟩ hi;replace hi:0<=i/\i.toNat<=es.length/\k'=fR es k i.toNat/\cur=dA es k i.toNat:=hi;obtain⟨g0,g1,hk',hc⟩:=hi;cbv
  repeat' first|apply And.intro|(apply bi<;>intro hb<;>cbv)|(refine ab (O.ar .add .i64 i 1,O.ar .add .i64 (O.ar .add .i64 (O.ar .add .i64 (O.ar .add .i64 (k') 1) 1) 1) 1,O.up (.s 4 (O.up (.s 4 (O.up (.s 4 (O.up (.s 4 (cur)) [(O.ad 0 i,0)] [.i (k')])) [(O.ad 0 i,1)] [.i (O.ar .add .i64 (k') 1)])) [(O.ad 0 i,2)] [.i (O.ar .add .i64 (O.ar .add .i64 (k') 1) 1)])) [(O.ad 0 i,3)] [.i (O.ar .add .i64 (O.ar .add .i64 (O.ar .add .i64 (k') 1) 1) 1)]) ?_ ?_ ?_;focus (cbv;done))
  all_goals((try subst hos);subst hO hr hF;(try simp only[nc]at*);(try simp only[ai,SS,sa,az]at*);(try have hlt:i<es.length:=by assumption);(try have he:es.getD i.toNat []=[.i (af es i 0),.i (af es i 1),.i (af es i 2),.i (af es i 3)]:=(au hwf g0 hlt).symm);(try have hcg:cur.getD i.toNat []=[.i (af es i 0),.i (af es i 1),.i (af es i 2),.i (af es i 3)]:=by rw[hc,cL g1];exact he))
  all_goals exact Gj
theorem qu {a0 a1 a2:Int}(hp:True):ao 182 [.agg [.i a0,.i a1,.i a2]] [.agg [.i a0,.i a1,.i a2]]:=by
 refine cb nB Tryz.func182 ?_
 exact o9
theorem qb {a0 a1 a2:Int}{d:DV}(hp:d=.agg [.i a0,.i a1,.i a2]):ao 192 [.agg [.i a0,.i a1,.i a2],d] [.k true]:=by
 subst hp;refine cb nB Tryz.func192 ?_
 exact o9
namespace LStaleS
def ct (F:aO):CT:=fun f ds=>match f,ds with
 |182,[.agg [.v (.int .i64 a0),.v (.int .i64 a1),.v (.int .i64 a2)]]=>some (fun _=>True,[.agg [.i a0,.i a1,.i a2]])
 |192,[.agg [.v (.int .i64 a0),.v (.int .i64 a1),.v (.int .i64 a2)],d]=>some (fun _=>d=.agg [.i a0,.i a1,.i a2],[.k true])
 |_,_=>none
theorem aj :aR (ct F0):=by
 intro f ds pre res h hp;unfold ct at h;split at h<;>cases h
 exact qu hp;exact qb hp
abbrev B :cD:=tb aj
end LStaleS
theorem oC {es:aa}{left:Int}(hp:Rw [tI,tI,tI] es/\0<=left/\left<=1048576):ao 95 [.one (.s 3 es),.j left] [.j (bA [es] left)]:=by
 obtain⟨hw,h0,h1⟩:=hp;have hc:ak es=es.length:=hw.cnt rfl;have hm:=hw.1;unfold maxLen at hm;have hs:bP .sub .i64 left es.length=left-es.length:=cR (by omega);have hn:bA [es] left=if left<es.length then-1 else left-es.length:=by unfold bA;rw[cG,hc]
 refine cb LStaleS.B Tryz.func95 ?_
 exact ES
theorem oK {es:aa}(hp:Rw [tI,tI,tI] es/\ak es<=1048576):ao 108 [.one (.s 3 es)] [.one (.s 3 es)]:=by
 obtain⟨hw,hlim⟩:=hp;have hwf:Wf [.i 0,.i 0,.i 0] es:=hw.wf;have hlen:=dm hlim;refine cb LStaleS.B Tryz.func108 ?_
 intro O r F hO hr hF;cbv
 have h0z:bT es [.i 0,.i 0,.i 0] 0=O.rep (O.zi (O.ln es)) [.i 0,.i 0,.i 0]:=by
  subst hO;rw[cz];rfl
 refine⟨?_,?_,[0,3,4],[3],Int×aa,fun s=>[.reg 4 (.j s.1),.leaf 3 0 ⟨0,0,none,.own (.s 3 s.2)⟩],fun s=>0<=s.1/\s.1.toNat<=es.length/\s.2=bT es [.i 0,.i 0,.i 0] s.1.toNat,fun s=>es.length-s.1.toNat,⟨(0,O.rep (O.zi (O.ln es)) [.i 0,.i 0,.i 0]),?_,?_⟩,?_⟩
 ·subst hO;exact iB (b:=24) (show es.length*_<=_ by omega) (show es.length<=_ by omega)
 ·subst hO;exact⟨rfl,rfl⟩
 ·exact⟨by omega,Nat.zero_le _,h0z.symm⟩
 ·cbv
 ·rintro⟨i,m⟩ hi;replace hi:0<=i/\i.toNat<=es.length/\m=bT es [.i 0,.i 0,.i 0] i.toNat:=hi;obtain⟨g0,g1,hm⟩:=hi;cbv
  repeat' first|apply And.intro|(apply bi<;>intro hb<;>cbv)|(refine ab (O.ar .add .i64 i 1,O.up (.s 3 m) [(O.ad 0 i,0)] [.i (O.gi es i 0),.i (O.gi es i 1),.i (O.gi es i 2)]) ?_ ?_ ?_;focus (cbv;done))
  all_goals(subst hO hr hF;(try simp only[nc]at*);(try simp only[ai,SS,sa,az]at*);(try simp only[mK,List.length_replicate,Int.toNat_natCast]at*);(try have hlt:i<es.length:=by assumption);(try have he:es.getD i.toNat []=[.i (af es i 0),.i (af es i 1),.i (af es i 2)]:=(au hwf g0 hlt).symm))
  all_goals exact EQ
theorem od {es:aa}{d:DV}(hp:d=.one (.s 3 es)/\Rw [tI,tI,tI] es/\ak es<=1099511627776):ao 129 [.one (.s 3 es),d] [.k true]:=by
 obtain⟨rfl,hw,hlim⟩:=hp;have hwf:Wf [.i 0,.i 0,.i 0] es:=hw.wf;have hlen:=dm hlim;refine cb LStaleS.B Tryz.func129 ?_
 intro O r F hO hr hF;cbv
 apply bi<;>intro hb<;>cbv
 ·(subst hO hr hF;(try simp only[nc]at*);(try simp only[ai,SS,sa,az]at*));exact absurd rfl hb
 ·clear hb;refine⟨[0,1,5],[],Int,fun i=>[.reg 5 (.j i)],fun i=>0<=i/\i.toNat<=es.length,fun i=>es.length-i.toNat,⟨0,?_,?_⟩,?_⟩
  ·exact⟨by omega,Nat.zero_le _⟩
  ·cbv
  ·rintro i hi;replace hi:0<=i/\i.toNat<=es.length:=hi;obtain⟨g0,g1⟩:=hi;cbv
   repeat' first|apply And.intro|(apply bi<;>intro hb<;>cbv)|(refine ab (O.ar .add .i64 i 1) ?_ ?_ ?_;focus (cbv;done))
   all_goals(subst hO hr hF;(try simp only[nc]at*);(try simp only[ai,SS,sa,az]at*);(try have hlt:i<es.length:=by assumption);(try have he:es.getD i.toNat []=[.i (af es i 0),.i (af es i 1),.i (af es i 2)]:=(au hwf g0 hlt).symm))
   all_goals exact Gl
theorem kZ {es:aa}{k:Int}(hp:Rw [tI,tI,tI] es/\ak es<=1099511627776/\0<=k/\aX [es] k<=1152921504606846976):dK 134 [.one (.s 3 es),.j k] [.s 3 (bV es k)] [.j (aX [es] k)]:=by
 obtain⟨hw,hlim,hk0,hkb⟩:=hp;have hwf:Wf [.i 0,.i 0,.i 0] es:=hw.wf;have hlen:=dm hlim;refine mb nB [(0,0)] Tryz.func134 ?_
 intro O r os F hO hr hos hF;cbv
 refine⟨[0,1,5],[0],Int×Int×aa,fun s=>match s with|(i,k',cur)=>[.reg 5 (.j i),.reg 1 (.j k'),.leaf 0 0 ⟨0,0,some 0,.own (.s 3 cur)⟩],fun s=>0<=s.1/\s.1.toNat<=es.length/\s.2.1=fR es k s.1.toNat/\s.2.2=dA es k s.1.toNat,fun s=>es.length-s.1.toNat,⟨(0,k,es),?_,?_⟩,?_⟩
 ·exact⟨by omega,Nat.zero_le _,cv.symm,cM.symm⟩
 ·cbv
 ·rintro⟨i,k',cur⟩ hi;replace hi:0<=i/\i.toNat<=es.length/\k'=fR es k i.toNat/\cur=dA es k i.toNat:=hi;obtain⟨g0,g1,hk',hc⟩:=hi;cbv
  repeat' first|apply And.intro|(apply bi<;>intro hb<;>cbv)|(refine ab (O.ar .add .i64 i 1,O.ar .add .i64 (O.ar .add .i64 (O.ar .add .i64 (k') 1) 1) 1,O.up (.s 3 (O.up (.s 3 (O.up (.s 3 (cur)) [(O.ad 0 i,0)] [.i (k')])) [(O.ad 0 i,1)] [.i (O.ar .add .i64 (k') 1)])) [(O.ad 0 i,2)] [.i (O.ar .add .i64 (O.ar .add .i64 (k') 1) 1)]) ?_ ?_ ?_;focus (cbv;done))
  all_goals((try subst hos);subst hO hr hF;(try simp only[nc]at*);(try simp only[ai,SS,sa,az]at*);(try have hlt:i<es.length:=by assumption);(try have he:es.getD i.toNat []=[.i (af es i 0),.i (af es i 1),.i (af es i 2)]:=(au hwf g0 hlt).symm);(try have hcg:cur.getD i.toNat []=[.i (af es i 0),.i (af es i 1),.i (af es i 2)]:=by rw[hc,cL g1];exact he))
  all_goals exact Gj
theorem sJ {a0 a1:Int}(hp:True):ao 219 [.agg [.i a0,.i a1]] [.agg [.i a0,.i a1]]:=by
 refine cb nB Tryz.func219 ?_
 exact o9
theorem sx {a0 a1:Int}{d:DV}(hp:d=.agg [.i a0,.i a1]):ao 234 [.agg [.i a0,.i a1],d] [.k true]:=by
 subst hp;refine cb nB Tryz.func234 ?_
 exact o9
namespace LPostS
def ct (F:aO):CT:=fun f ds=>match f,ds with
 |219,[.agg [.v (.int .i64 a0),.v (.int .i64 a1)]]=>some (fun _=>True,[.agg [.i a0,.i a1]])
 |234,[.agg [.v (.int .i64 a0),.v (.int .i64 a1)],d]=>some (fun _=>d=.agg [.i a0,.i a1],[.k true])
 |_,_=>none
theorem aj :aR (ct F0):=by
 intro f ds pre res h hp;unfold ct at h;split at h<;>cases h
 exact sJ hp;exact sx hp
abbrev B :cD:=tb aj
end LPostS
theorem qh {es:aa}{left:Int}(hp:Rw [tI,tI] es/\0<=left/\left<=1048576):ao 174 [.one (.s 2 es),.j left] [.j (bA [es] left)]:=by
 obtain⟨hw,h0,h1⟩:=hp;have hc:ak es=es.length:=hw.cnt rfl;have hm:=hw.1;unfold maxLen at hm;have hs:bP .sub .i64 left es.length=left-es.length:=cR (by omega);have hn:bA [es] left=if left<es.length then-1 else left-es.length:=by unfold bA;rw[cG,hc]
 refine cb LPostS.B Tryz.func174 ?_
 exact ES
theorem qp {es:aa}(hp:Rw [tI,tI] es/\ak es<=1048576):ao 181 [.one (.s 2 es)] [.one (.s 2 es)]:=by
 obtain⟨hw,hlim⟩:=hp;have hwf:Wf [.i 0,.i 0] es:=hw.wf;have hlen:=dm hlim;refine cb LPostS.B Tryz.func181 ?_
 intro O r F hO hr hF;cbv
 have h0z:bT es [.i 0,.i 0] 0=O.rep (O.zi (O.ln es)) [.i 0,.i 0]:=by
  subst hO;rw[cz];rfl
 refine⟨?_,?_,[0,3,4],[3],Int×aa,fun s=>[.reg 4 (.j s.1),.leaf 3 0 ⟨0,0,none,.own (.s 2 s.2)⟩],fun s=>0<=s.1/\s.1.toNat<=es.length/\s.2=bT es [.i 0,.i 0] s.1.toNat,fun s=>es.length-s.1.toNat,⟨(0,O.rep (O.zi (O.ln es)) [.i 0,.i 0]),?_,?_⟩,?_⟩
 ·subst hO;exact iB (b:=16) (show es.length*_<=_ by omega) (show es.length<=_ by omega)
 ·subst hO;exact⟨rfl,rfl⟩
 ·exact⟨by omega,Nat.zero_le _,h0z.symm⟩
 ·cbv
 ·rintro⟨i,m⟩ hi;replace hi:0<=i/\i.toNat<=es.length/\m=bT es [.i 0,.i 0] i.toNat:=hi;obtain⟨g0,g1,hm⟩:=hi;cbv
  repeat' first|apply And.intro|(apply bi<;>intro hb<;>cbv)|(refine ab (O.ar .add .i64 i 1,O.up (.s 2 m) [(O.ad 0 i,0)] [.i (O.gi es i 0),.i (O.gi es i 1)]) ?_ ?_ ?_;focus (cbv;done))
  all_goals(subst hO hr hF;(try simp only[nc]at*);(try simp only[ai,SS,sa,az]at*);(try simp only[mK,List.length_replicate,Int.toNat_natCast]at*);(try have hlt:i<es.length:=by assumption);(try have he:es.getD i.toNat []=[.i (af es i 0),.i (af es i 1)]:=(au hwf g0 hlt).symm))
  all_goals exact EQ
theorem pY {es:aa}{d:DV}(hp:d=.one (.s 2 es)/\Rw [tI,tI] es/\ak es<=1099511627776):ao 191 [.one (.s 2 es),d] [.k true]:=by
 obtain⟨rfl,hw,hlim⟩:=hp;have hwf:Wf [.i 0,.i 0] es:=hw.wf;have hlen:=dm hlim;refine cb LPostS.B Tryz.func191 ?_
 intro O r F hO hr hF;cbv
 apply bi<;>intro hb<;>cbv
 ·(subst hO hr hF;(try simp only[nc]at*);(try simp only[ai,SS,sa,az]at*));exact absurd rfl hb
 ·clear hb;refine⟨[0,1,5],[],Int,fun i=>[.reg 5 (.j i)],fun i=>0<=i/\i.toNat<=es.length,fun i=>es.length-i.toNat,⟨0,?_,?_⟩,?_⟩
  ·exact⟨by omega,Nat.zero_le _⟩
  ·cbv
  ·rintro i hi;replace hi:0<=i/\i.toNat<=es.length:=hi;obtain⟨g0,g1⟩:=hi;cbv
   repeat' first|apply And.intro|(apply bi<;>intro hb<;>cbv)|(refine ab (O.ar .add .i64 i 1) ?_ ?_ ?_;focus (cbv;done))
   all_goals(subst hO hr hF;(try simp only[nc]at*);(try simp only[ai,SS,sa,az]at*);(try have hlt:i<es.length:=by assumption);(try have he:es.getD i.toNat []=[.i (af es i 0),.i (af es i 1)]:=(au hwf g0 hlt).symm))
   all_goals exact Gl
theorem mi {es:aa}{k:Int}(hp:Rw [tI,tI] es/\ak es<=1099511627776/\0<=k/\aX [es] k<=1152921504606846976):dK 195 [.one (.s 2 es),.j k] [.s 2 (bV es k)] [.j (aX [es] k)]:=by
 obtain⟨hw,hlim,hk0,hkb⟩:=hp;have hwf:Wf [.i 0,.i 0] es:=hw.wf;have hlen:=dm hlim;refine mb nB [(0,0)] Tryz.func195 ?_
 intro O r os F hO hr hos hF;cbv
 refine⟨[0,1,5],[0],Int×Int×aa,fun s=>match s with|(i,k',cur)=>[.reg 5 (.j i),.reg 1 (.j k'),.leaf 0 0 ⟨0,0,some 0,.own (.s 2 cur)⟩],fun s=>0<=s.1/\s.1.toNat<=es.length/\s.2.1=fR es k s.1.toNat/\s.2.2=dA es k s.1.toNat,fun s=>es.length-s.1.toNat,⟨(0,k,es),?_,?_⟩,?_⟩
 ·exact⟨by omega,Nat.zero_le _,cv.symm,cM.symm⟩
 ·cbv
 ·rintro⟨i,k',cur⟩ hi;replace hi:0<=i/\i.toNat<=es.length/\k'=fR es k i.toNat/\cur=dA es k i.toNat:=hi;obtain⟨g0,g1,hk',hc⟩:=hi;cbv
  repeat' first|apply And.intro|(apply bi<;>intro hb<;>cbv)|(refine ab (O.ar .add .i64 i 1,O.ar .add .i64 (O.ar .add .i64 (k') 1) 1,O.up (.s 2 (O.up (.s 2 (cur)) [(O.ad 0 i,0)] [.i (k')])) [(O.ad 0 i,1)] [.i (O.ar .add .i64 (k') 1)]) ?_ ?_ ?_;focus (cbv;done))
  all_goals((try subst hos);subst hO hr hF;(try simp only[nc]at*);(try simp only[ai,SS,sa,az]at*);(try have hlt:i<es.length:=by assumption);(try have he:es.getD i.toNat []=[.i (af es i 0),.i (af es i 1)]:=(au hwf g0 hlt).symm);(try have hcg:cur.getD i.toNat []=[.i (af es i 0),.i (af es i 1)]:=by rw[hc,cL g1];exact he))
  all_goals exact Gj
end Go.V