/- Contracts. -/
import Derived.Test.YticfhgfgobafbaaGreatLawHEm
set_option linter.all false
namespace Go.V
open Go Go.Proofs
set_option maxRecDepth 1000000
set_option maxHeartbeats 8000000
theorem qq {a0 a1:Int}(hp:True):ao 101 [.agg [.i a0,.i a1]] [.agg [.i a0,.i a1]]:=by
 refine cb nB Tryz.func101 ?_
 exact o9
theorem pZ {a0 a1:Int}{d:DV}(hp:d=.agg [.i a0,.i a1]):ao 122 [.agg [.i a0,.i a1],d] [.k true]:=by
 subst hp;refine cb nB Tryz.func122 ?_
 exact o9
namespace LRangeS
def ct (F:aO):CT:=fun f ds=>match f,ds with
 |101,[.agg [.v (.int .i64 a0),.v (.int .i64 a1)]]=>some (fun _=>True,[.agg [.i a0,.i a1]])
 |122,[.agg [.v (.int .i64 a0),.v (.int .i64 a1)],d]=>some (fun _=>d=.agg [.i a0,.i a1],[.k true])
 |_,_=>none
theorem aj :aR (ct F0):=by
 intro f ds pre res h hp;unfold ct at h;split at h<;>cases h
 exact qq hp;exact pZ hp
abbrev B :cD:=tb aj
end LRangeS
theorem oB {es:aa}{left:Int}(hp:Rw [tI,tI] es/\0<=left/\left<=1048576):ao 17 [.one (.s 2 es),.j left] [.j (bA [es] left)]:=by
 obtain⟨hw,h0,h1⟩:=hp;have hc:ak es=es.length:=hw.cnt rfl;have hm:=hw.1;unfold maxLen at hm;have hs:bP .sub .i64 left es.length=left-es.length:=cR (by omega);have hn:bA [es] left=if left<es.length then-1 else left-es.length:=by unfold bA;rw[cG,hc]
 refine cb LRangeS.B Tryz.func17 ?_
 exact ES
theorem oJ {es:aa}(hp:Rw [tI,tI] es/\ak es<=1048576):ao 29 [.one (.s 2 es)] [.one (.s 2 es)]:=by
 obtain⟨hw,hlim⟩:=hp;have hwf:Wf [.i 0,.i 0] es:=hw.wf;have hlen:=dm hlim;refine cb LRangeS.B Tryz.func29 ?_
 intro O r F hO hr hF;cbv
 have h0z:bT es [.i 0,.i 0] 0=O.rep (O.zi (O.ln es)) [.i 0,.i 0]:=by
  subst hO;rw[cz];rfl
 refine⟨?_,?_,[0,3,4],[3],Int×aa,fun s=>[.reg 4 (.j s.1),.leaf 3 0 ⟨0,0,none,.own (.s 2 s.2)⟩],fun s=>0<=s.1/\s.1.toNat<=es.length/\s.2=bT es [.i 0,.i 0] s.1.toNat,fun s=>es.length-s.1.toNat,⟨(0,O.rep (O.zi (O.ln es)) [.i 0,.i 0]),?_,?_⟩,?_⟩
 ·subst hO;exact iB (b:=16) (show es.length*_<=_ by omega) (show es.length<=_ by omega)
 ·subst hO;exact⟨rfl,rfl⟩
 ·exact⟨by omega,Nat.zero_le _,h0z.symm⟩
 ·cbv
 ·rintro⟨i,m⟩ hi;replace hi:0<=i/\i.toNat<=es.length/\m=bT es [.i 0,.i 0] i.toNat:=hi;obtain⟨g0,g1,hm⟩:=hi;cbv
  repeat' first|apply And.intro|(apply bi<;>intro hb<;>cbv)|(refine ab (O.ar .add .i64 i 1,O.up (.s 2 m) [(O.ad 0 i,0)] [.i (O.gi es i 0),.i (O.gi es i 1)]) ?_ ?_ ?_;focus (cbv;done))
  all_goals(subst hO hr hF;(try simp only[nc]at*);(try simp only[ai,SS,sa,az]at*);(try simp only[mK,List.length_replicate,Int.toNat_natCast]at*);(try have hlt:i<es.length:=by assumption);(try have he:es.getD i.toNat []=[.i (af es i 0),.i (af es i 1)]:=(au hwf g0 hlt).symm))
  all_goals exact EQ
theorem oc {es:aa}{d:DV}(hp:d=.one (.s 2 es)/\Rw [tI,tI] es/\ak es<=1099511627776):ao 46 [.one (.s 2 es),d] [.k true]:=by
 obtain⟨rfl,hw,hlim⟩:=hp;have hwf:Wf [.i 0,.i 0] es:=hw.wf;have hlen:=dm hlim;refine cb LRangeS.B Tryz.func46 ?_
 intro O r F hO hr hF;cbv
 apply bi<;>intro hb<;>cbv
 ·(subst hO hr hF;(try simp only[nc]at*);(try simp only[ai,SS,sa,az]at*));exact absurd rfl hb
 ·clear hb;refine⟨[0,1,5],[],Int,fun i=>[.reg 5 (.j i)],fun i=>0<=i/\i.toNat<=es.length,fun i=>es.length-i.toNat,⟨0,?_,?_⟩,?_⟩
  ·exact⟨by omega,Nat.zero_le _⟩
  ·cbv
  ·rintro i hi;replace hi:0<=i/\i.toNat<=es.length:=hi;obtain⟨g0,g1⟩:=hi;cbv
   repeat' first|apply And.intro|(apply bi<;>intro hb<;>cbv)|(refine ab (O.ar .add .i64 i 1) ?_ ?_ ?_;focus (cbv;done))
   all_goals(subst hO hr hF;(try simp only[nc]at*);(try simp only[ai,SS,sa,az]at*);(try have hlt:i<es.length:=by assumption);(try have he:es.getD i.toNat []=[.i (af es i 0),.i (af es i 1)]:=(au hwf g0 hlt).symm))
   all_goals exact Gl
theorem kY {es:aa}{k:Int}(hp:Rw [tI,tI] es/\ak es<=1099511627776/\0<=k/\aX [es] k<=1152921504606846976):dK 55 [.one (.s 2 es),.j k] [.s 2 (bV es k)] [.j (aX [es] k)]:=by
 obtain⟨hw,hlim,hk0,hkb⟩:=hp;have hwf:Wf [.i 0,.i 0] es:=hw.wf;have hlen:=dm hlim;refine mb nB [(0,0)] Tryz.func55 ?_
 intro O r os F hO hr hos hF;cbv
 refine⟨[0,1,5],[0],Int×Int×aa,fun s=>match s with|(i,k',cur)=>[.reg 5 (.j i),.reg 1 (.j k'),.leaf 0 0 ⟨0,0,some 0,.own (.s 2 cur)⟩],fun s=>0<=s.1/\s.1.toNat<=es.length/\s.2.1=fR es k s.1.toNat/\s.2.2=dA es k s.1.toNat,fun s=>es.length-s.1.toNat,⟨(0,k,es),?_,?_⟩,?_⟩
 ·exact⟨by omega,Nat.zero_le _,cv.symm,cM.symm⟩
 ·cbv
 ·rintro⟨i,k',cur⟩ hi;replace hi:0<=i/\i.toNat<=es.length/\k'=fR es k i.toNat/\cur=dA es k i.toNat:=hi;obtain⟨g0,g1,hk',hc⟩:=hi;cbv
  repeat' first|apply And.intro|(apply bi<;>intro hb<;>cbv)|(refine ab (O.ar .add .i64 i 1,O.ar .add .i64 (O.ar .add .i64 (k') 1) 1,O.up (.s 2 (O.up (.s 2 (cur)) [(O.ad 0 i,0)] [.i (k')])) [(O.ad 0 i,1)] [.i (O.ar .add .i64 (k') 1)]) ?_ ?_ ?_;focus (cbv;done))
  all_goals((try subst hos);subst hO hr hF;(try simp only[nc]at*);(try simp only[ai,SS,sa,az]at*);(try have hlt:i<es.length:=by assumption);(try have he:es.getD i.toNat []=[.i (af es i 0),.i (af es i 1)]:=(au hwf g0 hlt).symm);(try have hcg:cur.getD i.toNat []=[.i (af es i 0),.i (af es i 1)]:=by rw[hc,cL g1];exact he))
  all_goals exact Gj
theorem sL {a0 a1 a2:Int}(hp:True):ao 102 [.agg [.i a0,.i a1,.i a2]] [.agg [.i a0,.i a1,.i a2]]:=by
 refine cb nB Tryz.func102 ?_
 exact o9
theorem sB {a0 a1 a2:Int}{d:DV}(hp:d=.agg [.i a0,.i a1,.i a2]):ao 123 [.agg [.i a0,.i a1,.i a2],d] [.k true]:=by
 subst hp;refine cb nB Tryz.func123 ?_
 exact o9
namespace LSpanS
def ct (F:aO):CT:=fun f ds=>match f,ds with
 |102,[.agg [.v (.int .i64 a0),.v (.int .i64 a1),.v (.int .i64 a2)]]=>some (fun _=>True,[.agg [.i a0,.i a1,.i a2]])
 |123,[.agg [.v (.int .i64 a0),.v (.int .i64 a1),.v (.int .i64 a2)],d]=>some (fun _=>d=.agg [.i a0,.i a1,.i a2],[.k true])
 |_,_=>none
theorem aj :aR (ct F0):=by
 intro f ds pre res h hp;unfold ct at h;split at h<;>cases h
 exact sL hp;exact sB hp
abbrev B :cD:=tb aj
end LSpanS
theorem qi {es:aa}{left:Int}(hp:Rw [tI,tI,tI] es/\0<=left/\left<=1048576):ao 18 [.one (.s 3 es),.j left] [.j (bA [es] left)]:=by
 obtain⟨hw,h0,h1⟩:=hp;have hc:ak es=es.length:=hw.cnt rfl;have hm:=hw.1;unfold maxLen at hm;have hs:bP .sub .i64 left es.length=left-es.length:=cR (by omega);have hn:bA [es] left=if left<es.length then-1 else left-es.length:=by unfold bA;rw[cG,hc]
 refine cb LSpanS.B Tryz.func18 ?_
 exact ES
theorem qt {es:aa}(hp:Rw [tI,tI,tI] es/\ak es<=1048576):ao 30 [.one (.s 3 es)] [.one (.s 3 es)]:=by
 obtain⟨hw,hlim⟩:=hp;have hwf:Wf [.i 0,.i 0,.i 0] es:=hw.wf;have hlen:=dm hlim;refine cb LSpanS.B Tryz.func30 ?_
 intro O r F hO hr hF;cbv
 have h0z:bT es [.i 0,.i 0,.i 0] 0=O.rep (O.zi (O.ln es)) [.i 0,.i 0,.i 0]:=by
  subst hO;rw[cz];rfl
 refine⟨?_,?_,[0,3,4],[3],Int×aa,fun s=>[.reg 4 (.j s.1),.leaf 3 0 ⟨0,0,none,.own (.s 3 s.2)⟩],fun s=>0<=s.1/\s.1.toNat<=es.length/\s.2=bT es [.i 0,.i 0,.i 0] s.1.toNat,fun s=>es.length-s.1.toNat,⟨(0,O.rep (O.zi (O.ln es)) [.i 0,.i 0,.i 0]),?_,?_⟩,?_⟩
 ·subst hO;exact iB (b:=24) (show es.length*_<=_ by omega) (show es.length<=_ by omega)
 ·subst hO;exact⟨rfl,rfl⟩
 ·exact⟨by omega,Nat.zero_le _,h0z.symm⟩
 ·cbv
 ·rintro⟨i,m⟩ hi;replace hi:0<=i/\i.toNat<=es.length/\m=bT es [.i 0,.i 0,.i 0] i.toNat:=hi;obtain⟨g0,g1,hm⟩:=hi;cbv
  repeat' first|apply And.intro|(apply bi<;>intro hb<;>cbv)|(refine ab (O.ar .add .i64 i 1,O.up (.s 3 m) [(O.ad 0 i,0)] [.i (O.gi es i 0),.i (O.gi es i 1),.i (O.gi es i 2)]) ?_ ?_ ?_;focus (cbv;done))
  all_goals(subst hO hr hF;(try simp only[nc]at*);(try simp only[ai,SS,sa,az]at*);(try simp only[mK,List.length_replicate,Int.toNat_natCast]at*);(try have hlt:i<es.length:=by assumption);(try have he:es.getD i.toNat []=[.i (af es i 0),.i (af es i 1),.i (af es i 2)]:=(au hwf g0 hlt).symm))
  all_goals exact EQ
theorem qa {es:aa}{d:DV}(hp:d=.one (.s 3 es)/\Rw [tI,tI,tI] es/\ak es<=1099511627776):ao 47 [.one (.s 3 es),d] [.k true]:=by
 obtain⟨rfl,hw,hlim⟩:=hp;have hwf:Wf [.i 0,.i 0,.i 0] es:=hw.wf;have hlen:=dm hlim;refine cb LSpanS.B Tryz.func47 ?_
 intro O r F hO hr hF;cbv
 apply bi<;>intro hb<;>cbv
 ·(subst hO hr hF;(try simp only[nc]at*);(try simp only[ai,SS,sa,az]at*));exact absurd rfl hb
 ·clear hb;refine⟨[0,1,5],[],Int,fun i=>[.reg 5 (.j i)],fun i=>0<=i/\i.toNat<=es.length,fun i=>es.length-i.toNat,⟨0,?_,?_⟩,?_⟩
  ·exact⟨by omega,Nat.zero_le _⟩
  ·cbv
  ·rintro i hi;replace hi:0<=i/\i.toNat<=es.length:=hi;obtain⟨g0,g1⟩:=hi;cbv
   repeat' first|apply And.intro|(apply bi<;>intro hb<;>cbv)|(refine ab (O.ar .add .i64 i 1) ?_ ?_ ?_;focus (cbv;done))
   all_goals(subst hO hr hF;(try simp only[nc]at*);(try simp only[ai,SS,sa,az]at*);(try have hlt:i<es.length:=by assumption);(try have he:es.getD i.toNat []=[.i (af es i 0),.i (af es i 1),.i (af es i 2)]:=(au hwf g0 hlt).symm))
   all_goals exact Gl
theorem mj {es:aa}{k:Int}(hp:Rw [tI,tI,tI] es/\ak es<=1099511627776/\0<=k/\aX [es] k<=1152921504606846976):dK 56 [.one (.s 3 es),.j k] [.s 3 (bV es k)] [.j (aX [es] k)]:=by
 obtain⟨hw,hlim,hk0,hkb⟩:=hp;have hwf:Wf [.i 0,.i 0,.i 0] es:=hw.wf;have hlen:=dm hlim;refine mb nB [(0,0)] Tryz.func56 ?_
 intro O r os F hO hr hos hF;cbv
 refine⟨[0,1,5],[0],Int×Int×aa,fun s=>match s with|(i,k',cur)=>[.reg 5 (.j i),.reg 1 (.j k'),.leaf 0 0 ⟨0,0,some 0,.own (.s 3 cur)⟩],fun s=>0<=s.1/\s.1.toNat<=es.length/\s.2.1=fR es k s.1.toNat/\s.2.2=dA es k s.1.toNat,fun s=>es.length-s.1.toNat,⟨(0,k,es),?_,?_⟩,?_⟩
 ·exact⟨by omega,Nat.zero_le _,cv.symm,cM.symm⟩
 ·cbv
 ·rintro⟨i,k',cur⟩ hi;replace hi:0<=i/\i.toNat<=es.length/\k'=fR es k i.toNat/\cur=dA es k i.toNat:=hi;obtain⟨g0,g1,hk',hc⟩:=hi;cbv
  repeat' first|apply And.intro|(apply bi<;>intro hb<;>cbv)|(refine ab (O.ar .add .i64 i 1,O.ar .add .i64 (O.ar .add .i64 (O.ar .add .i64 (k') 1) 1) 1,O.up (.s 3 (O.up (.s 3 (O.up (.s 3 (cur)) [(O.ad 0 i,0)] [.i (k')])) [(O.ad 0 i,1)] [.i (O.ar .add .i64 (k') 1)])) [(O.ad 0 i,2)] [.i (O.ar .add .i64 (O.ar .add .i64 (k') 1) 1)]) ?_ ?_ ?_;focus (cbv;done))
  all_goals((try subst hos);subst hO hr hF;(try simp only[nc]at*);(try simp only[ai,SS,sa,az]at*);(try have hlt:i<es.length:=by assumption);(try have he:es.getD i.toNat []=[.i (af es i 0),.i (af es i 1),.i (af es i 2)]:=(au hwf g0 hlt).symm);(try have hcg:cur.getD i.toNat []=[.i (af es i 0),.i (af es i 1),.i (af es i 2)]:=by rw[hc,cL g1];exact he))
  all_goals exact Gj
theorem qo {a0 a1 a2:Int}(hp:True):ao 103 [.agg [.i a0,.i a1,.i a2]] [.agg [.i a0,.i a1,.i a2]]:=by
 refine cb nB Tryz.func103 ?_
 exact o9
theorem pX {a0 a1 a2:Int}{d:DV}(hp:d=.agg [.i a0,.i a1,.i a2]):ao 124 [.agg [.i a0,.i a1,.i a2],d] [.k true]:=by
 subst hp;refine cb nB Tryz.func124 ?_
 exact o9
namespace LLargeS
def ct (F:aO):CT:=fun f ds=>match f,ds with
 |103,[.agg [.v (.int .i64 a0),.v (.int .i64 a1),.v (.int .i64 a2)]]=>some (fun _=>True,[.agg [.i a0,.i a1,.i a2]])
 |124,[.agg [.v (.int .i64 a0),.v (.int .i64 a1),.v (.int .i64 a2)],d]=>some (fun _=>d=.agg [.i a0,.i a1,.i a2],[.k true])
 |_,_=>none
theorem aj :aR (ct F0):=by
 intro f ds pre res h hp;unfold ct at h;split at h<;>cases h
 exact qo hp;exact pX hp
abbrev B :cD:=tb aj
end LLargeS
theorem oz {es:aa}{left:Int}(hp:Rw [tI,tI,tI] es/\0<=left/\left<=1048576):ao 19 [.one (.s 3 es),.j left] [.j (bA [es] left)]:=by
 obtain⟨hw,h0,h1⟩:=hp;have hc:ak es=es.length:=hw.cnt rfl;have hm:=hw.1;unfold maxLen at hm;have hs:bP .sub .i64 left es.length=left-es.length:=cR (by omega);have hn:bA [es] left=if left<es.length then-1 else left-es.length:=by unfold bA;rw[cG,hc]
 refine cb LLargeS.B Tryz.func19 ?_
 exact ES
theorem oH {es:aa}(hp:Rw [tI,tI,tI] es/\ak es<=1048576):ao 31 [.one (.s 3 es)] [.one (.s 3 es)]:=by
 obtain⟨hw,hlim⟩:=hp;have hwf:Wf [.i 0,.i 0,.i 0] es:=hw.wf;have hlen:=dm hlim;refine cb LLargeS.B Tryz.func31 ?_
 intro O r F hO hr hF;cbv
 have h0z:bT es [.i 0,.i 0,.i 0] 0=O.rep (O.zi (O.ln es)) [.i 0,.i 0,.i 0]:=by
  subst hO;rw[cz];rfl
 refine⟨?_,?_,[0,3,4],[3],Int×aa,fun s=>[.reg 4 (.j s.1),.leaf 3 0 ⟨0,0,none,.own (.s 3 s.2)⟩],fun s=>0<=s.1/\s.1.toNat<=es.length/\s.2=bT es [.i 0,.i 0,.i 0] s.1.toNat,fun s=>es.length-s.1.toNat,⟨(0,O.rep (O.zi (O.ln es)) [.i 0,.i 0,.i 0]),?_,?_⟩,?_⟩
 ·subst hO;exact iB (b:=24) (show es.length*_<=_ by omega) (show es.length<=_ by omega)
 ·subst hO;exact⟨rfl,rfl⟩
 ·exact⟨by omega,Nat.zero_le _,h0z.symm⟩
 ·cbv
 ·rintro⟨i,m⟩ hi;replace hi:0<=i/\i.toNat<=es.length/\m=bT es [.i 0,.i 0,.i 0] i.toNat:=hi;obtain⟨g0,g1,hm⟩:=hi;cbv
  repeat' first|apply And.intro|(apply bi<;>intro hb<;>cbv)|(refine ab (O.ar .add .i64 i 1,O.up (.s 3 m) [(O.ad 0 i,0)] [.i (O.gi es i 0),.i (O.gi es i 1),.i (O.gi es i 2)]) ?_ ?_ ?_;focus (cbv;done))
  all_goals(subst hO hr hF;(try simp only[nc]at*);(try simp only[ai,SS,sa,az]at*);(try simp only[mK,List.length_replicate,Int.toNat_natCast]at*);(try have hlt:i<es.length:=by assumption);(try have he:es.getD i.toNat []=[.i (af es i 0),.i (af es i 1),.i (af es i 2)]:=(au hwf g0 hlt).symm))
  all_goals exact EQ
theorem nZ {es:aa}{d:DV}(hp:d=.one (.s 3 es)/\Rw [tI,tI,tI] es/\ak es<=1099511627776):ao 48 [.one (.s 3 es),d] [.k true]:=by
 obtain⟨rfl,hw,hlim⟩:=hp;have hwf:Wf [.i 0,.i 0,.i 0] es:=hw.wf;have hlen:=dm hlim;refine cb LLargeS.B Tryz.func48 ?_
 intro O r F hO hr hF;cbv
 apply bi<;>intro hb<;>cbv
 ·(subst hO hr hF;(try simp only[nc]at*);(try simp only[ai,SS,sa,az]at*));exact absurd rfl hb
 ·clear hb;refine⟨[0,1,5],[],Int,fun i=>[.reg 5 (.j i)],fun i=>0<=i/\i.toNat<=es.length,fun i=>es.length-i.toNat,⟨0,?_,?_⟩,?_⟩
  ·exact⟨by omega,Nat.zero_le _⟩
  ·cbv
  ·rintro i hi;replace hi:0<=i/\i.toNat<=es.length:=hi;obtain⟨g0,g1⟩:=hi;cbv
   repeat' first|apply And.intro|(apply bi<;>intro hb<;>cbv)|(refine ab (O.ar .add .i64 i 1) ?_ ?_ ?_;focus (cbv;done))
   all_goals(subst hO hr hF;(try simp only[nc]at*);(try simp only[ai,SS,sa,az]at*);(try have hlt:i<es.length:=by assumption);(try have he:es.getD i.toNat []=[.i (af es i 0),.i (af es i 1),.i (af es i 2)]:=(au hwf g0 hlt).symm))
   all_goals exact Gl
theorem kW {es:aa}{k:Int}(hp:Rw [tI,tI,tI] es/\ak es<=1099511627776/\0<=k/\aX [es] k<=1152921504606846976):dK 57 [.one (.s 3 es),.j k] [.s 3 (bV es k)] [.j (aX [es] k)]:=by
 obtain⟨hw,hlim,hk0,hkb⟩:=hp;have hwf:Wf [.i 0,.i 0,.i 0] es:=hw.wf;have hlen:=dm hlim;refine mb nB [(0,0)] Tryz.func57 ?_
 intro O r os F hO hr hos hF;cbv
 refine⟨[0,1,5],[0],Int×Int×aa,fun s=>match s with|(i,k',cur)=>[.reg 5 (.j i),.reg 1 (.j k'),.leaf 0 0 ⟨0,0,some 0,.own (.s 3 cur)⟩],fun s=>0<=s.1/\s.1.toNat<=es.length/\s.2.1=fR es k s.1.toNat/\s.2.2=dA es k s.1.toNat,fun s=>es.length-s.1.toNat,⟨(0,k,es),?_,?_⟩,?_⟩
 ·exact⟨by omega,Nat.zero_le _,cv.symm,cM.symm⟩
 ·cbv
 ·rintro⟨i,k',cur⟩ hi;replace hi:0<=i/\i.toNat<=es.length/\k'=fR es k i.toNat/\cur=dA es k i.toNat:=hi;obtain⟨g0,g1,hk',hc⟩:=hi;cbv
  repeat' first|apply And.intro|(apply bi<;>intro hb<;>cbv)|(refine ab (O.ar .add .i64 i 1,O.ar .add .i64 (O.ar .add .i64 (O.ar .add .i64 (k') 1) 1) 1,O.up (.s 3 (O.up (.s 3 (O.up (.s 3 (cur)) [(O.ad 0 i,0)] [.i (k')])) [(O.ad 0 i,1)] [.i (O.ar .add .i64 (k') 1)])) [(O.ad 0 i,2)] [.i (O.ar .add .i64 (O.ar .add .i64 (k') 1) 1)]) ?_ ?_ ?_;focus (cbv;done))
  all_goals((try subst hos);subst hO hr hF;(try simp only[nc]at*);(try simp only[ai,SS,sa,az]at*);(try have hlt:i<es.length:=by assumption);(try have he:es.getD i.toNat []=[.i (af es i 0),.i (af es i 1),.i (af es i 2)]:=(au hwf g0 hlt).symm);(try have hcg:cur.getD i.toNat []=[.i (af es i 0),.i (af es i 1),.i (af es i 2)]:=by rw[hc,cL g1];exact he))
  all_goals exact Gj
end Go.V