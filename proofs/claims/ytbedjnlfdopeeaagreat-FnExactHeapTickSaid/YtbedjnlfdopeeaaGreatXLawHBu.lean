/- Contracts. -/
import Derived.Test.YtbedjnlfdopeeaaGreatXLawHEu
set_option linter.all false
open Go
open And renaming intro->Zb
open Int renaming toNat_natCast->ZG
open IntKind renaming i64->Za
open List renaming length_replicate->Yj
open List.cons renaming injEq->Yf
open Nat renaming zero_le->Zd,add_zero->Zh,zero_add->Zy
open Value.bool renaming injEq->Yp
open Value.int renaming injEq->Yo
namespace Go.V
open Go Go.Proofs
set_option maxRecDepth 1000000
set_option maxHeartbeats 8000000
theorem tw {a0 a1:Int}(hp:True):ap 109 [.agg [.i a0,.i a1]] [.agg [.i a0,.i a1]]:=by
 refine cb nB Tryz.func109 ?_
 exact rU
theorem sY {a0 a1:Int}{d:DV}(hp:d=.agg [.i a0,.i a1]):ap 143 [.agg [.i a0,.i a1],d] [.k true]:=by
 subst hp;refine cb nB Tryz.func143 ?_
 exact rU
namespace LRangeS
def ct (F:aP):CT:=fun f ds=>match f,ds with
 |109,[.agg [.v (.int Za a0),.v (.int Za a1)]]=>some (fun _=>True,[.agg [.i a0,.i a1]])
 |143,[.agg [.v (.int Za a0),.v (.int Za a1)],d]=>some (fun _=>d=.agg [.i a0,.i a1],[.k true])
 |_,_=>none
theorem aj:aT (ct F0):=by
 intro f ds pre res h hp;unfold ct at h;split at h<;>cases h
 exact tw hp;exact sY hp
abbrev B:cF:=tb aj
end LRangeS
theorem qY {es:aa}{left:Int}(hp:Rw [tI,tI] es/\0<=left/\left<=1048576):ap 18 [.one (.s 2 es),.j left] [.j (bN [es] left)]:=by
 obtain⟨hw,h0,h1⟩:=hp;have hc:ah es=es.length:=hw.cnt rfl;have hm:=hw.1;unfold maxLen at hm;have hs:bK .sub Za left es.length=left-es.length:=cN (by omega);have hn:bN [es] left=if left<es.length then-1 else left-es.length:=by unfold bN;rw[cZ,hc]
 refine cb LRangeS.B Tryz.func18 ?_
 exact JC
theorem rl {es:aa}(hp:Rw [tI,tI] es/\ah es<=1048576):ap 31 [.one (.s 2 es)] [.one (.s 2 es)]:=by
 obtain⟨hw,hlim⟩:=hp;have hwf:Wf [.i 0,.i 0] es:=hw.wf;have hlen:=cS hlim;refine cb LRangeS.B Tryz.func31 ?_
 intro O r F hO hr hF;cbv
 have h0z:b9 es [.i 0,.i 0] 0=O.rep (O.zi (O.ln es)) [.i 0,.i 0]:=by
  subst hO;rw[cJ];rfl
 refine⟨?_,?_,[0,3,4],[3],Int×aa,fun s=>[.reg 4 (.j s.1),.leaf 3 0 ⟨0,0,none,.own (.s 2 s.2)⟩],fun s=>0<=s.1/\s.1.toNat<=es.length/\s.2=b9 es [.i 0,.i 0] s.1.toNat,fun s=>es.length-s.1.toNat,⟨(0,O.rep (O.zi (O.ln es)) [.i 0,.i 0]),?_,?_⟩,?_⟩
 ·subst hO;exact jO (b:=16) (show es.length*_<=_ by omega) (show es.length<=_ by omega)
 ·subst hO;exact⟨rfl,rfl⟩
 ·exact⟨by omega,Zd _,h0z.symm⟩
 ·cbv
 ·rintro⟨i,m⟩ hi;replace hi:0<=i/\i.toNat<=es.length/\m=b9 es [.i 0,.i 0] i.toNat:=hi;obtain⟨g0,g1,hm⟩:=hi;cbv
  repeat' first|apply Zb|(apply bu<;>intro hb<;>cbv)|(refine ab (O.ar .add Za i 1,O.up (.s 2 m) [(O.ad 0 i,0)] [.i (O.gi es i 0),.i (O.gi es i 1)]) ?_ ?_ ?_;focus (cbv;done))
  all_goals(subst hO hr hF;(try simp only[nc]at*);(try simp only[ak,SS,sa,az]at*);(try simp only[jq,Yj,ZG]at*);(try have hlt:i<es.length:=by assumption);(try have he:es.getD i.toNat []=[.i (ag es i 0),.i (ag es i 1)]:=(ao hwf g0 hlt).symm))
  all_goals exact JB
theorem qG {es:aa}{d:DV}(hp:d=.one (.s 2 es)/\Rw [tI,tI] es/\ah es<=1099511627776):ap 45 [.one (.s 2 es),d] [.k true]:=by
 obtain⟨rfl,hw,hlim⟩:=hp;have hwf:Wf [.i 0,.i 0] es:=hw.wf;have hlen:=cS hlim;refine cb LRangeS.B Tryz.func45 ?_
 intro O r F hO hr hF;cbv
 apply bu<;>intro hb<;>cbv
 ·(subst hO hr hF;(try simp only[nc]at*);(try simp only[ak,SS,sa,az]at*));exact absurd rfl hb
 ·clear hb;refine⟨[0,1,5],[],Int,fun i=>[.reg 5 (.j i)],fun i=>0<=i/\i.toNat<=es.length,fun i=>es.length-i.toNat,⟨0,?_,?_⟩,?_⟩;exact⟨by omega,Zd _⟩
  ·cbv
  ·rintro i hi;replace hi:0<=i/\i.toNat<=es.length:=hi;obtain⟨g0,g1⟩:=hi;cbv
   repeat' first|apply Zb|(apply bu<;>intro hb<;>cbv)|(refine ab (O.ar .add Za i 1) ?_ ?_ ?_;focus (cbv;done))
   all_goals(subst hO hr hF;(try simp only[nc]at*);(try simp only[ak,SS,sa,az]at*);(try have hlt:i<es.length:=by assumption);(try have he:es.getD i.toNat []=[.i (ag es i 0),.i (ag es i 1)]:=(ao hwf g0 hlt).symm))
   all_goals exact Ln
theorem mX {es:aa}{k:Int}(hp:Rw [tI,tI] es/\ah es<=1099511627776/\0<=k/\au [es] k<=1152921504606846976):eb 54 [.one (.s 2 es),.j k] [.s 2 (aU es k)] [.j (au [es] k)]:=by
 obtain⟨hw,hlim,hk0,hkb⟩:=hp;have hwf:Wf [.i 0,.i 0] es:=hw.wf;have hlen:=cS hlim;refine mb nB [(0,0)] Tryz.func54 ?_
 intro O r os F hO hr hos hF;cbv
 refine⟨[0,1,5],[0],Int×Int×aa,fun s=>match s with|(i,k',cur)=>[.reg 5 (.j i),.reg 1 (.j k'),.leaf 0 0 ⟨0,0,some 0,.own (.s 2 cur)⟩],fun s=>0<=s.1/\s.1.toNat<=es.length/\s.2.1=dH es k s.1.toNat/\s.2.2=dT es k s.1.toNat,fun s=>es.length-s.1.toNat,⟨(0,k,es),?_,?_⟩,?_⟩;exact⟨by omega,Zd _,bJ.symm,db.symm⟩
 ·cbv
 ·rintro⟨i,k',cur⟩ hi;replace hi:0<=i/\i.toNat<=es.length/\k'=dH es k i.toNat/\cur=dT es k i.toNat:=hi;obtain⟨g0,g1,hk',hc⟩:=hi;cbv
  repeat' first|apply Zb|(apply bu<;>intro hb<;>cbv)|(refine ab (O.ar .add Za i 1,O.ar .add Za (O.ar .add Za (k') 1) 1,O.up (.s 2 (O.up (.s 2 (cur)) [(O.ad 0 i,0)] [.i (k')])) [(O.ad 0 i,1)] [.i (O.ar .add Za (k') 1)]) ?_ ?_ ?_;focus (cbv;done))
  all_goals((try subst hos);subst hO hr hF;(try simp only[nc]at*);(try simp only[ak,SS,sa,az]at*);(try have hlt:i<es.length:=by assumption);(try have he:es.getD i.toNat []=[.i (ag es i 0),.i (ag es i 1)]:=(ao hwf g0 hlt).symm);(try have hcg:cur.getD i.toNat []=[.i (ag es i 0),.i (ag es i 1)]:=by rw[hc,da g1];exact he))
  all_goals exact Ll
theorem mP {ms:aa}{k:Int}(hp:∃ es,ms=aU es k/\Rw [tI,tI] es/\ah es<=1099511627776/\0<=k/\au [ms] k<=1152921504606846976):ap 63 [.one (.s 2 ms),.j k] [.j (au [ms] k)]:=by
 obtain⟨es,hms,hw,hlim,hk0,hkb⟩:=hp;have hlen:=cS hlim;have hml:ms.length=es.length:=by rw[hms];exact ca
 have hkk:au [ms] k=au [es] k:=by rw[hms];exact jM
 have hwm:Wf [.i 0,.i 0] ms:=by rw[hms];exact cI hw
 have hwf:Wf [.i 0,.i 0] es:=hw.wf;have hat:∀ n,n<es.length->ms.getD n []=(eh (es.getD n []) (dH es k n)).1:=fun n hn=>by rw[hms];exact fX hn
 refine cb nB Tryz.func63 ?_
 intro O r F hO hr hF;cbv
 refine⟨[0,1,5],[],Int×Int,fun s=>match s with|(i,k')=>[.reg 5 (.j i),.reg 1 (.j k')],fun s=>0<=s.1/\s.1.toNat<=es.length/\s.2=dH es k s.1.toNat,fun s=>es.length-s.1.toNat,⟨(0,k),?_,?_⟩,?_⟩;exact⟨by omega,Zd _,bJ.symm⟩
 ·cbv
 ·rintro⟨i,k'⟩ hi;replace hi:0<=i/\i.toNat<=es.length/\k'=dH es k i.toNat:=hi;obtain⟨g0,g1,hk'⟩:=hi;cbv
  repeat' first|apply Zb|(apply bu<;>intro hb<;>cbv)|(refine ab (O.ar .add Za i 1,O.ar .add Za (O.ar .add Za (k') 1) 1) ?_ ?_ ?_;focus (cbv;done))
  all_goals(subst hO hr hF;(try simp only[nc]at*);(try simp only[ak,SS,sa,az]at*);(try have hltm:i<ms.length:=by assumption);(try have hlt:i<es.length:=by omega);(try have he:es.getD i.toNat []=[.i (ag es i 0),.i (ag es i 1)]:=(ao hwf g0 hlt).symm);(try rw[de (n:=es.length) g0 hlt (by omega)]);(try have hlt':i.toNat<es.length:=by omega);(try have hct:=cu (es:=es) (n:=i.toNat) (by omega);rw[he]at hct;simp only[cP,eA,Zh,Zy]at hct);(try have hks:=cK (es:=es) (k:=k) hlt';rw[he]at hks;simp only[eh,eN]at hks);(try have hem:([.i (ag ms i 0),.i (ag ms i 1)]:ay)=_:=(ao hwm g0 hltm).trans (hat i.toNat hlt');rw[he]at hem;simp only[eh,eN,Yf,L.v.injEq,Yo,Yp,L.s.injEq,true_and,and_true]at hem))
  all_goals exact Lm
theorem ww {a0 a1 a2:Int}(hp:True):ap 110 [.agg [.i a0,.i a1,.i a2]] [.agg [.i a0,.i a1,.i a2]]:=by
 refine cb nB Tryz.func110 ?_
 exact rU
theorem v9 {a0 a1 a2:Int}{d:DV}(hp:d=.agg [.i a0,.i a1,.i a2]):ap 144 [.agg [.i a0,.i a1,.i a2],d] [.k true]:=by
 subst hp;refine cb nB Tryz.func144 ?_
 exact rU
namespace LSpanS
def ct (F:aP):CT:=fun f ds=>match f,ds with
 |110,[.agg [.v (.int Za a0),.v (.int Za a1),.v (.int Za a2)]]=>some (fun _=>True,[.agg [.i a0,.i a1,.i a2]])
 |144,[.agg [.v (.int Za a0),.v (.int Za a1),.v (.int Za a2)],d]=>some (fun _=>d=.agg [.i a0,.i a1,.i a2],[.k true])
 |_,_=>none
theorem aj:aT (ct F0):=by
 intro f ds pre res h hp;unfold ct at h;split at h<;>cases h
 exact ww hp;exact v9 hp
abbrev B:cF:=tb aj
end LSpanS
theorem tg {es:aa}{left:Int}(hp:Rw [tI,tI,tI] es/\0<=left/\left<=1048576):ap 19 [.one (.s 3 es),.j left] [.j (bN [es] left)]:=by
 obtain⟨hw,h0,h1⟩:=hp;have hc:ah es=es.length:=hw.cnt rfl;have hm:=hw.1;unfold maxLen at hm;have hs:bK .sub Za left es.length=left-es.length:=cN (by omega);have hn:bN [es] left=if left<es.length then-1 else left-es.length:=by unfold bN;rw[cZ,hc]
 refine cb LSpanS.B Tryz.func19 ?_
 exact JC
theorem tx {es:aa}(hp:Rw [tI,tI,tI] es/\ah es<=1048576):ap 32 [.one (.s 3 es)] [.one (.s 3 es)]:=by
 obtain⟨hw,hlim⟩:=hp;have hwf:Wf [.i 0,.i 0,.i 0] es:=hw.wf;have hlen:=cS hlim;refine cb LSpanS.B Tryz.func32 ?_
 intro O r F hO hr hF;cbv
 have h0z:b9 es [.i 0,.i 0,.i 0] 0=O.rep (O.zi (O.ln es)) [.i 0,.i 0,.i 0]:=by
  subst hO;rw[cJ];rfl
 refine⟨?_,?_,[0,3,4],[3],Int×aa,fun s=>[.reg 4 (.j s.1),.leaf 3 0 ⟨0,0,none,.own (.s 3 s.2)⟩],fun s=>0<=s.1/\s.1.toNat<=es.length/\s.2=b9 es [.i 0,.i 0,.i 0] s.1.toNat,fun s=>es.length-s.1.toNat,⟨(0,O.rep (O.zi (O.ln es)) [.i 0,.i 0,.i 0]),?_,?_⟩,?_⟩
 ·subst hO;exact jO (b:=24) (show es.length*_<=_ by omega) (show es.length<=_ by omega)
 ·subst hO;exact⟨rfl,rfl⟩
 ·exact⟨by omega,Zd _,h0z.symm⟩
 ·cbv
 ·rintro⟨i,m⟩ hi;replace hi:0<=i/\i.toNat<=es.length/\m=b9 es [.i 0,.i 0,.i 0] i.toNat:=hi;obtain⟨g0,g1,hm⟩:=hi;cbv
  repeat' first|apply Zb|(apply bu<;>intro hb<;>cbv)|(refine ab (O.ar .add Za i 1,O.up (.s 3 m) [(O.ad 0 i,0)] [.i (O.gi es i 0),.i (O.gi es i 1),.i (O.gi es i 2)]) ?_ ?_ ?_;focus (cbv;done))
  all_goals(subst hO hr hF;(try simp only[nc]at*);(try simp only[ak,SS,sa,az]at*);(try simp only[jq,Yj,ZG]at*);(try have hlt:i<es.length:=by assumption);(try have he:es.getD i.toNat []=[.i (ag es i 0),.i (ag es i 1),.i (ag es i 2)]:=(ao hwf g0 hlt).symm))
  all_goals exact JB
theorem sZ {es:aa}{d:DV}(hp:d=.one (.s 3 es)/\Rw [tI,tI,tI] es/\ah es<=1099511627776):ap 46 [.one (.s 3 es),d] [.k true]:=by
 obtain⟨rfl,hw,hlim⟩:=hp;have hwf:Wf [.i 0,.i 0,.i 0] es:=hw.wf;have hlen:=cS hlim;refine cb LSpanS.B Tryz.func46 ?_
 intro O r F hO hr hF;cbv
 apply bu<;>intro hb<;>cbv
 ·(subst hO hr hF;(try simp only[nc]at*);(try simp only[ak,SS,sa,az]at*));exact absurd rfl hb
 ·clear hb;refine⟨[0,1,5],[],Int,fun i=>[.reg 5 (.j i)],fun i=>0<=i/\i.toNat<=es.length,fun i=>es.length-i.toNat,⟨0,?_,?_⟩,?_⟩;exact⟨by omega,Zd _⟩
  ·cbv
  ·rintro i hi;replace hi:0<=i/\i.toNat<=es.length:=hi;obtain⟨g0,g1⟩:=hi;cbv
   repeat' first|apply Zb|(apply bu<;>intro hb<;>cbv)|(refine ab (O.ar .add Za i 1) ?_ ?_ ?_;focus (cbv;done))
   all_goals(subst hO hr hF;(try simp only[nc]at*);(try simp only[ak,SS,sa,az]at*);(try have hlt:i<es.length:=by assumption);(try have he:es.getD i.toNat []=[.i (ag es i 0),.i (ag es i 1),.i (ag es i 2)]:=(ao hwf g0 hlt).symm))
   all_goals exact Ln
theorem oK {es:aa}{k:Int}(hp:Rw [tI,tI,tI] es/\ah es<=1099511627776/\0<=k/\au [es] k<=1152921504606846976):eb 55 [.one (.s 3 es),.j k] [.s 3 (aU es k)] [.j (au [es] k)]:=by
 obtain⟨hw,hlim,hk0,hkb⟩:=hp;have hwf:Wf [.i 0,.i 0,.i 0] es:=hw.wf;have hlen:=cS hlim;refine mb nB [(0,0)] Tryz.func55 ?_
 intro O r os F hO hr hos hF;cbv
 refine⟨[0,1,5],[0],Int×Int×aa,fun s=>match s with|(i,k',cur)=>[.reg 5 (.j i),.reg 1 (.j k'),.leaf 0 0 ⟨0,0,some 0,.own (.s 3 cur)⟩],fun s=>0<=s.1/\s.1.toNat<=es.length/\s.2.1=dH es k s.1.toNat/\s.2.2=dT es k s.1.toNat,fun s=>es.length-s.1.toNat,⟨(0,k,es),?_,?_⟩,?_⟩;exact⟨by omega,Zd _,bJ.symm,db.symm⟩
 ·cbv
 ·rintro⟨i,k',cur⟩ hi;replace hi:0<=i/\i.toNat<=es.length/\k'=dH es k i.toNat/\cur=dT es k i.toNat:=hi;obtain⟨g0,g1,hk',hc⟩:=hi;cbv
  repeat' first|apply Zb|(apply bu<;>intro hb<;>cbv)|(refine ab (O.ar .add Za i 1,O.ar .add Za (O.ar .add Za (O.ar .add Za (k') 1) 1) 1,O.up (.s 3 (O.up (.s 3 (O.up (.s 3 (cur)) [(O.ad 0 i,0)] [.i (k')])) [(O.ad 0 i,1)] [.i (O.ar .add Za (k') 1)])) [(O.ad 0 i,2)] [.i (O.ar .add Za (O.ar .add Za (k') 1) 1)]) ?_ ?_ ?_;focus (cbv;done))
  all_goals((try subst hos);subst hO hr hF;(try simp only[nc]at*);(try simp only[ak,SS,sa,az]at*);(try have hlt:i<es.length:=by assumption);(try have he:es.getD i.toNat []=[.i (ag es i 0),.i (ag es i 1),.i (ag es i 2)]:=(ao hwf g0 hlt).symm);(try have hcg:cur.getD i.toNat []=[.i (ag es i 0),.i (ag es i 1),.i (ag es i 2)]:=by rw[hc,da g1];exact he))
  all_goals exact Ll
theorem oG {ms:aa}{k:Int}(hp:∃ es,ms=aU es k/\Rw [tI,tI,tI] es/\ah es<=1099511627776/\0<=k/\au [ms] k<=1152921504606846976):ap 64 [.one (.s 3 ms),.j k] [.j (au [ms] k)]:=by
 obtain⟨es,hms,hw,hlim,hk0,hkb⟩:=hp;have hlen:=cS hlim;have hml:ms.length=es.length:=by rw[hms];exact ca
 have hkk:au [ms] k=au [es] k:=by rw[hms];exact jM
 have hwm:Wf [.i 0,.i 0,.i 0] ms:=by rw[hms];exact cI hw
 have hwf:Wf [.i 0,.i 0,.i 0] es:=hw.wf;have hat:∀ n,n<es.length->ms.getD n []=(eh (es.getD n []) (dH es k n)).1:=fun n hn=>by rw[hms];exact fX hn
 refine cb nB Tryz.func64 ?_
 intro O r F hO hr hF;cbv
 refine⟨[0,1,5],[],Int×Int,fun s=>match s with|(i,k')=>[.reg 5 (.j i),.reg 1 (.j k')],fun s=>0<=s.1/\s.1.toNat<=es.length/\s.2=dH es k s.1.toNat,fun s=>es.length-s.1.toNat,⟨(0,k),?_,?_⟩,?_⟩;exact⟨by omega,Zd _,bJ.symm⟩
 ·cbv
 ·rintro⟨i,k'⟩ hi;replace hi:0<=i/\i.toNat<=es.length/\k'=dH es k i.toNat:=hi;obtain⟨g0,g1,hk'⟩:=hi;cbv
  repeat' first|apply Zb|(apply bu<;>intro hb<;>cbv)|(refine ab (O.ar .add Za i 1,O.ar .add Za (O.ar .add Za (O.ar .add Za (k') 1) 1) 1) ?_ ?_ ?_;focus (cbv;done))
  all_goals(subst hO hr hF;(try simp only[nc]at*);(try simp only[ak,SS,sa,az]at*);(try have hltm:i<ms.length:=by assumption);(try have hlt:i<es.length:=by omega);(try have he:es.getD i.toNat []=[.i (ag es i 0),.i (ag es i 1),.i (ag es i 2)]:=(ao hwf g0 hlt).symm);(try rw[de (n:=es.length) g0 hlt (by omega)]);(try have hlt':i.toNat<es.length:=by omega);(try have hct:=cu (es:=es) (n:=i.toNat) (by omega);rw[he]at hct;simp only[cP,eA,Zh,Zy]at hct);(try have hks:=cK (es:=es) (k:=k) hlt';rw[he]at hks;simp only[eh,eN]at hks);(try have hem:([.i (ag ms i 0),.i (ag ms i 1),.i (ag ms i 2)]:ay)=_:=(ao hwm g0 hltm).trans (hat i.toNat hlt');rw[he]at hem;simp only[eh,eN,Yf,L.v.injEq,Yo,Yp,L.s.injEq,true_and,and_true]at hem))
  all_goals exact Lm
theorem tt {a0 a1 a2:Int}(hp:True):ap 111 [.agg [.i a0,.i a1,.i a2]] [.agg [.i a0,.i a1,.i a2]]:=by
 refine cb nB Tryz.func111 ?_
 exact rU
theorem sW {a0 a1 a2:Int}{d:DV}(hp:d=.agg [.i a0,.i a1,.i a2]):ap 145 [.agg [.i a0,.i a1,.i a2],d] [.k true]:=by
 subst hp;refine cb nB Tryz.func145 ?_
 exact rU
namespace LLargeS
def ct (F:aP):CT:=fun f ds=>match f,ds with
 |111,[.agg [.v (.int Za a0),.v (.int Za a1),.v (.int Za a2)]]=>some (fun _=>True,[.agg [.i a0,.i a1,.i a2]])
 |145,[.agg [.v (.int Za a0),.v (.int Za a1),.v (.int Za a2)],d]=>some (fun _=>d=.agg [.i a0,.i a1,.i a2],[.k true])
 |_,_=>none
theorem aj:aT (ct F0):=by
 intro f ds pre res h hp;unfold ct at h;split at h<;>cases h
 exact tt hp;exact sW hp
abbrev B:cF:=tb aj
end LLargeS
theorem qW {es:aa}{left:Int}(hp:Rw [tI,tI,tI] es/\0<=left/\left<=1048576):ap 20 [.one (.s 3 es),.j left] [.j (bN [es] left)]:=by
 obtain⟨hw,h0,h1⟩:=hp;have hc:ah es=es.length:=hw.cnt rfl;have hm:=hw.1;unfold maxLen at hm;have hs:bK .sub Za left es.length=left-es.length:=cN (by omega);have hn:bN [es] left=if left<es.length then-1 else left-es.length:=by unfold bN;rw[cZ,hc]
 refine cb LLargeS.B Tryz.func20 ?_
 exact JC
theorem rh {es:aa}(hp:Rw [tI,tI,tI] es/\ah es<=1048576):ap 33 [.one (.s 3 es)] [.one (.s 3 es)]:=by
 obtain⟨hw,hlim⟩:=hp;have hwf:Wf [.i 0,.i 0,.i 0] es:=hw.wf;have hlen:=cS hlim;refine cb LLargeS.B Tryz.func33 ?_
 intro O r F hO hr hF;cbv
 have h0z:b9 es [.i 0,.i 0,.i 0] 0=O.rep (O.zi (O.ln es)) [.i 0,.i 0,.i 0]:=by
  subst hO;rw[cJ];rfl
 refine⟨?_,?_,[0,3,4],[3],Int×aa,fun s=>[.reg 4 (.j s.1),.leaf 3 0 ⟨0,0,none,.own (.s 3 s.2)⟩],fun s=>0<=s.1/\s.1.toNat<=es.length/\s.2=b9 es [.i 0,.i 0,.i 0] s.1.toNat,fun s=>es.length-s.1.toNat,⟨(0,O.rep (O.zi (O.ln es)) [.i 0,.i 0,.i 0]),?_,?_⟩,?_⟩
 ·subst hO;exact jO (b:=24) (show es.length*_<=_ by omega) (show es.length<=_ by omega)
 ·subst hO;exact⟨rfl,rfl⟩
 ·exact⟨by omega,Zd _,h0z.symm⟩
 ·cbv
 ·rintro⟨i,m⟩ hi;replace hi:0<=i/\i.toNat<=es.length/\m=b9 es [.i 0,.i 0,.i 0] i.toNat:=hi;obtain⟨g0,g1,hm⟩:=hi;cbv
  repeat' first|apply Zb|(apply bu<;>intro hb<;>cbv)|(refine ab (O.ar .add Za i 1,O.up (.s 3 m) [(O.ad 0 i,0)] [.i (O.gi es i 0),.i (O.gi es i 1),.i (O.gi es i 2)]) ?_ ?_ ?_;focus (cbv;done))
  all_goals(subst hO hr hF;(try simp only[nc]at*);(try simp only[ak,SS,sa,az]at*);(try simp only[jq,Yj,ZG]at*);(try have hlt:i<es.length:=by assumption);(try have he:es.getD i.toNat []=[.i (ag es i 0),.i (ag es i 1),.i (ag es i 2)]:=(ao hwf g0 hlt).symm))
  all_goals exact JB
theorem qE {es:aa}{d:DV}(hp:d=.one (.s 3 es)/\Rw [tI,tI,tI] es/\ah es<=1099511627776):ap 47 [.one (.s 3 es),d] [.k true]:=by
 obtain⟨rfl,hw,hlim⟩:=hp;have hwf:Wf [.i 0,.i 0,.i 0] es:=hw.wf;have hlen:=cS hlim;refine cb LLargeS.B Tryz.func47 ?_
 intro O r F hO hr hF;cbv
 apply bu<;>intro hb<;>cbv
 ·(subst hO hr hF;(try simp only[nc]at*);(try simp only[ak,SS,sa,az]at*));exact absurd rfl hb
 ·clear hb;refine⟨[0,1,5],[],Int,fun i=>[.reg 5 (.j i)],fun i=>0<=i/\i.toNat<=es.length,fun i=>es.length-i.toNat,⟨0,?_,?_⟩,?_⟩;exact⟨by omega,Zd _⟩
  ·cbv
  ·rintro i hi;replace hi:0<=i/\i.toNat<=es.length:=hi;obtain⟨g0,g1⟩:=hi;cbv
   repeat' first|apply Zb|(apply bu<;>intro hb<;>cbv)|(refine ab (O.ar .add Za i 1) ?_ ?_ ?_;focus (cbv;done))
   all_goals(subst hO hr hF;(try simp only[nc]at*);(try simp only[ak,SS,sa,az]at*);(try have hlt:i<es.length:=by assumption);(try have he:es.getD i.toNat []=[.i (ag es i 0),.i (ag es i 1),.i (ag es i 2)]:=(ao hwf g0 hlt).symm))
   all_goals exact Ln
theorem mV {es:aa}{k:Int}(hp:Rw [tI,tI,tI] es/\ah es<=1099511627776/\0<=k/\au [es] k<=1152921504606846976):eb 56 [.one (.s 3 es),.j k] [.s 3 (aU es k)] [.j (au [es] k)]:=by
 obtain⟨hw,hlim,hk0,hkb⟩:=hp;have hwf:Wf [.i 0,.i 0,.i 0] es:=hw.wf;have hlen:=cS hlim;refine mb nB [(0,0)] Tryz.func56 ?_
 intro O r os F hO hr hos hF;cbv
 refine⟨[0,1,5],[0],Int×Int×aa,fun s=>match s with|(i,k',cur)=>[.reg 5 (.j i),.reg 1 (.j k'),.leaf 0 0 ⟨0,0,some 0,.own (.s 3 cur)⟩],fun s=>0<=s.1/\s.1.toNat<=es.length/\s.2.1=dH es k s.1.toNat/\s.2.2=dT es k s.1.toNat,fun s=>es.length-s.1.toNat,⟨(0,k,es),?_,?_⟩,?_⟩;exact⟨by omega,Zd _,bJ.symm,db.symm⟩
 ·cbv
 ·rintro⟨i,k',cur⟩ hi;replace hi:0<=i/\i.toNat<=es.length/\k'=dH es k i.toNat/\cur=dT es k i.toNat:=hi;obtain⟨g0,g1,hk',hc⟩:=hi;cbv
  repeat' first|apply Zb|(apply bu<;>intro hb<;>cbv)|(refine ab (O.ar .add Za i 1,O.ar .add Za (O.ar .add Za (O.ar .add Za (k') 1) 1) 1,O.up (.s 3 (O.up (.s 3 (O.up (.s 3 (cur)) [(O.ad 0 i,0)] [.i (k')])) [(O.ad 0 i,1)] [.i (O.ar .add Za (k') 1)])) [(O.ad 0 i,2)] [.i (O.ar .add Za (O.ar .add Za (k') 1) 1)]) ?_ ?_ ?_;focus (cbv;done))
  all_goals((try subst hos);subst hO hr hF;(try simp only[nc]at*);(try simp only[ak,SS,sa,az]at*);(try have hlt:i<es.length:=by assumption);(try have he:es.getD i.toNat []=[.i (ag es i 0),.i (ag es i 1),.i (ag es i 2)]:=(ao hwf g0 hlt).symm);(try have hcg:cur.getD i.toNat []=[.i (ag es i 0),.i (ag es i 1),.i (ag es i 2)]:=by rw[hc,da g1];exact he))
  all_goals exact Ll
theorem mN {ms:aa}{k:Int}(hp:∃ es,ms=aU es k/\Rw [tI,tI,tI] es/\ah es<=1099511627776/\0<=k/\au [ms] k<=1152921504606846976):ap 65 [.one (.s 3 ms),.j k] [.j (au [ms] k)]:=by
 obtain⟨es,hms,hw,hlim,hk0,hkb⟩:=hp;have hlen:=cS hlim;have hml:ms.length=es.length:=by rw[hms];exact ca
 have hkk:au [ms] k=au [es] k:=by rw[hms];exact jM
 have hwm:Wf [.i 0,.i 0,.i 0] ms:=by rw[hms];exact cI hw
 have hwf:Wf [.i 0,.i 0,.i 0] es:=hw.wf;have hat:∀ n,n<es.length->ms.getD n []=(eh (es.getD n []) (dH es k n)).1:=fun n hn=>by rw[hms];exact fX hn
 refine cb nB Tryz.func65 ?_
 intro O r F hO hr hF;cbv
 refine⟨[0,1,5],[],Int×Int,fun s=>match s with|(i,k')=>[.reg 5 (.j i),.reg 1 (.j k')],fun s=>0<=s.1/\s.1.toNat<=es.length/\s.2=dH es k s.1.toNat,fun s=>es.length-s.1.toNat,⟨(0,k),?_,?_⟩,?_⟩;exact⟨by omega,Zd _,bJ.symm⟩
 ·cbv
 ·rintro⟨i,k'⟩ hi;replace hi:0<=i/\i.toNat<=es.length/\k'=dH es k i.toNat:=hi;obtain⟨g0,g1,hk'⟩:=hi;cbv
  repeat' first|apply Zb|(apply bu<;>intro hb<;>cbv)|(refine ab (O.ar .add Za i 1,O.ar .add Za (O.ar .add Za (O.ar .add Za (k') 1) 1) 1) ?_ ?_ ?_;focus (cbv;done))
  all_goals(subst hO hr hF;(try simp only[nc]at*);(try simp only[ak,SS,sa,az]at*);(try have hltm:i<ms.length:=by assumption);(try have hlt:i<es.length:=by omega);(try have he:es.getD i.toNat []=[.i (ag es i 0),.i (ag es i 1),.i (ag es i 2)]:=(ao hwf g0 hlt).symm);(try rw[de (n:=es.length) g0 hlt (by omega)]);(try have hlt':i.toNat<es.length:=by omega);(try have hct:=cu (es:=es) (n:=i.toNat) (by omega);rw[he]at hct;simp only[cP,eA,Zh,Zy]at hct);(try have hks:=cK (es:=es) (k:=k) hlt';rw[he]at hks;simp only[eh,eN]at hks);(try have hem:([.i (ag ms i 0),.i (ag ms i 1),.i (ag ms i 2)]:ay)=_:=(ao hwm g0 hltm).trans (hat i.toNat hlt');rw[he]at hem;simp only[eh,eN,Yf,L.v.injEq,Yo,Yp,L.s.injEq,true_and,and_true]at hem))
  all_goals exact Lm
end Go.V