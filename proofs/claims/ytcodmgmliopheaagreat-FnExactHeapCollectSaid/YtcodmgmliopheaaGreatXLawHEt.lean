/- Contracts. -/
import Derived.Test.YtcodmgmliopheaaGreatXFnt
set_option linter.all false
open Go
open And renaming intro->By
open Int renaming toNat_natCast->ac4
open List renaming length_replicate->adQ
open List.cons renaming injEq->adW
open Nat renaming zero_le->OF,add_zero->ac0,zero_add->adt
open Value.bool renaming injEq->adT
open Value.int renaming injEq->adY
namespace Go.V
open Go Go.Proofs
set_option maxRecDepth 1000000
set_option maxHeartbeats 8000000
def pm :EC:=fun F=>fun
 |[.agg [.v (.int .i64 a0),.v (.int .i64 a1),.v (.int .i64 a2),.v (.int .i64 a3)]]=>some (fun _=>True,[.agg [.i a0,.i a1,.i a2,.i a3]])
 |_=>none
theorem D9 :ec 153 pm:=by
 intro _ _ _ h hp;dsimp only[pm,F0]at h;split at h<;>cases h
 rename_i a0 a1 a2 a3;refine cb nB Tryz.func153 ?_
 exact yw
def pf :EC:=fun F=>fun
 |[.agg [.v (.int .i64 a0),.v (.int .i64 a1),.v (.int .i64 a2),.v (.int .i64 a3)],d]=>some (fun _=>d=.agg [.i a0,.i a1,.i a2,.i a3],[.k true])
 |_=>none
theorem D6 :ec 183 pf:=by
 intro _ _ _ h hp;dsimp only[pf,F0]at h;split at h<;>cases h
 rename_i a0 a1 a2 a3 d;subst hp;refine cb nB Tryz.func183 ?_
 exact yw
abbrev Lh :cW:=eF (fun F f=>match f with|153=>pm F|183=>pf F|_=>fun _=>none) (by
 intro f;dsimp only;split;exact D9;exact D6;exact cX)
def nZ :EC:=fun F=>fun
 |[.one (.s 4 es),.one (.v (.int .i64 left))]=>some (fun _=>Rw [tI,tI,tI,tI] es/\0<=left/\left<=1048576,[.j (F.szN [es] left)])
 |_=>none
theorem Cg :ec 36 nZ:=by
 intro _ _ _ h hp;dsimp only[nZ,F0]at h;split at h<;>cases h
 rename_i es left;obtain⟨hw,h0,h1⟩:=hp;have hc:ak es=es.length:=hw.cnt rfl;have hm:=hw.1;unfold maxLen at hm;have hs:bR .sub .i64 left es.length=left-es.length:=dD (by omega);have hn:dO [es] left=if left<es.length then-1 else left-es.length:=by unfold dO;rw[eG,hc]
 refine cb Lh Tryz.func36 ?_
 exact QM
def oe :EC:=fun F=>fun
 |[.one (.s 4 es)]=>some (fun _=>Rw [tI,tI,tI,tI] es/\ak es<=1048576,[.one (.s 4 es)])
 |_=>none
theorem Ck :ec 48 oe:=by
 intro _ _ _ h hp;dsimp only[oe,F0]at h;split at h<;>cases h
 rename_i es;obtain⟨hw,hlim⟩:=hp;have hwf:Wf [.i 0,.i 0,.i 0,.i 0] es:=hw.wf;have hlen:=eA hlim;refine cb Lh Tryz.func48 ?_
 intro O r F hO hr hF;cbv
 have h0z:cC es [.i 0,.i 0,.i 0,.i 0] 0=O.rep (O.zi (O.ln es)) [.i 0,.i 0,.i 0,.i 0]:=by
  subst hO;rw[dU];rfl
 refine⟨?_,?_,[0,3,4],[3],Int×aa,fun s=>[.reg 4 (.j s.1),.leaf 3 0 ⟨0,0,none,.own (.s 4 s.2)⟩],fun s=>0<=s.1/\s.1.toNat<=es.length/\s.2=cC es [.i 0,.i 0,.i 0,.i 0] s.1.toNat,fun s=>es.length-s.1.toNat,⟨(0,O.rep (O.zi (O.ln es)) [.i 0,.i 0,.i 0,.i 0]),?_,?_⟩,?_⟩
 ·subst hO;exact qd (b:=32) (show es.length*_<=_ by omega) (show es.length<=_ by omega)
 ·subst hO;exact⟨rfl,rfl⟩
 ·exact⟨by omega,OF _,h0z.symm⟩
 ·cbv
 ·rintro⟨i,m⟩ hi;replace hi:0<=i/\i.toNat<=es.length/\m=cC es [.i 0,.i 0,.i 0,.i 0] i.toNat:=hi;obtain⟨g0,g1,hm⟩:=hi;cbv
  repeat' first|apply By|(apply bD<;>intro hb<;>cbv)|(refine ab (O.ar .add .i64 i 1,O.up (.s 4 m) [(O.ad 0 i,0)] [.i (O.gi es i 0),.i (O.gi es i 1),.i (O.gi es i 2),.i (O.gi es i 3)]) ?_ ?_ ?_;focus (cbv;done))
  all_goals(subst hO hr hF;(try simp only[nc]at*);(try simp only[ah,SS,sa,az]at*);(try simp only[pE,adQ,ac4]at*);(try have hlt:i<es.length:=by assumption);(try have he:es.getD i.toNat []=[.i (ag es i 0),.i (ag es i 1),.i (ag es i 2),.i (ag es i 3)]:=(ao hwf g0 hlt).symm))
  all_goals exact QK
def nV :EC:=fun F=>fun
 |[.one (.s 4 es),d]=>some (fun _=>d=.one (.s 4 es)/\Rw [tI,tI,tI,tI] es/\ak es<=1099511627776,[.k true])
 |_=>none
theorem Ca :ec 60 nV:=by
 intro _ _ _ h hp;dsimp only[nV,F0]at h;split at h<;>cases h
 rename_i es d;obtain⟨rfl,hw,hlim⟩:=hp;have hwf:Wf [.i 0,.i 0,.i 0,.i 0] es:=hw.wf;have hlen:=eA hlim;refine cb Lh Tryz.func60 ?_
 intro O r F hO hr hF;cbv
 apply bD<;>intro hb<;>cbv
 ·(subst hO hr hF;(try simp only[nc]at*);(try simp only[ah,SS,sa,az]at*));exact absurd rfl hb
 ·clear hb;refine⟨[0,1,5],[],Int,fun i=>[.reg 5 (.j i)],fun i=>0<=i/\i.toNat<=es.length,fun i=>es.length-i.toNat,⟨0,?_,?_⟩,?_⟩;exact⟨by omega,OF _⟩
  ·cbv
  ·rintro i hi;replace hi:0<=i/\i.toNat<=es.length:=hi;obtain⟨g0,g1⟩:=hi;cbv
   repeat' first|apply By|(apply bD<;>intro hb<;>cbv)|(refine ab (O.ar .add .i64 i 1) ?_ ?_ ?_;focus (cbv;done))
   all_goals(subst hO hr hF;(try simp only[nc]at*);(try simp only[ah,SS,sa,az]at*);(try have hlt:i<es.length:=by assumption);(try have he:es.getD i.toNat []=[.i (ag es i 0),.i (ag es i 1),.i (ag es i 2),.i (ag es i 3)]:=(ao hwf g0 hlt).symm))
   all_goals exact Tm
def kO :EM:=fun F=>fun
 |[.one (.s 4 es),.one (.v (.int .i64 k))]=>some (fun _=>Rw [tI,tI,tI,tI] es/\ak es<=1099511627776/\0<=k/\aw [es] k<=1152921504606846976,[.s 4 (F.mkN es k)],[.j (F.kN [es] k)])
 |_=>none
theorem xH :em 69 kO:=by
 intro _ _ _ _ h hp;dsimp only[kO,F0]at h;split at h<;>cases h
 rename_i es k;obtain⟨hw,hlim,hk0,hkb⟩:=hp;have hwf:Wf [.i 0,.i 0,.i 0,.i 0] es:=hw.wf;have hlen:=eA hlim;refine mb nB [(0,0)] Tryz.func69 ?_
 intro O r os F hO hr hos hF;cbv
 refine⟨[0,1,5],[0],Int×Int×aa,fun s=>match s with|(i,k',cur)=>[.reg 5 (.j i),.reg 1 (.j k'),.leaf 0 0 ⟨0,0,some 0,.own (.s 4 cur)⟩],fun s=>0<=s.1/\s.1.toNat<=es.length/\s.2.1=fT es k s.1.toNat/\s.2.2=gF es k s.1.toNat,fun s=>es.length-s.1.toNat,⟨(0,k,es),?_,?_⟩,?_⟩;exact⟨by omega,OF _,bT.symm,eS.symm⟩
 ·cbv
 ·rintro⟨i,k',cur⟩ hi;replace hi:0<=i/\i.toNat<=es.length/\k'=fT es k i.toNat/\cur=gF es k i.toNat:=hi;obtain⟨g0,g1,hk',hc⟩:=hi;cbv
  repeat' first|apply By|(apply bD<;>intro hb<;>cbv)|(refine ab (O.ar .add .i64 i 1,O.ar .add .i64 (O.ar .add .i64 (O.ar .add .i64 (O.ar .add .i64 (k') 1) 1) 1) 1,O.up (.s 4 (O.up (.s 4 (O.up (.s 4 (O.up (.s 4 (cur)) [(O.ad 0 i,0)] [.i (k')])) [(O.ad 0 i,1)] [.i (O.ar .add .i64 (k') 1)])) [(O.ad 0 i,2)] [.i (O.ar .add .i64 (O.ar .add .i64 (k') 1) 1)])) [(O.ad 0 i,3)] [.i (O.ar .add .i64 (O.ar .add .i64 (O.ar .add .i64 (k') 1) 1) 1)]) ?_ ?_ ?_;focus (cbv;done))
  all_goals((try subst hos);subst hO hr hF;(try simp only[nc]at*);(try simp only[ah,SS,sa,az]at*);(try have hlt:i<es.length:=by assumption);(try have he:es.getD i.toNat []=[.i (ag es i 0),.i (ag es i 1),.i (ag es i 2),.i (ag es i 3)]:=(ao hwf g0 hlt).symm);(try have hcg:cur.getD i.toNat []=[.i (ag es i 0),.i (ag es i 1),.i (ag es i 2),.i (ag es i 3)]:=by rw[hc,eR g1];exact he))
  all_goals exact Tj
def kJ :EC:=fun F=>fun
 |[.one (.s 4 ms),.one (.v (.int .i64 k))]=>some (fun _=>∃ es,ms=aT es k/\Rw [tI,tI,tI,tI] es/\ak es<=1099511627776/\0<=k/\aw [ms] k<=1152921504606846976,[.j (F.kN [ms] k)])
 |_=>none
theorem xD :ec 78 kJ:=by
 intro _ _ _ h hp;dsimp only[kJ,F0]at h;split at h<;>cases h
 rename_i ms k;obtain⟨es,hms,hw,hlim,hk0,hkb⟩:=hp;have hlen:=eA hlim;have hml:ms.length=es.length:=by rw[hms];exact cr
 have hkk:aw [ms] k=aw [es] k:=by rw[hms];exact pZ
 have hwm:Wf [.i 0,.i 0,.i 0,.i 0] ms:=by rw[hms];exact dS hw
 have hwf:Wf [.i 0,.i 0,.i 0,.i 0] es:=hw.wf;have hat:∀ n,n<es.length->ms.getD n []=(gX (es.getD n []) (fT es k n)).1:=fun n hn=>by rw[hms];exact li hn
 refine cb nB Tryz.func78 ?_
 intro O r F hO hr hF;cbv
 refine⟨[0,1,5],[],Int×Int,fun s=>match s with|(i,k')=>[.reg 5 (.j i),.reg 1 (.j k')],fun s=>0<=s.1/\s.1.toNat<=es.length/\s.2=fT es k s.1.toNat,fun s=>es.length-s.1.toNat,⟨(0,k),?_,?_⟩,?_⟩;exact⟨by omega,OF _,bT.symm⟩
 ·cbv
 ·rintro⟨i,k'⟩ hi;replace hi:0<=i/\i.toNat<=es.length/\k'=fT es k i.toNat:=hi;obtain⟨g0,g1,hk'⟩:=hi;cbv
  repeat' first|apply By|(apply bD<;>intro hb<;>cbv)|(refine ab (O.ar .add .i64 i 1,O.ar .add .i64 (O.ar .add .i64 (O.ar .add .i64 (O.ar .add .i64 (k') 1) 1) 1) 1) ?_ ?_ ?_;focus (cbv;done))
  all_goals(subst hO hr hF;(try simp only[nc]at*);(try simp only[ah,SS,sa,az]at*);(try have hltm:i<ms.length:=by assumption);(try have hlt:i<es.length:=by omega);(try have he:es.getD i.toNat []=[.i (ag es i 0),.i (ag es i 1),.i (ag es i 2),.i (ag es i 3)]:=(ao hwf g0 hlt).symm);(try rw[eY (n:=es.length) g0 hlt (by omega)]);(try have hlt':i.toNat<es.length:=by omega);(try have hct:=dq (es:=es) (n:=i.toNat) (by omega);rw[he]at hct;simp only[cS,fQ,ac0,adt]at hct);(try have hks:=dV (es:=es) (k:=k) hlt';rw[he]at hks;simp only[gX,iD]at hks);(try have hem:([.i (ag ms i 0),.i (ag ms i 1),.i (ag ms i 2),.i (ag ms i 3)]:ay)=_:=(ao hwm g0 hltm).trans (hat i.toNat hlt');rw[he]at hem;simp only[gX,iD,adW,L.v.injEq,adY,adT,L.s.injEq,true_and,and_true]at hem))
  all_goals exact Tl
def dd :EC:=fun F=>fun
 |[.agg [.v (.int .i64 a0),.v (.int .i64 a1),.v (.int .i64 a2)]]=>some (fun _=>True,[.agg [.i a0,.i a1,.i a2]])
 |_=>none
theorem zO :ec 282 dd:=by
 intro _ _ _ h hp;dsimp only[dd,F0]at h;split at h<;>cases h
 rename_i a0 a1 a2;refine cb nB Tryz.func282 ?_
 exact yw
def db :EC:=fun F=>fun
 |[.agg [.v (.int .i64 a0),.v (.int .i64 a1),.v (.int .i64 a2)],d]=>some (fun _=>d=.agg [.i a0,.i a1,.i a2],[.k true])
 |_=>none
theorem zx :ec 301 db:=by
 intro _ _ _ h hp;dsimp only[db,F0]at h;split at h<;>cases h
 rename_i a0 a1 a2 d;subst hp;refine cb nB Tryz.func301 ?_
 exact yw
abbrev DX :cW:=eF (fun F f=>match f with|282=>dd F|301=>db F|_=>fun _=>none) (by
 intro f;dsimp only;split;exact zO;exact zx;exact cX)
def cP :EC:=fun F=>fun
 |[.one (.s 3 es),.one (.v (.int .i64 left))]=>some (fun _=>Rw [tI,tI,tI] es/\0<=left/\left<=1048576,[.j (F.szN [es] left)])
 |_=>none
theorem xR :ec 127 cP:=by
 intro _ _ _ h hp;dsimp only[cP,F0]at h;split at h<;>cases h
 rename_i es left;obtain⟨hw,h0,h1⟩:=hp;have hc:ak es=es.length:=hw.cnt rfl;have hm:=hw.1;unfold maxLen at hm;have hs:bR .sub .i64 left es.length=left-es.length:=dD (by omega);have hn:dO [es] left=if left<es.length then-1 else left-es.length:=by unfold dO;rw[eG,hc]
 refine cb DX Tryz.func127 ?_
 exact QM
def cQ :EC:=fun F=>fun
 |[.one (.s 3 es)]=>some (fun _=>Rw [tI,tI,tI] es/\ak es<=1048576,[.one (.s 3 es)])
 |_=>none
theorem xZ :ec 157 cQ:=by
 intro _ _ _ h hp;dsimp only[cQ,F0]at h;split at h<;>cases h
 rename_i es;obtain⟨hw,hlim⟩:=hp;have hwf:Wf [.i 0,.i 0,.i 0] es:=hw.wf;have hlen:=eA hlim;refine cb DX Tryz.func157 ?_
 intro O r F hO hr hF;cbv
 have h0z:cC es [.i 0,.i 0,.i 0] 0=O.rep (O.zi (O.ln es)) [.i 0,.i 0,.i 0]:=by
  subst hO;rw[dU];rfl
 refine⟨?_,?_,[0,3,4],[3],Int×aa,fun s=>[.reg 4 (.j s.1),.leaf 3 0 ⟨0,0,none,.own (.s 3 s.2)⟩],fun s=>0<=s.1/\s.1.toNat<=es.length/\s.2=cC es [.i 0,.i 0,.i 0] s.1.toNat,fun s=>es.length-s.1.toNat,⟨(0,O.rep (O.zi (O.ln es)) [.i 0,.i 0,.i 0]),?_,?_⟩,?_⟩
 ·subst hO;exact qd (b:=24) (show es.length*_<=_ by omega) (show es.length<=_ by omega)
 ·subst hO;exact⟨rfl,rfl⟩
 ·exact⟨by omega,OF _,h0z.symm⟩
 ·cbv
 ·rintro⟨i,m⟩ hi;replace hi:0<=i/\i.toNat<=es.length/\m=cC es [.i 0,.i 0,.i 0] i.toNat:=hi;obtain⟨g0,g1,hm⟩:=hi;cbv
  repeat' first|apply By|(apply bD<;>intro hb<;>cbv)|(refine ab (O.ar .add .i64 i 1,O.up (.s 3 m) [(O.ad 0 i,0)] [.i (O.gi es i 0),.i (O.gi es i 1),.i (O.gi es i 2)]) ?_ ?_ ?_;focus (cbv;done))
  all_goals(subst hO hr hF;(try simp only[nc]at*);(try simp only[ah,SS,sa,az]at*);(try simp only[pE,adQ,ac4]at*);(try have hlt:i<es.length:=by assumption);(try have he:es.getD i.toNat []=[.i (ag es i 0),.i (ag es i 1),.i (ag es i 2)]:=(ao hwf g0 hlt).symm))
  all_goals exact QK
def cO :EC:=fun F=>fun
 |[.one (.s 3 es),d]=>some (fun _=>d=.one (.s 3 es)/\Rw [tI,tI,tI] es/\ak es<=1099511627776,[.k true])
 |_=>none
theorem xB :ec 187 cO:=by
 intro _ _ _ h hp;dsimp only[cO,F0]at h;split at h<;>cases h
 rename_i es d;obtain⟨rfl,hw,hlim⟩:=hp;have hwf:Wf [.i 0,.i 0,.i 0] es:=hw.wf;have hlen:=eA hlim;refine cb DX Tryz.func187 ?_
 intro O r F hO hr hF;cbv
 apply bD<;>intro hb<;>cbv
 ·(subst hO hr hF;(try simp only[nc]at*);(try simp only[ah,SS,sa,az]at*));exact absurd rfl hb
 ·clear hb;refine⟨[0,1,5],[],Int,fun i=>[.reg 5 (.j i)],fun i=>0<=i/\i.toNat<=es.length,fun i=>es.length-i.toNat,⟨0,?_,?_⟩,?_⟩;exact⟨by omega,OF _⟩
  ·cbv
  ·rintro i hi;replace hi:0<=i/\i.toNat<=es.length:=hi;obtain⟨g0,g1⟩:=hi;cbv
   repeat' first|apply By|(apply bD<;>intro hb<;>cbv)|(refine ab (O.ar .add .i64 i 1) ?_ ?_ ?_;focus (cbv;done))
   all_goals(subst hO hr hF;(try simp only[nc]at*);(try simp only[ah,SS,sa,az]at*);(try have hlt:i<es.length:=by assumption);(try have he:es.getD i.toNat []=[.i (ag es i 0),.i (ag es i 1),.i (ag es i 2)]:=(ao hwf g0 hlt).symm))
   all_goals exact Tm
def cv :EM:=fun F=>fun
 |[.one (.s 3 es),.one (.v (.int .i64 k))]=>some (fun _=>Rw [tI,tI,tI] es/\ak es<=1099511627776/\0<=k/\aw [es] k<=1152921504606846976,[.s 3 (F.mkN es k)],[.j (F.kN [es] k)])
 |_=>none
theorem tO :em 193 cv:=by
 intro _ _ _ _ h hp;dsimp only[cv,F0]at h;split at h<;>cases h
 rename_i es k;obtain⟨hw,hlim,hk0,hkb⟩:=hp;have hwf:Wf [.i 0,.i 0,.i 0] es:=hw.wf;have hlen:=eA hlim;refine mb nB [(0,0)] Tryz.func193 ?_
 intro O r os F hO hr hos hF;cbv
 refine⟨[0,1,5],[0],Int×Int×aa,fun s=>match s with|(i,k',cur)=>[.reg 5 (.j i),.reg 1 (.j k'),.leaf 0 0 ⟨0,0,some 0,.own (.s 3 cur)⟩],fun s=>0<=s.1/\s.1.toNat<=es.length/\s.2.1=fT es k s.1.toNat/\s.2.2=gF es k s.1.toNat,fun s=>es.length-s.1.toNat,⟨(0,k,es),?_,?_⟩,?_⟩;exact⟨by omega,OF _,bT.symm,eS.symm⟩
 ·cbv
 ·rintro⟨i,k',cur⟩ hi;replace hi:0<=i/\i.toNat<=es.length/\k'=fT es k i.toNat/\cur=gF es k i.toNat:=hi;obtain⟨g0,g1,hk',hc⟩:=hi;cbv
  repeat' first|apply By|(apply bD<;>intro hb<;>cbv)|(refine ab (O.ar .add .i64 i 1,O.ar .add .i64 (O.ar .add .i64 (O.ar .add .i64 (k') 1) 1) 1,O.up (.s 3 (O.up (.s 3 (O.up (.s 3 (cur)) [(O.ad 0 i,0)] [.i (k')])) [(O.ad 0 i,1)] [.i (O.ar .add .i64 (k') 1)])) [(O.ad 0 i,2)] [.i (O.ar .add .i64 (O.ar .add .i64 (k') 1) 1)]) ?_ ?_ ?_;focus (cbv;done))
  all_goals((try subst hos);subst hO hr hF;(try simp only[nc]at*);(try simp only[ah,SS,sa,az]at*);(try have hlt:i<es.length:=by assumption);(try have he:es.getD i.toNat []=[.i (ag es i 0),.i (ag es i 1),.i (ag es i 2)]:=(ao hwf g0 hlt).symm);(try have hcg:cur.getD i.toNat []=[.i (ag es i 0),.i (ag es i 1),.i (ag es i 2)]:=by rw[hc,eR g1];exact he))
  all_goals exact Tj
def cu :EC:=fun F=>fun
 |[.one (.s 3 ms),.one (.v (.int .i64 k))]=>some (fun _=>∃ es,ms=aT es k/\Rw [tI,tI,tI] es/\ak es<=1099511627776/\0<=k/\aw [ms] k<=1152921504606846976,[.j (F.kN [ms] k)])
 |_=>none
theorem tF :ec 199 cu:=by
 intro _ _ _ h hp;dsimp only[cu,F0]at h;split at h<;>cases h
 rename_i ms k;obtain⟨es,hms,hw,hlim,hk0,hkb⟩:=hp;have hlen:=eA hlim;have hml:ms.length=es.length:=by rw[hms];exact cr
 have hkk:aw [ms] k=aw [es] k:=by rw[hms];exact pZ
 have hwm:Wf [.i 0,.i 0,.i 0] ms:=by rw[hms];exact dS hw
 have hwf:Wf [.i 0,.i 0,.i 0] es:=hw.wf;have hat:∀ n,n<es.length->ms.getD n []=(gX (es.getD n []) (fT es k n)).1:=fun n hn=>by rw[hms];exact li hn
 refine cb nB Tryz.func199 ?_
 intro O r F hO hr hF;cbv
 refine⟨[0,1,5],[],Int×Int,fun s=>match s with|(i,k')=>[.reg 5 (.j i),.reg 1 (.j k')],fun s=>0<=s.1/\s.1.toNat<=es.length/\s.2=fT es k s.1.toNat,fun s=>es.length-s.1.toNat,⟨(0,k),?_,?_⟩,?_⟩;exact⟨by omega,OF _,bT.symm⟩
 ·cbv
 ·rintro⟨i,k'⟩ hi;replace hi:0<=i/\i.toNat<=es.length/\k'=fT es k i.toNat:=hi;obtain⟨g0,g1,hk'⟩:=hi;cbv
  repeat' first|apply By|(apply bD<;>intro hb<;>cbv)|(refine ab (O.ar .add .i64 i 1,O.ar .add .i64 (O.ar .add .i64 (O.ar .add .i64 (k') 1) 1) 1) ?_ ?_ ?_;focus (cbv;done))
  all_goals(subst hO hr hF;(try simp only[nc]at*);(try simp only[ah,SS,sa,az]at*);(try have hltm:i<ms.length:=by assumption);(try have hlt:i<es.length:=by omega);(try have he:es.getD i.toNat []=[.i (ag es i 0),.i (ag es i 1),.i (ag es i 2)]:=(ao hwf g0 hlt).symm);(try rw[eY (n:=es.length) g0 hlt (by omega)]);(try have hlt':i.toNat<es.length:=by omega);(try have hct:=dq (es:=es) (n:=i.toNat) (by omega);rw[he]at hct;simp only[cS,fQ,ac0,adt]at hct);(try have hks:=dV (es:=es) (k:=k) hlt';rw[he]at hks;simp only[gX,iD]at hks);(try have hem:([.i (ag ms i 0),.i (ag ms i 1),.i (ag ms i 2)]:ay)=_:=(ao hwm g0 hltm).trans (hat i.toNat hlt');rw[he]at hem;simp only[gX,iD,adW,L.v.injEq,adY,adT,L.s.injEq,true_and,and_true]at hem))
  all_goals exact Tl
def fX :EC:=fun F=>fun
 |[.agg [.v (.int .i64 a0),.v (.int .i64 a1)]]=>some (fun _=>True,[.agg [.i a0,.i a1]])
 |_=>none
theorem Cm :ec 376 fX:=by
 intro _ _ _ h hp;dsimp only[fX,F0]at h;split at h<;>cases h
 rename_i a0 a1;refine cb nB Tryz.func376 ?_
 exact yw
def fW :EC:=fun F=>fun
 |[.agg [.v (.int .i64 a0),.v (.int .i64 a1)],d]=>some (fun _=>d=.agg [.i a0,.i a1],[.k true])
 |_=>none
theorem Cc :ec 387 fW:=by
 intro _ _ _ h hp;dsimp only[fW,F0]at h;split at h<;>cases h
 rename_i a0 a1 d;subst hp;refine cb nB Tryz.func387 ?_
 exact yw
abbrev Hq :cW:=eF (fun F f=>match f with|376=>fX F|387=>fW F|_=>fun _=>none) (by
 intro f;dsimp only;split;exact Cm;exact Cc;exact cX)
def fC :EC:=fun F=>fun
 |[.one (.s 2 es),.one (.v (.int .i64 left))]=>some (fun _=>Rw [tI,tI] es/\0<=left/\left<=1048576,[.j (F.szN [es] left)])
 |_=>none
theorem zD :ec 261 fC:=by
 intro _ _ _ h hp;dsimp only[fC,F0]at h;split at h<;>cases h
 rename_i es left;obtain⟨hw,h0,h1⟩:=hp;have hc:ak es=es.length:=hw.cnt rfl;have hm:=hw.1;unfold maxLen at hm;have hs:bR .sub .i64 left es.length=left-es.length:=dD (by omega);have hn:dO [es] left=if left<es.length then-1 else left-es.length:=by unfold dO;rw[eG,hc]
 refine cb Hq Tryz.func261 ?_
 exact QM
def fD :EC:=fun F=>fun
 |[.one (.s 2 es)]=>some (fun _=>Rw [tI,tI] es/\ak es<=1048576,[.one (.s 2 es)])
 |_=>none
theorem zK :ec 281 fD:=by
 intro _ _ _ h hp;dsimp only[fD,F0]at h;split at h<;>cases h
 rename_i es;obtain⟨hw,hlim⟩:=hp;have hwf:Wf [.i 0,.i 0] es:=hw.wf;have hlen:=eA hlim;refine cb Hq Tryz.func281 ?_
 intro O r F hO hr hF;cbv
 have h0z:cC es [.i 0,.i 0] 0=O.rep (O.zi (O.ln es)) [.i 0,.i 0]:=by
  subst hO;rw[dU];rfl
 refine⟨?_,?_,[0,3,4],[3],Int×aa,fun s=>[.reg 4 (.j s.1),.leaf 3 0 ⟨0,0,none,.own (.s 2 s.2)⟩],fun s=>0<=s.1/\s.1.toNat<=es.length/\s.2=cC es [.i 0,.i 0] s.1.toNat,fun s=>es.length-s.1.toNat,⟨(0,O.rep (O.zi (O.ln es)) [.i 0,.i 0]),?_,?_⟩,?_⟩
 ·subst hO;exact qd (b:=16) (show es.length*_<=_ by omega) (show es.length<=_ by omega)
 ·subst hO;exact⟨rfl,rfl⟩
 ·exact⟨by omega,OF _,h0z.symm⟩
 ·cbv
 ·rintro⟨i,m⟩ hi;replace hi:0<=i/\i.toNat<=es.length/\m=cC es [.i 0,.i 0] i.toNat:=hi;obtain⟨g0,g1,hm⟩:=hi;cbv
  repeat' first|apply By|(apply bD<;>intro hb<;>cbv)|(refine ab (O.ar .add .i64 i 1,O.up (.s 2 m) [(O.ad 0 i,0)] [.i (O.gi es i 0),.i (O.gi es i 1)]) ?_ ?_ ?_;focus (cbv;done))
  all_goals(subst hO hr hF;(try simp only[nc]at*);(try simp only[ah,SS,sa,az]at*);(try simp only[pE,adQ,ac4]at*);(try have hlt:i<es.length:=by assumption);(try have he:es.getD i.toNat []=[.i (ag es i 0),.i (ag es i 1)]:=(ao hwf g0 hlt).symm))
  all_goals exact QK
def fy :EC:=fun F=>fun
 |[.one (.s 2 es),d]=>some (fun _=>d=.one (.s 2 es)/\Rw [tI,tI] es/\ak es<=1099511627776,[.k true])
 |_=>none
theorem zt :ec 300 fy:=by
 intro _ _ _ h hp;dsimp only[fy,F0]at h;split at h<;>cases h
 rename_i es d;obtain⟨rfl,hw,hlim⟩:=hp;have hwf:Wf [.i 0,.i 0] es:=hw.wf;have hlen:=eA hlim;refine cb Hq Tryz.func300 ?_
 intro O r F hO hr hF;cbv
 apply bD<;>intro hb<;>cbv
 ·(subst hO hr hF;(try simp only[nc]at*);(try simp only[ah,SS,sa,az]at*));exact absurd rfl hb
 ·clear hb;refine⟨[0,1,5],[],Int,fun i=>[.reg 5 (.j i)],fun i=>0<=i/\i.toNat<=es.length,fun i=>es.length-i.toNat,⟨0,?_,?_⟩,?_⟩;exact⟨by omega,OF _⟩
  ·cbv
  ·rintro i hi;replace hi:0<=i/\i.toNat<=es.length:=hi;obtain⟨g0,g1⟩:=hi;cbv
   repeat' first|apply By|(apply bD<;>intro hb<;>cbv)|(refine ab (O.ar .add .i64 i 1) ?_ ?_ ?_;focus (cbv;done))
   all_goals(subst hO hr hF;(try simp only[nc]at*);(try simp only[ah,SS,sa,az]at*);(try have hlt:i<es.length:=by assumption);(try have he:es.getD i.toNat []=[.i (ag es i 0),.i (ag es i 1)]:=(ao hwf g0 hlt).symm))
   all_goals exact Tm
def ez :EM:=fun F=>fun
 |[.one (.s 2 es),.one (.v (.int .i64 k))]=>some (fun _=>Rw [tI,tI] es/\ak es<=1099511627776/\0<=k/\aw [es] k<=1152921504606846976,[.s 2 (F.mkN es k)],[.j (F.kN [es] k)])
 |_=>none
theorem vz :em 304 ez:=by
 intro _ _ _ _ h hp;dsimp only[ez,F0]at h;split at h<;>cases h
 rename_i es k;obtain⟨hw,hlim,hk0,hkb⟩:=hp;have hwf:Wf [.i 0,.i 0] es:=hw.wf;have hlen:=eA hlim;refine mb nB [(0,0)] Tryz.func304 ?_
 intro O r os F hO hr hos hF;cbv
 refine⟨[0,1,5],[0],Int×Int×aa,fun s=>match s with|(i,k',cur)=>[.reg 5 (.j i),.reg 1 (.j k'),.leaf 0 0 ⟨0,0,some 0,.own (.s 2 cur)⟩],fun s=>0<=s.1/\s.1.toNat<=es.length/\s.2.1=fT es k s.1.toNat/\s.2.2=gF es k s.1.toNat,fun s=>es.length-s.1.toNat,⟨(0,k,es),?_,?_⟩,?_⟩;exact⟨by omega,OF _,bT.symm,eS.symm⟩
 ·cbv
 ·rintro⟨i,k',cur⟩ hi;replace hi:0<=i/\i.toNat<=es.length/\k'=fT es k i.toNat/\cur=gF es k i.toNat:=hi;obtain⟨g0,g1,hk',hc⟩:=hi;cbv
  repeat' first|apply By|(apply bD<;>intro hb<;>cbv)|(refine ab (O.ar .add .i64 i 1,O.ar .add .i64 (O.ar .add .i64 (k') 1) 1,O.up (.s 2 (O.up (.s 2 (cur)) [(O.ad 0 i,0)] [.i (k')])) [(O.ad 0 i,1)] [.i (O.ar .add .i64 (k') 1)]) ?_ ?_ ?_;focus (cbv;done))
  all_goals((try subst hos);subst hO hr hF;(try simp only[nc]at*);(try simp only[ah,SS,sa,az]at*);(try have hlt:i<es.length:=by assumption);(try have he:es.getD i.toNat []=[.i (ag es i 0),.i (ag es i 1)]:=(ao hwf g0 hlt).symm);(try have hcg:cur.getD i.toNat []=[.i (ag es i 0),.i (ag es i 1)]:=by rw[hc,eR g1];exact he))
  all_goals exact Tj
def ew :EC:=fun F=>fun
 |[.one (.s 2 ms),.one (.v (.int .i64 k))]=>some (fun _=>∃ es,ms=aT es k/\Rw [tI,tI] es/\ak es<=1099511627776/\0<=k/\aw [ms] k<=1152921504606846976,[.j (F.kN [ms] k)])
 |_=>none
theorem vq :ec 307 ew:=by
 intro _ _ _ h hp;dsimp only[ew,F0]at h;split at h<;>cases h
 rename_i ms k;obtain⟨es,hms,hw,hlim,hk0,hkb⟩:=hp;have hlen:=eA hlim;have hml:ms.length=es.length:=by rw[hms];exact cr
 have hkk:aw [ms] k=aw [es] k:=by rw[hms];exact pZ
 have hwm:Wf [.i 0,.i 0] ms:=by rw[hms];exact dS hw
 have hwf:Wf [.i 0,.i 0] es:=hw.wf;have hat:∀ n,n<es.length->ms.getD n []=(gX (es.getD n []) (fT es k n)).1:=fun n hn=>by rw[hms];exact li hn
 refine cb nB Tryz.func307 ?_
 intro O r F hO hr hF;cbv
 refine⟨[0,1,5],[],Int×Int,fun s=>match s with|(i,k')=>[.reg 5 (.j i),.reg 1 (.j k')],fun s=>0<=s.1/\s.1.toNat<=es.length/\s.2=fT es k s.1.toNat,fun s=>es.length-s.1.toNat,⟨(0,k),?_,?_⟩,?_⟩;exact⟨by omega,OF _,bT.symm⟩
 ·cbv
 ·rintro⟨i,k'⟩ hi;replace hi:0<=i/\i.toNat<=es.length/\k'=fT es k i.toNat:=hi;obtain⟨g0,g1,hk'⟩:=hi;cbv
  repeat' first|apply By|(apply bD<;>intro hb<;>cbv)|(refine ab (O.ar .add .i64 i 1,O.ar .add .i64 (O.ar .add .i64 (k') 1) 1) ?_ ?_ ?_;focus (cbv;done))
  all_goals(subst hO hr hF;(try simp only[nc]at*);(try simp only[ah,SS,sa,az]at*);(try have hltm:i<ms.length:=by assumption);(try have hlt:i<es.length:=by omega);(try have he:es.getD i.toNat []=[.i (ag es i 0),.i (ag es i 1)]:=(ao hwf g0 hlt).symm);(try rw[eY (n:=es.length) g0 hlt (by omega)]);(try have hlt':i.toNat<es.length:=by omega);(try have hct:=dq (es:=es) (n:=i.toNat) (by omega);rw[he]at hct;simp only[cS,fQ,ac0,adt]at hct);(try have hks:=dV (es:=es) (k:=k) hlt';rw[he]at hks;simp only[gX,iD]at hks);(try have hem:([.i (ag ms i 0),.i (ag ms i 1)]:ay)=_:=(ao hwm g0 hltm).trans (hat i.toNat hlt');rw[he]at hem;simp only[gX,iD,adW,L.v.injEq,adY,adT,L.s.injEq,true_and,and_true]at hem))
  all_goals exact Tl
end Go.V