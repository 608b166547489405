/- Contracts. -/
import Derived.Test.YtcodmgmliopheaaGreatXFnt
set_option linter.all false
open Go
open And renaming intro->By
open Int renaming toNat_natCast->ac4,le_trans->agm
open IntKind renaming i64->adl
open List renaming length_replicate->adQ,nil_append->ads,cons_append->adv
open List.cons renaming injEq->adW
open Nat renaming zero_le->OF,add_zero->ac0,zero_add->adt,le_refl->No
open Value renaming int->adg
open Value.bool renaming injEq->adT
open Value.int renaming injEq->adY
namespace Go.V
open Go Go.Proofs
set_option maxRecDepth 1000000
set_option maxHeartbeats 8000000
def hH :EC:=fun F=>fun
 |[.one (.s 1 es),.one (.v (.int .i64 left))]=>some (fun _=>Rw [tI] es/\0<=left/\left<=1048576,[.j (F.szN [es] left)])
 |_=>none
theorem nN :ec 123 hH:=by
 intro _ _ _ h hp;dsimp only[hH,F0]at h;split at h<;>cases h
 rename_i es left;obtain⟨hw,h0,h1⟩:=hp;have hc:ak es=es.length:=hw.cnt rfl;have hm:=hw.1;unfold maxLen at hm;have hs:bR .sub .i64 left es.length=left-es.length:=dD (by omega);have hn:dO [es] left=if left<es.length then-1 else left-es.length:=by unfold dO;rw[eG,hc]
 refine cb nB Tryz.func123 ?_
 exact QM
def hK :EC:=fun F=>fun
 |[.one (.s 1 es)]=>some (fun _=>Rw [tI] es/\ak es<=1048576,[.one (.s 1 es)])
 |_=>none
theorem nO :ec 149 hK:=by
 intro _ _ _ h hp;dsimp only[hK,F0]at h;split at h<;>cases h
 rename_i es;obtain⟨hw,hlim⟩:=hp;have hwf:Wf [.i 0] es:=hw.wf;have hlen:=eA hlim;refine cb nB Tryz.func149 ?_
 intro O r F hO hr hF;cbv
 have h0z:cC es [.i 0] 0=O.rep (O.zi (O.ln es)) [.i 0]:=by
  subst hO;rw[dU];rfl
 refine⟨?_,?_,[0,3,4],[3],Int×aa,fun s=>[.reg 4 (.j s.1),.leaf 3 0 ⟨0,0,none,.own (.s 1 s.2)⟩],fun s=>0<=s.1/\s.1.toNat<=es.length/\s.2=cC es [.i 0] s.1.toNat,fun s=>es.length-s.1.toNat,⟨(0,O.rep (O.zi (O.ln es)) [.i 0]),?_,?_⟩,?_⟩
 ·subst hO;exact qd (b:=8) (show es.length*_<=_ by omega) (show es.length<=_ by omega)
 ·subst hO;exact⟨rfl,rfl⟩
 ·exact⟨by omega,OF _,h0z.symm⟩
 ·cbv
 ·rintro⟨i,m⟩ hi;replace hi:0<=i/\i.toNat<=es.length/\m=cC es [.i 0] i.toNat:=hi;obtain⟨g0,g1,hm⟩:=hi;cbv
  repeat' first|apply By|(apply bD<;>intro hb<;>cbv)|(refine ab (O.ar .add .i64 i 1,O.up (.s 1 m) [(O.ad 0 i,0)] [.i (O.gi es i 0)]) ?_ ?_ ?_;focus (cbv;done))
  all_goals(subst hO hr hF;(try simp only[nc]at*);(try simp only[ah,SS,sa,az]at*);(try simp only[pE,adQ,ac4]at*);(try have hlt:i<es.length:=by assumption);(try have he:es.getD i.toNat []=[.i (ag es i 0)]:=(ao hwf g0 hlt).symm))
  all_goals exact QK
def hE :EC:=fun F=>fun
 |[.one (.s 1 es),d]=>some (fun _=>d=.one (.s 1 es)/\Rw [tI] es/\ak es<=1099511627776,[.k true])
 |_=>none
theorem nM :ec 179 hE:=by
 intro _ _ _ h hp;dsimp only[hE,F0]at h;split at h<;>cases h
 rename_i es d;obtain⟨rfl,hw,hlim⟩:=hp;have hwf:Wf [.i 0] es:=hw.wf;have hlen:=eA hlim;refine cb nB Tryz.func179 ?_
 intro O r F hO hr hF;cbv
 apply bD<;>intro hb<;>cbv
 ·(subst hO hr hF;(try simp only[nc]at*);(try simp only[ah,SS,sa,az]at*));exact absurd rfl hb
 ·clear hb;refine⟨[0,1,5],[],Int,fun i=>[.reg 5 (.j i)],fun i=>0<=i/\i.toNat<=es.length,fun i=>es.length-i.toNat,⟨0,?_,?_⟩,?_⟩;exact⟨by omega,OF _⟩
  ·cbv
  ·rintro i hi;replace hi:0<=i/\i.toNat<=es.length:=hi;obtain⟨g0,g1⟩:=hi;cbv
   repeat' first|apply By|(apply bD<;>intro hb<;>cbv)|(refine ab (O.ar .add .i64 i 1) ?_ ?_ ?_;focus (cbv;done))
   all_goals(subst hO hr hF;(try simp only[nc]at*);(try simp only[ah,SS,sa,az]at*);(try have hlt:i<es.length:=by assumption);(try have he:es.getD i.toNat []=[.i (ag es i 0)]:=(ao hwf g0 hlt).symm))
   all_goals exact Tm
def fS :EM:=fun F=>fun
 |[.one (.s 1 es),.one (.v (.int .i64 k))]=>some (fun _=>Rw [tI] es/\ak es<=1099511627776/\0<=k/\aw [es] k<=1152921504606846976,[.s 1 (F.mkN es k)],[.j (F.kN [es] k)])
 |_=>none
theorem ku :em 190 fS:=by
 intro _ _ _ _ h hp;dsimp only[fS,F0]at h;split at h<;>cases h
 rename_i es k;obtain⟨hw,hlim,hk0,hkb⟩:=hp;have hwf:Wf [.i 0] es:=hw.wf;have hlen:=eA hlim;refine mb nB [(0,0)] Tryz.func190 ?_
 intro O r os F hO hr hos hF;cbv
 refine⟨[0,1,5],[0],Int×Int×aa,fun s=>match s with|(i,k',cur)=>[.reg 5 (.j i),.reg 1 (.j k'),.leaf 0 0 ⟨0,0,some 0,.own (.s 1 cur)⟩],fun s=>0<=s.1/\s.1.toNat<=es.length/\s.2.1=fT es k s.1.toNat/\s.2.2=gF es k s.1.toNat,fun s=>es.length-s.1.toNat,⟨(0,k,es),?_,?_⟩,?_⟩;exact⟨by omega,OF _,bT.symm,eS.symm⟩
 ·cbv
 ·rintro⟨i,k',cur⟩ hi;replace hi:0<=i/\i.toNat<=es.length/\k'=fT es k i.toNat/\cur=gF es k i.toNat:=hi;obtain⟨g0,g1,hk',hc⟩:=hi;cbv
  repeat' first|apply By|(apply bD<;>intro hb<;>cbv)|(refine ab (O.ar .add .i64 i 1,O.ar .add .i64 (k') 1,O.up (.s 1 (cur)) [(O.ad 0 i,0)] [.i (k')]) ?_ ?_ ?_;focus (cbv;done))
  all_goals((try subst hos);subst hO hr hF;(try simp only[nc]at*);(try simp only[ah,SS,sa,az]at*);(try have hlt:i<es.length:=by assumption);(try have he:es.getD i.toNat []=[.i (ag es i 0)]:=(ao hwf g0 hlt).symm);(try have hcg:cur.getD i.toNat []=[.i (ag es i 0)]:=by rw[hc,eR g1];exact he))
  all_goals exact Tj
def fR :EC:=fun F=>fun
 |[.one (.s 1 ms),.one (.v (.int .i64 k))]=>some (fun _=>∃ es,ms=aT es k/\Rw [tI] es/\ak es<=1099511627776/\0<=k/\aw [ms] k<=1152921504606846976,[.j (F.kN [ms] k)])
 |_=>none
theorem kq :ec 196 fR:=by
 intro _ _ _ h hp;dsimp only[fR,F0]at h;split at h<;>cases h
 rename_i ms k;obtain⟨es,hms,hw,hlim,hk0,hkb⟩:=hp;have hlen:=eA hlim;have hml:ms.length=es.length:=by rw[hms];exact cr
 have hkk:aw [ms] k=aw [es] k:=by rw[hms];exact pZ
 have hwm:Wf [.i 0] ms:=by rw[hms];exact dS hw
 have hwf:Wf [.i 0] es:=hw.wf;have hat:∀ n,n<es.length->ms.getD n []=(gX (es.getD n []) (fT es k n)).1:=fun n hn=>by rw[hms];exact li hn
 refine cb nB Tryz.func196 ?_
 intro O r F hO hr hF;cbv
 refine⟨[0,1,5],[],Int×Int,fun s=>match s with|(i,k')=>[.reg 5 (.j i),.reg 1 (.j k')],fun s=>0<=s.1/\s.1.toNat<=es.length/\s.2=fT es k s.1.toNat,fun s=>es.length-s.1.toNat,⟨(0,k),?_,?_⟩,?_⟩;exact⟨by omega,OF _,bT.symm⟩
 ·cbv
 ·rintro⟨i,k'⟩ hi;replace hi:0<=i/\i.toNat<=es.length/\k'=fT es k i.toNat:=hi;obtain⟨g0,g1,hk'⟩:=hi;cbv
  repeat' first|apply By|(apply bD<;>intro hb<;>cbv)|(refine ab (O.ar .add .i64 i 1,O.ar .add .i64 (k') 1) ?_ ?_ ?_;focus (cbv;done))
  all_goals(subst hO hr hF;(try simp only[nc]at*);(try simp only[ah,SS,sa,az]at*);(try have hltm:i<ms.length:=by assumption);(try have hlt:i<es.length:=by omega);(try rw[eY (n:=es.length) g0 hlt (by omega)]);(try have hlt':i.toNat<es.length:=by omega);(try have he:es.getD i.toNat []=[.i (ag es i 0)]:=(ao hwf g0 hlt).symm);(try have hct:=dq (es:=es) (n:=i.toNat) (by omega);rw[he]at hct;simp only[cS,fQ,ac0,adt]at hct);(try have hks:=dV (es:=es) (k:=k) hlt';rw[he]at hks;simp only[gX,iD]at hks);(try have hem:([.i (ag ms i 0)]:ay)=_:=(ao hwm g0 hltm).trans (hat i.toNat hlt');rw[he]at hem;simp only[gX,iD,adW,L.v.injEq,adY,adT,L.s.injEq,true_and,and_true]at hem))
  all_goals have hle1:=bS (es:=es) (n:=i.toNat+1)
  all_goals have hcE:ak es=es.length+bK es:=rfl
  all_goals have hk1:=jm (es:=es) (k:=k) (n:=i.toNat)
  all_goals have hk2:=jm (es:=es) (k:=k) (n:=i.toNat+1)
  all_goals have hk3:=rz (es:=es) (k:=k)
  all_goals have hk4:=jm (es:=es) (k:=k) (n:=es.length)
  all_goals have hk5:=fL (es:=es) (m:=0) (n:=i.toNat) g1 (OF _)
  all_goals((have hk6:=fL (es:=es) (m:=i.toNat) (n:=es.length) (No _) g1);(try have hk7:=fL (es:=es) (m:=i.toNat+1) (n:=es.length) (No _) hlt'))
  all_goals rw[bT]at hk5
  all_goals((try have hk8:=mK (es:=es) (n:=i.toNat) hlt');(try rw[<-hk']at hem hks))
  all_goals have ha1:bR .add .i64 k' 1=k'+1:=bE (by omega)
  all_goals have ha2:bR .add .i64 (k'+1) 1=k'+1+1:=bE (by omega)
  all_goals have ha3:bR .add .i64 (k'+1+1) 1=k'+1+1+1:=bE (by omega)
  all_goals((have ha4:bR .add .i64 (k'+1+1+1) 1=k'+1+1+1+1:=bE (by omega));(try simp only[ha1,ha2,ha3,ha4]at*))
  all_goals first|exact oG hwm g0 hltm|omega|(rw[hk',show i.toNat=es.length from by omega,hk3,hkk];done)|(rw[show(i+1).toNat=i.toNat+1 from by omega,hks];done)|trace_state
abbrev Hp :cW:=eF (fun F f=>match f with|123=>hH F|149=>hK F|179=>hE F|_=>fun _=>none) (by
 intro f;dsimp only;split;exact nN;exact nO;exact nM;exact cX)
abbrev Lk :cW:={
 Φ:=qj
 F0:=F0
 ct:=fun F f=>match f with|196=>fR F|_=>fun _=>none
 hc:=(by
  intro f;dsimp only;split;exact kq;exact cX)
 mt:=fun F f=>match f with|190=>some (fS F)|_=>none
 hm:=(by
  intro f mk h;dsimp only at h;split at h<;>cases h
  exact ku)}
def gy :EC:=fun F=>fun
 |[.one (.s 1 es),.one (.v (.int .i64 left))]=>some (fun _=>Rw [.sl [tI]] es/\0<=left/\left<=1048576,[.j (F.szN [es] left)])
 |_=>none
theorem lR :ec 126 gy:=by
 intro _ _ _ h hp;dsimp only[gy,F0]at h;split at h<;>cases h
 rename_i es left;obtain⟨hw,h0,h1⟩:=hp;have hwf:Wf [.s 1 []] es:=hw.wf;have hm:=hw.1;unfold maxLen at hm;have hs:bR .sub .i64 left es.length=left-es.length:=dD (by omega);have hcE:ak es=es.length+bK es:=rfl;have hn:dO [es] left=if left<ak es then-1 else left-ak es:=by unfold dO;rw[eG]
 refine cb Hp Tryz.func126 ?_
 intro O r F hO hr hF;cbv
 apply bD<;>intro hb<;>cbv
 ·repeat' first|apply By|(apply bD<;>intro hb<;>cbv)
  all_goals exact Wb
 have hb0:0<=left-es.length:=by
  (subst hO hr hF;(try simp only[nc]at*);(try simp only[ah,SS,sa,az]at*))
  rw[hs]at hb;exact hb
 clear hb;refine⟨[0,1,5],[],Int×Int,fun s=>match s with|(i,l)=>[.reg 5 (.j i),.reg 1 (.j l)],fun s=>0<=s.1/\s.1.toNat<=es.length/\0<=s.2/\s.2=left-es.length-bK (es.take s.1.toNat),fun s=>es.length-s.1.toNat,⟨(0,O.ar .sub .i64 left (O.zi (O.ln es))),?_,?_⟩,?_⟩
 ·(subst hO hr hF;(try simp only[nc]at*);(try simp only[ah,SS,sa,az]at*))
  rw[hs];exact⟨by omega,OF _,hb0,by simp[bK]⟩
 ·cbv
 ·rintro⟨i,l⟩ hi;replace hi:0<=i/\i.toNat<=es.length/\0<=l/\l=left-es.length-bK (es.take i.toNat):=hi;obtain⟨g0,g1,g2,g3⟩:=hi;cbv
  repeat' first|apply By|(apply bD<;>intro hb<;>cbv)|(refine ab (O.ar .add .i64 i 1,F.szN [O.gs es i 0] l) ?_ ?_ ?_;focus (cbv;done))
  all_goals(subst hO hr hF;(try simp only[nc]at*);(try simp only[ah,SS,sa,az]at*))
  all_goals have hle:=bS (es:=es) (n:=i.toNat)
  all_goals have hsz:=nJ (a:=[ap es i 0]) (left:=l)
  all_goals((have hsz2:0<=dO [ap es i 0] l->dO [ap es i 0] l=l-aQ [ap es i 0]:=uI);(try have hlt:i<es.length:=by assumption);(try have he:es.getD i.toNat []=[.s 1 (ap es i 0)]:=(ao hwf g0 hlt).symm);(try rw[eY (n:=es.length) g0 hlt (by omega)]);(try have hr0:Rw [tI] (ap es i 0):=Rw.sub (fs:=[.sl [tI]]) hw (by omega) rfl))
  all_goals exact V8
def gz :EC:=fun F=>fun
 |[.one (.s 1 es)]=>some (fun _=>Rw [.sl [tI]] es/\ak es<=1048576,[.one (.s 1 es)])
 |_=>none
theorem lS :ec 156 gz:=by
 intro _ _ _ h hp;dsimp only[gz,F0]at h;split at h<;>cases h
 rename_i es;obtain⟨hw,hlim⟩:=hp;have hwf:Wf [.s 1 []] es:=hw.wf;have hlen:=eA hlim;refine cb Hp Tryz.func156 ?_
 intro O r F hO hr hF;cbv
 have h0z:cC es [.s 1 []] 0=O.rep (O.zi (O.ln es)) [.s 1 []]:=by
  subst hO;rw[dU];rfl
 refine⟨?_,?_,[0,3,4],[3],Int×aa,fun s=>[.reg 4 (.j s.1),.leaf 3 0 ⟨0,0,none,.own (.s 1 s.2)⟩],fun s=>0<=s.1/\s.1.toNat<=es.length/\s.2=cC es [.s 1 []] s.1.toNat,fun s=>es.length-s.1.toNat,⟨(0,O.rep (O.zi (O.ln es)) [.s 1 []]),?_,?_⟩,?_⟩
 ·subst hO;exact qd (b:=24) (show es.length*_<=_ by omega) (show es.length<=_ by omega)
 ·subst hO;exact⟨rfl,rfl⟩
 ·exact⟨by omega,OF _,h0z.symm⟩
 ·cbv
 ·rintro⟨i,m⟩ hi;replace hi:0<=i/\i.toNat<=es.length/\m=cC es [.s 1 []] i.toNat:=hi;obtain⟨g0,g1,hm⟩:=hi;cbv
  repeat' first|apply By|(apply bD<;>intro hb<;>cbv)|(refine ab (O.ar .add .i64 i 1,O.up (.s 1 m) [(O.ad 0 i,0)] [.s 1 (O.gs es i 0)]) ?_ ?_ ?_;focus (cbv;done))
  all_goals(subst hO hr hF;(try simp only[nc]at*);(try simp only[ah,SS,sa,az]at*);(try simp only[pE,adQ,ac4]at*);(try have hlt:i<es.length:=by assumption);(try have he:es.getD i.toNat []=[.s 1 (ap es i 0)]:=(ao hwf g0 hlt).symm);(try rw[eY (n:=es.length) g0 hlt (by omega)]);(try have hr0:Rw [tI] (ap es i 0):=Rw.sub (fs:=[.sl [tI]]) hw (by omega) rfl))
  all_goals exact V7
def gx :EC:=fun F=>fun
 |[.one (.s 1 es),d]=>some (fun _=>d=.one (.s 1 es)/\Rw [.sl [tI]] es/\ak es<=1099511627776,[.k true])
 |_=>none
theorem lQ :ec 186 gx:=by
 intro _ _ _ h hp;dsimp only[gx,F0]at h;split at h<;>cases h
 rename_i es d;obtain⟨rfl,hw,hlim⟩:=hp;have hwf:Wf [.s 1 []] es:=hw.wf;have hlen:=eA hlim;refine cb Hp Tryz.func186 ?_
 intro O r F hO hr hF;cbv
 apply bD<;>intro hb<;>cbv
 ·(subst hO hr hF;(try simp only[nc]at*);(try simp only[ah,SS,sa,az]at*));exact absurd rfl hb
 ·clear hb;refine⟨[0,1,5],[],Int,fun i=>[.reg 5 (.j i)],fun i=>0<=i/\i.toNat<=es.length,fun i=>es.length-i.toNat,⟨0,?_,?_⟩,?_⟩;exact⟨by omega,OF _⟩
  ·cbv
  ·rintro i hi;replace hi:0<=i/\i.toNat<=es.length:=hi;obtain⟨g0,g1⟩:=hi;cbv
   repeat' first|apply By|(apply bD<;>intro hb<;>cbv)|(refine ab (O.ar .add .i64 i 1) ?_ ?_ ?_;focus (cbv;done))
   all_goals(subst hO hr hF;(try simp only[nc]at*);(try simp only[ah,SS,sa,az]at*);(try have hlt:i<es.length:=by assumption);(try have he:es.getD i.toNat []=[.s 1 (ap es i 0)]:=(ao hwf g0 hlt).symm);(try rw[eY (n:=es.length) g0 hlt (by omega)]);(try have hr0:Rw [tI] (ap es i 0):=Rw.sub (fs:=[.sl [tI]]) hw (by omega) rfl))
   all_goals exact V9
def fB :EM:=fun F=>fun
 |[.one (.s 1 es),.one (.v (.int .i64 k))]=>some (fun _=>Rw [.sl [tI]] es/\ak es<=1099511627776/\0<=k/\aw [es] k<=1152921504606846976,[.s 1 (F.mkN es k)],[.j (F.kN [es] k)])
 |_=>none
theorem ju :em 191 fB:=by
 intro _ _ _ _ h hp;dsimp only[fB,F0]at h;split at h<;>cases h
 rename_i es k;obtain⟨hw,hlim,hk0,hkb⟩:=hp;have hwf:Wf [.s 1 []] es:=hw.wf;have hlen:=eA hlim;refine mb Lk [(0,0)] Tryz.func191 ?_
 intro O r os F hO hr hos hF;cbv
 refine⟨[0,1,5],[0],Int×Int×aa,fun s=>match s with|(i,k',cur)=>[.reg 5 (.j i),.reg 1 (.j k'),.leaf 0 0 ⟨0,0,some 0,.own (.s 1 cur)⟩],fun s=>0<=s.1/\s.1.toNat<=es.length/\s.2.1=fT es k s.1.toNat/\s.2.2=gF es k s.1.toNat,fun s=>es.length-s.1.toNat,⟨(0,k,es),?_,?_⟩,?_⟩;exact⟨by omega,OF _,bT.symm,eS.symm⟩
 ·cbv
 ·rintro⟨i,k',cur⟩ hi;replace hi:0<=i/\i.toNat<=es.length/\k'=fT es k i.toNat/\cur=gF es k i.toNat:=hi;obtain⟨g0,g1,hk',hc⟩:=hi;cbv
  repeat' first|apply By|(apply bD<;>intro hb<;>cbv)|(refine ab (O.ar .add .i64 i 1,F.kN [O.ps (.s 1 (cur)) [(O.ad 0 i,0)]] (k'),O.up (.s 1 (cur)) [(O.ad 0 i,0)] [.s 1 (F.mkN (O.ps (.s 1 (cur)) [(O.ad 0 i,0)]) (k'))]) ?_ ?_ ?_;focus (cbv;done))
  all_goals((try subst hos);subst hO hr hF;(try simp only[nc]at*);(try simp only[ah,SS,sa,az]at*);(try have hlt:i<es.length:=by assumption);(try have he:es.getD i.toNat []=[.s 1 (ap es i 0)]:=(ao hwf g0 hlt).symm);(try have hcg:cur.getD i.toNat []=[.s 1 (ap es i 0)]:=by rw[hc,eR g1];exact he);(try rw[eY (n:=es.length) g0 hlt (by omega)]);(try have hlt':i.toNat<es.length:=by omega);(try have hr0:Rw [tI] (ap es i 0):=Rw.sub (fs:=[.sl [tI]]) hw (by omega) rfl))
  all_goals exact zq3
def fA :EC:=fun F=>fun
 |[.one (.s 1 ms),.one (.v (.int .i64 k))]=>some (fun _=>∃ es,ms=aT es k/\Rw [.sl [tI]] es/\ak es<=1099511627776/\0<=k/\aw [ms] k<=1152921504606846976,[.j (F.kN [ms] k)])
 |_=>none
theorem jt :ec 197 fA:=by
 intro _ _ _ h hp;dsimp only[fA,F0]at h;split at h<;>cases h
 rename_i ms k;obtain⟨es,hms,hw,hlim,hk0,hkb⟩:=hp;have hlen:=eA hlim;have hml:ms.length=es.length:=by rw[hms];exact cr
 have hkk:aw [ms] k=aw [es] k:=by rw[hms];exact pZ
 have hwm:Wf [.s 1 []] ms:=by rw[hms];exact dS hw
 have hwf:Wf [.s 1 []] es:=hw.wf;have hat:∀ n,n<es.length->ms.getD n []=(gX (es.getD n []) (fT es k n)).1:=fun n hn=>by rw[hms];exact li hn
 refine cb Lk Tryz.func197 ?_
 intro O r F hO hr hF;cbv
 refine⟨[0,1,5],[],Int×Int,fun s=>match s with|(i,k')=>[.reg 5 (.j i),.reg 1 (.j k')],fun s=>0<=s.1/\s.1.toNat<=es.length/\s.2=fT es k s.1.toNat,fun s=>es.length-s.1.toNat,⟨(0,k),?_,?_⟩,?_⟩;exact⟨by omega,OF _,bT.symm⟩
 ·cbv
 ·rintro⟨i,k'⟩ hi;replace hi:0<=i/\i.toNat<=es.length/\k'=fT es k i.toNat:=hi;obtain⟨g0,g1,hk'⟩:=hi;cbv
  repeat' first|apply By|(apply bD<;>intro hb<;>cbv)|(refine ab (O.ar .add .i64 i 1,F.kN [O.gs ms i 0] (k')) ?_ ?_ ?_;focus (cbv;done))
  all_goals(subst hO hr hF;(try simp only[nc]at*);(try simp only[ah,SS,sa,az]at*);(try have hltm:i<ms.length:=by assumption);(try have hlt:i<es.length:=by omega);(try have he:es.getD i.toNat []=[.s 1 (ap es i 0)]:=(ao hwf g0 hlt).symm);(try rw[eY (n:=es.length) g0 hlt (by omega)]);(try have hlt':i.toNat<es.length:=by omega);(try have hr0:Rw [tI] (ap es i 0):=Rw.sub (fs:=[.sl [tI]]) hw (by omega) rfl);(try have hct:=dq (es:=es) (n:=i.toNat) (by omega);rw[he]at hct;simp only[cS,fQ,ac0,adt]at hct);(try have hks:=dV (es:=es) (k:=k) hlt';rw[he]at hks;simp only[gX,iD]at hks);(try have hem:([.s 1 (ap ms i 0)]:ay)=_:=(ao hwm g0 hltm).trans (hat i.toNat hlt');rw[he]at hem;simp only[gX,iD,adW,L.v.injEq,adY,adT,L.s.injEq,true_and,and_true]at hem))
  all_goals exact zq5
def mw :EC:=fun F=>fun
 |[.one (.s 1 es),.one (.v (.int .i64 left))]=>some (fun _=>Rw [tB] es/\0<=left/\left<=1048576,[.j (F.szN [es] left)])
 |_=>none
theorem zB :ec 362 mw:=by
 intro _ _ _ h hp;dsimp only[mw,F0]at h;split at h<;>cases h
 rename_i es left;obtain⟨hw,h0,h1⟩:=hp;have hc:ak es=es.length:=hw.cnt rfl;have hm:=hw.1;unfold maxLen at hm;have hs:bR .sub .i64 left es.length=left-es.length:=dD (by omega);have hn:dO [es] left=if left<es.length then-1 else left-es.length:=by unfold dO;rw[eG,hc]
 refine cb nB Tryz.func362 ?_
 exact QM
def mA :EC:=fun F=>fun
 |[.one (.s 1 es)]=>some (fun _=>Rw [tB] es/\ak es<=1048576,[.one (.s 1 es)])
 |_=>none
theorem zG :ec 374 mA:=by
 intro _ _ _ h hp;dsimp only[mA,F0]at h;split at h<;>cases h
 rename_i es;obtain⟨hw,hlim⟩:=hp;have hwf:Wf [.v (.bool false)] es:=hw.wf;have hlen:=eA hlim;refine cb nB Tryz.func374 ?_
 intro O r F hO hr hF;cbv
 have h0z:cC es [.v (.bool false)] 0=O.rep (O.zi (O.ln es)) [.v (.bool false)]:=by
  subst hO;rw[dU];rfl
 refine⟨?_,?_,[0,3,4],[3],Int×aa,fun s=>[.reg 4 (.j s.1),.leaf 3 0 ⟨0,0,none,.own (.s 1 s.2)⟩],fun s=>0<=s.1/\s.1.toNat<=es.length/\s.2=cC es [.v (.bool false)] s.1.toNat,fun s=>es.length-s.1.toNat,⟨(0,O.rep (O.zi (O.ln es)) [.v (.bool false)]),?_,?_⟩,?_⟩
 ·subst hO;exact qd (b:=1) (show es.length*_<=_ by omega) (show es.length<=_ by omega)
 ·subst hO;exact⟨rfl,rfl⟩
 ·exact⟨by omega,OF _,h0z.symm⟩
 ·cbv
 ·rintro⟨i,m⟩ hi;replace hi:0<=i/\i.toNat<=es.length/\m=cC es [.v (.bool false)] i.toNat:=hi;obtain⟨g0,g1,hm⟩:=hi;cbv
  repeat' first|apply By|(apply bD<;>intro hb<;>cbv)|(refine ab (O.ar .add .i64 i 1,O.up (.s 1 m) [(O.ad 0 i,0)] [.v (.bool (O.gb es i 0))]) ?_ ?_ ?_;focus (cbv;done))
  all_goals(subst hO hr hF;(try simp only[nc]at*);(try simp only[ah,SS,sa,az]at*);(try simp only[pE,adQ,ac4]at*);(try have hlt:i<es.length:=by assumption);(try have he:es.getD i.toNat []=[.v (.bool (uX es i 0))]:=(ao hwf g0 hlt).symm))
  all_goals exact QK
def mi :EC:=fun F=>fun
 |[.one (.s 1 es),d]=>some (fun _=>d=.one (.s 1 es)/\Rw [tB] es/\ak es<=1099511627776,[.k true])
 |_=>none
theorem zm :ec 385 mi:=by
 intro _ _ _ h hp;dsimp only[mi,F0]at h;split at h<;>cases h
 rename_i es d;obtain⟨rfl,hw,hlim⟩:=hp;have hwf:Wf [.v (.bool false)] es:=hw.wf;have hlen:=eA hlim;refine cb nB Tryz.func385 ?_
 intro O r F hO hr hF;cbv
 apply bD<;>intro hb<;>cbv
 ·(subst hO hr hF;(try simp only[nc]at*);(try simp only[ah,SS,sa,az]at*));exact absurd rfl hb
 ·clear hb;refine⟨[0,1,5],[],Int,fun i=>[.reg 5 (.j i)],fun i=>0<=i/\i.toNat<=es.length,fun i=>es.length-i.toNat,⟨0,?_,?_⟩,?_⟩;exact⟨by omega,OF _⟩
  ·cbv
  ·rintro i hi;replace hi:0<=i/\i.toNat<=es.length:=hi;obtain⟨g0,g1⟩:=hi;cbv
   repeat' first|apply By|(apply bD<;>intro hb<;>cbv)|(refine ab (O.ar .add .i64 i 1) ?_ ?_ ?_;focus (cbv;done))
   all_goals(subst hO hr hF;(try simp only[nc]at*);(try simp only[ah,SS,sa,az]at*);(try have hlt:i<es.length:=by assumption);(try rw[eY (n:=es.length) g0 hlt (by omega)]);(try have he:es.getD i.toNat []=[.v (.bool (uX es i 0))]:=(ao hwf g0 hlt).symm);(try have hct:=dq (es:=es) (n:=i.toNat) (by omega);rw[he]at hct;simp only[cS,fQ,ac0,adt]at hct))
   all_goals have hle1:=bS (es:=es) (n:=i.toNat+1)
   all_goals have hcE:ak es=es.length+bK es:=rfl
   all_goals first|omega|exact oG hwf g0 hlt|exact absurd rfl hb|trivial|trace_state
def jE :EM:=fun F=>fun
 |[.one (.s 1 es),.one (.v (.int .i64 k))]=>some (fun _=>Rw [tB] es/\ak es<=1099511627776/\0<=k/\aw [es] k<=1152921504606846976,[.s 1 (F.mkN es k)],[.j (F.kN [es] k)])
 |_=>none
theorem vy :em 388 jE:=by
 intro _ _ _ _ h hp;dsimp only[jE,F0]at h;split at h<;>cases h
 rename_i es k;obtain⟨hw,hlim,hk0,hkb⟩:=hp;have hwf:Wf [.v (.bool false)] es:=hw.wf;have hlen:=eA hlim;refine mb nB [(0,0)] Tryz.func388 ?_
 intro O r os F hO hr hos hF;cbv
 refine⟨[0,1,5],[0],Int×Int×aa,fun s=>match s with|(i,k',cur)=>[.reg 5 (.j i),.reg 1 (.j k'),.leaf 0 0 ⟨0,0,some 0,.own (.s 1 cur)⟩],fun s=>0<=s.1/\s.1.toNat<=es.length/\s.2.1=fT es k s.1.toNat/\s.2.2=gF es k s.1.toNat,fun s=>es.length-s.1.toNat,⟨(0,k,es),?_,?_⟩,?_⟩;exact⟨by omega,OF _,bT.symm,eS.symm⟩
 ·cbv
 ·rintro⟨i,k',cur⟩ hi;replace hi:0<=i/\i.toNat<=es.length/\k'=fT es k i.toNat/\cur=gF es k i.toNat:=hi;obtain⟨g0,g1,hk',hc⟩:=hi;cbv
  repeat' first|apply By|(apply bD<;>intro hb<;>cbv)|(refine ab (O.ar .add .i64 i 1,O.ar .add .i64 (k') 1,O.up (.s 1 (cur)) [(O.ad 0 i,0)] [.v (.bool (O.cmp .eql (O.ar .rem .i64 (k') 3) 0))]) ?_ ?_ ?_;focus (cbv;done))
  all_goals((try subst hos);subst hO hr hF;(try simp only[nc]at*);(try simp only[ah,SS,sa,az]at*);(try have hlt:i<es.length:=by assumption);(try rw[eY (n:=es.length) g0 hlt (by omega)]);(try have hlt':i.toNat<es.length:=by omega);(try have he:es.getD i.toNat []=[.v (.bool (uX es i 0))]:=(ao hwf g0 hlt).symm);(try have hct:=dq (es:=es) (n:=i.toNat) (by omega);rw[he]at hct;simp only[cS,fQ,ac0,adt]at hct);(try have hks:=dV (es:=es) (k:=k) hlt';rw[he]at hks;simp only[gX,iD]at hks);(try have hms:=A7 (es:=es) (k:=k) hlt';rw[he]at hms;simp only[gX,iD]at hms))
  all_goals have hle1:=bS (es:=es) (n:=i.toNat+1)
  all_goals have hcE:ak es=es.length+bK es:=rfl
  all_goals have hk1:=jm (es:=es) (k:=k) (n:=i.toNat)
  all_goals have hk2:=jm (es:=es) (k:=k) (n:=i.toNat+1)
  all_goals have hk3:=rz (es:=es) (k:=k)
  all_goals have hk4:=jm (es:=es) (k:=k) (n:=es.length)
  all_goals have hk5:=fL (es:=es) (m:=0) (n:=i.toNat) g1 (OF _)
  all_goals((have hk6:=fL (es:=es) (m:=i.toNat) (n:=es.length) (No _) g1);(try have hk7:=fL (es:=es) (m:=i.toNat+1) (n:=es.length) (No _) hlt'))
  all_goals rw[bT]at hk5
  all_goals((try have hk8:=mK (es:=es) (n:=i.toNat) hlt');(try have hcl:i.toNat<cur.length:=by rw[hc,qU g1];exact hlt');(try have hcg:cur.getD i.toNat []=[.v (.bool (uX es i 0))]:=by rw[hc,eR g1];exact he))
  all_goals have ha1:bR .add .i64 k' 1=k'+1:=bE (by omega)
  all_goals have ha2:bR .add .i64 (k'+1) 1=k'+1+1:=bE (by omega)
  all_goals have ha3:bR .add .i64 (k'+1+1) 1=k'+1+1+1:=bE (by omega)
  all_goals((have ha4:bR .add .i64 (k'+1+1+1) 1=k'+1+1+1+1:=bE (by omega));(try simp only[ha1,ha2,ha3,ha4]);(try simp only[az]);(try simp only[BE,hcg,List.take,List.drop,List.length_cons,List.length_nil,ads,adv,List.append_nil,adt,Nat.reduceAdd,d7 hcl,List.set_set,List.append_assoc]);(try simp only[uC,hcg,d7 hcl,List.getD_cons_zero,List.getD_cons_succ,Lb]);(try simp only[yA hcl,ui hcl,yB hcl,AH hcl,hcg,List.getElem?_cons_zero,List.getElem?_cons_succ]))
  all_goals first|exact⟨g0,hlt⟩|(refine⟨_,_,rfl,?_⟩;simp;done)|omega|(rw[hk',show i.toNat=es.length from by omega,hk3];done)|(rw[hc,show i.toNat=es.length from by omega,A6];rfl)|(rw[show(i+1).toNat=i.toNat+1 from by omega,hks,hk'];done)|(rw[show(i+1).toNat=i.toNat+1 from by omega, <-hms,hc,hk'];rfl)|trace_state
def jC :EC:=fun F=>fun
 |[.one (.s 1 ms),.one (.v (.int .i64 k))]=>some (fun _=>∃ es,ms=aT es k/\Rw [tB] es/\ak es<=1099511627776/\0<=k/\aw [ms] k<=1152921504606846976,[.j (F.kN [ms] k)])
 |_=>none
theorem vp :ec 390 jC:=by
 intro _ _ _ h hp;dsimp only[jC,F0]at h;split at h<;>cases h
 rename_i ms k;obtain⟨es,hms,hw,hlim,hk0,hkb⟩:=hp;have hlen:=eA hlim;have hml:ms.length=es.length:=by rw[hms];exact cr
 have hkk:aw [ms] k=aw [es] k:=by rw[hms];exact pZ
 have hwm:Wf [.v (.bool false)] ms:=by rw[hms];exact dS hw
 have hwf:Wf [.v (.bool false)] es:=hw.wf;have hat:∀ n,n<es.length->ms.getD n []=(gX (es.getD n []) (fT es k n)).1:=fun n hn=>by rw[hms];exact li hn
 refine cb nB Tryz.func390 ?_
 intro O r F hO hr hF;cbv
 refine⟨[0,1,5],[],Int×Int,fun s=>match s with|(i,k')=>[.reg 5 (.j i),.reg 1 (.j k')],fun s=>0<=s.1/\s.1.toNat<=es.length/\s.2=fT es k s.1.toNat,fun s=>es.length-s.1.toNat,⟨(0,k),?_,?_⟩,?_⟩;exact⟨by omega,OF _,bT.symm⟩
 ·cbv
 ·rintro⟨i,k'⟩ hi;replace hi:0<=i/\i.toNat<=es.length/\k'=fT es k i.toNat:=hi;obtain⟨g0,g1,hk'⟩:=hi;cbv
  repeat' first|apply By|(apply bD<;>intro hb<;>cbv)|(refine ab (O.ar .add .i64 i 1,O.ar .add .i64 (k') 1) ?_ ?_ ?_;focus (cbv;done))
  all_goals(subst hO hr hF;(try simp only[nc]at*);(try simp only[ah,SS,sa,az]at*);(try have hltm:i<ms.length:=by assumption);(try have hlt:i<es.length:=by omega);(try have he:es.getD i.toNat []=[.v (.bool (uX es i 0))]:=(ao hwf g0 hlt).symm);(try rw[eY (n:=es.length) g0 hlt (by omega)]);(try have hlt':i.toNat<es.length:=by omega);(try have hct:=dq (es:=es) (n:=i.toNat) (by omega);rw[he]at hct;simp only[cS,fQ,ac0,adt]at hct);(try have hks:=dV (es:=es) (k:=k) hlt';rw[he]at hks;simp only[gX,iD]at hks);(try have hem:([.v (.bool (uX ms i 0))]:ay)=_:=(ao hwm g0 hltm).trans (hat i.toNat hlt');rw[he]at hem;simp only[gX,iD,adW,L.v.injEq,adY,adT,L.s.injEq,true_and,and_true]at hem))
  all_goals exact Tl
abbrev DO :cW:=eF (fun F f=>match f with|126=>gy F|156=>gz F|186=>gx F|362=>mw F|374=>mA F|385=>mi F|_=>fun _=>none) (by
 intro f;dsimp only;split;exact lR;exact lS;exact lQ;exact zB;exact zG;exact zm;exact cX)
abbrev IR :cW:={
 Φ:=qj
 F0:=F0
 ct:=fun F f=>match f with|197=>fA F|390=>jC F|_=>fun _=>none
 hc:=(by
  intro f;dsimp only;split;exact jt;exact vp;exact cX)
 mt:=fun F f=>match f with|191=>some (fB F)|388=>some (jE F)|_=>none
 hm:=(by
  intro f mk h;dsimp only at h;split at h<;>cases h
  exact ju;exact vy)}
def kT :EC:=fun F=>fun
 |[.agg [.s 1 a0,.s 1 a1],.one (.v (.int .i64 left))]=>some (fun _=>Rw [.sl [tI]] a0/\Rw [tB] a1/\0<=left/\left<=1048576,[.j (F.szN [a0,a1] left)])
 |_=>none
theorem xM :ec 259 kT:=by
 intro _ _ _ h hp;dsimp only[kT,F0]at h;split at h<;>cases h
 rename_i a0 a1 left;obtain⟨w0,w1,h0,h1⟩:=hp;refine cb DO Tryz.func259 ?_
 intro O r F hO hr hF;cbv
 repeat' first|apply By|(apply bD<;>intro hb<;>cbv)
 all_goals(subst hO hr hF;(try simp only[nc]at*);(try simp only[ah,SS,sa,az]at*);(try simp(disch:=assumption) only[nI,adv,ads]at*))
 all_goals exact aa9
def kY :EC:=fun F=>fun
 |[.agg [.s 1 a0,.s 1 a1]]=>some (fun _=>Rw [.sl [tI]] a0/\Rw [tB] a1/\aQ [a0,a1]<=1048576,[.agg [.s 1 a0,.s 1 a1]])
 |_=>none
theorem xU :ec 279 kY:=by
 intro _ _ _ h hp;dsimp only[kY,F0]at h;split at h<;>cases h
 rename_i a0 a1;obtain⟨w0,w1,hlim⟩:=hp;simp only[aQ,ac0]at hlim;refine cb DO Tryz.func279 ?_
 exact aa7
def kF :EC:=fun F=>fun
 |[.agg [.s 1 a0,.s 1 a1],d]=>some (fun _=>d=.agg [.s 1 a0,.s 1 a1]/\Rw [.sl [tI]] a0/\Rw [tB] a1/\aQ [a0,a1]<=1099511627776,[.k true])
 |_=>none
theorem xv :ec 298 kF:=by
 intro _ _ _ h hp;dsimp only[kF,F0]at h;split at h<;>cases h
 rename_i a0 a1 d;obtain⟨rfl,w0,w1,hlim⟩:=hp;simp only[aQ,ac0]at hlim;refine cb DO Tryz.func298 ?_
 exact aa6
def iU :EM:=fun F=>fun
 |[.agg [.s 1 a0,.s 1 a1],.one (.v (.int .i64 k))]=>some (fun _=>Rw [.sl [tI]] a0/\Rw [tB] a1/\aQ [a0,a1]<=1099511627776/\0<=k/\aw [a0,a1] k<=1152921504606846976,[.s 1 (F.mkN a0 k),.s 1 (F.mkN a1 (F.kN [a0] k))],[.j (F.kN [a0,a1] k)])
 |_=>none
theorem tJ :em 302 iU:=by
 intro _ _ _ _ h hp;dsimp only[iU,F0]at h;split at h<;>cases h
 rename_i a0 a1 k;obtain⟨w0,w1,hlim,hk0,hkb⟩:=hp;simp only[aQ,ac0]at hlim;have p0:aw [a0] k<=aw [a0,a1] k/\0<=aw [a0] k:=bJ (b:=[a1]) hk0;have p1:aw [a0,a1] k<=aw [a0,a1] k/\0<=aw [a0,a1] k:=bJ (b:=[]) hk0;refine mb IR [(2,0),(2,1)] Tryz.func302 ?_
 exact QI
def iP :EC:=fun F=>fun
 |[.agg [.s 1 m0,.s 1 m1],.one (.v (.int .i64 k))]=>some (fun _=>(∃ a0,m0=aT a0 k/\Rw [.sl [tI]] a0/\ak a0<=1099511627776)/\(∃ a1,m1=aT a1 (aw [m0] k)/\Rw [tB] a1/\ak a1<=1099511627776)/\0<=k/\aw [m0,m1] k<=1152921504606846976,[.j (F.kN [m0,m1] k)])
 |_=>none
theorem tz :ec 305 iP:=by
 intro _ _ _ h hp;dsimp only[iP,F0]at h;split at h<;>cases h
 rename_i m0 m1 k;obtain⟨e0,e1,hk0,hkb⟩:=hp;have p0:aw [m0] k<=aw [m0,m1] k/\0<=aw [m0] k:=bJ (b:=[m1]) hk0;have p1:aw [m0,m1] k<=aw [m0,m1] k/\0<=aw [m0,m1] k:=bJ (b:=[]) hk0;refine cb IR Tryz.func305 ?_
 exact aaP
def mC :EC:=fun F=>fun
 |[.agg [.v (.int .i64 a0),.v (.int .i64 a1)]]=>some (fun _=>True,[.agg [.i a0,.i a1]])
 |_=>none
theorem zI :ec 418 mC:=by
 intro _ _ _ h hp;dsimp only[mC,F0]at h;split at h<;>cases h
 rename_i a0 a1;refine cb nB Tryz.func418 ?_
 exact yw
def mn :EC:=fun F=>fun
 |[.agg [.v (.int .i64 a0),.v (.int .i64 a1)],d]=>some (fun _=>d=.agg [.i a0,.i a1],[.k true])
 |_=>none
theorem zo :ec 422 mn:=by
 intro _ _ _ h hp;dsimp only[mn,F0]at h;split at h<;>cases h
 rename_i a0 a1 d;subst hp;refine cb nB Tryz.func422 ?_
 exact yw
abbrev DN :cW:=eF (fun F f=>match f with|418=>mC F|422=>mn F|_=>fun _=>none) (by
 intro f;dsimp only;split;exact zI;exact zo;exact cX)
def kS :EC:=fun F=>fun
 |[.one (.s 2 es),.one (.v (.int .i64 left))]=>some (fun _=>Rw [tI,tI] es/\0<=left/\left<=1048576,[.j (F.szN [es] left)])
 |_=>none
theorem xL :ec 363 kS:=by
 intro _ _ _ h hp;dsimp only[kS,F0]at h;split at h<;>cases h
 rename_i es left;obtain⟨hw,h0,h1⟩:=hp;have hc:ak es=es.length:=hw.cnt rfl;have hm:=hw.1;unfold maxLen at hm;have hs:bR .sub .i64 left es.length=left-es.length:=dD (by omega);have hn:dO [es] left=if left<es.length then-1 else left-es.length:=by unfold dO;rw[eG,hc]
 refine cb DN Tryz.func363 ?_
 exact QM
def kX :EC:=fun F=>fun
 |[.one (.s 2 es)]=>some (fun _=>Rw [tI,tI] es/\ak es<=1048576,[.one (.s 2 es)])
 |_=>none
theorem xT :ec 375 kX:=by
 intro _ _ _ h hp;dsimp only[kX,F0]at h;split at h<;>cases h
 rename_i es;obtain⟨hw,hlim⟩:=hp;have hwf:Wf [.i 0,.i 0] es:=hw.wf;have hlen:=eA hlim;refine cb DN Tryz.func375 ?_
 intro O r F hO hr hF;cbv
 have h0z:cC es [.i 0,.i 0] 0=O.rep (O.zi (O.ln es)) [.i 0,.i 0]:=by
  subst hO;rw[dU];rfl
 refine⟨?_,?_,[0,3,4],[3],Int×aa,fun s=>[.reg 4 (.j s.1),.leaf 3 0 ⟨0,0,none,.own (.s 2 s.2)⟩],fun s=>0<=s.1/\s.1.toNat<=es.length/\s.2=cC es [.i 0,.i 0] s.1.toNat,fun s=>es.length-s.1.toNat,⟨(0,O.rep (O.zi (O.ln es)) [.i 0,.i 0]),?_,?_⟩,?_⟩
 ·subst hO;exact qd (b:=16) (show es.length*_<=_ by omega) (show es.length<=_ by omega)
 ·subst hO;exact⟨rfl,rfl⟩
 ·exact⟨by omega,OF _,h0z.symm⟩
 ·cbv
 ·rintro⟨i,m⟩ hi;replace hi:0<=i/\i.toNat<=es.length/\m=cC es [.i 0,.i 0] i.toNat:=hi;obtain⟨g0,g1,hm⟩:=hi;cbv
  repeat' first|apply By|(apply bD<;>intro hb<;>cbv)|(refine ab (O.ar .add .i64 i 1,O.up (.s 2 m) [(O.ad 0 i,0)] [.i (O.gi es i 0),.i (O.gi es i 1)]) ?_ ?_ ?_;focus (cbv;done))
  all_goals(subst hO hr hF;(try simp only[nc]at*);(try simp only[ah,SS,sa,az]at*);(try simp only[pE,adQ,ac4]at*);(try have hlt:i<es.length:=by assumption);(try have he:es.getD i.toNat []=[.i (ag es i 0),.i (ag es i 1)]:=(ao hwf g0 hlt).symm))
  all_goals exact QK
def kE :EC:=fun F=>fun
 |[.one (.s 2 es),d]=>some (fun _=>d=.one (.s 2 es)/\Rw [tI,tI] es/\ak es<=1099511627776,[.k true])
 |_=>none
theorem xu :ec 386 kE:=by
 intro _ _ _ h hp;dsimp only[kE,F0]at h;split at h<;>cases h
 rename_i es d;obtain⟨rfl,hw,hlim⟩:=hp;have hwf:Wf [.i 0,.i 0] es:=hw.wf;have hlen:=eA hlim;refine cb DN Tryz.func386 ?_
 intro O r F hO hr hF;cbv
 apply bD<;>intro hb<;>cbv
 ·(subst hO hr hF;(try simp only[nc]at*);(try simp only[ah,SS,sa,az]at*));exact absurd rfl hb
 ·clear hb;refine⟨[0,1,5],[],Int,fun i=>[.reg 5 (.j i)],fun i=>0<=i/\i.toNat<=es.length,fun i=>es.length-i.toNat,⟨0,?_,?_⟩,?_⟩;exact⟨by omega,OF _⟩
  ·cbv
  ·rintro i hi;replace hi:0<=i/\i.toNat<=es.length:=hi;obtain⟨g0,g1⟩:=hi;cbv
   repeat' first|apply By|(apply bD<;>intro hb<;>cbv)|(refine ab (O.ar .add .i64 i 1) ?_ ?_ ?_;focus (cbv;done))
   all_goals(subst hO hr hF;(try simp only[nc]at*);(try simp only[ah,SS,sa,az]at*);(try have hlt:i<es.length:=by assumption);(try have he:es.getD i.toNat []=[.i (ag es i 0),.i (ag es i 1)]:=(ao hwf g0 hlt).symm))
   all_goals exact Tm
def iT :EM:=fun F=>fun
 |[.one (.s 2 es),.one (.v (.int .i64 k))]=>some (fun _=>Rw [tI,tI] es/\ak es<=1099511627776/\0<=k/\aw [es] k<=1152921504606846976,[.s 2 (F.mkN es k)],[.j (F.kN [es] k)])
 |_=>none
theorem tH :em 389 iT:=by
 intro _ _ _ _ h hp;dsimp only[iT,F0]at h;split at h<;>cases h
 rename_i es k;obtain⟨hw,hlim,hk0,hkb⟩:=hp;have hwf:Wf [.i 0,.i 0] es:=hw.wf;have hlen:=eA hlim;refine mb nB [(0,0)] Tryz.func389 ?_
 intro O r os F hO hr hos hF;cbv
 refine⟨[0,1,5],[0],Int×Int×aa,fun s=>match s with|(i,k',cur)=>[.reg 5 (.j i),.reg 1 (.j k'),.leaf 0 0 ⟨0,0,some 0,.own (.s 2 cur)⟩],fun s=>0<=s.1/\s.1.toNat<=es.length/\s.2.1=fT es k s.1.toNat/\s.2.2=gF es k s.1.toNat,fun s=>es.length-s.1.toNat,⟨(0,k,es),?_,?_⟩,?_⟩;exact⟨by omega,OF _,bT.symm,eS.symm⟩
 ·cbv
 ·rintro⟨i,k',cur⟩ hi;replace hi:0<=i/\i.toNat<=es.length/\k'=fT es k i.toNat/\cur=gF es k i.toNat:=hi;obtain⟨g0,g1,hk',hc⟩:=hi;cbv
  repeat' first|apply By|(apply bD<;>intro hb<;>cbv)|(refine ab (O.ar .add .i64 i 1,O.ar .add .i64 (O.ar .add .i64 (k') 1) 1,O.up (.s 2 (O.up (.s 2 (cur)) [(O.ad 0 i,0)] [.i (k')])) [(O.ad 0 i,1)] [.i (O.ar .add .i64 (k') 1)]) ?_ ?_ ?_;focus (cbv;done))
  all_goals((try subst hos);subst hO hr hF;(try simp only[nc]at*);(try simp only[ah,SS,sa,az]at*);(try have hlt:i<es.length:=by assumption);(try have he:es.getD i.toNat []=[.i (ag es i 0),.i (ag es i 1)]:=(ao hwf g0 hlt).symm);(try have hcg:cur.getD i.toNat []=[.i (ag es i 0),.i (ag es i 1)]:=by rw[hc,eR g1];exact he))
  all_goals exact Tj
def iO :EC:=fun F=>fun
 |[.one (.s 2 ms),.one (.v (.int .i64 k))]=>some (fun _=>∃ es,ms=aT es k/\Rw [tI,tI] es/\ak es<=1099511627776/\0<=k/\aw [ms] k<=1152921504606846976,[.j (F.kN [ms] k)])
 |_=>none
theorem tx :ec 391 iO:=by
 intro _ _ _ h hp;dsimp only[iO,F0]at h;split at h<;>cases h
 rename_i ms k;obtain⟨es,hms,hw,hlim,hk0,hkb⟩:=hp;have hlen:=eA hlim;have hml:ms.length=es.length:=by rw[hms];exact cr
 have hkk:aw [ms] k=aw [es] k:=by rw[hms];exact pZ
 have hwm:Wf [.i 0,.i 0] ms:=by rw[hms];exact dS hw
 have hwf:Wf [.i 0,.i 0] es:=hw.wf;have hat:∀ n,n<es.length->ms.getD n []=(gX (es.getD n []) (fT es k n)).1:=fun n hn=>by rw[hms];exact li hn
 refine cb nB Tryz.func391 ?_
 intro O r F hO hr hF;cbv
 refine⟨[0,1,5],[],Int×Int,fun s=>match s with|(i,k')=>[.reg 5 (.j i),.reg 1 (.j k')],fun s=>0<=s.1/\s.1.toNat<=es.length/\s.2=fT es k s.1.toNat,fun s=>es.length-s.1.toNat,⟨(0,k),?_,?_⟩,?_⟩;exact⟨by omega,OF _,bT.symm⟩
 ·cbv
 ·rintro⟨i,k'⟩ hi;replace hi:0<=i/\i.toNat<=es.length/\k'=fT es k i.toNat:=hi;obtain⟨g0,g1,hk'⟩:=hi;cbv
  repeat' first|apply By|(apply bD<;>intro hb<;>cbv)|(refine ab (O.ar .add .i64 i 1,O.ar .add .i64 (O.ar .add .i64 (k') 1) 1) ?_ ?_ ?_;focus (cbv;done))
  all_goals(subst hO hr hF;(try simp only[nc]at*);(try simp only[ah,SS,sa,az]at*);(try have hltm:i<ms.length:=by assumption);(try have hlt:i<es.length:=by omega);(try have he:es.getD i.toNat []=[.i (ag es i 0),.i (ag es i 1)]:=(ao hwf g0 hlt).symm);(try rw[eY (n:=es.length) g0 hlt (by omega)]);(try have hlt':i.toNat<es.length:=by omega);(try have hct:=dq (es:=es) (n:=i.toNat) (by omega);rw[he]at hct;simp only[cS,fQ,ac0,adt]at hct);(try have hks:=dV (es:=es) (k:=k) hlt';rw[he]at hks;simp only[gX,iD]at hks);(try have hem:([.i (ag ms i 0),.i (ag ms i 1)]:ay)=_:=(ao hwm g0 hltm).trans (hat i.toNat hlt');rw[he]at hem;simp only[gX,iD,adW,L.v.injEq,adY,adT,L.s.injEq,true_and,and_true]at hem))
  all_goals exact Tl
abbrev Hs :cW:=eF (fun F f=>match f with|363=>kS F|375=>kX F|386=>kE F|_=>fun _=>none) (by
 intro f;dsimp only;split;exact xL;exact xT;exact xu;exact cX)
abbrev Ll :cW:={
 Φ:=qj
 F0:=F0
 ct:=fun F f=>match f with|391=>iO F|_=>fun _=>none
 hc:=(by
  intro f;dsimp only;split;exact tx;exact cX)
 mt:=fun F f=>match f with|389=>some (iT F)|_=>none
 hm:=(by
  intro f mk h;dsimp only at h;split at h<;>cases h
  exact tH)}
def mz :EC:=fun F=>fun
 |[.agg [.s 2 a0],.one (.v (.int .i64 left))]=>some (fun _=>Rw [tI,tI] a0/\0<=left/\left<=1048576,[.j (F.szN [a0] left)])
 |_=>none
theorem zF :ec 260 mz:=by
 intro _ _ _ h hp;dsimp only[mz,F0]at h;split at h<;>cases h
 rename_i a0 left;obtain⟨w0,h0,h1⟩:=hp;refine cb Hs Tryz.func260 ?_
 intro O r F hO hr hF;cbv
 repeat' first|apply By|(apply bD<;>intro hb<;>cbv)
 all_goals(subst hO hr hF;(try simp only[nc]at*);(try simp only[ah,SS,sa,az]at*);(try simp(disch:=assumption) only[nI,adv,ads]at*))
 all_goals first|trivial|(rw[mS (by assumption)])|trace_state
def mD :EC:=fun F=>fun
 |[.agg [.s 2 a0]]=>some (fun _=>Rw [tI,tI] a0/\aQ [a0]<=1048576,[.agg [.s 2 a0]])
 |_=>none
theorem zP :ec 280 mD:=by
 intro _ _ _ h hp;dsimp only[mD,F0]at h;split at h<;>cases h
 rename_i a0;obtain⟨w0,hlim⟩:=hp;simp only[aQ,ac0]at hlim;refine cb Hs Tryz.func280 ?_
 exact yw
def mo :EC:=fun F=>fun
 |[.agg [.s 2 a0],d]=>some (fun _=>d=.agg [.s 2 a0]/\Rw [tI,tI] a0/\aQ [a0]<=1099511627776,[.k true])
 |_=>none
theorem zy :ec 299 mo:=by
 intro _ _ _ h hp;dsimp only[mo,F0]at h;split at h<;>cases h
 rename_i a0 d;obtain⟨rfl,w0,hlim⟩:=hp;simp only[aQ,ac0]at hlim;refine cb Hs Tryz.func299 ?_
 exact yw
def jF :EM:=fun F=>fun
 |[.agg [.s 2 a0],.one (.v (.int .i64 k))]=>some (fun _=>Rw [tI,tI] a0/\aQ [a0]<=1099511627776/\0<=k/\aw [a0] k<=1152921504606846976,[.s 2 (F.mkN a0 k)],[.j (F.kN [a0] k)])
 |_=>none
theorem vB :em 303 jF:=by
 intro _ _ _ _ h hp;dsimp only[jF,F0]at h;split at h<;>cases h
 rename_i a0 k;obtain⟨w0,hlim,hk0,hkb⟩:=hp;simp only[aQ,ac0]at hlim;have p0:aw [a0] k<=aw [a0] k/\0<=aw [a0] k:=bJ (b:=[]) hk0;refine mb Ll [(2,0)] Tryz.func303 ?_
 exact QL
def jD :EC:=fun F=>fun
 |[.agg [.s 2 m0],.one (.v (.int .i64 k))]=>some (fun _=>(∃ a0,m0=aT a0 k/\Rw [tI,tI] a0/\ak a0<=1099511627776)/\0<=k/\aw [m0] k<=1152921504606846976,[.j (F.kN [m0] k)])
 |_=>none
theorem vu :ec 306 jD:=by
 intro _ _ _ h hp;dsimp only[jD,F0]at h;split at h<;>cases h
 rename_i m0 k;obtain⟨e0,hk0,hkb⟩:=hp;have p0:aw [m0] k<=aw [m0] k/\0<=aw [m0] k:=bJ (b:=[]) hk0;refine cb Ll Tryz.func306 ?_
 exact QJ
abbrev yQ :cW:=eF (fun F f=>match f with|259=>kT F|279=>kY F|298=>kF F|260=>mz F|280=>mD F|299=>mo F|_=>fun _=>none) (by
 intro f;dsimp only;split;exact xM;exact xU;exact xv;exact zF;exact zP;exact zy;exact cX)
abbrev FJ :cW:={
 Φ:=qj
 F0:=F0
 ct:=fun F f=>match f with|305=>iP F|306=>jD F|_=>fun _=>none
 hc:=(by
  intro f;dsimp only;split;exact tz;exact vu;exact cX)
 mt:=fun F f=>match f with|302=>some (iU F)|303=>some (jF F)|_=>none
 hm:=(by
  intro f mk h;dsimp only at h;split at h<;>cases h
  exact tJ;exact vB)}
def jG :EC:=fun F=>fun
 |[.agg [.s 1 a0,.s 1 a1,.s 2 a2],.one (.v (.int .i64 left))]=>some (fun _=>Rw [.sl [tI]] a0/\Rw [tB] a1/\Rw [tI,tI] a2/\0<=left/\left<=1048576,[.j (F.szN [a0,a1,a2] left)])
 |_=>none
theorem vC :ec 122 jG:=by
 intro _ _ _ h hp;dsimp only[jG,F0]at h;split at h<;>cases h
 rename_i a0 a1 a2 left;obtain⟨w0,w1,w2,h0,h1⟩:=hp;refine cb yQ Tryz.func122 ?_
 intro O r F hO hr hF;cbv
 repeat' first|apply By|(apply bD<;>intro hb<;>cbv)
 all_goals(subst hO hr hF;(try simp only[nc]at*);(try simp only[ah,SS,sa,az]at*);(try simp(disch:=assumption) only[nI,adv,ads]at*))
 all_goals first|trivial|(refine⟨by assumption,by omega,by first|omega|exact agm (Bv (by assumption)) h1⟩)|(rw[mS (by assumption)])|exact congrArg (fun x=>[DV.one (L.v (adg adl x))]) (gJ (a:=[a0,a1]) (b:=[a2]) (by assumption)).symm|trace_state
def jH :EC:=fun F=>fun
 |[.agg [.s 1 a0,.s 1 a1,.s 2 a2]]=>some (fun _=>Rw [.sl [tI]] a0/\Rw [tB] a1/\Rw [tI,tI] a2/\aQ [a0,a1,a2]<=1048576,[.agg [.s 1 a0,.s 1 a1,.s 2 a2]])
 |_=>none
theorem vD :ec 148 jH:=by
 intro _ _ _ h hp;dsimp only[jH,F0]at h;split at h<;>cases h
 rename_i a0 a1 a2;obtain⟨w0,w1,w2,hlim⟩:=hp;simp only[aQ,ac0]at hlim;refine cb yQ Tryz.func148 ?_
 intro O r F hO hr hF;cbv
 repeat' first|apply By|(apply bD<;>intro hb<;>cbv)
 all_goals(subst hO hr hF;(try simp only[nc]at*);(try simp only[ah,SS,sa,az]at*))
 all_goals first|trivial|(refine⟨by assumption,?_⟩;(try simp only[aQ,ac0]);omega)|(refine⟨by assumption,by assumption,?_⟩;(try simp only[aQ,ac0]);omega)|trace_state
def jB :EC:=fun F=>fun
 |[.agg [.s 1 a0,.s 1 a1,.s 2 a2],d]=>some (fun _=>d=.agg [.s 1 a0,.s 1 a1,.s 2 a2]/\Rw [.sl [tI]] a0/\Rw [tB] a1/\Rw [tI,tI] a2/\aQ [a0,a1,a2]<=1099511627776,[.k true])
 |_=>none
theorem vo :ec 178 jB:=by
 intro _ _ _ h hp;dsimp only[jB,F0]at h;split at h<;>cases h
 rename_i a0 a1 a2 d;obtain⟨rfl,w0,w1,w2,hlim⟩:=hp;simp only[aQ,ac0]at hlim;refine cb yQ Tryz.func178 ?_
 intro O r F hO hr hF;cbv
 repeat' first|apply By|(apply bD<;>intro hb<;>cbv)
 all_goals(subst hO hr hF;(try simp only[nc]at*);(try simp only[ah,SS,sa,az]at*))
 all_goals first|trivial|(refine⟨trivial,by assumption,?_⟩;(try simp only[aQ,ac0]);omega)|(refine⟨trivial,by assumption,by assumption,?_⟩;(try simp only[aQ,ac0]);omega)|trace_state
def ip :EM:=fun F=>fun
 |[.agg [.s 1 a0,.s 1 a1,.s 2 a2],.one (.v (.int .i64 k))]=>some (fun _=>Rw [.sl [tI]] a0/\Rw [tB] a1/\Rw [tI,tI] a2/\aQ [a0,a1,a2]<=1099511627776/\0<=k/\aw [a0,a1,a2] k<=1152921504606846976,[.s 1 (F.mkN a0 k),.s 1 (F.mkN a1 (F.kN [a0] k)),.s 2 (F.mkN a2 (F.kN [a0,a1] k))],[.j (F.kN [a0,a1,a2] k)])
 |_=>none
theorem sE :em 189 ip:=by
 intro _ _ _ _ h hp;dsimp only[ip,F0]at h;split at h<;>cases h
 rename_i a0 a1 a2 k;obtain⟨w0,w1,w2,hlim,hk0,hkb⟩:=hp;simp only[aQ,ac0]at hlim;have p0:aw [a0] k<=aw [a0,a1,a2] k/\0<=aw [a0] k:=bJ (b:=[a1,a2]) hk0;have p1:aw [a0,a1] k<=aw [a0,a1,a2] k/\0<=aw [a0,a1] k:=bJ (b:=[a2]) hk0;have p2:aw [a0,a1,a2] k<=aw [a0,a1,a2] k/\0<=aw [a0,a1,a2] k:=bJ (b:=[]) hk0;refine mb FJ [(2,0),(2,1),(2,2)] Tryz.func189 ?_
 exact QI
def io :EC:=fun F=>fun
 |[.agg [.s 1 m0,.s 1 m1,.s 2 m2],.one (.v (.int .i64 k))]=>some (fun _=>(∃ a0,m0=aT a0 k/\Rw [.sl [tI]] a0/\ak a0<=1099511627776)/\(∃ a1,m1=aT a1 (aw [m0] k)/\Rw [tB] a1/\ak a1<=1099511627776)/\(∃ a2,m2=aT a2 (aw [m0,m1] k)/\Rw [tI,tI] a2/\ak a2<=1099511627776)/\0<=k/\aw [m0,m1,m2] k<=1152921504606846976,[.j (F.kN [m0,m1,m2] k)])
 |_=>none
theorem sD :ec 195 io:=by
 intro _ _ _ h hp;dsimp only[io,F0]at h;split at h<;>cases h
 rename_i m0 m1 m2 k;obtain⟨e0,e1,e2,hk0,hkb⟩:=hp;have p0:aw [m0] k<=aw [m0,m1,m2] k/\0<=aw [m0] k:=bJ (b:=[m1,m2]) hk0;have p1:aw [m0,m1] k<=aw [m0,m1,m2] k/\0<=aw [m0,m1] k:=bJ (b:=[m2]) hk0;have p2:aw [m0,m1,m2] k<=aw [m0,m1,m2] k/\0<=aw [m0,m1,m2] k:=bJ (b:=[]) hk0;refine cb FJ Tryz.func195 ?_
 intro O r F hO hr hF;cbv
 repeat' first|apply By|(apply bD<;>intro hb<;>cbv)
 all_goals(subst hO hr hF;(try simp only[nc]at*);(try simp only[ah,SS,sa,az]at*);(try simp only[jL,adv,ads]at*))
 all_goals first|trivial|(exfalso;omega)|(obtain⟨x,y1,y2,y3⟩:=e0;exact⟨x,y1,y2,y3,by omega,by omega⟩)|(obtain⟨x,y1,y2,y3⟩:=e1;exact⟨x,y1,y2,y3,by omega,by omega⟩)|(obtain⟨x,y1,y2,y3⟩:=e2;exact⟨x,y1,y2,y3,by omega,by omega⟩)|(refine⟨by assumption,by omega,by omega⟩)|(refine⟨by assumption,by assumption,by omega,by omega⟩)|(refine⟨by assumption,by assumption,by assumption,by omega,by omega⟩)|trace_state
abbrev DR :cW:=eF (fun F f=>match f with|122=>jG F|148=>jH F|178=>jB F|123=>hH F|149=>hK F|179=>hE F|_=>fun _=>none) (by
 intro f;dsimp only;split;exact vC;exact vD;exact vo;exact nN;exact nO;exact nM;exact cX)
abbrev IU :cW:={
 Φ:=qj
 F0:=F0
 ct:=fun F f=>match f with|195=>io F|196=>fR F|_=>fun _=>none
 hc:=(by
  intro f;dsimp only;split;exact sD;exact kq;exact cX)
 mt:=fun F f=>match f with|189=>some (ip F)|190=>some (fS F)|_=>none
 hm:=(by
  intro f mk h;dsimp only at h;split at h<;>cases h
  exact sE;exact ku)}
def kU :EC:=fun F=>fun
 |[.agg [.s 1 a0,.s 1 a1,.s 2 a2,.v (.int .i64 a3),.s 1 a4],.one (.v (.int .i64 left))]=>some (fun _=>Rw [.sl [tI]] a0/\Rw [tB] a1/\Rw [tI,tI] a2/\Rw [tI] a4/\0<=left/\left<=1048576,[.j (F.szN [a0,a1,a2,a4] left)])
 |_=>none
theorem xN :ec 32 kU:=by
 intro _ _ _ h hp;dsimp only[kU,F0]at h;split at h<;>cases h
 rename_i a0 a1 a2 a3 a4 left;obtain⟨w0,w1,w2,w3,h0,h1⟩:=hp;refine cb DR Tryz.func32 ?_
 intro O r F hO hr hF;cbv
 repeat' first|apply By|(apply bD<;>intro hb<;>cbv)
 all_goals(subst hO hr hF;(try simp only[nc]at*);(try simp only[ah,SS,sa,az]at*);(try simp(disch:=assumption) only[nI,adv,ads]at*))
 all_goals first|trivial|(refine⟨by assumption,by omega,by first|omega|exact agm (Bv (by assumption)) h1⟩)|(rw[mS (by assumption)])|exact congrArg (fun x=>[DV.one (L.v (adg adl x))]) (gJ (a:=[a0,a1,a2]) (b:=[a4]) (by assumption)).symm|trace_state
def kZ :EC:=fun F=>fun
 |[.agg [.s 1 a0,.s 1 a1,.s 2 a2,.v (.int .i64 a3),.s 1 a4]]=>some (fun _=>Rw [.sl [tI]] a0/\Rw [tB] a1/\Rw [tI,tI] a2/\Rw [tI] a4/\aQ [a0,a1,a2,a4]<=1048576,[.agg [.s 1 a0,.s 1 a1,.s 2 a2,.i a3,.s 1 a4]])
 |_=>none
theorem xV :ec 44 kZ:=by
 intro _ _ _ h hp;dsimp only[kZ,F0]at h;split at h<;>cases h
 rename_i a0 a1 a2 a3 a4;obtain⟨w0,w1,w2,w3,hlim⟩:=hp;simp only[aQ,ac0]at hlim;refine cb DR Tryz.func44 ?_
 intro O r F hO hr hF;cbv
 repeat' first|apply By|(apply bD<;>intro hb<;>cbv)
 all_goals(subst hO hr hF;(try simp only[nc]at*);(try simp only[ah,SS,sa,az]at*))
 all_goals first|trivial|(refine⟨by assumption,?_⟩;(try simp only[aQ,ac0]);omega)|(refine⟨by assumption,by assumption,by assumption,?_⟩;(try simp only[aQ,ac0]);omega)|trace_state
def kG :EC:=fun F=>fun
 |[.agg [.s 1 a0,.s 1 a1,.s 2 a2,.v (.int .i64 a3),.s 1 a4],d]=>some (fun _=>d=.agg [.s 1 a0,.s 1 a1,.s 2 a2,.i a3,.s 1 a4]/\Rw [.sl [tI]] a0/\Rw [tB] a1/\Rw [tI,tI] a2/\Rw [tI] a4/\aQ [a0,a1,a2,a4]<=1099511627776,[.k true])
 |_=>none
theorem xx :ec 56 kG:=by
 intro _ _ _ h hp;dsimp only[kG,F0]at h;split at h<;>cases h
 rename_i a0 a1 a2 a3 a4 d;obtain⟨rfl,w0,w1,w2,w3,hlim⟩:=hp;simp only[aQ,ac0]at hlim;refine cb DR Tryz.func56 ?_
 intro O r F hO hr hF;cbv
 repeat' first|apply By|(apply bD<;>intro hb<;>cbv)
 all_goals(subst hO hr hF;(try simp only[nc]at*);(try simp only[ah,SS,sa,az]at*))
 all_goals first|trivial|(refine⟨trivial,by assumption,?_⟩;(try simp only[aQ,ac0]);omega)|(refine⟨trivial,by assumption,by assumption,by assumption,?_⟩;(try simp only[aQ,ac0]);omega)|trace_state
def iV :EM:=fun F=>fun
 |[.agg [.s 1 a0,.s 1 a1,.s 2 a2,.v (.int .i64 a3),.s 1 a4],.one (.v (.int .i64 k))]=>some (fun _=>Rw [.sl [tI]] a0/\Rw [tB] a1/\Rw [tI,tI] a2/\Rw [tI] a4/\aQ [a0,a1,a2,a4]<=1099511627776/\0<=k/\aw [a0,a1,a2,a4] k<=1152921504606846976,[.s 1 (F.mkN a0 k),.s 1 (F.mkN a1 (F.kN [a0] k)),.s 2 (F.mkN a2 (F.kN [a0,a1] k)),.s 1 (F.mkN a4 (F.kN [a0,a1,a2] k))],[.j (F.kN [a0,a1,a2,a4] k)])
 |_=>none
theorem tK :em 65 iV:=by
 intro _ _ _ _ h hp;dsimp only[iV,F0]at h;split at h<;>cases h
 rename_i a0 a1 a2 a3 a4 k;obtain⟨w0,w1,w2,w3,hlim,hk0,hkb⟩:=hp;simp only[aQ,ac0]at hlim;have p0:aw [a0] k<=aw [a0,a1,a2,a4] k/\0<=aw [a0] k:=bJ (b:=[a1,a2,a4]) hk0;have p1:aw [a0,a1] k<=aw [a0,a1,a2,a4] k/\0<=aw [a0,a1] k:=bJ (b:=[a2,a4]) hk0;have p2:aw [a0,a1,a2] k<=aw [a0,a1,a2,a4] k/\0<=aw [a0,a1,a2] k:=bJ (b:=[a4]) hk0;have p3:aw [a0,a1,a2,a4] k<=aw [a0,a1,a2,a4] k/\0<=aw [a0,a1,a2,a4] k:=bJ (b:=[]) hk0;refine mb IU [(2,0),(2,1),(2,2),(2,4)] Tryz.func65 ?_
 exact QI
def iQ :EC:=fun F=>fun
 |[.agg [.s 1 m0,.s 1 m1,.s 2 m2,.v (.int .i64 m3),.s 1 m4],.one (.v (.int .i64 k))]=>some (fun _=>(∃ a0,m0=aT a0 k/\Rw [.sl [tI]] a0/\ak a0<=1099511627776)/\(∃ a1,m1=aT a1 (aw [m0] k)/\Rw [tB] a1/\ak a1<=1099511627776)/\(∃ a2,m2=aT a2 (aw [m0,m1] k)/\Rw [tI,tI] a2/\ak a2<=1099511627776)/\(∃ a4,m4=aT a4 (aw [m0,m1,m2] k)/\Rw [tI] a4/\ak a4<=1099511627776)/\0<=k/\aw [m0,m1,m2,m4] k<=1152921504606846976,[.j (F.kN [m0,m1,m2,m4] k)])
 |_=>none
theorem tA :ec 74 iQ:=by
 intro _ _ _ h hp;dsimp only[iQ,F0]at h;split at h<;>cases h
 rename_i m0 m1 m2 m3 m4 k;obtain⟨e0,e1,e2,e3,hk0,hkb⟩:=hp;have p0:aw [m0] k<=aw [m0,m1,m2,m4] k/\0<=aw [m0] k:=bJ (b:=[m1,m2,m4]) hk0;have p1:aw [m0,m1] k<=aw [m0,m1,m2,m4] k/\0<=aw [m0,m1] k:=bJ (b:=[m2,m4]) hk0;have p2:aw [m0,m1,m2] k<=aw [m0,m1,m2,m4] k/\0<=aw [m0,m1,m2] k:=bJ (b:=[m4]) hk0;have p3:aw [m0,m1,m2,m4] k<=aw [m0,m1,m2,m4] k/\0<=aw [m0,m1,m2,m4] k:=bJ (b:=[]) hk0;refine cb IU Tryz.func74 ?_
 intro O r F hO hr hF;cbv
 repeat' first|apply By|(apply bD<;>intro hb<;>cbv)
 all_goals(subst hO hr hF;(try simp only[nc]at*);(try simp only[ah,SS,sa,az]at*);(try simp only[jL,adv,ads]at*))
 all_goals first|trivial|(exfalso;omega)|(obtain⟨x,y1,y2,y3⟩:=e0;exact⟨x,y1,y2,y3,by omega,by omega⟩)|(obtain⟨x,y1,y2,y3⟩:=e1;exact⟨x,y1,y2,y3,by omega,by omega⟩)|(obtain⟨x,y1,y2,y3⟩:=e2;exact⟨x,y1,y2,y3,by omega,by omega⟩)|(obtain⟨x,y1,y2,y3⟩:=e3;exact⟨x,y1,y2,y3,by omega,by omega⟩)|(refine⟨by assumption,by omega,by omega⟩)|(refine⟨by assumption,by assumption,by omega,by omega⟩)|(refine⟨by assumption,by assumption,by assumption,by omega,by omega⟩)|(refine⟨by assumption,by assumption,by assumption,by assumption,by omega,by omega⟩)|trace_state
end Go.V