/- Contracts. -/
import Derived.Test.YtcodmgmliopheaaGreatXLawHAt
import Derived.Test.YtcodmgmliopheaaGreatXLawHEt
set_option linter.all false
open Go
open And renaming intro->By
open Int renaming toNat_natCast->ac4
open List renaming length_replicate->adQ
open List.cons renaming injEq->adW
open Nat renaming add_zero->ac0,zero_le->OF,zero_add->adt
open Value.bool renaming injEq->adT
open Value.int renaming injEq->adY
namespace Go.V
open Go Go.Proofs
set_option maxRecDepth 1000000
set_option maxHeartbeats 8000000
abbrev Ho :cW:=eF (fun F f=>match f with|126=>gy F|156=>gz F|186=>gx F|_=>fun _=>none) (by
 intro f;dsimp only;split;exact lR;exact lS;exact lQ;exact cX)
def my :EC:=fun F=>fun
 |[.agg [.s 1 a0],.one (.v (.int .i64 left))]=>some (fun _=>Rw [.sl [tI]] a0/\0<=left/\left<=1048576,[.j (F.szN [a0] left)])
 |_=>none
theorem zC :ec 124 my:=by
 intro _ _ _ h hp;dsimp only[my,F0]at h;split at h<;>cases h
 rename_i a0 left;obtain⟨w0,h0,h1⟩:=hp;refine cb Ho Tryz.func124 ?_
 exact aa0
def mB :EC:=fun F=>fun
 |[.agg [.s 1 a0]]=>some (fun _=>Rw [.sl [tI]] a0/\aQ [a0]<=1048576,[.agg [.s 1 a0]])
 |_=>none
theorem zH :ec 154 mB:=by
 intro _ _ _ h hp;dsimp only[mB,F0]at h;split at h<;>cases h
 rename_i a0;obtain⟨w0,hlim⟩:=hp;simp only[aQ,ac0]at hlim;refine cb Ho Tryz.func154 ?_
 exact yw
def mj :EC:=fun F=>fun
 |[.agg [.s 1 a0],d]=>some (fun _=>d=.agg [.s 1 a0]/\Rw [.sl [tI]] a0/\aQ [a0]<=1099511627776,[.k true])
 |_=>none
theorem zn :ec 184 mj:=by
 intro _ _ _ h hp;dsimp only[mj,F0]at h;split at h<;>cases h
 rename_i a0 d;obtain⟨rfl,w0,hlim⟩:=hp;simp only[aQ,ac0]at hlim;refine cb Ho Tryz.func184 ?_
 exact yw
abbrev DL :cW:=eF (fun F f=>match f with|124=>my F|154=>mB F|184=>mj F|_=>fun _=>none) (by
 intro f;dsimp only;split;exact zC;exact zH;exact zn;exact cX)
abbrev IQ :cW:={
 Φ:=qj
 F0:=F0
 ct:=fun F f=>match f with|197=>fA F|_=>fun _=>none
 hc:=(by
  intro f;dsimp only;split;exact jt;exact cX)
 mt:=fun F f=>match f with|191=>some (fB F)|_=>none
 hm:=(by
  intro f mk h;dsimp only at h;split at h<;>cases h
  exact ju)}
def kR :EC:=fun F=>fun
 |[.one (.s 1 es),.one (.v (.int .i64 left))]=>some (fun _=>Rw [.sl [.sl [tI]]] es/\0<=left/\left<=1048576,[.j (F.szN [es] left)])
 |_=>none
theorem xK :ec 37 kR:=by
 intro _ _ _ h hp;dsimp only[kR,F0]at h;split at h<;>cases h
 rename_i es left;obtain⟨hw,h0,h1⟩:=hp;have hwf:Wf [.s 1 []] es:=hw.wf;have hm:=hw.1;unfold maxLen at hm;have hs:bR .sub .i64 left es.length=left-es.length:=dD (by omega);have hcE:ak es=es.length+bK es:=rfl;have hn:dO [es] left=if left<ak es then-1 else left-ak es:=by unfold dO;rw[eG]
 refine cb DL Tryz.func37 ?_
 intro O r F hO hr hF;cbv
 apply bD<;>intro hb<;>cbv
 ·repeat' first|apply By|(apply bD<;>intro hb<;>cbv)
  all_goals exact Wb
 have hb0:0<=left-es.length:=by
  (subst hO hr hF;(try simp only[nc]at*);(try simp only[ah,SS,sa,az]at*))
  rw[hs]at hb;exact hb
 clear hb;refine⟨[0,1,5],[],Int×Int,fun s=>match s with|(i,l)=>[.reg 5 (.j i),.reg 1 (.j l)],fun s=>0<=s.1/\s.1.toNat<=es.length/\0<=s.2/\s.2=left-es.length-bK (es.take s.1.toNat),fun s=>es.length-s.1.toNat,⟨(0,O.ar .sub .i64 left (O.zi (O.ln es))),?_,?_⟩,?_⟩
 ·(subst hO hr hF;(try simp only[nc]at*);(try simp only[ah,SS,sa,az]at*))
  rw[hs];exact⟨by omega,OF _,hb0,by simp[bK]⟩
 ·cbv
 ·rintro⟨i,l⟩ hi;replace hi:0<=i/\i.toNat<=es.length/\0<=l/\l=left-es.length-bK (es.take i.toNat):=hi;obtain⟨g0,g1,g2,g3⟩:=hi;cbv
  repeat' first|apply By|(apply bD<;>intro hb<;>cbv)|(refine ab (O.ar .add .i64 i 1,F.szN [O.gs es i 0] l) ?_ ?_ ?_;focus (cbv;done))
  all_goals(subst hO hr hF;(try simp only[nc]at*);(try simp only[ah,SS,sa,az]at*))
  all_goals have hle:=bS (es:=es) (n:=i.toNat)
  all_goals have hsz:=nJ (a:=[ap es i 0]) (left:=l)
  all_goals((have hsz2:0<=dO [ap es i 0] l->dO [ap es i 0] l=l-aQ [ap es i 0]:=uI);(try have hlt:i<es.length:=by assumption);(try have he:es.getD i.toNat []=[.s 1 (ap es i 0)]:=(ao hwf g0 hlt).symm);(try rw[eY (n:=es.length) g0 hlt (by omega)]);(try have hr0:Rw [.sl [tI]] (ap es i 0):=Rw.sub (fs:=[.sl [.sl [tI]]]) hw (by omega) rfl))
  all_goals exact V8
def kW :EC:=fun F=>fun
 |[.one (.s 1 es)]=>some (fun _=>Rw [.sl [.sl [tI]]] es/\ak es<=1048576,[.one (.s 1 es)])
 |_=>none
theorem xS :ec 49 kW:=by
 intro _ _ _ h hp;dsimp only[kW,F0]at h;split at h<;>cases h
 rename_i es;obtain⟨hw,hlim⟩:=hp;have hwf:Wf [.s 1 []] es:=hw.wf;have hlen:=eA hlim;refine cb DL Tryz.func49 ?_
 intro O r F hO hr hF;cbv
 have h0z:cC es [.s 1 []] 0=O.rep (O.zi (O.ln es)) [.s 1 []]:=by
  subst hO;rw[dU];rfl
 refine⟨?_,?_,[0,3,4],[3],Int×aa,fun s=>[.reg 4 (.j s.1),.leaf 3 0 ⟨0,0,none,.own (.s 1 s.2)⟩],fun s=>0<=s.1/\s.1.toNat<=es.length/\s.2=cC es [.s 1 []] s.1.toNat,fun s=>es.length-s.1.toNat,⟨(0,O.rep (O.zi (O.ln es)) [.s 1 []]),?_,?_⟩,?_⟩
 ·subst hO;exact qd (b:=24) (show es.length*_<=_ by omega) (show es.length<=_ by omega)
 ·subst hO;exact⟨rfl,rfl⟩
 ·exact⟨by omega,OF _,h0z.symm⟩
 ·cbv
 ·rintro⟨i,m⟩ hi;replace hi:0<=i/\i.toNat<=es.length/\m=cC es [.s 1 []] i.toNat:=hi;obtain⟨g0,g1,hm⟩:=hi;cbv
  repeat' first|apply By|(apply bD<;>intro hb<;>cbv)|(refine ab (O.ar .add .i64 i 1,O.up (.s 1 m) [(O.ad 0 i,0)] [.s 1 (O.gs es i 0)]) ?_ ?_ ?_;focus (cbv;done))
  all_goals(subst hO hr hF;(try simp only[nc]at*);(try simp only[ah,SS,sa,az]at*);(try simp only[pE,adQ,ac4]at*);(try have hlt:i<es.length:=by assumption);(try have he:es.getD i.toNat []=[.s 1 (ap es i 0)]:=(ao hwf g0 hlt).symm);(try rw[eY (n:=es.length) g0 hlt (by omega)]);(try have hr0:Rw [.sl [tI]] (ap es i 0):=Rw.sub (fs:=[.sl [.sl [tI]]]) hw (by omega) rfl))
  all_goals exact V7
def kD :EC:=fun F=>fun
 |[.one (.s 1 es),d]=>some (fun _=>d=.one (.s 1 es)/\Rw [.sl [.sl [tI]]] es/\ak es<=1099511627776,[.k true])
 |_=>none
theorem xt :ec 61 kD:=by
 intro _ _ _ h hp;dsimp only[kD,F0]at h;split at h<;>cases h
 rename_i es d;obtain⟨rfl,hw,hlim⟩:=hp;have hwf:Wf [.s 1 []] es:=hw.wf;have hlen:=eA hlim;refine cb DL Tryz.func61 ?_
 intro O r F hO hr hF;cbv
 apply bD<;>intro hb<;>cbv
 ·(subst hO hr hF;(try simp only[nc]at*);(try simp only[ah,SS,sa,az]at*));exact absurd rfl hb
 ·clear hb;refine⟨[0,1,5],[],Int,fun i=>[.reg 5 (.j i)],fun i=>0<=i/\i.toNat<=es.length,fun i=>es.length-i.toNat,⟨0,?_,?_⟩,?_⟩;exact⟨by omega,OF _⟩
  ·cbv
  ·rintro i hi;replace hi:0<=i/\i.toNat<=es.length:=hi;obtain⟨g0,g1⟩:=hi;cbv
   repeat' first|apply By|(apply bD<;>intro hb<;>cbv)|(refine ab (O.ar .add .i64 i 1) ?_ ?_ ?_;focus (cbv;done))
   all_goals(subst hO hr hF;(try simp only[nc]at*);(try simp only[ah,SS,sa,az]at*);(try have hlt:i<es.length:=by assumption);(try have he:es.getD i.toNat []=[.s 1 (ap es i 0)]:=(ao hwf g0 hlt).symm);(try rw[eY (n:=es.length) g0 hlt (by omega)]);(try have hr0:Rw [.sl [tI]] (ap es i 0):=Rw.sub (fs:=[.sl [.sl [tI]]]) hw (by omega) rfl))
   all_goals exact V9
def iS :EM:=fun F=>fun
 |[.one (.s 1 es),.one (.v (.int .i64 k))]=>some (fun _=>Rw [.sl [.sl [tI]]] es/\ak es<=1099511627776/\0<=k/\aw [es] k<=1152921504606846976,[.s 1 (F.mkN es k)],[.j (F.kN [es] k)])
 |_=>none
theorem tG :em 70 iS:=by
 intro _ _ _ _ h hp;dsimp only[iS,F0]at h;split at h<;>cases h
 rename_i es k;obtain⟨hw,hlim,hk0,hkb⟩:=hp;have hwf:Wf [.s 1 []] es:=hw.wf;have hlen:=eA hlim;refine mb IQ [(0,0)] Tryz.func70 ?_
 intro O r os F hO hr hos hF;cbv
 refine⟨[0,1,5],[0],Int×Int×aa,fun s=>match s with|(i,k',cur)=>[.reg 5 (.j i),.reg 1 (.j k'),.leaf 0 0 ⟨0,0,some 0,.own (.s 1 cur)⟩],fun s=>0<=s.1/\s.1.toNat<=es.length/\s.2.1=fT es k s.1.toNat/\s.2.2=gF es k s.1.toNat,fun s=>es.length-s.1.toNat,⟨(0,k,es),?_,?_⟩,?_⟩;exact⟨by omega,OF _,bT.symm,eS.symm⟩
 ·cbv
 ·rintro⟨i,k',cur⟩ hi;replace hi:0<=i/\i.toNat<=es.length/\k'=fT es k i.toNat/\cur=gF es k i.toNat:=hi;obtain⟨g0,g1,hk',hc⟩:=hi;cbv
  repeat' first|apply By|(apply bD<;>intro hb<;>cbv)|(refine ab (O.ar .add .i64 i 1,F.kN [O.ps (.s 1 (cur)) [(O.ad 0 i,0)]] (k'),O.up (.s 1 (cur)) [(O.ad 0 i,0)] [.s 1 (F.mkN (O.ps (.s 1 (cur)) [(O.ad 0 i,0)]) (k'))]) ?_ ?_ ?_;focus (cbv;done))
  all_goals((try subst hos);subst hO hr hF;(try simp only[nc]at*);(try simp only[ah,SS,sa,az]at*);(try have hlt:i<es.length:=by assumption);(try have he:es.getD i.toNat []=[.s 1 (ap es i 0)]:=(ao hwf g0 hlt).symm);(try have hcg:cur.getD i.toNat []=[.s 1 (ap es i 0)]:=by rw[hc,eR g1];exact he);(try rw[eY (n:=es.length) g0 hlt (by omega)]);(try have hlt':i.toNat<es.length:=by omega);(try have hr0:Rw [.sl [tI]] (ap es i 0):=Rw.sub (fs:=[.sl [.sl [tI]]]) hw (by omega) rfl))
  all_goals exact zq3
def iN :EC:=fun F=>fun
 |[.one (.s 1 ms),.one (.v (.int .i64 k))]=>some (fun _=>∃ es,ms=aT es k/\Rw [.sl [.sl [tI]]] es/\ak es<=1099511627776/\0<=k/\aw [ms] k<=1152921504606846976,[.j (F.kN [ms] k)])
 |_=>none
theorem tw :ec 79 iN:=by
 intro _ _ _ h hp;dsimp only[iN,F0]at h;split at h<;>cases h
 rename_i ms k;obtain⟨es,hms,hw,hlim,hk0,hkb⟩:=hp;have hlen:=eA hlim;have hml:ms.length=es.length:=by rw[hms];exact cr
 have hkk:aw [ms] k=aw [es] k:=by rw[hms];exact pZ
 have hwm:Wf [.s 1 []] ms:=by rw[hms];exact dS hw
 have hwf:Wf [.s 1 []] es:=hw.wf;have hat:∀ n,n<es.length->ms.getD n []=(gX (es.getD n []) (fT es k n)).1:=fun n hn=>by rw[hms];exact li hn
 refine cb IQ Tryz.func79 ?_
 intro O r F hO hr hF;cbv
 refine⟨[0,1,5],[],Int×Int,fun s=>match s with|(i,k')=>[.reg 5 (.j i),.reg 1 (.j k')],fun s=>0<=s.1/\s.1.toNat<=es.length/\s.2=fT es k s.1.toNat,fun s=>es.length-s.1.toNat,⟨(0,k),?_,?_⟩,?_⟩;exact⟨by omega,OF _,bT.symm⟩
 ·cbv
 ·rintro⟨i,k'⟩ hi;replace hi:0<=i/\i.toNat<=es.length/\k'=fT es k i.toNat:=hi;obtain⟨g0,g1,hk'⟩:=hi;cbv
  repeat' first|apply By|(apply bD<;>intro hb<;>cbv)|(refine ab (O.ar .add .i64 i 1,F.kN [O.gs ms i 0] (k')) ?_ ?_ ?_;focus (cbv;done))
  all_goals(subst hO hr hF;(try simp only[nc]at*);(try simp only[ah,SS,sa,az]at*);(try have hltm:i<ms.length:=by assumption);(try have hlt:i<es.length:=by omega);(try have he:es.getD i.toNat []=[.s 1 (ap es i 0)]:=(ao hwf g0 hlt).symm);(try rw[eY (n:=es.length) g0 hlt (by omega)]);(try have hlt':i.toNat<es.length:=by omega);(try have hr0:Rw [.sl [tI]] (ap es i 0):=Rw.sub (fs:=[.sl [.sl [tI]]]) hw (by omega) rfl);(try have hct:=dq (es:=es) (n:=i.toNat) (by omega);rw[he]at hct;simp only[cS,fQ,ac0,adt]at hct);(try have hks:=dV (es:=es) (k:=k) hlt';rw[he]at hks;simp only[gX,iD]at hks);(try have hem:([.s 1 (ap ms i 0)]:ay)=_:=(ao hwm g0 hltm).trans (hat i.toNat hlt');rw[he]at hem;simp only[gX,iD,adW,L.v.injEq,adY,adT,L.s.injEq,true_and,and_true]at hem))
  all_goals exact zq5
abbrev DU :cW:=eF (fun F f=>match f with|261=>fC F|281=>fD F|300=>fy F|_=>fun _=>none) (by
 intro f;dsimp only;split;exact zD;exact zK;exact zt;exact cX)
abbrev IV :cW:={
 Φ:=qj
 F0:=F0
 ct:=fun F f=>match f with|307=>ew F|_=>fun _=>none
 hc:=(by
  intro f;dsimp only;split;exact vq;exact cX)
 mt:=fun F f=>match f with|304=>some (ez F)|_=>none
 hm:=(by
  intro f mk h;dsimp only at h;split at h<;>cases h
  exact vz)}
def kV :EC:=fun F=>fun
 |[.one (.s 1 es),.one (.v (.int .i64 left))]=>some (fun _=>Rw [.sl [tI,tI]] es/\0<=left/\left<=1048576,[.j (F.szN [es] left)])
 |_=>none
theorem xP :ec 125 kV:=by
 intro _ _ _ h hp;dsimp only[kV,F0]at h;split at h<;>cases h
 rename_i es left;obtain⟨hw,h0,h1⟩:=hp;have hwf:Wf [.s 2 []] es:=hw.wf;have hm:=hw.1;unfold maxLen at hm;have hs:bR .sub .i64 left es.length=left-es.length:=dD (by omega);have hcE:ak es=es.length+bK es:=rfl;have hn:dO [es] left=if left<ak es then-1 else left-ak es:=by unfold dO;rw[eG]
 refine cb DU Tryz.func125 ?_
 intro O r F hO hr hF;cbv
 apply bD<;>intro hb<;>cbv
 ·repeat' first|apply By|(apply bD<;>intro hb<;>cbv)
  all_goals exact Wb
 have hb0:0<=left-es.length:=by
  (subst hO hr hF;(try simp only[nc]at*);(try simp only[ah,SS,sa,az]at*))
  rw[hs]at hb;exact hb
 clear hb;refine⟨[0,1,5],[],Int×Int,fun s=>match s with|(i,l)=>[.reg 5 (.j i),.reg 1 (.j l)],fun s=>0<=s.1/\s.1.toNat<=es.length/\0<=s.2/\s.2=left-es.length-bK (es.take s.1.toNat),fun s=>es.length-s.1.toNat,⟨(0,O.ar .sub .i64 left (O.zi (O.ln es))),?_,?_⟩,?_⟩
 ·(subst hO hr hF;(try simp only[nc]at*);(try simp only[ah,SS,sa,az]at*))
  rw[hs];exact⟨by omega,OF _,hb0,by simp[bK]⟩
 ·cbv
 ·rintro⟨i,l⟩ hi;replace hi:0<=i/\i.toNat<=es.length/\0<=l/\l=left-es.length-bK (es.take i.toNat):=hi;obtain⟨g0,g1,g2,g3⟩:=hi;cbv
  repeat' first|apply By|(apply bD<;>intro hb<;>cbv)|(refine ab (O.ar .add .i64 i 1,F.szN [O.gs es i 0] l) ?_ ?_ ?_;focus (cbv;done))
  all_goals(subst hO hr hF;(try simp only[nc]at*);(try simp only[ah,SS,sa,az]at*))
  all_goals have hle:=bS (es:=es) (n:=i.toNat)
  all_goals have hsz:=nJ (a:=[ap es i 0]) (left:=l)
  all_goals((have hsz2:0<=dO [ap es i 0] l->dO [ap es i 0] l=l-aQ [ap es i 0]:=uI);(try have hlt:i<es.length:=by assumption);(try have he:es.getD i.toNat []=[.s 2 (ap es i 0)]:=(ao hwf g0 hlt).symm);(try rw[eY (n:=es.length) g0 hlt (by omega)]);(try have hr0:Rw [tI,tI] (ap es i 0):=Rw.sub (fs:=[.sl [tI,tI]]) hw (by omega) rfl))
  all_goals exact V8
def k7 :EC:=fun F=>fun
 |[.one (.s 1 es)]=>some (fun _=>Rw [.sl [tI,tI]] es/\ak es<=1048576,[.one (.s 1 es)])
 |_=>none
theorem xX :ec 155 k7:=by
 intro _ _ _ h hp;dsimp only[k7,F0]at h;split at h<;>cases h
 rename_i es;obtain⟨hw,hlim⟩:=hp;have hwf:Wf [.s 2 []] es:=hw.wf;have hlen:=eA hlim;refine cb DU Tryz.func155 ?_
 intro O r F hO hr hF;cbv
 have h0z:cC es [.s 2 []] 0=O.rep (O.zi (O.ln es)) [.s 2 []]:=by
  subst hO;rw[dU];rfl
 refine⟨?_,?_,[0,3,4],[3],Int×aa,fun s=>[.reg 4 (.j s.1),.leaf 3 0 ⟨0,0,none,.own (.s 1 s.2)⟩],fun s=>0<=s.1/\s.1.toNat<=es.length/\s.2=cC es [.s 2 []] s.1.toNat,fun s=>es.length-s.1.toNat,⟨(0,O.rep (O.zi (O.ln es)) [.s 2 []]),?_,?_⟩,?_⟩
 ·subst hO;exact qd (b:=24) (show es.length*_<=_ by omega) (show es.length<=_ by omega)
 ·subst hO;exact⟨rfl,rfl⟩
 ·exact⟨by omega,OF _,h0z.symm⟩
 ·cbv
 ·rintro⟨i,m⟩ hi;replace hi:0<=i/\i.toNat<=es.length/\m=cC es [.s 2 []] i.toNat:=hi;obtain⟨g0,g1,hm⟩:=hi;cbv
  repeat' first|apply By|(apply bD<;>intro hb<;>cbv)|(refine ab (O.ar .add .i64 i 1,O.up (.s 1 m) [(O.ad 0 i,0)] [.s 2 (O.gs es i 0)]) ?_ ?_ ?_;focus (cbv;done))
  all_goals(subst hO hr hF;(try simp only[nc]at*);(try simp only[ah,SS,sa,az]at*);(try simp only[pE,adQ,ac4]at*);(try have hlt:i<es.length:=by assumption);(try have he:es.getD i.toNat []=[.s 2 (ap es i 0)]:=(ao hwf g0 hlt).symm);(try rw[eY (n:=es.length) g0 hlt (by omega)]);(try have hr0:Rw [tI,tI] (ap es i 0):=Rw.sub (fs:=[.sl [tI,tI]]) hw (by omega) rfl))
  all_goals exact V7
def kH :EC:=fun F=>fun
 |[.one (.s 1 es),d]=>some (fun _=>d=.one (.s 1 es)/\Rw [.sl [tI,tI]] es/\ak es<=1099511627776,[.k true])
 |_=>none
theorem xz :ec 185 kH:=by
 intro _ _ _ h hp;dsimp only[kH,F0]at h;split at h<;>cases h
 rename_i es d;obtain⟨rfl,hw,hlim⟩:=hp;have hwf:Wf [.s 2 []] es:=hw.wf;have hlen:=eA hlim;refine cb DU Tryz.func185 ?_
 intro O r F hO hr hF;cbv
 apply bD<;>intro hb<;>cbv
 ·(subst hO hr hF;(try simp only[nc]at*);(try simp only[ah,SS,sa,az]at*));exact absurd rfl hb
 ·clear hb;refine⟨[0,1,5],[],Int,fun i=>[.reg 5 (.j i)],fun i=>0<=i/\i.toNat<=es.length,fun i=>es.length-i.toNat,⟨0,?_,?_⟩,?_⟩;exact⟨by omega,OF _⟩
  ·cbv
  ·rintro i hi;replace hi:0<=i/\i.toNat<=es.length:=hi;obtain⟨g0,g1⟩:=hi;cbv
   repeat' first|apply By|(apply bD<;>intro hb<;>cbv)|(refine ab (O.ar .add .i64 i 1) ?_ ?_ ?_;focus (cbv;done))
   all_goals(subst hO hr hF;(try simp only[nc]at*);(try simp only[ah,SS,sa,az]at*);(try have hlt:i<es.length:=by assumption);(try have he:es.getD i.toNat []=[.s 2 (ap es i 0)]:=(ao hwf g0 hlt).symm);(try rw[eY (n:=es.length) g0 hlt (by omega)]);(try have hr0:Rw [tI,tI] (ap es i 0):=Rw.sub (fs:=[.sl [tI,tI]]) hw (by omega) rfl))
   all_goals exact V9
def iW :EM:=fun F=>fun
 |[.one (.s 1 es),.one (.v (.int .i64 k))]=>some (fun _=>Rw [.sl [tI,tI]] es/\ak es<=1099511627776/\0<=k/\aw [es] k<=1152921504606846976,[.s 1 (F.mkN es k)],[.j (F.kN [es] k)])
 |_=>none
theorem tM :em 192 iW:=by
 intro _ _ _ _ h hp;dsimp only[iW,F0]at h;split at h<;>cases h
 rename_i es k;obtain⟨hw,hlim,hk0,hkb⟩:=hp;have hwf:Wf [.s 2 []] es:=hw.wf;have hlen:=eA hlim;refine mb IV [(0,0)] Tryz.func192 ?_
 intro O r os F hO hr hos hF;cbv
 refine⟨[0,1,5],[0],Int×Int×aa,fun s=>match s with|(i,k',cur)=>[.reg 5 (.j i),.reg 1 (.j k'),.leaf 0 0 ⟨0,0,some 0,.own (.s 1 cur)⟩],fun s=>0<=s.1/\s.1.toNat<=es.length/\s.2.1=fT es k s.1.toNat/\s.2.2=gF es k s.1.toNat,fun s=>es.length-s.1.toNat,⟨(0,k,es),?_,?_⟩,?_⟩;exact⟨by omega,OF _,bT.symm,eS.symm⟩
 ·cbv
 ·rintro⟨i,k',cur⟩ hi;replace hi:0<=i/\i.toNat<=es.length/\k'=fT es k i.toNat/\cur=gF es k i.toNat:=hi;obtain⟨g0,g1,hk',hc⟩:=hi;cbv
  repeat' first|apply By|(apply bD<;>intro hb<;>cbv)|(refine ab (O.ar .add .i64 i 1,F.kN [O.ps (.s 1 (cur)) [(O.ad 0 i,0)]] (k'),O.up (.s 1 (cur)) [(O.ad 0 i,0)] [.s 2 (F.mkN (O.ps (.s 1 (cur)) [(O.ad 0 i,0)]) (k'))]) ?_ ?_ ?_;focus (cbv;done))
  all_goals((try subst hos);subst hO hr hF;(try simp only[nc]at*);(try simp only[ah,SS,sa,az]at*);(try have hlt:i<es.length:=by assumption);(try have he:es.getD i.toNat []=[.s 2 (ap es i 0)]:=(ao hwf g0 hlt).symm);(try have hcg:cur.getD i.toNat []=[.s 2 (ap es i 0)]:=by rw[hc,eR g1];exact he);(try rw[eY (n:=es.length) g0 hlt (by omega)]);(try have hlt':i.toNat<es.length:=by omega);(try have hr0:Rw [tI,tI] (ap es i 0):=Rw.sub (fs:=[.sl [tI,tI]]) hw (by omega) rfl))
  all_goals exact zq3
def iR :EC:=fun F=>fun
 |[.one (.s 1 ms),.one (.v (.int .i64 k))]=>some (fun _=>∃ es,ms=aT es k/\Rw [.sl [tI,tI]] es/\ak es<=1099511627776/\0<=k/\aw [ms] k<=1152921504606846976,[.j (F.kN [ms] k)])
 |_=>none
theorem tD :ec 198 iR:=by
 intro _ _ _ h hp;dsimp only[iR,F0]at h;split at h<;>cases h
 rename_i ms k;obtain⟨es,hms,hw,hlim,hk0,hkb⟩:=hp;have hlen:=eA hlim;have hml:ms.length=es.length:=by rw[hms];exact cr
 have hkk:aw [ms] k=aw [es] k:=by rw[hms];exact pZ
 have hwm:Wf [.s 2 []] ms:=by rw[hms];exact dS hw
 have hwf:Wf [.s 2 []] es:=hw.wf;have hat:∀ n,n<es.length->ms.getD n []=(gX (es.getD n []) (fT es k n)).1:=fun n hn=>by rw[hms];exact li hn
 refine cb IV Tryz.func198 ?_
 intro O r F hO hr hF;cbv
 refine⟨[0,1,5],[],Int×Int,fun s=>match s with|(i,k')=>[.reg 5 (.j i),.reg 1 (.j k')],fun s=>0<=s.1/\s.1.toNat<=es.length/\s.2=fT es k s.1.toNat,fun s=>es.length-s.1.toNat,⟨(0,k),?_,?_⟩,?_⟩;exact⟨by omega,OF _,bT.symm⟩
 ·cbv
 ·rintro⟨i,k'⟩ hi;replace hi:0<=i/\i.toNat<=es.length/\k'=fT es k i.toNat:=hi;obtain⟨g0,g1,hk'⟩:=hi;cbv
  repeat' first|apply By|(apply bD<;>intro hb<;>cbv)|(refine ab (O.ar .add .i64 i 1,F.kN [O.gs ms i 0] (k')) ?_ ?_ ?_;focus (cbv;done))
  all_goals(subst hO hr hF;(try simp only[nc]at*);(try simp only[ah,SS,sa,az]at*);(try have hltm:i<ms.length:=by assumption);(try have hlt:i<es.length:=by omega);(try have he:es.getD i.toNat []=[.s 2 (ap es i 0)]:=(ao hwf g0 hlt).symm);(try rw[eY (n:=es.length) g0 hlt (by omega)]);(try have hlt':i.toNat<es.length:=by omega);(try have hr0:Rw [tI,tI] (ap es i 0):=Rw.sub (fs:=[.sl [tI,tI]]) hw (by omega) rfl);(try have hct:=dq (es:=es) (n:=i.toNat) (by omega);rw[he]at hct;simp only[cS,fQ,ac0,adt]at hct);(try have hks:=dV (es:=es) (k:=k) hlt';rw[he]at hks;simp only[gX,iD]at hks);(try have hem:([.s 2 (ap ms i 0)]:ay)=_:=(ao hwm g0 hltm).trans (hat i.toNat hlt');rw[he]at hem;simp only[gX,iD,adW,L.v.injEq,adY,adT,L.s.injEq,true_and,and_true]at hem))
  all_goals exact zq5
abbrev Lg :cW:=eF (fun F f=>match f with|125=>kV F|155=>k7 F|185=>kH F|126=>gy F|156=>gz F|186=>gx F|_=>fun _=>none) (by
 intro f;dsimp only;split;exact xP;exact xX;exact xz;exact lR;exact lS;exact lQ;exact cX)
abbrev QU :cW:={
 Φ:=qj
 F0:=F0
 ct:=fun F f=>match f with|198=>iR F|197=>fA F|_=>fun _=>none
 hc:=(by
  intro f;dsimp only;split;exact tD;exact jt;exact cX)
 mt:=fun F f=>match f with|192=>some (iW F)|191=>some (fB F)|_=>none
 hm:=(by
  intro f mk h;dsimp only at h;split at h<;>cases h
  exact tM;exact ju)}
def nY :EC:=fun F=>fun
 |[.agg [.s 1 a0,.s 1 a1],.one (.v (.int .i64 left))]=>some (fun _=>Rw [.sl [tI,tI]] a0/\Rw [.sl [tI]] a1/\0<=left/\left<=1048576,[.j (F.szN [a0,a1] left)])
 |_=>none
theorem Cf :ec 38 nY:=by
 intro _ _ _ h hp;dsimp only[nY,F0]at h;split at h<;>cases h
 rename_i a0 a1 left;obtain⟨w0,w1,h0,h1⟩:=hp;refine cb Lg Tryz.func38 ?_
 intro O r F hO hr hF;cbv
 repeat' first|apply By|(apply bD<;>intro hb<;>cbv)
 all_goals(subst hO hr hF;(try simp only[nc]at*);(try simp only[ah,SS,sa,az]at*))
 all_goals iterate 1 (try simp(disch:=assumption) only[nI,List.cons_append,List.nil_append]at*)
 all_goals exact aa9
def od :EC:=fun F=>fun
 |[.agg [.s 1 a0,.s 1 a1]]=>some (fun _=>Rw [.sl [tI,tI]] a0/\Rw [.sl [tI]] a1/\aQ [a0,a1]<=1048576,[.agg [.s 1 a0,.s 1 a1]])
 |_=>none
theorem Cj :ec 50 od:=by
 intro _ _ _ h hp;dsimp only[od,F0]at h;split at h<;>cases h
 rename_i a0 a1;obtain⟨w0,w1,hlim⟩:=hp;simp only[aQ,ac0]at hlim;refine cb Lg Tryz.func50 ?_
 exact aa7
def nU :EC:=fun F=>fun
 |[.agg [.s 1 a0,.s 1 a1],d]=>some (fun _=>d=.agg [.s 1 a0,.s 1 a1]/\Rw [.sl [tI,tI]] a0/\Rw [.sl [tI]] a1/\aQ [a0,a1]<=1099511627776,[.k true])
 |_=>none
theorem B9 :ec 62 nU:=by
 intro _ _ _ h hp;dsimp only[nU,F0]at h;split at h<;>cases h
 rename_i a0 a1 d;obtain⟨rfl,w0,w1,hlim⟩:=hp;simp only[aQ,ac0]at hlim;refine cb Lg Tryz.func62 ?_
 exact aa6
def kM :EM:=fun F=>fun
 |[.agg [.s 1 a0,.s 1 a1],.one (.v (.int .i64 k))]=>some (fun _=>Rw [.sl [tI,tI]] a0/\Rw [.sl [tI]] a1/\aQ [a0,a1]<=1099511627776/\0<=k/\aw [a0,a1] k<=1152921504606846976,[.s 1 (F.mkN a0 k),.s 1 (F.mkN a1 (F.kN [a0] k))],[.j (F.kN [a0,a1] k)])
 |_=>none
theorem xG :em 71 kM:=by
 intro _ _ _ _ h hp;dsimp only[kM,F0]at h;split at h<;>cases h
 rename_i a0 a1 k;obtain⟨w0,w1,hlim,hk0,hkb⟩:=hp;simp only[aQ,ac0]at hlim;have p0:aw [a0] k<=aw [a0,a1] k/\0<=aw [a0] k:=bJ (b:=[a1]) hk0;have p1:aw [a0,a1] k<=aw [a0,a1] k/\0<=aw [a0,a1] k:=bJ (b:=[]) hk0;refine mb QU [(2,0),(2,1)] Tryz.func71 ?_
 exact QI
def kI :EC:=fun F=>fun
 |[.agg [.s 1 m0,.s 1 m1],.one (.v (.int .i64 k))]=>some (fun _=>(∃ a0,m0=aT a0 k/\Rw [.sl [tI,tI]] a0/\ak a0<=1099511627776)/\(∃ a1,m1=aT a1 (aw [m0] k)/\Rw [.sl [tI]] a1/\ak a1<=1099511627776)/\0<=k/\aw [m0,m1] k<=1152921504606846976,[.j (F.kN [m0,m1] k)])
 |_=>none
theorem xC :ec 80 kI:=by
 intro _ _ _ h hp;dsimp only[kI,F0]at h;split at h<;>cases h
 rename_i m0 m1 k;obtain⟨e0,e1,hk0,hkb⟩:=hp;have p0:aw [m0] k<=aw [m0,m1] k/\0<=aw [m0] k:=bJ (b:=[m1]) hk0;have p1:aw [m0,m1] k<=aw [m0,m1] k/\0<=aw [m0,m1] k:=bJ (b:=[]) hk0;refine cb QU Tryz.func80 ?_
 exact aaP
abbrev Lj :cW:=eF (fun F f=>match f with|127=>cP F|157=>cQ F|187=>cO F|_=>fun _=>none) (by
 intro f;dsimp only;split;exact xR;exact xZ;exact xB;exact cX)
abbrev QW :cW:={
 Φ:=qj
 F0:=F0
 ct:=fun F f=>match f with|199=>cu F|_=>fun _=>none
 hc:=(by
  intro f;dsimp only;split;exact tF;exact cX)
 mt:=fun F f=>match f with|193=>some (cv F)|_=>none
 hm:=(by
  intro f mk h;dsimp only at h;split at h<;>cases h
  exact tO)}
def oc :EC:=fun F=>fun
 |[.agg [.v (.int .i64 a0),.s 3 a1],.one (.v (.int .i64 left))]=>some (fun _=>Rw [tI,tI,tI] a1/\0<=left/\left<=1048576,[.j (F.szN [a1] left)])
 |_=>none
theorem Ci :ec 39 oc:=by
 intro _ _ _ h hp;dsimp only[oc,F0]at h;split at h<;>cases h
 rename_i a0 a1 left;obtain⟨w0,h0,h1⟩:=hp;refine cb Lj Tryz.func39 ?_
 exact aa0
def oi :EC:=fun F=>fun
 |[.agg [.v (.int .i64 a0),.s 3 a1]]=>some (fun _=>Rw [tI,tI,tI] a1/\aQ [a1]<=1048576,[.agg [.i a0,.s 3 a1]])
 |_=>none
theorem Cn :ec 51 oi:=by
 intro _ _ _ h hp;dsimp only[oi,F0]at h;split at h<;>cases h
 rename_i a0 a1;obtain⟨w0,hlim⟩:=hp;simp only[aQ,ac0]at hlim;refine cb Lj Tryz.func51 ?_
 exact yw
def nX :EC:=fun F=>fun
 |[.agg [.v (.int .i64 a0),.s 3 a1],d]=>some (fun _=>d=.agg [.i a0,.s 3 a1]/\Rw [tI,tI,tI] a1/\aQ [a1]<=1099511627776,[.k true])
 |_=>none
theorem Cd :ec 63 nX:=by
 intro _ _ _ h hp;dsimp only[nX,F0]at h;split at h<;>cases h
 rename_i a0 a1 d;obtain⟨rfl,w0,hlim⟩:=hp;simp only[aQ,ac0]at hlim;refine cb Lj Tryz.func63 ?_
 exact yw
def kQ :EM:=fun F=>fun
 |[.agg [.v (.int .i64 a0),.s 3 a1],.one (.v (.int .i64 k))]=>some (fun _=>Rw [tI,tI,tI] a1/\aQ [a1]<=1099511627776/\0<=k/\aw [a1] k<=1152921504606846976,[.s 3 (F.mkN a1 k)],[.j (F.kN [a1] k)])
 |_=>none
theorem xJ :em 72 kQ:=by
 intro _ _ _ _ h hp;dsimp only[kQ,F0]at h;split at h<;>cases h
 rename_i a0 a1 k;obtain⟨w0,hlim,hk0,hkb⟩:=hp;simp only[aQ,ac0]at hlim;have p0:aw [a1] k<=aw [a1] k/\0<=aw [a1] k:=bJ (b:=[]) hk0;refine mb QW [(2,1)] Tryz.func72 ?_
 exact QL
def kL :EC:=fun F=>fun
 |[.agg [.v (.int .i64 m0),.s 3 m1],.one (.v (.int .i64 k))]=>some (fun _=>(∃ a1,m1=aT a1 k/\Rw [tI,tI,tI] a1/\ak a1<=1099511627776)/\0<=k/\aw [m1] k<=1152921504606846976,[.j (F.kN [m1] k)])
 |_=>none
theorem xF :ec 81 kL:=by
 intro _ _ _ h hp;dsimp only[kL,F0]at h;split at h<;>cases h
 rename_i m0 m1 k;obtain⟨e0,hk0,hkb⟩:=hp;have p0:aw [m1] k<=aw [m1] k/\0<=aw [m1] k:=bJ (b:=[]) hk0;refine cb QW Tryz.func81 ?_
 exact QJ
abbrev Li :cW:=eF (fun F f=>match f with|123=>hH F|149=>hK F|179=>hE F|_=>fun _=>none) (by
 intro f;dsimp only;split;exact nN;exact nO;exact nM;exact cX)
abbrev QV :cW:={
 Φ:=qj
 F0:=F0
 ct:=fun F f=>match f with|196=>fR F|_=>fun _=>none
 hc:=(by
  intro f;dsimp only;split;exact kq;exact cX)
 mt:=fun F f=>match f with|190=>some (fS F)|_=>none
 hm:=(by
  intro f mk h;dsimp only at h;split at h<;>cases h
  exact ku)}
def oa :EC:=fun F=>fun
 |[.agg [.v (.int .i64 a0),.v (.int .i64 a1),.s 1 a2],.one (.v (.int .i64 left))]=>some (fun _=>Rw [tI] a2/\0<=left/\left<=1048576,[.j (F.szN [a2] left)])
 |_=>none
theorem Ch :ec 128 oa:=by
 intro _ _ _ h hp;dsimp only[oa,F0]at h;split at h<;>cases h
 rename_i a0 a1 a2 left;obtain⟨w0,h0,h1⟩:=hp;refine cb Li Tryz.func128 ?_
 exact aa1
def oh :EC:=fun F=>fun
 |[.agg [.v (.int .i64 a0),.v (.int .i64 a1),.s 1 a2]]=>some (fun _=>Rw [tI] a2/\aQ [a2]<=1048576,[.agg [.i a0,.i a1,.s 1 a2]])
 |_=>none
theorem Cl :ec 158 oh:=by
 intro _ _ _ h hp;dsimp only[oh,F0]at h;split at h<;>cases h
 rename_i a0 a1 a2;obtain⟨w0,hlim⟩:=hp;simp only[aQ,ac0]at hlim;refine cb Li Tryz.func158 ?_
 exact yw
def nW :EC:=fun F=>fun
 |[.agg [.v (.int .i64 a0),.v (.int .i64 a1),.s 1 a2],d]=>some (fun _=>d=.agg [.i a0,.i a1,.s 1 a2]/\Rw [tI] a2/\aQ [a2]<=1099511627776,[.k true])
 |_=>none
theorem Cb :ec 188 nW:=by
 intro _ _ _ h hp;dsimp only[nW,F0]at h;split at h<;>cases h
 rename_i a0 a1 a2 d;obtain⟨rfl,w0,hlim⟩:=hp;simp only[aQ,ac0]at hlim;refine cb Li Tryz.func188 ?_
 exact yw
def kP :EM:=fun F=>fun
 |[.agg [.v (.int .i64 a0),.v (.int .i64 a1),.s 1 a2],.one (.v (.int .i64 k))]=>some (fun _=>Rw [tI] a2/\aQ [a2]<=1099511627776/\0<=k/\aw [a2] k<=1152921504606846976,[.s 1 (F.mkN a2 k)],[.j (F.kN [a2] k)])
 |_=>none
theorem xI :em 194 kP:=by
 intro _ _ _ _ h hp;dsimp only[kP,F0]at h;split at h<;>cases h
 rename_i a0 a1 a2 k;obtain⟨w0,hlim,hk0,hkb⟩:=hp;simp only[aQ,ac0]at hlim;have p0:aw [a2] k<=aw [a2] k/\0<=aw [a2] k:=bJ (b:=[]) hk0;refine mb QV [(2,2)] Tryz.func194 ?_
 exact QL
def kK :EC:=fun F=>fun
 |[.agg [.v (.int .i64 m0),.v (.int .i64 m1),.s 1 m2],.one (.v (.int .i64 k))]=>some (fun _=>(∃ a2,m2=aT a2 k/\Rw [tI] a2/\ak a2<=1099511627776)/\0<=k/\aw [m2] k<=1152921504606846976,[.j (F.kN [m2] k)])
 |_=>none
theorem xE :ec 200 kK:=by
 intro _ _ _ h hp;dsimp only[kK,F0]at h;split at h<;>cases h
 rename_i m0 m1 m2 k;obtain⟨e0,hk0,hkb⟩:=hp;have p0:aw [m2] k<=aw [m2] k/\0<=aw [m2] k:=bJ (b:=[]) hk0;refine cb QV Tryz.func200 ?_
 exact QJ
abbrev Tz :cW:=eF (fun F f=>match f with|128=>oa F|158=>oh F|188=>nW F|_=>fun _=>none) (by
 intro f;dsimp only;split;exact Ch;exact Cl;exact Cb;exact cX)
abbrev WL :cW:={
 Φ:=qj
 F0:=F0
 ct:=fun F f=>match f with|200=>kK F|_=>fun _=>none
 hc:=(by
  intro f;dsimp only;split;exact xE;exact cX)
 mt:=fun F f=>match f with|194=>some (kP F)|_=>none
 hm:=(by
  intro f mk h;dsimp only at h;split at h<;>cases h
  exact xI)}
def pj :EC:=fun F=>fun
 |[.agg [.v (.int .i64 a0),.v (.int .i64 a1),.s 1 a2,.v (.int .i64 a3),.v (.int .i64 a4)],.one (.v (.int .i64 left))]=>some (fun _=>Rw [tI] a2/\0<=left/\left<=1048576,[.j (F.szN [a2] left)])
 |_=>none
theorem D7 :ec 40 pj:=by
 intro _ _ _ h hp;dsimp only[pj,F0]at h;split at h<;>cases h
 rename_i a0 a1 a2 a3 a4 left;obtain⟨w0,h0,h1⟩:=hp;refine cb Tz Tryz.func40 ?_
 exact aa1
def pk :EC:=fun F=>fun
 |[.agg [.v (.int .i64 a0),.v (.int .i64 a1),.s 1 a2,.v (.int .i64 a3),.v (.int .i64 a4)]]=>some (fun _=>Rw [tI] a2/\aQ [a2]<=1048576,[.agg [.i a0,.i a1,.s 1 a2,.i a3,.i a4]])
 |_=>none
theorem D8 :ec 52 pk:=by
 intro _ _ _ h hp;dsimp only[pk,F0]at h;split at h<;>cases h
 rename_i a0 a1 a2 a3 a4;obtain⟨w0,hlim⟩:=hp;simp only[aQ,ac0]at hlim;refine cb Tz Tryz.func52 ?_
 exact yw
def pe :EC:=fun F=>fun
 |[.agg [.v (.int .i64 a0),.v (.int .i64 a1),.s 1 a2,.v (.int .i64 a3),.v (.int .i64 a4)],d]=>some (fun _=>d=.agg [.i a0,.i a1,.s 1 a2,.i a3,.i a4]/\Rw [tI] a2/\aQ [a2]<=1099511627776,[.k true])
 |_=>none
theorem D5 :ec 64 pe:=by
 intro _ _ _ h hp;dsimp only[pe,F0]at h;split at h<;>cases h
 rename_i a0 a1 a2 a3 a4 d;obtain⟨rfl,w0,hlim⟩:=hp;simp only[aQ,ac0]at hlim;refine cb Tz Tryz.func64 ?_
 exact yw
def mr :EM:=fun F=>fun
 |[.agg [.v (.int .i64 a0),.v (.int .i64 a1),.s 1 a2,.v (.int .i64 a3),.v (.int .i64 a4)],.one (.v (.int .i64 k))]=>some (fun _=>Rw [tI] a2/\aQ [a2]<=1099511627776/\0<=k/\aw [a2] k<=1152921504606846976,[.s 1 (F.mkN a2 k)],[.j (F.kN [a2] k)])
 |_=>none
theorem zA :em 73 mr:=by
 intro _ _ _ _ h hp;dsimp only[mr,F0]at h;split at h<;>cases h
 rename_i a0 a1 a2 a3 a4 k;obtain⟨w0,hlim,hk0,hkb⟩:=hp;simp only[aQ,ac0]at hlim;have p0:aw [a2] k<=aw [a2] k/\0<=aw [a2] k:=bJ (b:=[]) hk0;refine mb WL [(2,2)] Tryz.func73 ?_
 exact QL
def mq :EC:=fun F=>fun
 |[.agg [.v (.int .i64 m0),.v (.int .i64 m1),.s 1 m2,.v (.int .i64 m3),.v (.int .i64 m4)],.one (.v (.int .i64 k))]=>some (fun _=>(∃ a2,m2=aT a2 k/\Rw [tI] a2/\ak a2<=1099511627776)/\0<=k/\aw [m2] k<=1152921504606846976,[.j (F.kN [m2] k)])
 |_=>none
theorem zz :ec 82 mq:=by
 intro _ _ _ h hp;dsimp only[mq,F0]at h;split at h<;>cases h
 rename_i m0 m1 m2 m3 m4 k;obtain⟨e0,hk0,hkb⟩:=hp;have p0:aw [m2] k<=aw [m2] k/\0<=aw [m2] k:=bJ (b:=[]) hk0;refine cb WL Tryz.func82 ?_
 exact QJ
end Go.V