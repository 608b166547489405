/- Contracts. -/
import Derived.Test.YtpldpilhgjpkjaaGreatWFnv
set_option linter.all false
open Go
open And renaming intro->Zb
open Int renaming toNat_natCast->ZA
open IntKind renaming i64->Za
open List renaming length_replicate->Z9
open List.cons renaming injEq->Yg
open Nat renaming zero_le->Ze,add_zero->Zi,zero_add->Zx
open Value.bool renaming injEq->Yl
open Value.int renaming injEq->Yk
namespace Go.V
open Go Go.Proofs
set_option maxRecDepth 1000000
set_option maxHeartbeats 8000000
def pK:EC:=fun F=>fun
 |[.agg [.v (.int Za a0),.v (.int Za a1),.v (.int Za a2),.v (.int Za a3)]]=>some (fun _=>True,[.agg [.i a0,.i a1,.i a2,.i a3]])
 |_=>none
def ED:ec 221 pK:=by
 intro _ _ _ h hp;dsimp only[pK,F0]at h;split at h<;>cases h
 rename_i a0 a1 a2 a3;refine cb nB Tryz.func221 ?_
 exact y8
def pH:EC:=fun F=>fun
 |[.agg [.v (.int Za a0),.v (.int Za a1),.v (.int Za a2),.v (.int Za a3)],d]=>some (fun _=>d=.agg [.i a0,.i a1,.i a2,.i a3],[.k true])
 |_=>none
def Ez:ec 232 pH:=by
 intro _ _ _ h hp;dsimp only[pH,F0]at h;split at h<;>cases h
 rename_i a0 a1 a2 a3 d;subst hp;refine cb nB Tryz.func232 ?_
 exact y8
abbrev LL:cT:=dG (fun F f=>match f with|221=>pK F|232=>pH F|_=>fun _=>none) (by
 intro f;dsimp only;split;exact ED;exact Ez;exact cX)
def nZ:EC:=fun F=>fun
 |[.one (.s 4 es),.one (.v (.int Za left))]=>some (fun _=>Rw [tI,tI,tI,tI] es/\0<=left/\left<=1048576,[.j (F.szN [es] left)])
 |_=>none
def CC:ec 85 nZ:=by
 intro _ _ _ h hp;dsimp only[nZ,F0]at h;split at h<;>cases h
 rename_i es left;obtain⟨hw,h0,h1⟩:=hp;have hc:au es=es.length:=hw.cnt rfl;have hm:=hw.1;unfold maxLen at hm;have hs:bK .sub Za left es.length=left-es.length:=dp Uc;have hn:dF [es] left=if left<es.length then-1 else left-es.length:=by unfold dF;rw[eA,hc]
 refine cb LL Tryz.func85 ?_
 exact FZ
def oj:EC:=fun F=>fun
 |[.one (.s 4 es)]=>some (fun _=>Rw [tI,tI,tI,tI] es/\au es<=1048576,[.one (.s 4 es)])
 |_=>none
def CI:ec 98 oj:=by
 intro _ _ _ h hp;dsimp only[oj,F0]at h;split at h<;>cases h
 rename_i es;obtain⟨hw,hlim⟩:=hp;have hwf:Wf [.i 0,.i 0,.i 0,.i 0] es:=hw.wf;have hlen:=d8 hlim;refine cb LL Tryz.func98 ?_
 intro O r F hO hr hF;cbv
 have h0z:cE es [.i 0,.i 0,.i 0,.i 0] 0=O.rep (O.zi (O.ln es)) [.i 0,.i 0,.i 0,.i 0]:=by
  subst hO;rw[dE];rfl
 refine⟨?_,?_,[0,3,4],[3],Int×ab,fun s=>[.reg 4 (.j s.1),.leaf 3 0 ⟨0,0,none,.own (.s 4 s.2)⟩],fun s=>0<=s.1/\s.1.toNat<=es.length/\s.2=cE es [.i 0,.i 0,.i 0,.i 0] s.1.toNat,fun s=>es.length-s.1.toNat,⟨(0,O.rep (O.zi (O.ln es)) [.i 0,.i 0,.i 0,.i 0]),?_,?_⟩,?_⟩
 ·subst hO;exact qJ (b:=32) (show es.length*_<=_ by omega) (show es.length<=_ by omega)
 ·subst hO;exact⟨rfl,rfl⟩
 ·exact⟨Uc,Ze _,h0z.symm⟩
 ·cbv
 ·rintro⟨i,m⟩ hi;replace hi:0<=i/\i.toNat<=es.length/\m=cE es [.i 0,.i 0,.i 0,.i 0] i.toNat:=hi;obtain⟨g0,g1,hm⟩:=hi;cbv
  repeat' first|apply Zb|(apply bC<;>intro hb<;>cbv)|(refine af (O.ar .add Za i 1,O.up (.s 4 m) [(O.ad 0 i,0)] [.i (O.gi es i 0),.i (O.gi es i 1),.i (O.gi es i 2),.i (O.gi es i 3)]) ?_ ?_ ?_;focus (cbv;done))
  all_goals(subst hO hr hF;(try simp only[nc]at*);(try simp only[ah,SS,sa,az]at*);(try simp only[oJ,Z9,ZA]at*);(try have hlt:i<es.length:=by assumption);(try have he:es.getD i.toNat []=[.i (ag es i 0),.i (ag es i 1),.i (ag es i 2),.i (ag es i 3)]:=(am hwf g0 hlt).symm))
  all_goals exact Ro
def nU:EC:=fun F=>fun
 |[.one (.s 4 es),d]=>some (fun _=>d=.one (.s 4 es)/\Rw [tI,tI,tI,tI] es/\au es<=1099511627776,[.k true])
 |_=>none
def Ct:ec 107 nU:=by
 intro _ _ _ h hp;dsimp only[nU,F0]at h;split at h<;>cases h
 rename_i es d;obtain⟨rfl,hw,hlim⟩:=hp;have hwf:Wf [.i 0,.i 0,.i 0,.i 0] es:=hw.wf;have hlen:=d8 hlim;refine cb LL Tryz.func107 ?_
 intro O r F hO hr hF;cbv
 apply bC<;>intro hb<;>cbv
 ·(subst hO hr hF;(try simp only[nc]at*);(try simp only[ah,SS,sa,az]at*));exact absurd rfl hb
 ·clear hb;refine⟨[0,1,5],[],Int,fun i=>[.reg 5 (.j i)],fun i=>0<=i/\i.toNat<=es.length,fun i=>es.length-i.toNat,⟨0,?_,?_⟩,?_⟩;exact⟨Uc,Ze _⟩
  ·cbv
  ·rintro i hi;replace hi:0<=i/\i.toNat<=es.length:=hi;obtain⟨g0,g1⟩:=hi;cbv
   repeat' first|apply Zb|(apply bC<;>intro hb<;>cbv)|(refine af (O.ar .add Za i 1) ?_ ?_ ?_;focus (cbv;done))
   all_goals(subst hO hr hF;(try simp only[nc]at*);(try simp only[ah,SS,sa,az]at*);(try have hlt:i<es.length:=by assumption);(try have he:es.getD i.toNat []=[.i (ag es i 0),.i (ag es i 1),.i (ag es i 2),.i (ag es i 3)]:=(am hwf g0 hlt).symm))
   all_goals exact zq8
def kI:EM:=fun F=>fun
 |[.one (.s 4 es),.one (.v (.int Za k))]=>some (fun _=>Rw [tI,tI,tI,tI] es/\au es<=1099511627776/\0<=k/\bj [es] k<=1152921504606846976,[.s 4 (F.mkN es k)],[.j (F.kN [es] k)])
 |_=>none
def yg:em 116 kI:=by
 intro _ _ _ _ h hp;dsimp only[kI,F0]at h;split at h<;>cases h
 rename_i es k;obtain⟨hw,hlim,hk0,hkb⟩:=hp;have hwf:Wf [.i 0,.i 0,.i 0,.i 0] es:=hw.wf;have hlen:=d8 hlim;refine mb nB [(0,0)] Tryz.func116 ?_
 intro O r os F hO hr hos hF;cbv
 refine⟨[0,1,5],[0],Int×Int×ab,fun s=>match s with|(i,k',cur)=>[.reg 5 (.j i),.reg 1 (.j k'),.leaf 0 0 ⟨0,0,some 0,.own (.s 4 cur)⟩],fun s=>0<=s.1/\s.1.toNat<=es.length/\s.2.1=fL es k s.1.toNat/\s.2.2=gA es k s.1.toNat,fun s=>es.length-s.1.toNat,⟨(0,k,es),?_,?_⟩,?_⟩;exact⟨Uc,Ze _,bS.symm,eO.symm⟩
 ·cbv
 ·rintro⟨i,k',cur⟩ hi;replace hi:0<=i/\i.toNat<=es.length/\k'=fL es k i.toNat/\cur=gA es k i.toNat:=hi;obtain⟨g0,g1,hk',hc⟩:=hi;cbv
  repeat' first|apply Zb|(apply bC<;>intro hb<;>cbv)|(refine af (O.ar .add Za i 1,O.ar .add Za (O.ar .add Za (O.ar .add Za (O.ar .add Za (k') 1) 1) 1) 1,O.up (.s 4 (O.up (.s 4 (O.up (.s 4 (O.up (.s 4 (cur)) [(O.ad 0 i,0)] [.i (k')])) [(O.ad 0 i,1)] [.i (O.ar .add Za (k') 1)])) [(O.ad 0 i,2)] [.i (O.ar .add Za (O.ar .add Za (k') 1) 1)])) [(O.ad 0 i,3)] [.i (O.ar .add Za (O.ar .add Za (O.ar .add Za (k') 1) 1) 1)]) ?_ ?_ ?_;focus (cbv;done))
  all_goals((try subst hos);subst hO hr hF;(try simp only[nc]at*);(try simp only[ah,SS,sa,az]at*);(try have hlt:i<es.length:=by assumption);(try have he:es.getD i.toNat []=[.i (ag es i 0),.i (ag es i 1),.i (ag es i 2),.i (ag es i 3)]:=(am hwf g0 hlt).symm);(try have hcg:cur.getD i.toNat []=[.i (ag es i 0),.i (ag es i 1),.i (ag es i 2),.i (ag es i 3)]:=by rw[hc,eN g1];exact he))
  all_goals exact zq0
def kD:EC:=fun F=>fun
 |[.one (.s 4 ms),.one (.v (.int Za k))]=>some (fun _=>∃ es,ms=dL es k/\Rw [tI,tI,tI,tI] es/\au es<=1099511627776/\0<=k/\bj [ms] k<=1152921504606846976,[.j (F.kN [ms] k)])
 |_=>none
def yb:ec 125 kD:=by
 intro _ _ _ h hp;dsimp only[kD,F0]at h;split at h<;>cases h
 rename_i ms k;obtain⟨es,hms,hw,hlim,hk0,hkb⟩:=hp;have hlen:=d8 hlim;have hml:ms.length=es.length:=by rw[hms];exact cF
 have hkk:bj [ms] k=bj [es] k:=by rw[hms];exact qH
 have hwm:Wf [.i 0,.i 0,.i 0,.i 0] ms:=by rw[hms];exact dC hw
 have hwf:Wf [.i 0,.i 0,.i 0,.i 0] es:=hw.wf;have hat:∀ n,n<es.length->ms.getD n []=(gQ (es.getD n []) (fL es k n)).1:=fun n hn=>by rw[hms];exact kZ hn
 refine cb nB Tryz.func125 ?_
 intro O r F hO hr hF;cbv
 refine⟨[0,1,5],[],Int×Int,fun s=>match s with|(i,k')=>[.reg 5 (.j i),.reg 1 (.j k')],fun s=>0<=s.1/\s.1.toNat<=es.length/\s.2=fL es k s.1.toNat,fun s=>es.length-s.1.toNat,⟨(0,k),?_,?_⟩,?_⟩;exact⟨Uc,Ze _,bS.symm⟩
 ·cbv
 ·rintro⟨i,k'⟩ hi;replace hi:0<=i/\i.toNat<=es.length/\k'=fL es k i.toNat:=hi;obtain⟨g0,g1,hk'⟩:=hi;cbv
  repeat' first|apply Zb|(apply bC<;>intro hb<;>cbv)|(refine af (O.ar .add Za i 1,O.ar .add Za (O.ar .add Za (O.ar .add Za (O.ar .add Za (k') 1) 1) 1) 1) ?_ ?_ ?_;focus (cbv;done))
  all_goals(subst hO hr hF;(try simp only[nc]at*);(try simp only[ah,SS,sa,az]at*);(try have hltm:i<ms.length:=by assumption);(try have hlt:i<es.length:=by omega);(try have he:es.getD i.toNat []=[.i (ag es i 0),.i (ag es i 1),.i (ag es i 2),.i (ag es i 3)]:=(am hwf g0 hlt).symm);(try rw[eT (n:=es.length) g0 hlt Uc]);(try have hlt':i.toNat<es.length:=by omega);(try have hct:=dk (es:=es) (n:=i.toNat) Uc;rw[he]at hct;simp only[dO,gW,Zi,Zx]at hct);(try have hks:=dJ (es:=es) (k:=k) hlt';rw[he]at hks;simp only[gQ,iy]at hks);(try have hem:([.i (ag ms i 0),.i (ag ms i 1),.i (ag ms i 2),.i (ag ms i 3)]:ax)=_:=(am hwm g0 hltm).trans (hat i.toNat hlt');rw[he]at hem;simp only[gQ,iy,Yg,L.v.injEq,Yk,Yl,L.s.injEq,true_and,and_true]at hem))
  all_goals exact zq1
def db:EC:=fun F=>fun
 |[.agg [.v (.int Za a0),.v (.int Za a1),.v (.int Za a2)]]=>some (fun _=>True,[.agg [.i a0,.i a1,.i a2]])
 |_=>none
def Ay:ec 317 db:=by
 intro _ _ _ h hp;dsimp only[db,F0]at h;split at h<;>cases h
 rename_i a0 a1 a2;refine cb nB Tryz.func317 ?_
 exact y8
def da:EC:=fun F=>fun
 |[.agg [.v (.int Za a0),.v (.int Za a1),.v (.int Za a2)],d]=>some (fun _=>d=.agg [.i a0,.i a1,.i a2],[.k true])
 |_=>none
def Ah:ec 321 da:=by
 intro _ _ _ h hp;dsimp only[da,F0]at h;split at h<;>cases h
 rename_i a0 a1 a2 d;subst hp;refine cb nB Tryz.func321 ?_
 exact y8
abbrev El:cT:=dG (fun F f=>match f with|317=>db F|321=>da F|_=>fun _=>none) (by
 intro f;dsimp only;split;exact Ay;exact Ah;exact cX)
def cQ:EC:=fun F=>fun
 |[.one (.s 3 es),.one (.v (.int Za left))]=>some (fun _=>Rw [tI,tI,tI] es/\0<=left/\left<=1048576,[.j (F.szN [es] left)])
 |_=>none
def yq:ec 194 cQ:=by
 intro _ _ _ h hp;dsimp only[cQ,F0]at h;split at h<;>cases h
 rename_i es left;obtain⟨hw,h0,h1⟩:=hp;have hc:au es=es.length:=hw.cnt rfl;have hm:=hw.1;unfold maxLen at hm;have hs:bK .sub Za left es.length=left-es.length:=dp Uc;have hn:dF [es] left=if left<es.length then-1 else left-es.length:=by unfold dF;rw[eA,hc]
 refine cb El Tryz.func194 ?_
 exact FZ
def cR:EC:=fun F=>fun
 |[.one (.s 3 es)]=>some (fun _=>Rw [tI,tI,tI] es/\au es<=1048576,[.one (.s 3 es)])
 |_=>none
def yz:ec 225 cR:=by
 intro _ _ _ h hp;dsimp only[cR,F0]at h;split at h<;>cases h
 rename_i es;obtain⟨hw,hlim⟩:=hp;have hwf:Wf [.i 0,.i 0,.i 0] es:=hw.wf;have hlen:=d8 hlim;refine cb El Tryz.func225 ?_
 intro O r F hO hr hF;cbv
 have h0z:cE es [.i 0,.i 0,.i 0] 0=O.rep (O.zi (O.ln es)) [.i 0,.i 0,.i 0]:=by
  subst hO;rw[dE];rfl
 refine⟨?_,?_,[0,3,4],[3],Int×ab,fun s=>[.reg 4 (.j s.1),.leaf 3 0 ⟨0,0,none,.own (.s 3 s.2)⟩],fun s=>0<=s.1/\s.1.toNat<=es.length/\s.2=cE es [.i 0,.i 0,.i 0] s.1.toNat,fun s=>es.length-s.1.toNat,⟨(0,O.rep (O.zi (O.ln es)) [.i 0,.i 0,.i 0]),?_,?_⟩,?_⟩
 ·subst hO;exact qJ (b:=24) (show es.length*_<=_ by omega) (show es.length<=_ by omega)
 ·subst hO;exact⟨rfl,rfl⟩
 ·exact⟨Uc,Ze _,h0z.symm⟩
 ·cbv
 ·rintro⟨i,m⟩ hi;replace hi:0<=i/\i.toNat<=es.length/\m=cE es [.i 0,.i 0,.i 0] i.toNat:=hi;obtain⟨g0,g1,hm⟩:=hi;cbv
  repeat' first|apply Zb|(apply bC<;>intro hb<;>cbv)|(refine af (O.ar .add Za i 1,O.up (.s 3 m) [(O.ad 0 i,0)] [.i (O.gi es i 0),.i (O.gi es i 1),.i (O.gi es i 2)]) ?_ ?_ ?_;focus (cbv;done))
  all_goals(subst hO hr hF;(try simp only[nc]at*);(try simp only[ah,SS,sa,az]at*);(try simp only[oJ,Z9,ZA]at*);(try have hlt:i<es.length:=by assumption);(try have he:es.getD i.toNat []=[.i (ag es i 0),.i (ag es i 1),.i (ag es i 2)]:=(am hwf g0 hlt).symm))
  all_goals exact Ro
def cP:EC:=fun F=>fun
 |[.one (.s 3 es),d]=>some (fun _=>d=.one (.s 3 es)/\Rw [tI,tI,tI] es/\au es<=1099511627776,[.k true])
 |_=>none
def x8:ec 236 cP:=by
 intro _ _ _ h hp;dsimp only[cP,F0]at h;split at h<;>cases h
 rename_i es d;obtain⟨rfl,hw,hlim⟩:=hp;have hwf:Wf [.i 0,.i 0,.i 0] es:=hw.wf;have hlen:=d8 hlim;refine cb El Tryz.func236 ?_
 intro O r F hO hr hF;cbv
 apply bC<;>intro hb<;>cbv
 ·(subst hO hr hF;(try simp only[nc]at*);(try simp only[ah,SS,sa,az]at*));exact absurd rfl hb
 ·clear hb;refine⟨[0,1,5],[],Int,fun i=>[.reg 5 (.j i)],fun i=>0<=i/\i.toNat<=es.length,fun i=>es.length-i.toNat,⟨0,?_,?_⟩,?_⟩;exact⟨Uc,Ze _⟩
  ·cbv
  ·rintro i hi;replace hi:0<=i/\i.toNat<=es.length:=hi;obtain⟨g0,g1⟩:=hi;cbv
   repeat' first|apply Zb|(apply bC<;>intro hb<;>cbv)|(refine af (O.ar .add Za i 1) ?_ ?_ ?_;focus (cbv;done))
   all_goals(subst hO hr hF;(try simp only[nc]at*);(try simp only[ah,SS,sa,az]at*);(try have hlt:i<es.length:=by assumption);(try have he:es.getD i.toNat []=[.i (ag es i 0),.i (ag es i 1),.i (ag es i 2)]:=(am hwf g0 hlt).symm))
   all_goals exact zq8
def cB:EM:=fun F=>fun
 |[.one (.s 3 es),.one (.v (.int Za k))]=>some (fun _=>Rw [tI,tI,tI] es/\au es<=1099511627776/\0<=k/\bj [es] k<=1152921504606846976,[.s 3 (F.mkN es k)],[.j (F.kN [es] k)])
 |_=>none
def uj:em 242 cB:=by
 intro _ _ _ _ h hp;dsimp only[cB,F0]at h;split at h<;>cases h
 rename_i es k;obtain⟨hw,hlim,hk0,hkb⟩:=hp;have hwf:Wf [.i 0,.i 0,.i 0] es:=hw.wf;have hlen:=d8 hlim;refine mb nB [(0,0)] Tryz.func242 ?_
 intro O r os F hO hr hos hF;cbv
 refine⟨[0,1,5],[0],Int×Int×ab,fun s=>match s with|(i,k',cur)=>[.reg 5 (.j i),.reg 1 (.j k'),.leaf 0 0 ⟨0,0,some 0,.own (.s 3 cur)⟩],fun s=>0<=s.1/\s.1.toNat<=es.length/\s.2.1=fL es k s.1.toNat/\s.2.2=gA es k s.1.toNat,fun s=>es.length-s.1.toNat,⟨(0,k,es),?_,?_⟩,?_⟩;exact⟨Uc,Ze _,bS.symm,eO.symm⟩
 ·cbv
 ·rintro⟨i,k',cur⟩ hi;replace hi:0<=i/\i.toNat<=es.length/\k'=fL es k i.toNat/\cur=gA es k i.toNat:=hi;obtain⟨g0,g1,hk',hc⟩:=hi;cbv
  repeat' first|apply Zb|(apply bC<;>intro hb<;>cbv)|(refine af (O.ar .add Za i 1,O.ar .add Za (O.ar .add Za (O.ar .add Za (k') 1) 1) 1,O.up (.s 3 (O.up (.s 3 (O.up (.s 3 (cur)) [(O.ad 0 i,0)] [.i (k')])) [(O.ad 0 i,1)] [.i (O.ar .add Za (k') 1)])) [(O.ad 0 i,2)] [.i (O.ar .add Za (O.ar .add Za (k') 1) 1)]) ?_ ?_ ?_;focus (cbv;done))
  all_goals((try subst hos);subst hO hr hF;(try simp only[nc]at*);(try simp only[ah,SS,sa,az]at*);(try have hlt:i<es.length:=by assumption);(try have he:es.getD i.toNat []=[.i (ag es i 0),.i (ag es i 1),.i (ag es i 2)]:=(am hwf g0 hlt).symm);(try have hcg:cur.getD i.toNat []=[.i (ag es i 0),.i (ag es i 1),.i (ag es i 2)]:=by rw[hc,eN g1];exact he))
  all_goals exact zq0
def cA:EC:=fun F=>fun
 |[.one (.s 3 ms),.one (.v (.int Za k))]=>some (fun _=>∃ es,ms=dL es k/\Rw [tI,tI,tI] es/\au es<=1099511627776/\0<=k/\bj [ms] k<=1152921504606846976,[.j (F.kN [ms] k)])
 |_=>none
def t8:ec 248 cA:=by
 intro _ _ _ h hp;dsimp only[cA,F0]at h;split at h<;>cases h
 rename_i ms k;obtain⟨es,hms,hw,hlim,hk0,hkb⟩:=hp;have hlen:=d8 hlim;have hml:ms.length=es.length:=by rw[hms];exact cF
 have hkk:bj [ms] k=bj [es] k:=by rw[hms];exact qH
 have hwm:Wf [.i 0,.i 0,.i 0] ms:=by rw[hms];exact dC hw
 have hwf:Wf [.i 0,.i 0,.i 0] es:=hw.wf;have hat:∀ n,n<es.length->ms.getD n []=(gQ (es.getD n []) (fL es k n)).1:=fun n hn=>by rw[hms];exact kZ hn
 refine cb nB Tryz.func248 ?_
 intro O r F hO hr hF;cbv
 refine⟨[0,1,5],[],Int×Int,fun s=>match s with|(i,k')=>[.reg 5 (.j i),.reg 1 (.j k')],fun s=>0<=s.1/\s.1.toNat<=es.length/\s.2=fL es k s.1.toNat,fun s=>es.length-s.1.toNat,⟨(0,k),?_,?_⟩,?_⟩;exact⟨Uc,Ze _,bS.symm⟩
 ·cbv
 ·rintro⟨i,k'⟩ hi;replace hi:0<=i/\i.toNat<=es.length/\k'=fL es k i.toNat:=hi;obtain⟨g0,g1,hk'⟩:=hi;cbv
  repeat' first|apply Zb|(apply bC<;>intro hb<;>cbv)|(refine af (O.ar .add Za i 1,O.ar .add Za (O.ar .add Za (O.ar .add Za (k') 1) 1) 1) ?_ ?_ ?_;focus (cbv;done))
  all_goals(subst hO hr hF;(try simp only[nc]at*);(try simp only[ah,SS,sa,az]at*);(try have hltm:i<ms.length:=by assumption);(try have hlt:i<es.length:=by omega);(try have he:es.getD i.toNat []=[.i (ag es i 0),.i (ag es i 1),.i (ag es i 2)]:=(am hwf g0 hlt).symm);(try rw[eT (n:=es.length) g0 hlt Uc]);(try have hlt':i.toNat<es.length:=by omega);(try have hct:=dk (es:=es) (n:=i.toNat) Uc;rw[he]at hct;simp only[dO,gW,Zi,Zx]at hct);(try have hks:=dJ (es:=es) (k:=k) hlt';rw[he]at hks;simp only[gQ,iy]at hks);(try have hem:([.i (ag ms i 0),.i (ag ms i 1),.i (ag ms i 2)]:ax)=_:=(am hwm g0 hltm).trans (hat i.toNat hlt');rw[he]at hem;simp only[gQ,iy,Yg,L.v.injEq,Yk,Yl,L.s.injEq,true_and,and_true]at hem))
  all_goals exact zq1
def fV:EC:=fun F=>fun
 |[.agg [.v (.int Za a0),.v (.int Za a1)]]=>some (fun _=>True,[.agg [.i a0,.i a1]])
 |_=>none
def CK:ec 372 fV:=by
 intro _ _ _ h hp;dsimp only[fV,F0]at h;split at h<;>cases h
 rename_i a0 a1;refine cb nB Tryz.func372 ?_
 exact y8
def fU:EC:=fun F=>fun
 |[.agg [.v (.int Za a0),.v (.int Za a1)],d]=>some (fun _=>d=.agg [.i a0,.i a1],[.k true])
 |_=>none
def Cv:ec 375 fU:=by
 intro _ _ _ h hp;dsimp only[fU,F0]at h;split at h<;>cases h
 rename_i a0 a1 d;subst hp;refine cb nB Tryz.func375 ?_
 exact y8
abbrev HW:cT:=dG (fun F f=>match f with|372=>fV F|375=>fU F|_=>fun _=>none) (by
 intro f;dsimp only;split;exact CK;exact Cv;exact cX)
def fx:EC:=fun F=>fun
 |[.one (.s 2 es),.one (.v (.int Za left))]=>some (fun _=>Rw [tI,tI] es/\0<=left/\left<=1048576,[.j (F.szN [es] left)])
 |_=>none
def An:ec 292 fx:=by
 intro _ _ _ h hp;dsimp only[fx,F0]at h;split at h<;>cases h
 rename_i es left;obtain⟨hw,h0,h1⟩:=hp;have hc:au es=es.length:=hw.cnt rfl;have hm:=hw.1;unfold maxLen at hm;have hs:bK .sub Za left es.length=left-es.length:=dp Uc;have hn:dF [es] left=if left<es.length then-1 else left-es.length:=by unfold dF;rw[eA,hc]
 refine cb HW Tryz.func292 ?_
 exact FZ
def fy:EC:=fun F=>fun
 |[.one (.s 2 es)]=>some (fun _=>Rw [tI,tI] es/\au es<=1048576,[.one (.s 2 es)])
 |_=>none
def Av:ec 316 fy:=by
 intro _ _ _ h hp;dsimp only[fy,F0]at h;split at h<;>cases h
 rename_i es;obtain⟨hw,hlim⟩:=hp;have hwf:Wf [.i 0,.i 0] es:=hw.wf;have hlen:=d8 hlim;refine cb HW Tryz.func316 ?_
 intro O r F hO hr hF;cbv
 have h0z:cE es [.i 0,.i 0] 0=O.rep (O.zi (O.ln es)) [.i 0,.i 0]:=by
  subst hO;rw[dE];rfl
 refine⟨?_,?_,[0,3,4],[3],Int×ab,fun s=>[.reg 4 (.j s.1),.leaf 3 0 ⟨0,0,none,.own (.s 2 s.2)⟩],fun s=>0<=s.1/\s.1.toNat<=es.length/\s.2=cE es [.i 0,.i 0] s.1.toNat,fun s=>es.length-s.1.toNat,⟨(0,O.rep (O.zi (O.ln es)) [.i 0,.i 0]),?_,?_⟩,?_⟩
 ·subst hO;exact qJ (b:=16) (show es.length*_<=_ by omega) (show es.length<=_ by omega)
 ·subst hO;exact⟨rfl,rfl⟩
 ·exact⟨Uc,Ze _,h0z.symm⟩
 ·cbv
 ·rintro⟨i,m⟩ hi;replace hi:0<=i/\i.toNat<=es.length/\m=cE es [.i 0,.i 0] i.toNat:=hi;obtain⟨g0,g1,hm⟩:=hi;cbv
  repeat' first|apply Zb|(apply bC<;>intro hb<;>cbv)|(refine af (O.ar .add Za i 1,O.up (.s 2 m) [(O.ad 0 i,0)] [.i (O.gi es i 0),.i (O.gi es i 1)]) ?_ ?_ ?_;focus (cbv;done))
  all_goals(subst hO hr hF;(try simp only[nc]at*);(try simp only[ah,SS,sa,az]at*);(try simp only[oJ,Z9,ZA]at*);(try have hlt:i<es.length:=by assumption);(try have he:es.getD i.toNat []=[.i (ag es i 0),.i (ag es i 1)]:=(am hwf g0 hlt).symm))
  all_goals exact Ro
def fu:EC:=fun F=>fun
 |[.one (.s 2 es),d]=>some (fun _=>d=.one (.s 2 es)/\Rw [tI,tI] es/\au es<=1099511627776,[.k true])
 |_=>none
def Ae:ec 320 fu:=by
 intro _ _ _ h hp;dsimp only[fu,F0]at h;split at h<;>cases h
 rename_i es d;obtain⟨rfl,hw,hlim⟩:=hp;have hwf:Wf [.i 0,.i 0] es:=hw.wf;have hlen:=d8 hlim;refine cb HW Tryz.func320 ?_
 intro O r F hO hr hF;cbv
 apply bC<;>intro hb<;>cbv
 ·(subst hO hr hF;(try simp only[nc]at*);(try simp only[ah,SS,sa,az]at*));exact absurd rfl hb
 ·clear hb;refine⟨[0,1,5],[],Int,fun i=>[.reg 5 (.j i)],fun i=>0<=i/\i.toNat<=es.length,fun i=>es.length-i.toNat,⟨0,?_,?_⟩,?_⟩;exact⟨Uc,Ze _⟩
  ·cbv
  ·rintro i hi;replace hi:0<=i/\i.toNat<=es.length:=hi;obtain⟨g0,g1⟩:=hi;cbv
   repeat' first|apply Zb|(apply bC<;>intro hb<;>cbv)|(refine af (O.ar .add Za i 1) ?_ ?_ ?_;focus (cbv;done))
   all_goals(subst hO hr hF;(try simp only[nc]at*);(try simp only[ah,SS,sa,az]at*);(try have hlt:i<es.length:=by assumption);(try have he:es.getD i.toNat []=[.i (ag es i 0),.i (ag es i 1)]:=(am hwf g0 hlt).symm))
   all_goals exact zq8
def d7:EM:=fun F=>fun
 |[.one (.s 2 es),.one (.v (.int Za k))]=>some (fun _=>Rw [tI,tI] es/\au es<=1099511627776/\0<=k/\bj [es] k<=1152921504606846976,[.s 2 (F.mkN es k)],[.j (F.kN [es] k)])
 |_=>none
def vS:em 324 d7:=by
 intro _ _ _ _ h hp;dsimp only[d7,F0]at h;split at h<;>cases h
 rename_i es k;obtain⟨hw,hlim,hk0,hkb⟩:=hp;have hwf:Wf [.i 0,.i 0] es:=hw.wf;have hlen:=d8 hlim;refine mb nB [(0,0)] Tryz.func324 ?_
 intro O r os F hO hr hos hF;cbv
 refine⟨[0,1,5],[0],Int×Int×ab,fun s=>match s with|(i,k',cur)=>[.reg 5 (.j i),.reg 1 (.j k'),.leaf 0 0 ⟨0,0,some 0,.own (.s 2 cur)⟩],fun s=>0<=s.1/\s.1.toNat<=es.length/\s.2.1=fL es k s.1.toNat/\s.2.2=gA es k s.1.toNat,fun s=>es.length-s.1.toNat,⟨(0,k,es),?_,?_⟩,?_⟩;exact⟨Uc,Ze _,bS.symm,eO.symm⟩
 ·cbv
 ·rintro⟨i,k',cur⟩ hi;replace hi:0<=i/\i.toNat<=es.length/\k'=fL es k i.toNat/\cur=gA es k i.toNat:=hi;obtain⟨g0,g1,hk',hc⟩:=hi;cbv
  repeat' first|apply Zb|(apply bC<;>intro hb<;>cbv)|(refine af (O.ar .add Za i 1,O.ar .add Za (O.ar .add Za (k') 1) 1,O.up (.s 2 (O.up (.s 2 (cur)) [(O.ad 0 i,0)] [.i (k')])) [(O.ad 0 i,1)] [.i (O.ar .add Za (k') 1)]) ?_ ?_ ?_;focus (cbv;done))
  all_goals((try subst hos);subst hO hr hF;(try simp only[nc]at*);(try simp only[ah,SS,sa,az]at*);(try have hlt:i<es.length:=by assumption);(try have he:es.getD i.toNat []=[.i (ag es i 0),.i (ag es i 1)]:=(am hwf g0 hlt).symm);(try have hcg:cur.getD i.toNat []=[.i (ag es i 0),.i (ag es i 1)]:=by rw[hc,eN g1];exact he))
  all_goals exact zq0
def d6:EC:=fun F=>fun
 |[.one (.s 2 ms),.one (.v (.int Za k))]=>some (fun _=>∃ es,ms=dL es k/\Rw [tI,tI] es/\au es<=1099511627776/\0<=k/\bj [ms] k<=1152921504606846976,[.j (F.kN [ms] k)])
 |_=>none
def vO:ec 327 d6:=by
 intro _ _ _ h hp;dsimp only[d6,F0]at h;split at h<;>cases h
 rename_i ms k;obtain⟨es,hms,hw,hlim,hk0,hkb⟩:=hp;have hlen:=d8 hlim;have hml:ms.length=es.length:=by rw[hms];exact cF
 have hkk:bj [ms] k=bj [es] k:=by rw[hms];exact qH
 have hwm:Wf [.i 0,.i 0] ms:=by rw[hms];exact dC hw
 have hwf:Wf [.i 0,.i 0] es:=hw.wf;have hat:∀ n,n<es.length->ms.getD n []=(gQ (es.getD n []) (fL es k n)).1:=fun n hn=>by rw[hms];exact kZ hn
 refine cb nB Tryz.func327 ?_
 intro O r F hO hr hF;cbv
 refine⟨[0,1,5],[],Int×Int,fun s=>match s with|(i,k')=>[.reg 5 (.j i),.reg 1 (.j k')],fun s=>0<=s.1/\s.1.toNat<=es.length/\s.2=fL es k s.1.toNat,fun s=>es.length-s.1.toNat,⟨(0,k),?_,?_⟩,?_⟩;exact⟨Uc,Ze _,bS.symm⟩
 ·cbv
 ·rintro⟨i,k'⟩ hi;replace hi:0<=i/\i.toNat<=es.length/\k'=fL es k i.toNat:=hi;obtain⟨g0,g1,hk'⟩:=hi;cbv
  repeat' first|apply Zb|(apply bC<;>intro hb<;>cbv)|(refine af (O.ar .add Za i 1,O.ar .add Za (O.ar .add Za (k') 1) 1) ?_ ?_ ?_;focus (cbv;done))
  all_goals(subst hO hr hF;(try simp only[nc]at*);(try simp only[ah,SS,sa,az]at*);(try have hltm:i<ms.length:=by assumption);(try have hlt:i<es.length:=by omega);(try have he:es.getD i.toNat []=[.i (ag es i 0),.i (ag es i 1)]:=(am hwf g0 hlt).symm);(try rw[eT (n:=es.length) g0 hlt Uc]);(try have hlt':i.toNat<es.length:=by omega);(try have hct:=dk (es:=es) (n:=i.toNat) Uc;rw[he]at hct;simp only[dO,gW,Zi,Zx]at hct);(try have hks:=dJ (es:=es) (k:=k) hlt';rw[he]at hks;simp only[gQ,iy]at hks);(try have hem:([.i (ag ms i 0),.i (ag ms i 1)]:ax)=_:=(am hwm g0 hltm).trans (hat i.toNat hlt');rw[he]at hem;simp only[gQ,iy,Yg,L.v.injEq,Yk,Yl,L.s.injEq,true_and,and_true]at hem))
  all_goals exact zq1
end Go.V