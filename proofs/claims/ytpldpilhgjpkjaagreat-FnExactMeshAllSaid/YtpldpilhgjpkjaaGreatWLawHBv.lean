/- Contracts. -/
import Derived.Test.YtpldpilhgjpkjaaGreatWLawHEv
set_option linter.all false
open Go
open And renaming intro->Zb
open Int renaming toNat_natCast->ZA
open IntKind renaming i64->Za
open List renaming length_replicate->Z9
open List.cons renaming injEq->Yg
open Nat renaming zero_le->Ze,add_zero->Zi,zero_add->Zx
open Value.bool renaming injEq->Yl
open Value.int renaming injEq->Yk
namespace Go.V
open Go Go.Proofs
set_option maxRecDepth 1000000
set_option maxHeartbeats 8000000
def Aw:ec 218 fV:=by
 intro _ _ _ h hp;dsimp only[fV,F0]at h;split at h<;>cases h
 rename_i a0 a1;refine cb nB Tryz.func218 ?_
 exact y8
def Af:ec 229 fU:=by
 intro _ _ _ h hp;dsimp only[fU,F0]at h;split at h<;>cases h
 rename_i a0 a1 d;subst hp;refine cb nB Tryz.func229 ?_
 exact y8
abbrev Ek:cT:=dG (fun F f=>match f with|218=>fV F|229=>fU F|_=>fun _=>none) (by
 intro f;dsimp only;split;exact Aw;exact Af;exact cX)
def yp:ec 82 fx:=by
 intro _ _ _ h hp;dsimp only[fx,F0]at h;split at h<;>cases h
 rename_i es left;obtain⟨hw,h0,h1⟩:=hp;have hc:au es=es.length:=hw.cnt rfl;have hm:=hw.1;unfold maxLen at hm;have hs:bK .sub Za left es.length=left-es.length:=dp Uc;have hn:dF [es] left=if left<es.length then-1 else left-es.length:=by unfold dF;rw[eA,hc]
 refine cb Ek Tryz.func82 ?_
 exact FZ
def yy:ec 95 fy:=by
 intro _ _ _ h hp;dsimp only[fy,F0]at h;split at h<;>cases h
 rename_i es;obtain⟨hw,hlim⟩:=hp;have hwf:Wf [.i 0,.i 0] es:=hw.wf;have hlen:=d8 hlim;refine cb Ek Tryz.func95 ?_
 intro O r F hO hr hF;cbv
 have h0z:cE es [.i 0,.i 0] 0=O.rep (O.zi (O.ln es)) [.i 0,.i 0]:=by
  subst hO;rw[dE];rfl
 refine⟨?_,?_,[0,3,4],[3],Int×ab,fun s=>[.reg 4 (.j s.1),.leaf 3 0 ⟨0,0,none,.own (.s 2 s.2)⟩],fun s=>0<=s.1/\s.1.toNat<=es.length/\s.2=cE es [.i 0,.i 0] s.1.toNat,fun s=>es.length-s.1.toNat,⟨(0,O.rep (O.zi (O.ln es)) [.i 0,.i 0]),?_,?_⟩,?_⟩
 ·subst hO;exact qJ (b:=16) (show es.length*_<=_ by omega) (show es.length<=_ by omega)
 ·subst hO;exact⟨rfl,rfl⟩
 ·exact⟨Uc,Ze _,h0z.symm⟩
 ·cbv
 ·rintro⟨i,m⟩ hi;replace hi:0<=i/\i.toNat<=es.length/\m=cE es [.i 0,.i 0] i.toNat:=hi;obtain⟨g0,g1,hm⟩:=hi;cbv
  repeat' first|apply Zb|(apply bC<;>intro hb<;>cbv)|(refine af (O.ar .add Za i 1,O.up (.s 2 m) [(O.ad 0 i,0)] [.i (O.gi es i 0),.i (O.gi es i 1)]) ?_ ?_ ?_;focus (cbv;done))
  all_goals(subst hO hr hF;(try simp only[nc]at*);(try simp only[ah,SS,sa,az]at*);(try simp only[oJ,Z9,ZA]at*);(try have hlt:i<es.length:=by assumption);(try have he:es.getD i.toNat []=[.i (ag es i 0),.i (ag es i 1)]:=(am hwf g0 hlt).symm))
  all_goals exact Ro
def x7:ec 104 fu:=by
 intro _ _ _ h hp;dsimp only[fu,F0]at h;split at h<;>cases h
 rename_i es d;obtain⟨rfl,hw,hlim⟩:=hp;have hwf:Wf [.i 0,.i 0] es:=hw.wf;have hlen:=d8 hlim;refine cb Ek Tryz.func104 ?_
 intro O r F hO hr hF;cbv
 apply bC<;>intro hb<;>cbv
 ·(subst hO hr hF;(try simp only[nc]at*);(try simp only[ah,SS,sa,az]at*));exact absurd rfl hb
 ·clear hb;refine⟨[0,1,5],[],Int,fun i=>[.reg 5 (.j i)],fun i=>0<=i/\i.toNat<=es.length,fun i=>es.length-i.toNat,⟨0,?_,?_⟩,?_⟩;exact⟨Uc,Ze _⟩
  ·cbv
  ·rintro i hi;replace hi:0<=i/\i.toNat<=es.length:=hi;obtain⟨g0,g1⟩:=hi;cbv
   repeat' first|apply Zb|(apply bC<;>intro hb<;>cbv)|(refine af (O.ar .add Za i 1) ?_ ?_ ?_;focus (cbv;done))
   all_goals(subst hO hr hF;(try simp only[nc]at*);(try simp only[ah,SS,sa,az]at*);(try have hlt:i<es.length:=by assumption);(try have he:es.getD i.toNat []=[.i (ag es i 0),.i (ag es i 1)]:=(am hwf g0 hlt).symm))
   all_goals exact zq8
def ui:em 113 d7:=by
 intro _ _ _ _ h hp;dsimp only[d7,F0]at h;split at h<;>cases h
 rename_i es k;obtain⟨hw,hlim,hk0,hkb⟩:=hp;have hwf:Wf [.i 0,.i 0] es:=hw.wf;have hlen:=d8 hlim;refine mb nB [(0,0)] Tryz.func113 ?_
 intro O r os F hO hr hos hF;cbv
 refine⟨[0,1,5],[0],Int×Int×ab,fun s=>match s with|(i,k',cur)=>[.reg 5 (.j i),.reg 1 (.j k'),.leaf 0 0 ⟨0,0,some 0,.own (.s 2 cur)⟩],fun s=>0<=s.1/\s.1.toNat<=es.length/\s.2.1=fL es k s.1.toNat/\s.2.2=gA es k s.1.toNat,fun s=>es.length-s.1.toNat,⟨(0,k,es),?_,?_⟩,?_⟩;exact⟨Uc,Ze _,bS.symm,eO.symm⟩
 ·cbv
 ·rintro⟨i,k',cur⟩ hi;replace hi:0<=i/\i.toNat<=es.length/\k'=fL es k i.toNat/\cur=gA es k i.toNat:=hi;obtain⟨g0,g1,hk',hc⟩:=hi;cbv
  repeat' first|apply Zb|(apply bC<;>intro hb<;>cbv)|(refine af (O.ar .add Za i 1,O.ar .add Za (O.ar .add Za (k') 1) 1,O.up (.s 2 (O.up (.s 2 (cur)) [(O.ad 0 i,0)] [.i (k')])) [(O.ad 0 i,1)] [.i (O.ar .add Za (k') 1)]) ?_ ?_ ?_;focus (cbv;done))
  all_goals((try subst hos);subst hO hr hF;(try simp only[nc]at*);(try simp only[ah,SS,sa,az]at*);(try have hlt:i<es.length:=by assumption);(try have he:es.getD i.toNat []=[.i (ag es i 0),.i (ag es i 1)]:=(am hwf g0 hlt).symm);(try have hcg:cur.getD i.toNat []=[.i (ag es i 0),.i (ag es i 1)]:=by rw[hc,eN g1];exact he))
  all_goals exact zq0
def t7:ec 122 d6:=by
 intro _ _ _ h hp;dsimp only[d6,F0]at h;split at h<;>cases h
 rename_i ms k;obtain⟨es,hms,hw,hlim,hk0,hkb⟩:=hp;have hlen:=d8 hlim;have hml:ms.length=es.length:=by rw[hms];exact cF
 have hkk:bj [ms] k=bj [es] k:=by rw[hms];exact qH
 have hwm:Wf [.i 0,.i 0] ms:=by rw[hms];exact dC hw
 have hwf:Wf [.i 0,.i 0] es:=hw.wf;have hat:∀ n,n<es.length->ms.getD n []=(gQ (es.getD n []) (fL es k n)).1:=fun n hn=>by rw[hms];exact kZ hn
 refine cb nB Tryz.func122 ?_
 intro O r F hO hr hF;cbv
 refine⟨[0,1,5],[],Int×Int,fun s=>match s with|(i,k')=>[.reg 5 (.j i),.reg 1 (.j k')],fun s=>0<=s.1/\s.1.toNat<=es.length/\s.2=fL es k s.1.toNat,fun s=>es.length-s.1.toNat,⟨(0,k),?_,?_⟩,?_⟩;exact⟨Uc,Ze _,bS.symm⟩
 ·cbv
 ·rintro⟨i,k'⟩ hi;replace hi:0<=i/\i.toNat<=es.length/\k'=fL es k i.toNat:=hi;obtain⟨g0,g1,hk'⟩:=hi;cbv
  repeat' first|apply Zb|(apply bC<;>intro hb<;>cbv)|(refine af (O.ar .add Za i 1,O.ar .add Za (O.ar .add Za (k') 1) 1) ?_ ?_ ?_;focus (cbv;done))
  all_goals(subst hO hr hF;(try simp only[nc]at*);(try simp only[ah,SS,sa,az]at*);(try have hltm:i<ms.length:=by assumption);(try have hlt:i<es.length:=by omega);(try have he:es.getD i.toNat []=[.i (ag es i 0),.i (ag es i 1)]:=(am hwf g0 hlt).symm);(try rw[eT (n:=es.length) g0 hlt Uc]);(try have hlt':i.toNat<es.length:=by omega);(try have hct:=dk (es:=es) (n:=i.toNat) Uc;rw[he]at hct;simp only[dO,gW,Zi,Zx]at hct);(try have hks:=dJ (es:=es) (k:=k) hlt';rw[he]at hks;simp only[gQ,iy]at hks);(try have hem:([.i (ag ms i 0),.i (ag ms i 1)]:ax)=_:=(am hwm g0 hltm).trans (hat i.toNat hlt');rw[he]at hem;simp only[gQ,iy,Yg,L.v.injEq,Yk,Yl,L.s.injEq,true_and,and_true]at hem))
  all_goals exact zq1
def CM:ec 219 db:=by
 intro _ _ _ h hp;dsimp only[db,F0]at h;split at h<;>cases h
 rename_i a0 a1 a2;refine cb nB Tryz.func219 ?_
 exact y8
def Cy:ec 230 da:=by
 intro _ _ _ h hp;dsimp only[da,F0]at h;split at h<;>cases h
 rename_i a0 a1 a2 d;subst hp;refine cb nB Tryz.func230 ?_
 exact y8
abbrev HX:cT:=dG (fun F f=>match f with|219=>db F|230=>da F|_=>fun _=>none) (by
 intro f;dsimp only;split;exact CM;exact Cy;exact cX)
def Ao:ec 83 cQ:=by
 intro _ _ _ h hp;dsimp only[cQ,F0]at h;split at h<;>cases h
 rename_i es left;obtain⟨hw,h0,h1⟩:=hp;have hc:au es=es.length:=hw.cnt rfl;have hm:=hw.1;unfold maxLen at hm;have hs:bK .sub Za left es.length=left-es.length:=dp Uc;have hn:dF [es] left=if left<es.length then-1 else left-es.length:=by unfold dF;rw[eA,hc]
 refine cb HX Tryz.func83 ?_
 exact FZ
def Ax:ec 96 cR:=by
 intro _ _ _ h hp;dsimp only[cR,F0]at h;split at h<;>cases h
 rename_i es;obtain⟨hw,hlim⟩:=hp;have hwf:Wf [.i 0,.i 0,.i 0] es:=hw.wf;have hlen:=d8 hlim;refine cb HX Tryz.func96 ?_
 intro O r F hO hr hF;cbv
 have h0z:cE es [.i 0,.i 0,.i 0] 0=O.rep (O.zi (O.ln es)) [.i 0,.i 0,.i 0]:=by
  subst hO;rw[dE];rfl
 refine⟨?_,?_,[0,3,4],[3],Int×ab,fun s=>[.reg 4 (.j s.1),.leaf 3 0 ⟨0,0,none,.own (.s 3 s.2)⟩],fun s=>0<=s.1/\s.1.toNat<=es.length/\s.2=cE es [.i 0,.i 0,.i 0] s.1.toNat,fun s=>es.length-s.1.toNat,⟨(0,O.rep (O.zi (O.ln es)) [.i 0,.i 0,.i 0]),?_,?_⟩,?_⟩
 ·subst hO;exact qJ (b:=24) (show es.length*_<=_ by omega) (show es.length<=_ by omega)
 ·subst hO;exact⟨rfl,rfl⟩
 ·exact⟨Uc,Ze _,h0z.symm⟩
 ·cbv
 ·rintro⟨i,m⟩ hi;replace hi:0<=i/\i.toNat<=es.length/\m=cE es [.i 0,.i 0,.i 0] i.toNat:=hi;obtain⟨g0,g1,hm⟩:=hi;cbv
  repeat' first|apply Zb|(apply bC<;>intro hb<;>cbv)|(refine af (O.ar .add Za i 1,O.up (.s 3 m) [(O.ad 0 i,0)] [.i (O.gi es i 0),.i (O.gi es i 1),.i (O.gi es i 2)]) ?_ ?_ ?_;focus (cbv;done))
  all_goals(subst hO hr hF;(try simp only[nc]at*);(try simp only[ah,SS,sa,az]at*);(try simp only[oJ,Z9,ZA]at*);(try have hlt:i<es.length:=by assumption);(try have he:es.getD i.toNat []=[.i (ag es i 0),.i (ag es i 1),.i (ag es i 2)]:=(am hwf g0 hlt).symm))
  all_goals exact Ro
def Ag:ec 105 cP:=by
 intro _ _ _ h hp;dsimp only[cP,F0]at h;split at h<;>cases h
 rename_i es d;obtain⟨rfl,hw,hlim⟩:=hp;have hwf:Wf [.i 0,.i 0,.i 0] es:=hw.wf;have hlen:=d8 hlim;refine cb HX Tryz.func105 ?_
 intro O r F hO hr hF;cbv
 apply bC<;>intro hb<;>cbv
 ·(subst hO hr hF;(try simp only[nc]at*);(try simp only[ah,SS,sa,az]at*));exact absurd rfl hb
 ·clear hb;refine⟨[0,1,5],[],Int,fun i=>[.reg 5 (.j i)],fun i=>0<=i/\i.toNat<=es.length,fun i=>es.length-i.toNat,⟨0,?_,?_⟩,?_⟩;exact⟨Uc,Ze _⟩
  ·cbv
  ·rintro i hi;replace hi:0<=i/\i.toNat<=es.length:=hi;obtain⟨g0,g1⟩:=hi;cbv
   repeat' first|apply Zb|(apply bC<;>intro hb<;>cbv)|(refine af (O.ar .add Za i 1) ?_ ?_ ?_;focus (cbv;done))
   all_goals(subst hO hr hF;(try simp only[nc]at*);(try simp only[ah,SS,sa,az]at*);(try have hlt:i<es.length:=by assumption);(try have he:es.getD i.toNat []=[.i (ag es i 0),.i (ag es i 1),.i (ag es i 2)]:=(am hwf g0 hlt).symm))
   all_goals exact zq8
def vT:em 114 cB:=by
 intro _ _ _ _ h hp;dsimp only[cB,F0]at h;split at h<;>cases h
 rename_i es k;obtain⟨hw,hlim,hk0,hkb⟩:=hp;have hwf:Wf [.i 0,.i 0,.i 0] es:=hw.wf;have hlen:=d8 hlim;refine mb nB [(0,0)] Tryz.func114 ?_
 intro O r os F hO hr hos hF;cbv
 refine⟨[0,1,5],[0],Int×Int×ab,fun s=>match s with|(i,k',cur)=>[.reg 5 (.j i),.reg 1 (.j k'),.leaf 0 0 ⟨0,0,some 0,.own (.s 3 cur)⟩],fun s=>0<=s.1/\s.1.toNat<=es.length/\s.2.1=fL es k s.1.toNat/\s.2.2=gA es k s.1.toNat,fun s=>es.length-s.1.toNat,⟨(0,k,es),?_,?_⟩,?_⟩;exact⟨Uc,Ze _,bS.symm,eO.symm⟩
 ·cbv
 ·rintro⟨i,k',cur⟩ hi;replace hi:0<=i/\i.toNat<=es.length/\k'=fL es k i.toNat/\cur=gA es k i.toNat:=hi;obtain⟨g0,g1,hk',hc⟩:=hi;cbv
  repeat' first|apply Zb|(apply bC<;>intro hb<;>cbv)|(refine af (O.ar .add Za i 1,O.ar .add Za (O.ar .add Za (O.ar .add Za (k') 1) 1) 1,O.up (.s 3 (O.up (.s 3 (O.up (.s 3 (cur)) [(O.ad 0 i,0)] [.i (k')])) [(O.ad 0 i,1)] [.i (O.ar .add Za (k') 1)])) [(O.ad 0 i,2)] [.i (O.ar .add Za (O.ar .add Za (k') 1) 1)]) ?_ ?_ ?_;focus (cbv;done))
  all_goals((try subst hos);subst hO hr hF;(try simp only[nc]at*);(try simp only[ah,SS,sa,az]at*);(try have hlt:i<es.length:=by assumption);(try have he:es.getD i.toNat []=[.i (ag es i 0),.i (ag es i 1),.i (ag es i 2)]:=(am hwf g0 hlt).symm);(try have hcg:cur.getD i.toNat []=[.i (ag es i 0),.i (ag es i 1),.i (ag es i 2)]:=by rw[hc,eN g1];exact he))
  all_goals exact zq0
def vP:ec 123 cA:=by
 intro _ _ _ h hp;dsimp only[cA,F0]at h;split at h<;>cases h
 rename_i ms k;obtain⟨es,hms,hw,hlim,hk0,hkb⟩:=hp;have hlen:=d8 hlim;have hml:ms.length=es.length:=by rw[hms];exact cF
 have hkk:bj [ms] k=bj [es] k:=by rw[hms];exact qH
 have hwm:Wf [.i 0,.i 0,.i 0] ms:=by rw[hms];exact dC hw
 have hwf:Wf [.i 0,.i 0,.i 0] es:=hw.wf;have hat:∀ n,n<es.length->ms.getD n []=(gQ (es.getD n []) (fL es k n)).1:=fun n hn=>by rw[hms];exact kZ hn
 refine cb nB Tryz.func123 ?_
 intro O r F hO hr hF;cbv
 refine⟨[0,1,5],[],Int×Int,fun s=>match s with|(i,k')=>[.reg 5 (.j i),.reg 1 (.j k')],fun s=>0<=s.1/\s.1.toNat<=es.length/\s.2=fL es k s.1.toNat,fun s=>es.length-s.1.toNat,⟨(0,k),?_,?_⟩,?_⟩;exact⟨Uc,Ze _,bS.symm⟩
 ·cbv
 ·rintro⟨i,k'⟩ hi;replace hi:0<=i/\i.toNat<=es.length/\k'=fL es k i.toNat:=hi;obtain⟨g0,g1,hk'⟩:=hi;cbv
  repeat' first|apply Zb|(apply bC<;>intro hb<;>cbv)|(refine af (O.ar .add Za i 1,O.ar .add Za (O.ar .add Za (O.ar .add Za (k') 1) 1) 1) ?_ ?_ ?_;focus (cbv;done))
  all_goals(subst hO hr hF;(try simp only[nc]at*);(try simp only[ah,SS,sa,az]at*);(try have hltm:i<ms.length:=by assumption);(try have hlt:i<es.length:=by omega);(try have he:es.getD i.toNat []=[.i (ag es i 0),.i (ag es i 1),.i (ag es i 2)]:=(am hwf g0 hlt).symm);(try rw[eT (n:=es.length) g0 hlt Uc]);(try have hlt':i.toNat<es.length:=by omega);(try have hct:=dk (es:=es) (n:=i.toNat) Uc;rw[he]at hct;simp only[dO,gW,Zi,Zx]at hct);(try have hks:=dJ (es:=es) (k:=k) hlt';rw[he]at hks;simp only[gQ,iy]at hks);(try have hem:([.i (ag ms i 0),.i (ag ms i 1),.i (ag ms i 2)]:ax)=_:=(am hwm g0 hltm).trans (hat i.toNat hlt');rw[he]at hem;simp only[gQ,iy,Yg,L.v.injEq,Yk,Yl,L.s.injEq,true_and,and_true]at hem))
  all_goals exact zq1
def Au:ec 220 db:=by
 intro _ _ _ h hp;dsimp only[db,F0]at h;split at h<;>cases h
 rename_i a0 a1 a2;refine cb nB Tryz.func220 ?_
 exact y8
def Ad:ec 231 da:=by
 intro _ _ _ h hp;dsimp only[da,F0]at h;split at h<;>cases h
 rename_i a0 a1 a2 d;subst hp;refine cb nB Tryz.func231 ?_
 exact y8
abbrev Ei:cT:=dG (fun F f=>match f with|220=>db F|231=>da F|_=>fun _=>none) (by
 intro f;dsimp only;split;exact Au;exact Ad;exact cX)
def yn:ec 84 cQ:=by
 intro _ _ _ h hp;dsimp only[cQ,F0]at h;split at h<;>cases h
 rename_i es left;obtain⟨hw,h0,h1⟩:=hp;have hc:au es=es.length:=hw.cnt rfl;have hm:=hw.1;unfold maxLen at hm;have hs:bK .sub Za left es.length=left-es.length:=dp Uc;have hn:dF [es] left=if left<es.length then-1 else left-es.length:=by unfold dF;rw[eA,hc]
 refine cb Ei Tryz.func84 ?_
 exact FZ
def yw:ec 97 cR:=by
 intro _ _ _ h hp;dsimp only[cR,F0]at h;split at h<;>cases h
 rename_i es;obtain⟨hw,hlim⟩:=hp;have hwf:Wf [.i 0,.i 0,.i 0] es:=hw.wf;have hlen:=d8 hlim;refine cb Ei Tryz.func97 ?_
 intro O r F hO hr hF;cbv
 have h0z:cE es [.i 0,.i 0,.i 0] 0=O.rep (O.zi (O.ln es)) [.i 0,.i 0,.i 0]:=by
  subst hO;rw[dE];rfl
 refine⟨?_,?_,[0,3,4],[3],Int×ab,fun s=>[.reg 4 (.j s.1),.leaf 3 0 ⟨0,0,none,.own (.s 3 s.2)⟩],fun s=>0<=s.1/\s.1.toNat<=es.length/\s.2=cE es [.i 0,.i 0,.i 0] s.1.toNat,fun s=>es.length-s.1.toNat,⟨(0,O.rep (O.zi (O.ln es)) [.i 0,.i 0,.i 0]),?_,?_⟩,?_⟩
 ·subst hO;exact qJ (b:=24) (show es.length*_<=_ by omega) (show es.length<=_ by omega)
 ·subst hO;exact⟨rfl,rfl⟩
 ·exact⟨Uc,Ze _,h0z.symm⟩
 ·cbv
 ·rintro⟨i,m⟩ hi;replace hi:0<=i/\i.toNat<=es.length/\m=cE es [.i 0,.i 0,.i 0] i.toNat:=hi;obtain⟨g0,g1,hm⟩:=hi;cbv
  repeat' first|apply Zb|(apply bC<;>intro hb<;>cbv)|(refine af (O.ar .add Za i 1,O.up (.s 3 m) [(O.ad 0 i,0)] [.i (O.gi es i 0),.i (O.gi es i 1),.i (O.gi es i 2)]) ?_ ?_ ?_;focus (cbv;done))
  all_goals(subst hO hr hF;(try simp only[nc]at*);(try simp only[ah,SS,sa,az]at*);(try simp only[oJ,Z9,ZA]at*);(try have hlt:i<es.length:=by assumption);(try have he:es.getD i.toNat []=[.i (ag es i 0),.i (ag es i 1),.i (ag es i 2)]:=(am hwf g0 hlt).symm))
  all_goals exact Ro
def x5:ec 106 cP:=by
 intro _ _ _ h hp;dsimp only[cP,F0]at h;split at h<;>cases h
 rename_i es d;obtain⟨rfl,hw,hlim⟩:=hp;have hwf:Wf [.i 0,.i 0,.i 0] es:=hw.wf;have hlen:=d8 hlim;refine cb Ei Tryz.func106 ?_
 intro O r F hO hr hF;cbv
 apply bC<;>intro hb<;>cbv
 ·(subst hO hr hF;(try simp only[nc]at*);(try simp only[ah,SS,sa,az]at*));exact absurd rfl hb
 ·clear hb;refine⟨[0,1,5],[],Int,fun i=>[.reg 5 (.j i)],fun i=>0<=i/\i.toNat<=es.length,fun i=>es.length-i.toNat,⟨0,?_,?_⟩,?_⟩;exact⟨Uc,Ze _⟩
  ·cbv
  ·rintro i hi;replace hi:0<=i/\i.toNat<=es.length:=hi;obtain⟨g0,g1⟩:=hi;cbv
   repeat' first|apply Zb|(apply bC<;>intro hb<;>cbv)|(refine af (O.ar .add Za i 1) ?_ ?_ ?_;focus (cbv;done))
   all_goals(subst hO hr hF;(try simp only[nc]at*);(try simp only[ah,SS,sa,az]at*);(try have hlt:i<es.length:=by assumption);(try have he:es.getD i.toNat []=[.i (ag es i 0),.i (ag es i 1),.i (ag es i 2)]:=(am hwf g0 hlt).symm))
   all_goals exact zq8
def ug:em 115 cB:=by
 intro _ _ _ _ h hp;dsimp only[cB,F0]at h;split at h<;>cases h
 rename_i es k;obtain⟨hw,hlim,hk0,hkb⟩:=hp;have hwf:Wf [.i 0,.i 0,.i 0] es:=hw.wf;have hlen:=d8 hlim;refine mb nB [(0,0)] Tryz.func115 ?_
 intro O r os F hO hr hos hF;cbv
 refine⟨[0,1,5],[0],Int×Int×ab,fun s=>match s with|(i,k',cur)=>[.reg 5 (.j i),.reg 1 (.j k'),.leaf 0 0 ⟨0,0,some 0,.own (.s 3 cur)⟩],fun s=>0<=s.1/\s.1.toNat<=es.length/\s.2.1=fL es k s.1.toNat/\s.2.2=gA es k s.1.toNat,fun s=>es.length-s.1.toNat,⟨(0,k,es),?_,?_⟩,?_⟩;exact⟨Uc,Ze _,bS.symm,eO.symm⟩
 ·cbv
 ·rintro⟨i,k',cur⟩ hi;replace hi:0<=i/\i.toNat<=es.length/\k'=fL es k i.toNat/\cur=gA es k i.toNat:=hi;obtain⟨g0,g1,hk',hc⟩:=hi;cbv
  repeat' first|apply Zb|(apply bC<;>intro hb<;>cbv)|(refine af (O.ar .add Za i 1,O.ar .add Za (O.ar .add Za (O.ar .add Za (k') 1) 1) 1,O.up (.s 3 (O.up (.s 3 (O.up (.s 3 (cur)) [(O.ad 0 i,0)] [.i (k')])) [(O.ad 0 i,1)] [.i (O.ar .add Za (k') 1)])) [(O.ad 0 i,2)] [.i (O.ar .add Za (O.ar .add Za (k') 1) 1)]) ?_ ?_ ?_;focus (cbv;done))
  all_goals((try subst hos);subst hO hr hF;(try simp only[nc]at*);(try simp only[ah,SS,sa,az]at*);(try have hlt:i<es.length:=by assumption);(try have he:es.getD i.toNat []=[.i (ag es i 0),.i (ag es i 1),.i (ag es i 2)]:=(am hwf g0 hlt).symm);(try have hcg:cur.getD i.toNat []=[.i (ag es i 0),.i (ag es i 1),.i (ag es i 2)]:=by rw[hc,eN g1];exact he))
  all_goals exact zq0
def tZ:ec 124 cA:=by
 intro _ _ _ h hp;dsimp only[cA,F0]at h;split at h<;>cases h
 rename_i ms k;obtain⟨es,hms,hw,hlim,hk0,hkb⟩:=hp;have hlen:=d8 hlim;have hml:ms.length=es.length:=by rw[hms];exact cF
 have hkk:bj [ms] k=bj [es] k:=by rw[hms];exact qH
 have hwm:Wf [.i 0,.i 0,.i 0] ms:=by rw[hms];exact dC hw
 have hwf:Wf [.i 0,.i 0,.i 0] es:=hw.wf;have hat:∀ n,n<es.length->ms.getD n []=(gQ (es.getD n []) (fL es k n)).1:=fun n hn=>by rw[hms];exact kZ hn
 refine cb nB Tryz.func124 ?_
 intro O r F hO hr hF;cbv
 refine⟨[0,1,5],[],Int×Int,fun s=>match s with|(i,k')=>[.reg 5 (.j i),.reg 1 (.j k')],fun s=>0<=s.1/\s.1.toNat<=es.length/\s.2=fL es k s.1.toNat,fun s=>es.length-s.1.toNat,⟨(0,k),?_,?_⟩,?_⟩;exact⟨Uc,Ze _,bS.symm⟩
 ·cbv
 ·rintro⟨i,k'⟩ hi;replace hi:0<=i/\i.toNat<=es.length/\k'=fL es k i.toNat:=hi;obtain⟨g0,g1,hk'⟩:=hi;cbv
  repeat' first|apply Zb|(apply bC<;>intro hb<;>cbv)|(refine af (O.ar .add Za i 1,O.ar .add Za (O.ar .add Za (O.ar .add Za (k') 1) 1) 1) ?_ ?_ ?_;focus (cbv;done))
  all_goals(subst hO hr hF;(try simp only[nc]at*);(try simp only[ah,SS,sa,az]at*);(try have hltm:i<ms.length:=by assumption);(try have hlt:i<es.length:=by omega);(try have he:es.getD i.toNat []=[.i (ag es i 0),.i (ag es i 1),.i (ag es i 2)]:=(am hwf g0 hlt).symm);(try rw[eT (n:=es.length) g0 hlt Uc]);(try have hlt':i.toNat<es.length:=by omega);(try have hct:=dk (es:=es) (n:=i.toNat) Uc;rw[he]at hct;simp only[dO,gW,Zi,Zx]at hct);(try have hks:=dJ (es:=es) (k:=k) hlt';rw[he]at hks;simp only[gQ,iy]at hks);(try have hem:([.i (ag ms i 0),.i (ag ms i 1),.i (ag ms i 2)]:ax)=_:=(am hwm g0 hltm).trans (hat i.toNat hlt');rw[he]at hem;simp only[gQ,iy,Yg,L.v.injEq,Yk,Yl,L.s.injEq,true_and,and_true]at hem))
  all_goals exact zq1
end Go.V