/- Contracts. -/
import Derived.Test.YtpldpilhgjpkjaaGreatWFnv
set_option linter.all false
open Go
open And renaming intro->Zb
open Int renaming toNat_natCast->ZA,le_trans->XD
open IntKind renaming i64->ZG,i64->Za
open List renaming length_replicate->Z9,nil_append->ZJ,cons_append->ZP
open List.cons renaming injEq->Yg
open Nat renaming zero_le->Ze,add_zero->Zi,zero_add->Zx,le_refl->Zf
open Value renaming int->Zq
open Value.bool renaming injEq->Yl
open Value.int renaming injEq->Yk
namespace Go.V
open Go Go.Proofs
set_option maxRecDepth 1000000
set_option maxHeartbeats 8000000
def gY:EC:=fun F=>fun
 |[.one (.s 1 es),.one (.v (.int Za left))]=>some (fun _=>Rw [tI] es/\0<=left/\left<=1048576,[.j (F.szN [es] left)])
 |_=>none
def nN:ec 190 gY:=by
 intro _ _ _ h hp;dsimp only[gY,F0]at h;split at h<;>cases h
 rename_i es left;obtain⟨hw,h0,h1⟩:=hp;have hc:au es=es.length:=hw.cnt rfl;have hm:=hw.1;unfold maxLen at hm;have hs:bK .sub Za left es.length=left-es.length:=dp Uc;have hn:dF [es] left=if left<es.length then-1 else left-es.length:=by unfold dF;rw[eA,hc]
 refine cb nB Tryz.func190 ?_
 exact FZ
def gZ:EC:=fun F=>fun
 |[.one (.s 1 es)]=>some (fun _=>Rw [tI] es/\au es<=1048576,[.one (.s 1 es)])
 |_=>none
def nO:ec 217 gZ:=by
 intro _ _ _ h hp;dsimp only[gZ,F0]at h;split at h<;>cases h
 rename_i es;obtain⟨hw,hlim⟩:=hp;have hwf:Wf [.i 0] es:=hw.wf;have hlen:=d8 hlim;refine cb nB Tryz.func217 ?_
 intro O r F hO hr hF;cbv
 have h0z:cE es [.i 0] 0=O.rep (O.zi (O.ln es)) [.i 0]:=by
  subst hO;rw[dE];rfl
 refine⟨?_,?_,[0,3,4],[3],Int×ab,fun s=>[.reg 4 (.j s.1),.leaf 3 0 ⟨0,0,none,.own (.s 1 s.2)⟩],fun s=>0<=s.1/\s.1.toNat<=es.length/\s.2=cE es [.i 0] s.1.toNat,fun s=>es.length-s.1.toNat,⟨(0,O.rep (O.zi (O.ln es)) [.i 0]),?_,?_⟩,?_⟩
 ·subst hO;exact qJ (b:=8) (show es.length*_<=_ by omega) (show es.length<=_ by omega)
 ·subst hO;exact⟨rfl,rfl⟩
 ·exact⟨Uc,Ze _,h0z.symm⟩
 ·cbv
 ·rintro⟨i,m⟩ hi;replace hi:0<=i/\i.toNat<=es.length/\m=cE es [.i 0] i.toNat:=hi;obtain⟨g0,g1,hm⟩:=hi;cbv
  repeat' first|apply Zb|(apply bC<;>intro hb<;>cbv)|(refine af (O.ar .add Za i 1,O.up (.s 1 m) [(O.ad 0 i,0)] [.i (O.gi es i 0)]) ?_ ?_ ?_;focus (cbv;done))
  all_goals(subst hO hr hF;(try simp only[nc]at*);(try simp only[ah,SS,sa,az]at*);(try simp only[oJ,Z9,ZA]at*);(try have hlt:i<es.length:=by assumption);(try have he:es.getD i.toNat []=[.i (ag es i 0)]:=(am hwf g0 hlt).symm))
  all_goals exact Ro
def gX:EC:=fun F=>fun
 |[.one (.s 1 es),d]=>some (fun _=>d=.one (.s 1 es)/\Rw [tI] es/\au es<=1099511627776,[.k true])
 |_=>none
def nM:ec 228 gX:=by
 intro _ _ _ h hp;dsimp only[gX,F0]at h;split at h<;>cases h
 rename_i es d;obtain⟨rfl,hw,hlim⟩:=hp;have hwf:Wf [.i 0] es:=hw.wf;have hlen:=d8 hlim;refine cb nB Tryz.func228 ?_
 intro O r F hO hr hF;cbv
 apply bC<;>intro hb<;>cbv
 ·(subst hO hr hF;(try simp only[nc]at*);(try simp only[ah,SS,sa,az]at*));exact absurd rfl hb
 ·clear hb;refine⟨[0,1,5],[],Int,fun i=>[.reg 5 (.j i)],fun i=>0<=i/\i.toNat<=es.length,fun i=>es.length-i.toNat,⟨0,?_,?_⟩,?_⟩;exact⟨Uc,Ze _⟩
  ·cbv
  ·rintro i hi;replace hi:0<=i/\i.toNat<=es.length:=hi;obtain⟨g0,g1⟩:=hi;cbv
   repeat' first|apply Zb|(apply bC<;>intro hb<;>cbv)|(refine af (O.ar .add Za i 1) ?_ ?_ ?_;focus (cbv;done))
   all_goals(subst hO hr hF;(try simp only[nc]at*);(try simp only[ah,SS,sa,az]at*);(try have hlt:i<es.length:=by assumption);(try have he:es.getD i.toNat []=[.i (ag es i 0)]:=(am hwf g0 hlt).symm))
   all_goals exact zq8
def fJ:EM:=fun F=>fun
 |[.one (.s 1 es),.one (.v (.int Za k))]=>some (fun _=>Rw [tI] es/\au es<=1099511627776/\0<=k/\bj [es] k<=1152921504606846976,[.s 1 (F.mkN es k)],[.j (F.kN [es] k)])
 |_=>none
def kg:em 239 fJ:=by
 intro _ _ _ _ h hp;dsimp only[fJ,F0]at h;split at h<;>cases h
 rename_i es k;obtain⟨hw,hlim,hk0,hkb⟩:=hp;have hwf:Wf [.i 0] es:=hw.wf;have hlen:=d8 hlim;refine mb nB [(0,0)] Tryz.func239 ?_
 intro O r os F hO hr hos hF;cbv
 refine⟨[0,1,5],[0],Int×Int×ab,fun s=>match s with|(i,k',cur)=>[.reg 5 (.j i),.reg 1 (.j k'),.leaf 0 0 ⟨0,0,some 0,.own (.s 1 cur)⟩],fun s=>0<=s.1/\s.1.toNat<=es.length/\s.2.1=fL es k s.1.toNat/\s.2.2=gA es k s.1.toNat,fun s=>es.length-s.1.toNat,⟨(0,k,es),?_,?_⟩,?_⟩;exact⟨Uc,Ze _,bS.symm,eO.symm⟩
 ·cbv
 ·rintro⟨i,k',cur⟩ hi;replace hi:0<=i/\i.toNat<=es.length/\k'=fL es k i.toNat/\cur=gA es k i.toNat:=hi;obtain⟨g0,g1,hk',hc⟩:=hi;cbv
  repeat' first|apply Zb|(apply bC<;>intro hb<;>cbv)|(refine af (O.ar .add Za i 1,O.ar .add Za (k') 1,O.up (.s 1 (cur)) [(O.ad 0 i,0)] [.i (k')]) ?_ ?_ ?_;focus (cbv;done))
  all_goals((try subst hos);subst hO hr hF;(try simp only[nc]at*);(try simp only[ah,SS,sa,az]at*);(try have hlt:i<es.length:=by assumption);(try have he:es.getD i.toNat []=[.i (ag es i 0)]:=(am hwf g0 hlt).symm);(try have hcg:cur.getD i.toNat []=[.i (ag es i 0)]:=by rw[hc,eN g1];exact he))
  all_goals exact zq0
def fI:EC:=fun F=>fun
 |[.one (.s 1 ms),.one (.v (.int Za k))]=>some (fun _=>∃ es,ms=dL es k/\Rw [tI] es/\au es<=1099511627776/\0<=k/\bj [ms] k<=1152921504606846976,[.j (F.kN [ms] k)])
 |_=>none
def kf:ec 245 fI:=by
 intro _ _ _ h hp;dsimp only[fI,F0]at h;split at h<;>cases h
 rename_i ms k;obtain⟨es,hms,hw,hlim,hk0,hkb⟩:=hp;have hlen:=d8 hlim;have hml:ms.length=es.length:=by rw[hms];exact cF
 have hkk:bj [ms] k=bj [es] k:=by rw[hms];exact qH
 have hwm:Wf [.i 0] ms:=by rw[hms];exact dC hw
 have hwf:Wf [.i 0] es:=hw.wf;have hat:∀ n,n<es.length->ms.getD n []=(gQ (es.getD n []) (fL es k n)).1:=fun n hn=>by rw[hms];exact kZ hn
 refine cb nB Tryz.func245 ?_
 intro O r F hO hr hF;cbv
 refine⟨[0,1,5],[],Int×Int,fun s=>match s with|(i,k')=>[.reg 5 (.j i),.reg 1 (.j k')],fun s=>0<=s.1/\s.1.toNat<=es.length/\s.2=fL es k s.1.toNat,fun s=>es.length-s.1.toNat,⟨(0,k),?_,?_⟩,?_⟩;exact⟨Uc,Ze _,bS.symm⟩
 ·cbv
 ·rintro⟨i,k'⟩ hi;replace hi:0<=i/\i.toNat<=es.length/\k'=fL es k i.toNat:=hi;obtain⟨g0,g1,hk'⟩:=hi;cbv
  repeat' first|apply Zb|(apply bC<;>intro hb<;>cbv)|(refine af (O.ar .add Za i 1,O.ar .add Za (k') 1) ?_ ?_ ?_;focus (cbv;done))
  all_goals(subst hO hr hF;(try simp only[nc]at*);(try simp only[ah,SS,sa,az]at*);(try have hltm:i<ms.length:=by assumption);(try have hlt:i<es.length:=by omega);(try rw[eT (n:=es.length) g0 hlt Uc]);(try have hlt':i.toNat<es.length:=by omega);(try have he:es.getD i.toNat []=[.i (ag es i 0)]:=(am hwf g0 hlt).symm);(try have hct:=dk (es:=es) (n:=i.toNat) Uc;rw[he]at hct;simp only[dO,gW,Zi,Zx]at hct);(try have hks:=dJ (es:=es) (k:=k) hlt';rw[he]at hks;simp only[gQ,iy]at hks);(try have hem:([.i (ag ms i 0)]:ax)=_:=(am hwm g0 hltm).trans (hat i.toNat hlt');rw[he]at hem;simp only[gQ,iy,Yg,L.v.injEq,Yk,Yl,L.s.injEq,true_and,and_true]at hem))
  all_goals have hle1:=bR (es:=es) (n:=i.toNat+1)
  all_goals have hcE:au es=es.length+bO es:=rfl
  all_goals have hk1:=jn (es:=es) (k:=k) (n:=i.toNat)
  all_goals have hk2:=jn (es:=es) (k:=k) (n:=i.toNat+1)
  all_goals have hk3:=rZ (es:=es) (k:=k)
  all_goals have hk4:=jn (es:=es) (k:=k) (n:=es.length)
  all_goals have hk5:=fG (es:=es) (m:=0) (n:=i.toNat) g1 (Ze _)
  all_goals((have hk6:=fG (es:=es) (m:=i.toNat) (n:=es.length) (Zf _) g1);(try have hk7:=fG (es:=es) (m:=i.toNat+1) (n:=es.length) (Zf _) hlt'))
  all_goals rw[bS]at hk5
  all_goals((try have hk8:=mM (es:=es) (n:=i.toNat) hlt');(try rw[<-hk']at hem hks))
  all_goals have ha1:bK .add Za k' 1=k'+1:=bD Uc
  all_goals have ha2:bK .add Za (k'+1) 1=k'+1+1:=bD Uc
  all_goals have ha3:bK .add Za (k'+1+1) 1=k'+1+1+1:=bD Uc
  all_goals((have ha4:bK .add Za (k'+1+1+1) 1=k'+1+1+1+1:=bD Uc);(try simp only[ha1,ha2,ha3,ha4]at*))
  all_goals first|exact oK hwm g0 hltm|omega|(rw[hk',show i.toNat=es.length from by omega,hk3,hkk];done)|(rw[show(i+1).toNat=i.toNat+1 from by omega,hks];done)|trace_state
abbrev HU:cT:=dG (fun F f=>match f with|190=>gY F|217=>gZ F|228=>gX F|_=>fun _=>none) (by
 intro f;dsimp only;split;exact nN;exact nO;exact nM;exact cX)
abbrev LO:cT:={
 Φ:=sF
 F0:=F0
 ct:=fun F f=>match f with|245=>fI F|_=>fun _=>none
 hc:=(by
  intro f;dsimp only;split;exact kf;exact cX)
 mt:=fun F f=>match f with|239=>some (fJ F)|_=>none
 hm:=(by
  intro f mk h;dsimp only at h;split at h<;>cases h
  exact kg)}
def gn:EC:=fun F=>fun
 |[.one (.s 1 es),.one (.v (.int Za left))]=>some (fun _=>Rw [.sl [tI]] es/\0<=left/\left<=1048576,[.j (F.szN [es] left)])
 |_=>none
def lQ:ec 193 gn:=by
 intro _ _ _ h hp;dsimp only[gn,F0]at h;split at h<;>cases h
 rename_i es left;obtain⟨hw,h0,h1⟩:=hp;have hwf:Wf [.s 1 []] es:=hw.wf;have hm:=hw.1;unfold maxLen at hm;have hs:bK .sub Za left es.length=left-es.length:=dp Uc;have hcE:au es=es.length+bO es:=rfl;have hn:dF [es] left=if left<au es then-1 else left-au es:=by unfold dF;rw[eA]
 refine cb HU Tryz.func193 ?_
 intro O r F hO hr hF;cbv
 apply bC<;>intro hb<;>cbv
 ·repeat' first|apply Zb|(apply bC<;>intro hb<;>cbv)
  all_goals exact acA
 have hb0:0<=left-es.length:=by
  (subst hO hr hF;(try simp only[nc]at*);(try simp only[ah,SS,sa,az]at*))
  rw[hs]at hb;exact hb
 clear hb;refine⟨[0,1,5],[],Int×Int,fun s=>match s with|(i,l)=>[.reg 5 (.j i),.reg 1 (.j l)],fun s=>0<=s.1/\s.1.toNat<=es.length/\0<=s.2/\s.2=left-es.length-bO (es.take s.1.toNat),fun s=>es.length-s.1.toNat,⟨(0,O.ar .sub Za left (O.zi (O.ln es))),?_,?_⟩,?_⟩
 ·(subst hO hr hF;(try simp only[nc]at*);(try simp only[ah,SS,sa,az]at*))
  rw[hs];exact⟨Uc,Ze _,hb0,by simp[bO]⟩
 ·cbv
 ·rintro⟨i,l⟩ hi;replace hi:0<=i/\i.toNat<=es.length/\0<=l/\l=left-es.length-bO (es.take i.toNat):=hi;obtain⟨g0,g1,g2,g3⟩:=hi;cbv
  repeat' first|apply Zb|(apply bC<;>intro hb<;>cbv)|(refine af (O.ar .add Za i 1,F.szN [O.gs es i 0] l) ?_ ?_ ?_;focus (cbv;done))
  all_goals(subst hO hr hF;(try simp only[nc]at*);(try simp only[ah,SS,sa,az]at*))
  all_goals have hle:=bR (es:=es) (n:=i.toNat)
  all_goals have hsz:=qh (a:=[aw es i 0]) (left:=l)
  all_goals((have hsz2:0<=dF [aw es i 0] l->dF [aw es i 0] l=l-aP [aw es i 0]:=vj);(try have hlt:i<es.length:=by assumption);(try have he:es.getD i.toNat []=[.s 1 (aw es i 0)]:=(am hwf g0 hlt).symm);(try rw[eT (n:=es.length) g0 hlt Uc]);(try have hr0:Rw [tI] (aw es i 0):=Rw.sub (fs:=[.sl [tI]]) hw Uc rfl))
  all_goals exact acy
def gq:EC:=fun F=>fun
 |[.one (.s 1 es)]=>some (fun _=>Rw [.sl [tI]] es/\au es<=1048576,[.one (.s 1 es)])
 |_=>none
def lR:ec 224 gq:=by
 intro _ _ _ h hp;dsimp only[gq,F0]at h;split at h<;>cases h
 rename_i es;obtain⟨hw,hlim⟩:=hp;have hwf:Wf [.s 1 []] es:=hw.wf;have hlen:=d8 hlim;refine cb HU Tryz.func224 ?_
 intro O r F hO hr hF;cbv
 have h0z:cE es [.s 1 []] 0=O.rep (O.zi (O.ln es)) [.s 1 []]:=by
  subst hO;rw[dE];rfl
 refine⟨?_,?_,[0,3,4],[3],Int×ab,fun s=>[.reg 4 (.j s.1),.leaf 3 0 ⟨0,0,none,.own (.s 1 s.2)⟩],fun s=>0<=s.1/\s.1.toNat<=es.length/\s.2=cE es [.s 1 []] s.1.toNat,fun s=>es.length-s.1.toNat,⟨(0,O.rep (O.zi (O.ln es)) [.s 1 []]),?_,?_⟩,?_⟩
 ·subst hO;exact qJ (b:=24) (show es.length*_<=_ by omega) (show es.length<=_ by omega)
 ·subst hO;exact⟨rfl,rfl⟩
 ·exact⟨Uc,Ze _,h0z.symm⟩
 ·cbv
 ·rintro⟨i,m⟩ hi;replace hi:0<=i/\i.toNat<=es.length/\m=cE es [.s 1 []] i.toNat:=hi;obtain⟨g0,g1,hm⟩:=hi;cbv
  repeat' first|apply Zb|(apply bC<;>intro hb<;>cbv)|(refine af (O.ar .add Za i 1,O.up (.s 1 m) [(O.ad 0 i,0)] [.s 1 (O.gs es i 0)]) ?_ ?_ ?_;focus (cbv;done))
  all_goals(subst hO hr hF;(try simp only[nc]at*);(try simp only[ah,SS,sa,az]at*);(try simp only[oJ,Z9,ZA]at*);(try have hlt:i<es.length:=by assumption);(try have he:es.getD i.toNat []=[.s 1 (aw es i 0)]:=(am hwf g0 hlt).symm);(try rw[eT (n:=es.length) g0 hlt Uc]);(try have hr0:Rw [tI] (aw es i 0):=Rw.sub (fs:=[.sl [tI]]) hw Uc rfl))
  all_goals exact acx
def gj:EC:=fun F=>fun
 |[.one (.s 1 es),d]=>some (fun _=>d=.one (.s 1 es)/\Rw [.sl [tI]] es/\au es<=1099511627776,[.k true])
 |_=>none
def lP:ec 235 gj:=by
 intro _ _ _ h hp;dsimp only[gj,F0]at h;split at h<;>cases h
 rename_i es d;obtain⟨rfl,hw,hlim⟩:=hp;have hwf:Wf [.s 1 []] es:=hw.wf;have hlen:=d8 hlim;refine cb HU Tryz.func235 ?_
 intro O r F hO hr hF;cbv
 apply bC<;>intro hb<;>cbv
 ·(subst hO hr hF;(try simp only[nc]at*);(try simp only[ah,SS,sa,az]at*));exact absurd rfl hb
 ·clear hb;refine⟨[0,1,5],[],Int,fun i=>[.reg 5 (.j i)],fun i=>0<=i/\i.toNat<=es.length,fun i=>es.length-i.toNat,⟨0,?_,?_⟩,?_⟩;exact⟨Uc,Ze _⟩
  ·cbv
  ·rintro i hi;replace hi:0<=i/\i.toNat<=es.length:=hi;obtain⟨g0,g1⟩:=hi;cbv
   repeat' first|apply Zb|(apply bC<;>intro hb<;>cbv)|(refine af (O.ar .add Za i 1) ?_ ?_ ?_;focus (cbv;done))
   all_goals(subst hO hr hF;(try simp only[nc]at*);(try simp only[ah,SS,sa,az]at*);(try have hlt:i<es.length:=by assumption);(try have he:es.getD i.toNat []=[.s 1 (aw es i 0)]:=(am hwf g0 hlt).symm);(try rw[eT (n:=es.length) g0 hlt Uc]);(try have hr0:Rw [tI] (aw es i 0):=Rw.sub (fs:=[.sl [tI]]) hw Uc rfl))
   all_goals exact acz
def fw:EM:=fun F=>fun
 |[.one (.s 1 es),.one (.v (.int Za k))]=>some (fun _=>Rw [.sl [tI]] es/\au es<=1099511627776/\0<=k/\bj [es] k<=1152921504606846976,[.s 1 (F.mkN es k)],[.j (F.kN [es] k)])
 |_=>none
def js:em 240 fw:=by
 intro _ _ _ _ h hp;dsimp only[fw,F0]at h;split at h<;>cases h
 rename_i es k;obtain⟨hw,hlim,hk0,hkb⟩:=hp;have hwf:Wf [.s 1 []] es:=hw.wf;have hlen:=d8 hlim;refine mb LO [(0,0)] Tryz.func240 ?_
 intro O r os F hO hr hos hF;cbv
 refine⟨[0,1,5],[0],Int×Int×ab,fun s=>match s with|(i,k',cur)=>[.reg 5 (.j i),.reg 1 (.j k'),.leaf 0 0 ⟨0,0,some 0,.own (.s 1 cur)⟩],fun s=>0<=s.1/\s.1.toNat<=es.length/\s.2.1=fL es k s.1.toNat/\s.2.2=gA es k s.1.toNat,fun s=>es.length-s.1.toNat,⟨(0,k,es),?_,?_⟩,?_⟩;exact⟨Uc,Ze _,bS.symm,eO.symm⟩
 ·cbv
 ·rintro⟨i,k',cur⟩ hi;replace hi:0<=i/\i.toNat<=es.length/\k'=fL es k i.toNat/\cur=gA es k i.toNat:=hi;obtain⟨g0,g1,hk',hc⟩:=hi;cbv
  repeat' first|apply Zb|(apply bC<;>intro hb<;>cbv)|(refine af (O.ar .add Za i 1,F.kN [O.ps (.s 1 (cur)) [(O.ad 0 i,0)]] (k'),O.up (.s 1 (cur)) [(O.ad 0 i,0)] [.s 1 (F.mkN (O.ps (.s 1 (cur)) [(O.ad 0 i,0)]) (k'))]) ?_ ?_ ?_;focus (cbv;done))
  all_goals((try subst hos);subst hO hr hF;(try simp only[nc]at*);(try simp only[ah,SS,sa,az]at*);(try have hlt:i<es.length:=by assumption);(try have he:es.getD i.toNat []=[.s 1 (aw es i 0)]:=(am hwf g0 hlt).symm);(try have hcg:cur.getD i.toNat []=[.s 1 (aw es i 0)]:=by rw[hc,eN g1];exact he);(try rw[eT (n:=es.length) g0 hlt Uc]);(try have hlt':i.toNat<es.length:=by omega);(try have hr0:Rw [tI] (aw es i 0):=Rw.sub (fs:=[.sl [tI]]) hw Uc rfl))
  all_goals exact zq3
def fv:EC:=fun F=>fun
 |[.one (.s 1 ms),.one (.v (.int Za k))]=>some (fun _=>∃ es,ms=dL es k/\Rw [.sl [tI]] es/\au es<=1099511627776/\0<=k/\bj [ms] k<=1152921504606846976,[.j (F.kN [ms] k)])
 |_=>none
def jr:ec 246 fv:=by
 intro _ _ _ h hp;dsimp only[fv,F0]at h;split at h<;>cases h
 rename_i ms k;obtain⟨es,hms,hw,hlim,hk0,hkb⟩:=hp;have hlen:=d8 hlim;have hml:ms.length=es.length:=by rw[hms];exact cF
 have hkk:bj [ms] k=bj [es] k:=by rw[hms];exact qH
 have hwm:Wf [.s 1 []] ms:=by rw[hms];exact dC hw
 have hwf:Wf [.s 1 []] es:=hw.wf;have hat:∀ n,n<es.length->ms.getD n []=(gQ (es.getD n []) (fL es k n)).1:=fun n hn=>by rw[hms];exact kZ hn
 refine cb LO Tryz.func246 ?_
 intro O r F hO hr hF;cbv
 refine⟨[0,1,5],[],Int×Int,fun s=>match s with|(i,k')=>[.reg 5 (.j i),.reg 1 (.j k')],fun s=>0<=s.1/\s.1.toNat<=es.length/\s.2=fL es k s.1.toNat,fun s=>es.length-s.1.toNat,⟨(0,k),?_,?_⟩,?_⟩;exact⟨Uc,Ze _,bS.symm⟩
 ·cbv
 ·rintro⟨i,k'⟩ hi;replace hi:0<=i/\i.toNat<=es.length/\k'=fL es k i.toNat:=hi;obtain⟨g0,g1,hk'⟩:=hi;cbv
  repeat' first|apply Zb|(apply bC<;>intro hb<;>cbv)|(refine af (O.ar .add Za i 1,F.kN [O.gs ms i 0] (k')) ?_ ?_ ?_;focus (cbv;done))
  all_goals(subst hO hr hF;(try simp only[nc]at*);(try simp only[ah,SS,sa,az]at*);(try have hltm:i<ms.length:=by assumption);(try have hlt:i<es.length:=by omega);(try have he:es.getD i.toNat []=[.s 1 (aw es i 0)]:=(am hwf g0 hlt).symm);(try rw[eT (n:=es.length) g0 hlt Uc]);(try have hlt':i.toNat<es.length:=by omega);(try have hr0:Rw [tI] (aw es i 0):=Rw.sub (fs:=[.sl [tI]]) hw Uc rfl);(try have hct:=dk (es:=es) (n:=i.toNat) Uc;rw[he]at hct;simp only[dO,gW,Zi,Zx]at hct);(try have hks:=dJ (es:=es) (k:=k) hlt';rw[he]at hks;simp only[gQ,iy]at hks);(try have hem:([.s 1 (aw ms i 0)]:ax)=_:=(am hwm g0 hltm).trans (hat i.toNat hlt');rw[he]at hem;simp only[gQ,iy,Yg,L.v.injEq,Yk,Yl,L.s.injEq,true_and,and_true]at hem))
  all_goals exact zq5
def mo:EC:=fun F=>fun
 |[.one (.s 1 es),.one (.v (.int Za left))]=>some (fun _=>Rw [tB] es/\0<=left/\left<=1048576,[.j (F.szN [es] left)])
 |_=>none
def Al:ec 349 mo:=by
 intro _ _ _ h hp;dsimp only[mo,F0]at h;split at h<;>cases h
 rename_i es left;obtain⟨hw,h0,h1⟩:=hp;have hc:au es=es.length:=hw.cnt rfl;have hm:=hw.1;unfold maxLen at hm;have hs:bK .sub Za left es.length=left-es.length:=dp Uc;have hn:dF [es] left=if left<es.length then-1 else left-es.length:=by unfold dF;rw[eA,hc]
 refine cb nB Tryz.func349 ?_
 exact FZ
def mz:EC:=fun F=>fun
 |[.one (.s 1 es)]=>some (fun _=>Rw [tB] es/\au es<=1048576,[.one (.s 1 es)])
 |_=>none
def Aq:ec 370 mz:=by
 intro _ _ _ h hp;dsimp only[mz,F0]at h;split at h<;>cases h
 rename_i es;obtain⟨hw,hlim⟩:=hp;have hwf:Wf [.v (.bool false)] es:=hw.wf;have hlen:=d8 hlim;refine cb nB Tryz.func370 ?_
 intro O r F hO hr hF;cbv
 have h0z:cE es [.v (.bool false)] 0=O.rep (O.zi (O.ln es)) [.v (.bool false)]:=by
  subst hO;rw[dE];rfl
 refine⟨?_,?_,[0,3,4],[3],Int×ab,fun s=>[.reg 4 (.j s.1),.leaf 3 0 ⟨0,0,none,.own (.s 1 s.2)⟩],fun s=>0<=s.1/\s.1.toNat<=es.length/\s.2=cE es [.v (.bool false)] s.1.toNat,fun s=>es.length-s.1.toNat,⟨(0,O.rep (O.zi (O.ln es)) [.v (.bool false)]),?_,?_⟩,?_⟩
 ·subst hO;exact qJ (b:=1) (show es.length*_<=_ by omega) (show es.length<=_ by omega)
 ·subst hO;exact⟨rfl,rfl⟩
 ·exact⟨Uc,Ze _,h0z.symm⟩
 ·cbv
 ·rintro⟨i,m⟩ hi;replace hi:0<=i/\i.toNat<=es.length/\m=cE es [.v (.bool false)] i.toNat:=hi;obtain⟨g0,g1,hm⟩:=hi;cbv
  repeat' first|apply Zb|(apply bC<;>intro hb<;>cbv)|(refine af (O.ar .add Za i 1,O.up (.s 1 m) [(O.ad 0 i,0)] [.v (.bool (O.gb es i 0))]) ?_ ?_ ?_;focus (cbv;done))
  all_goals(subst hO hr hF;(try simp only[nc]at*);(try simp only[ah,SS,sa,az]at*);(try simp only[oJ,Z9,ZA]at*);(try have hlt:i<es.length:=by assumption);(try have he:es.getD i.toNat []=[.v (.bool (qO es i 0))]:=(am hwf g0 hlt).symm))
  all_goals exact Ro
def mf:EC:=fun F=>fun
 |[.one (.s 1 es),d]=>some (fun _=>d=.one (.s 1 es)/\Rw [tB] es/\au es<=1099511627776,[.k true])
 |_=>none
def Aa:ec 373 mf:=by
 intro _ _ _ h hp;dsimp only[mf,F0]at h;split at h<;>cases h
 rename_i es d;obtain⟨rfl,hw,hlim⟩:=hp;have hwf:Wf [.v (.bool false)] es:=hw.wf;have hlen:=d8 hlim;refine cb nB Tryz.func373 ?_
 intro O r F hO hr hF;cbv
 apply bC<;>intro hb<;>cbv
 ·(subst hO hr hF;(try simp only[nc]at*);(try simp only[ah,SS,sa,az]at*));exact absurd rfl hb
 ·clear hb;refine⟨[0,1,5],[],Int,fun i=>[.reg 5 (.j i)],fun i=>0<=i/\i.toNat<=es.length,fun i=>es.length-i.toNat,⟨0,?_,?_⟩,?_⟩;exact⟨Uc,Ze _⟩
  ·cbv
  ·rintro i hi;replace hi:0<=i/\i.toNat<=es.length:=hi;obtain⟨g0,g1⟩:=hi;cbv
   repeat' first|apply Zb|(apply bC<;>intro hb<;>cbv)|(refine af (O.ar .add Za i 1) ?_ ?_ ?_;focus (cbv;done))
   all_goals(subst hO hr hF;(try simp only[nc]at*);(try simp only[ah,SS,sa,az]at*);(try have hlt:i<es.length:=by assumption);(try rw[eT (n:=es.length) g0 hlt Uc]);(try have he:es.getD i.toNat []=[.v (.bool (qO es i 0))]:=(am hwf g0 hlt).symm);(try have hct:=dk (es:=es) (n:=i.toNat) Uc;rw[he]at hct;simp only[dO,gW,Zi,Zx]at hct))
   all_goals have hle1:=bR (es:=es) (n:=i.toNat+1)
   all_goals have hcE:au es=es.length+bO es:=rfl
   all_goals first|omega|exact oK hwf g0 hlt|exact absurd rfl hb|trivial|trace_state
def jB:EM:=fun F=>fun
 |[.one (.s 1 es),.one (.v (.int Za k))]=>some (fun _=>Rw [tB] es/\au es<=1099511627776/\0<=k/\bj [es] k<=1152921504606846976,[.s 1 (F.mkN es k)],[.j (F.kN [es] k)])
 |_=>none
def vR:em 376 jB:=by
 intro _ _ _ _ h hp;dsimp only[jB,F0]at h;split at h<;>cases h
 rename_i es k;obtain⟨hw,hlim,hk0,hkb⟩:=hp;have hwf:Wf [.v (.bool false)] es:=hw.wf;have hlen:=d8 hlim;refine mb nB [(0,0)] Tryz.func376 ?_
 intro O r os F hO hr hos hF;cbv
 refine⟨[0,1,5],[0],Int×Int×ab,fun s=>match s with|(i,k',cur)=>[.reg 5 (.j i),.reg 1 (.j k'),.leaf 0 0 ⟨0,0,some 0,.own (.s 1 cur)⟩],fun s=>0<=s.1/\s.1.toNat<=es.length/\s.2.1=fL es k s.1.toNat/\s.2.2=gA es k s.1.toNat,fun s=>es.length-s.1.toNat,⟨(0,k,es),?_,?_⟩,?_⟩;exact⟨Uc,Ze _,bS.symm,eO.symm⟩
 ·cbv
 ·rintro⟨i,k',cur⟩ hi;replace hi:0<=i/\i.toNat<=es.length/\k'=fL es k i.toNat/\cur=gA es k i.toNat:=hi;obtain⟨g0,g1,hk',hc⟩:=hi;cbv
  repeat' first|apply Zb|(apply bC<;>intro hb<;>cbv)|(refine af (O.ar .add Za i 1,O.ar .add Za (k') 1,O.up (.s 1 (cur)) [(O.ad 0 i,0)] [.v (.bool (O.cmp .eql (O.ar .rem Za (k') 3) 0))]) ?_ ?_ ?_;focus (cbv;done))
  all_goals((try subst hos);subst hO hr hF;(try simp only[nc]at*);(try simp only[ah,SS,sa,az]at*);(try have hlt:i<es.length:=by assumption);(try rw[eT (n:=es.length) g0 hlt Uc]);(try have hlt':i.toNat<es.length:=by omega);(try have he:es.getD i.toNat []=[.v (.bool (qO es i 0))]:=(am hwf g0 hlt).symm);(try have hct:=dk (es:=es) (n:=i.toNat) Uc;rw[he]at hct;simp only[dO,gW,Zi,Zx]at hct);(try have hks:=dJ (es:=es) (k:=k) hlt';rw[he]at hks;simp only[gQ,iy]at hks);(try have hms:=Bs (es:=es) (k:=k) hlt';rw[he]at hms;simp only[gQ,iy]at hms))
  all_goals have hle1:=bR (es:=es) (n:=i.toNat+1)
  all_goals have hcE:au es=es.length+bO es:=rfl
  all_goals have hk1:=jn (es:=es) (k:=k) (n:=i.toNat)
  all_goals have hk2:=jn (es:=es) (k:=k) (n:=i.toNat+1)
  all_goals have hk3:=rZ (es:=es) (k:=k)
  all_goals have hk4:=jn (es:=es) (k:=k) (n:=es.length)
  all_goals have hk5:=fG (es:=es) (m:=0) (n:=i.toNat) g1 (Ze _)
  all_goals((have hk6:=fG (es:=es) (m:=i.toNat) (n:=es.length) (Zf _) g1);(try have hk7:=fG (es:=es) (m:=i.toNat+1) (n:=es.length) (Zf _) hlt'))
  all_goals rw[bS]at hk5
  all_goals((try have hk8:=mM (es:=es) (n:=i.toNat) hlt');(try have hcl:i.toNat<cur.length:=by rw[hc,rC g1];exact hlt');(try have hcg:cur.getD i.toNat []=[.v (.bool (qO es i 0))]:=by rw[hc,eN g1];exact he))
  all_goals have ha1:bK .add Za k' 1=k'+1:=bD Uc
  all_goals have ha2:bK .add Za (k'+1) 1=k'+1+1:=bD Uc
  all_goals have ha3:bK .add Za (k'+1+1) 1=k'+1+1+1:=bD Uc
  all_goals((have ha4:bK .add Za (k'+1+1+1) 1=k'+1+1+1+1:=bD Uc);(try simp only[ha1,ha2,ha3,ha4]);(try simp only[az]);(try simp only[BY,hcg,List.take,List.drop,List.length_cons,List.length_nil,ZJ,ZP,List.append_nil,Zx,Nat.reduceAdd,fa hcl,List.set_set,List.append_assoc]);(try simp only[u9,hcg,fa hcl,List.getD_cons_zero,List.getD_cons_succ,LE]);(try simp only[zh hcl,uH hcl,zk hcl,Ba hcl,hcg,List.getElem?_cons_zero,List.getElem?_cons_succ]))
  all_goals first|exact⟨g0,hlt⟩|(refine⟨_,_,rfl,?_⟩;simp;done)|omega|(rw[hk',show i.toNat=es.length from by omega,hk3];done)|(rw[hc,show i.toNat=es.length from by omega,Br];rfl)|(rw[show(i+1).toNat=i.toNat+1 from by omega,hks,hk'];done)|(rw[show(i+1).toNat=i.toNat+1 from by omega, <-hms,hc,hk'];rfl)|trace_state
def jy:EC:=fun F=>fun
 |[.one (.s 1 ms),.one (.v (.int Za k))]=>some (fun _=>∃ es,ms=dL es k/\Rw [tB] es/\au es<=1099511627776/\0<=k/\bj [ms] k<=1152921504606846976,[.j (F.kN [ms] k)])
 |_=>none
def vN:ec 378 jy:=by
 intro _ _ _ h hp;dsimp only[jy,F0]at h;split at h<;>cases h
 rename_i ms k;obtain⟨es,hms,hw,hlim,hk0,hkb⟩:=hp;have hlen:=d8 hlim;have hml:ms.length=es.length:=by rw[hms];exact cF
 have hkk:bj [ms] k=bj [es] k:=by rw[hms];exact qH
 have hwm:Wf [.v (.bool false)] ms:=by rw[hms];exact dC hw
 have hwf:Wf [.v (.bool false)] es:=hw.wf;have hat:∀ n,n<es.length->ms.getD n []=(gQ (es.getD n []) (fL es k n)).1:=fun n hn=>by rw[hms];exact kZ hn
 refine cb nB Tryz.func378 ?_
 intro O r F hO hr hF;cbv
 refine⟨[0,1,5],[],Int×Int,fun s=>match s with|(i,k')=>[.reg 5 (.j i),.reg 1 (.j k')],fun s=>0<=s.1/\s.1.toNat<=es.length/\s.2=fL es k s.1.toNat,fun s=>es.length-s.1.toNat,⟨(0,k),?_,?_⟩,?_⟩;exact⟨Uc,Ze _,bS.symm⟩
 ·cbv
 ·rintro⟨i,k'⟩ hi;replace hi:0<=i/\i.toNat<=es.length/\k'=fL es k i.toNat:=hi;obtain⟨g0,g1,hk'⟩:=hi;cbv
  repeat' first|apply Zb|(apply bC<;>intro hb<;>cbv)|(refine af (O.ar .add Za i 1,O.ar .add Za (k') 1) ?_ ?_ ?_;focus (cbv;done))
  all_goals(subst hO hr hF;(try simp only[nc]at*);(try simp only[ah,SS,sa,az]at*);(try have hltm:i<ms.length:=by assumption);(try have hlt:i<es.length:=by omega);(try have he:es.getD i.toNat []=[.v (.bool (qO es i 0))]:=(am hwf g0 hlt).symm);(try rw[eT (n:=es.length) g0 hlt Uc]);(try have hlt':i.toNat<es.length:=by omega);(try have hct:=dk (es:=es) (n:=i.toNat) Uc;rw[he]at hct;simp only[dO,gW,Zi,Zx]at hct);(try have hks:=dJ (es:=es) (k:=k) hlt';rw[he]at hks;simp only[gQ,iy]at hks);(try have hem:([.v (.bool (qO ms i 0))]:ax)=_:=(am hwm g0 hltm).trans (hat i.toNat hlt');rw[he]at hem;simp only[gQ,iy,Yg,L.v.injEq,Yk,Yl,L.s.injEq,true_and,and_true]at hem))
  all_goals exact zq1
abbrev Eg:cT:=dG (fun F f=>match f with|193=>gn F|224=>gq F|235=>gj F|349=>mo F|370=>mz F|373=>mf F|_=>fun _=>none) (by
 intro f;dsimp only;split;exact lQ;exact lR;exact lP;exact Al;exact Aq;exact Aa;exact cX)
abbrev Jp:cT:={
 Φ:=sF
 F0:=F0
 ct:=fun F f=>match f with|246=>fv F|378=>jy F|_=>fun _=>none
 hc:=(by
  intro f;dsimp only;split;exact jr;exact vN;exact cX)
 mt:=fun F f=>match f with|240=>some (fw F)|376=>some (jB F)|_=>none
 hm:=(by
  intro f mk h;dsimp only at h;split at h<;>cases h
  exact js;exact vR)}
def kO:EC:=fun F=>fun
 |[.agg [.s 1 a0,.s 1 a1],.one (.v (.int Za left))]=>some (fun _=>Rw [.sl [tI]] a0/\Rw [tB] a1/\0<=left/\left<=1048576,[.j (F.szN [a0,a1] left)])
 |_=>none
def yl:ec 290 kO:=by
 intro _ _ _ h hp;dsimp only[kO,F0]at h;split at h<;>cases h
 rename_i a0 a1 left;obtain⟨w0,w1,h0,h1⟩:=hp;refine cb Eg Tryz.func290 ?_
 intro O r F hO hr hF;cbv
 repeat' first|apply Zb|(apply bC<;>intro hb<;>cbv)
 all_goals(subst hO hr hF;(try simp only[nc]at*);(try simp only[ah,SS,sa,az]at*);(try simp(disch:=assumption) only[nH,ZP,ZJ]at*))
 all_goals exact agU
def kT:EC:=fun F=>fun
 |[.agg [.s 1 a0,.s 1 a1]]=>some (fun _=>Rw [.sl [tI]] a0/\Rw [tB] a1/\aP [a0,a1]<=1048576,[.agg [.s 1 a0,.s 1 a1]])
 |_=>none
def yu:ec 314 kT:=by
 intro _ _ _ h hp;dsimp only[kT,F0]at h;split at h<;>cases h
 rename_i a0 a1;obtain⟨w0,w1,hlim⟩:=hp;simp only[aP,Zi]at hlim;refine cb Eg Tryz.func314 ?_
 exact agS
def kx:EC:=fun F=>fun
 |[.agg [.s 1 a0,.s 1 a1],d]=>some (fun _=>d=.agg [.s 1 a0,.s 1 a1]/\Rw [.sl [tI]] a0/\Rw [tB] a1/\aP [a0,a1]<=1099511627776,[.k true])
 |_=>none
def xY:ec 318 kx:=by
 intro _ _ _ h hp;dsimp only[kx,F0]at h;split at h<;>cases h
 rename_i a0 a1 d;obtain⟨rfl,w0,w1,hlim⟩:=hp;simp only[aP,Zi]at hlim;refine cb Eg Tryz.func318 ?_
 exact agR
def iV:EM:=fun F=>fun
 |[.agg [.s 1 a0,.s 1 a1],.one (.v (.int Za k))]=>some (fun _=>Rw [.sl [tI]] a0/\Rw [tB] a1/\aP [a0,a1]<=1099511627776/\0<=k/\bj [a0,a1] k<=1152921504606846976,[.s 1 (F.mkN a0 k),.s 1 (F.mkN a1 (F.kN [a0] k))],[.j (F.kN [a0,a1] k)])
 |_=>none
def ue:em 322 iV:=by
 intro _ _ _ _ h hp;dsimp only[iV,F0]at h;split at h<;>cases h
 rename_i a0 a1 k;obtain⟨w0,w1,hlim,hk0,hkb⟩:=hp;simp only[aP,Zi]at hlim;have p0:bj [a0] k<=bj [a0,a1] k/\0<=bj [a0] k:=bG (b:=[a1]) hk0;have p1:bj [a0,a1] k<=bj [a0,a1] k/\0<=bj [a0,a1] k:=bG (b:=[]) hk0;refine mb Jp [(2,0),(2,1)] Tryz.func322 ?_
 exact Rl
def iQ:EC:=fun F=>fun
 |[.agg [.s 1 m0,.s 1 m1],.one (.v (.int Za k))]=>some (fun _=>(∃ a0,m0=dL a0 k/\Rw [.sl [tI]] a0/\au a0<=1099511627776)/\(∃ a1,m1=dL a1 (bj [m0] k)/\Rw [tB] a1/\au a1<=1099511627776)/\0<=k/\bj [m0,m1] k<=1152921504606846976,[.j (F.kN [m0,m1] k)])
 |_=>none
def tX:ec 325 iQ:=by
 intro _ _ _ h hp;dsimp only[iQ,F0]at h;split at h<;>cases h
 rename_i m0 m1 k;obtain⟨e0,e1,hk0,hkb⟩:=hp;have p0:bj [m0] k<=bj [m0,m1] k/\0<=bj [m0] k:=bG (b:=[m1]) hk0;have p1:bj [m0,m1] k<=bj [m0,m1] k/\0<=bj [m0,m1] k:=bG (b:=[]) hk0;refine cb Jp Tryz.func325 ?_
 exact agA
def mB:EC:=fun F=>fun
 |[.agg [.v (.int Za a0),.v (.int Za a1)]]=>some (fun _=>True,[.agg [.i a0,.i a1]])
 |_=>none
def As:ec 404 mB:=by
 intro _ _ _ h hp;dsimp only[mB,F0]at h;split at h<;>cases h
 rename_i a0 a1;refine cb nB Tryz.func404 ?_
 exact y8
def mh:EC:=fun F=>fun
 |[.agg [.v (.int Za a0),.v (.int Za a1)],d]=>some (fun _=>d=.agg [.i a0,.i a1],[.k true])
 |_=>none
def Ac:ec 405 mh:=by
 intro _ _ _ h hp;dsimp only[mh,F0]at h;split at h<;>cases h
 rename_i a0 a1 d;subst hp;refine cb nB Tryz.func405 ?_
 exact y8
abbrev Ef:cT:=dG (fun F f=>match f with|404=>mB F|405=>mh F|_=>fun _=>none) (by
 intro f;dsimp only;split;exact As;exact Ac;exact cX)
def kM:EC:=fun F=>fun
 |[.one (.s 2 es),.one (.v (.int Za left))]=>some (fun _=>Rw [tI,tI] es/\0<=left/\left<=1048576,[.j (F.szN [es] left)])
 |_=>none
def yk:ec 350 kM:=by
 intro _ _ _ h hp;dsimp only[kM,F0]at h;split at h<;>cases h
 rename_i es left;obtain⟨hw,h0,h1⟩:=hp;have hc:au es=es.length:=hw.cnt rfl;have hm:=hw.1;unfold maxLen at hm;have hs:bK .sub Za left es.length=left-es.length:=dp Uc;have hn:dF [es] left=if left<es.length then-1 else left-es.length:=by unfold dF;rw[eA,hc]
 refine cb Ef Tryz.func350 ?_
 exact FZ
def kS:EC:=fun F=>fun
 |[.one (.s 2 es)]=>some (fun _=>Rw [tI,tI] es/\au es<=1048576,[.one (.s 2 es)])
 |_=>none
def yt:ec 371 kS:=by
 intro _ _ _ h hp;dsimp only[kS,F0]at h;split at h<;>cases h
 rename_i es;obtain⟨hw,hlim⟩:=hp;have hwf:Wf [.i 0,.i 0] es:=hw.wf;have hlen:=d8 hlim;refine cb Ef Tryz.func371 ?_
 intro O r F hO hr hF;cbv
 have h0z:cE es [.i 0,.i 0] 0=O.rep (O.zi (O.ln es)) [.i 0,.i 0]:=by
  subst hO;rw[dE];rfl
 refine⟨?_,?_,[0,3,4],[3],Int×ab,fun s=>[.reg 4 (.j s.1),.leaf 3 0 ⟨0,0,none,.own (.s 2 s.2)⟩],fun s=>0<=s.1/\s.1.toNat<=es.length/\s.2=cE es [.i 0,.i 0] s.1.toNat,fun s=>es.length-s.1.toNat,⟨(0,O.rep (O.zi (O.ln es)) [.i 0,.i 0]),?_,?_⟩,?_⟩
 ·subst hO;exact qJ (b:=16) (show es.length*_<=_ by omega) (show es.length<=_ by omega)
 ·subst hO;exact⟨rfl,rfl⟩
 ·exact⟨Uc,Ze _,h0z.symm⟩
 ·cbv
 ·rintro⟨i,m⟩ hi;replace hi:0<=i/\i.toNat<=es.length/\m=cE es [.i 0,.i 0] i.toNat:=hi;obtain⟨g0,g1,hm⟩:=hi;cbv
  repeat' first|apply Zb|(apply bC<;>intro hb<;>cbv)|(refine af (O.ar .add Za i 1,O.up (.s 2 m) [(O.ad 0 i,0)] [.i (O.gi es i 0),.i (O.gi es i 1)]) ?_ ?_ ?_;focus (cbv;done))
  all_goals(subst hO hr hF;(try simp only[nc]at*);(try simp only[ah,SS,sa,az]at*);(try simp only[oJ,Z9,ZA]at*);(try have hlt:i<es.length:=by assumption);(try have he:es.getD i.toNat []=[.i (ag es i 0),.i (ag es i 1)]:=(am hwf g0 hlt).symm))
  all_goals exact Ro
def kw:EC:=fun F=>fun
 |[.one (.s 2 es),d]=>some (fun _=>d=.one (.s 2 es)/\Rw [tI,tI] es/\au es<=1099511627776,[.k true])
 |_=>none
def xX:ec 374 kw:=by
 intro _ _ _ h hp;dsimp only[kw,F0]at h;split at h<;>cases h
 rename_i es d;obtain⟨rfl,hw,hlim⟩:=hp;have hwf:Wf [.i 0,.i 0] es:=hw.wf;have hlen:=d8 hlim;refine cb Ef Tryz.func374 ?_
 intro O r F hO hr hF;cbv
 apply bC<;>intro hb<;>cbv
 ·(subst hO hr hF;(try simp only[nc]at*);(try simp only[ah,SS,sa,az]at*));exact absurd rfl hb
 ·clear hb;refine⟨[0,1,5],[],Int,fun i=>[.reg 5 (.j i)],fun i=>0<=i/\i.toNat<=es.length,fun i=>es.length-i.toNat,⟨0,?_,?_⟩,?_⟩;exact⟨Uc,Ze _⟩
  ·cbv
  ·rintro i hi;replace hi:0<=i/\i.toNat<=es.length:=hi;obtain⟨g0,g1⟩:=hi;cbv
   repeat' first|apply Zb|(apply bC<;>intro hb<;>cbv)|(refine af (O.ar .add Za i 1) ?_ ?_ ?_;focus (cbv;done))
   all_goals(subst hO hr hF;(try simp only[nc]at*);(try simp only[ah,SS,sa,az]at*);(try have hlt:i<es.length:=by assumption);(try have he:es.getD i.toNat []=[.i (ag es i 0),.i (ag es i 1)]:=(am hwf g0 hlt).symm))
   all_goals exact zq8
def iU:EM:=fun F=>fun
 |[.one (.s 2 es),.one (.v (.int Za k))]=>some (fun _=>Rw [tI,tI] es/\au es<=1099511627776/\0<=k/\bj [es] k<=1152921504606846976,[.s 2 (F.mkN es k)],[.j (F.kN [es] k)])
 |_=>none
def uc:em 377 iU:=by
 intro _ _ _ _ h hp;dsimp only[iU,F0]at h;split at h<;>cases h
 rename_i es k;obtain⟨hw,hlim,hk0,hkb⟩:=hp;have hwf:Wf [.i 0,.i 0] es:=hw.wf;have hlen:=d8 hlim;refine mb nB [(0,0)] Tryz.func377 ?_
 intro O r os F hO hr hos hF;cbv
 refine⟨[0,1,5],[0],Int×Int×ab,fun s=>match s with|(i,k',cur)=>[.reg 5 (.j i),.reg 1 (.j k'),.leaf 0 0 ⟨0,0,some 0,.own (.s 2 cur)⟩],fun s=>0<=s.1/\s.1.toNat<=es.length/\s.2.1=fL es k s.1.toNat/\s.2.2=gA es k s.1.toNat,fun s=>es.length-s.1.toNat,⟨(0,k,es),?_,?_⟩,?_⟩;exact⟨Uc,Ze _,bS.symm,eO.symm⟩
 ·cbv
 ·rintro⟨i,k',cur⟩ hi;replace hi:0<=i/\i.toNat<=es.length/\k'=fL es k i.toNat/\cur=gA es k i.toNat:=hi;obtain⟨g0,g1,hk',hc⟩:=hi;cbv
  repeat' first|apply Zb|(apply bC<;>intro hb<;>cbv)|(refine af (O.ar .add Za i 1,O.ar .add Za (O.ar .add Za (k') 1) 1,O.up (.s 2 (O.up (.s 2 (cur)) [(O.ad 0 i,0)] [.i (k')])) [(O.ad 0 i,1)] [.i (O.ar .add Za (k') 1)]) ?_ ?_ ?_;focus (cbv;done))
  all_goals((try subst hos);subst hO hr hF;(try simp only[nc]at*);(try simp only[ah,SS,sa,az]at*);(try have hlt:i<es.length:=by assumption);(try have he:es.getD i.toNat []=[.i (ag es i 0),.i (ag es i 1)]:=(am hwf g0 hlt).symm);(try have hcg:cur.getD i.toNat []=[.i (ag es i 0),.i (ag es i 1)]:=by rw[hc,eN g1];exact he))
  all_goals exact zq0
def iP:EC:=fun F=>fun
 |[.one (.s 2 ms),.one (.v (.int Za k))]=>some (fun _=>∃ es,ms=dL es k/\Rw [tI,tI] es/\au es<=1099511627776/\0<=k/\bj [ms] k<=1152921504606846976,[.j (F.kN [ms] k)])
 |_=>none
def tW:ec 379 iP:=by
 intro _ _ _ h hp;dsimp only[iP,F0]at h;split at h<;>cases h
 rename_i ms k;obtain⟨es,hms,hw,hlim,hk0,hkb⟩:=hp;have hlen:=d8 hlim;have hml:ms.length=es.length:=by rw[hms];exact cF
 have hkk:bj [ms] k=bj [es] k:=by rw[hms];exact qH
 have hwm:Wf [.i 0,.i 0] ms:=by rw[hms];exact dC hw
 have hwf:Wf [.i 0,.i 0] es:=hw.wf;have hat:∀ n,n<es.length->ms.getD n []=(gQ (es.getD n []) (fL es k n)).1:=fun n hn=>by rw[hms];exact kZ hn
 refine cb nB Tryz.func379 ?_
 intro O r F hO hr hF;cbv
 refine⟨[0,1,5],[],Int×Int,fun s=>match s with|(i,k')=>[.reg 5 (.j i),.reg 1 (.j k')],fun s=>0<=s.1/\s.1.toNat<=es.length/\s.2=fL es k s.1.toNat,fun s=>es.length-s.1.toNat,⟨(0,k),?_,?_⟩,?_⟩;exact⟨Uc,Ze _,bS.symm⟩
 ·cbv
 ·rintro⟨i,k'⟩ hi;replace hi:0<=i/\i.toNat<=es.length/\k'=fL es k i.toNat:=hi;obtain⟨g0,g1,hk'⟩:=hi;cbv
  repeat' first|apply Zb|(apply bC<;>intro hb<;>cbv)|(refine af (O.ar .add Za i 1,O.ar .add Za (O.ar .add Za (k') 1) 1) ?_ ?_ ?_;focus (cbv;done))
  all_goals(subst hO hr hF;(try simp only[nc]at*);(try simp only[ah,SS,sa,az]at*);(try have hltm:i<ms.length:=by assumption);(try have hlt:i<es.length:=by omega);(try have he:es.getD i.toNat []=[.i (ag es i 0),.i (ag es i 1)]:=(am hwf g0 hlt).symm);(try rw[eT (n:=es.length) g0 hlt Uc]);(try have hlt':i.toNat<es.length:=by omega);(try have hct:=dk (es:=es) (n:=i.toNat) Uc;rw[he]at hct;simp only[dO,gW,Zi,Zx]at hct);(try have hks:=dJ (es:=es) (k:=k) hlt';rw[he]at hks;simp only[gQ,iy]at hks);(try have hem:([.i (ag ms i 0),.i (ag ms i 1)]:ax)=_:=(am hwm g0 hltm).trans (hat i.toNat hlt');rw[he]at hem;simp only[gQ,iy,Yg,L.v.injEq,Yk,Yl,L.s.injEq,true_and,and_true]at hem))
  all_goals exact zq1
abbrev HY:cT:=dG (fun F f=>match f with|350=>kM F|371=>kS F|374=>kw F|_=>fun _=>none) (by
 intro f;dsimp only;split;exact yk;exact yt;exact xX;exact cX)
abbrev LP:cT:={
 Φ:=sF
 F0:=F0
 ct:=fun F f=>match f with|379=>iP F|_=>fun _=>none
 hc:=(by
  intro f;dsimp only;split;exact tW;exact cX)
 mt:=fun F f=>match f with|377=>some (iU F)|_=>none
 hm:=(by
  intro f mk h;dsimp only at h;split at h<;>cases h
  exact uc)}
def my:EC:=fun F=>fun
 |[.agg [.s 2 a0],.one (.v (.int Za left))]=>some (fun _=>Rw [tI,tI] a0/\0<=left/\left<=1048576,[.j (F.szN [a0] left)])
 |_=>none
def Ap:ec 291 my:=by
 intro _ _ _ h hp;dsimp only[my,F0]at h;split at h<;>cases h
 rename_i a0 left;obtain⟨w0,h0,h1⟩:=hp;refine cb HY Tryz.func291 ?_
 intro O r F hO hr hF;cbv
 repeat' first|apply Zb|(apply bC<;>intro hb<;>cbv)
 all_goals(subst hO hr hF;(try simp only[nc]at*);(try simp only[ah,SS,sa,az]at*);(try simp(disch:=assumption) only[nH,ZP,ZJ]at*))
 all_goals first|trivial|(rw[mU Ud])|trace_state
def mC:EC:=fun F=>fun
 |[.agg [.s 2 a0]]=>some (fun _=>Rw [tI,tI] a0/\aP [a0]<=1048576,[.agg [.s 2 a0]])
 |_=>none
def Az:ec 315 mC:=by
 intro _ _ _ h hp;dsimp only[mC,F0]at h;split at h<;>cases h
 rename_i a0;obtain⟨w0,hlim⟩:=hp;simp only[aP,Zi]at hlim;refine cb HY Tryz.func315 ?_
 exact y8
def mi:EC:=fun F=>fun
 |[.agg [.s 2 a0],d]=>some (fun _=>d=.agg [.s 2 a0]/\Rw [tI,tI] a0/\aP [a0]<=1099511627776,[.k true])
 |_=>none
def Ai:ec 319 mi:=by
 intro _ _ _ h hp;dsimp only[mi,F0]at h;split at h<;>cases h
 rename_i a0 d;obtain⟨rfl,w0,hlim⟩:=hp;simp only[aP,Zi]at hlim;refine cb HY Tryz.func319 ?_
 exact y8
def jC:EM:=fun F=>fun
 |[.agg [.s 2 a0],.one (.v (.int Za k))]=>some (fun _=>Rw [tI,tI] a0/\aP [a0]<=1099511627776/\0<=k/\bj [a0] k<=1152921504606846976,[.s 2 (F.mkN a0 k)],[.j (F.kN [a0] k)])
 |_=>none
def vU:em 323 jC:=by
 intro _ _ _ _ h hp;dsimp only[jC,F0]at h;split at h<;>cases h
 rename_i a0 k;obtain⟨w0,hlim,hk0,hkb⟩:=hp;simp only[aP,Zi]at hlim;have p0:bj [a0] k<=bj [a0] k/\0<=bj [a0] k:=bG (b:=[]) hk0;refine mb LP [(2,0)] Tryz.func323 ?_
 exact Rn
def jz:EC:=fun F=>fun
 |[.agg [.s 2 m0],.one (.v (.int Za k))]=>some (fun _=>(∃ a0,m0=dL a0 k/\Rw [tI,tI] a0/\au a0<=1099511627776)/\0<=k/\bj [m0] k<=1152921504606846976,[.j (F.kN [m0] k)])
 |_=>none
def vQ:ec 326 jz:=by
 intro _ _ _ h hp;dsimp only[jz,F0]at h;split at h<;>cases h
 rename_i m0 k;obtain⟨e0,hk0,hkb⟩:=hp;have p0:bj [m0] k<=bj [m0] k/\0<=bj [m0] k:=bG (b:=[]) hk0;refine cb LP Tryz.func326 ?_
 exact Rm
abbrev zF:cT:=dG (fun F f=>match f with|290=>kO F|314=>kT F|318=>kx F|291=>my F|315=>mC F|319=>mi F|_=>fun _=>none) (by
 intro f;dsimp only;split;exact yl;exact yu;exact xY;exact Ap;exact Az;exact Ai;exact cX)
abbrev Gb:cT:={
 Φ:=sF
 F0:=F0
 ct:=fun F f=>match f with|325=>iQ F|326=>jz F|_=>fun _=>none
 hc:=(by
  intro f;dsimp only;split;exact tX;exact vQ;exact cX)
 mt:=fun F f=>match f with|322=>some (iV F)|323=>some (jC F)|_=>none
 hm:=(by
  intro f mk h;dsimp only at h;split at h<;>cases h
  exact ue;exact vU)}
def jD:EC:=fun F=>fun
 |[.agg [.s 1 a0,.s 1 a1,.s 2 a2],.one (.v (.int Za left))]=>some (fun _=>Rw [.sl [tI]] a0/\Rw [tB] a1/\Rw [tI,tI] a2/\0<=left/\left<=1048576,[.j (F.szN [a0,a1,a2] left)])
 |_=>none
def vV:ec 189 jD:=by
 intro _ _ _ h hp;dsimp only[jD,F0]at h;split at h<;>cases h
 rename_i a0 a1 a2 left;obtain⟨w0,w1,w2,h0,h1⟩:=hp;refine cb zF Tryz.func189 ?_
 intro O r F hO hr hF;cbv
 repeat' first|apply Zb|(apply bC<;>intro hb<;>cbv)
 all_goals(subst hO hr hF;(try simp only[nc]at*);(try simp only[ah,SS,sa,az]at*);(try simp(disch:=assumption) only[nH,ZP,ZJ]at*))
 all_goals first|trivial|(refine⟨Ud,Uc,by first|omega|exact XD (BP Ud) h1⟩)|(rw[mU Ud])|exact congrArg (fun x=>[DV.one (L.v (Zq ZG x))]) (gE (a:=[a0,a1]) (b:=[a2]) Ud).symm|trace_state
def jE:EC:=fun F=>fun
 |[.agg [.s 1 a0,.s 1 a1,.s 2 a2]]=>some (fun _=>Rw [.sl [tI]] a0/\Rw [tB] a1/\Rw [tI,tI] a2/\aP [a0,a1,a2]<=1048576,[.agg [.s 1 a0,.s 1 a1,.s 2 a2]])
 |_=>none
def vW:ec 216 jE:=by
 intro _ _ _ h hp;dsimp only[jE,F0]at h;split at h<;>cases h
 rename_i a0 a1 a2;obtain⟨w0,w1,w2,hlim⟩:=hp;simp only[aP,Zi]at hlim;refine cb zF Tryz.func216 ?_
 intro O r F hO hr hF;cbv
 repeat' first|apply Zb|(apply bC<;>intro hb<;>cbv)
 all_goals(subst hO hr hF;(try simp only[nc]at*);(try simp only[ah,SS,sa,az]at*))
 all_goals first|trivial|(refine⟨Ud,?_⟩;(try simp only[aP,Zi]);omega)|(refine⟨Ud,Ud,?_⟩;(try simp only[aP,Zi]);omega)|trace_state
def jx:EC:=fun F=>fun
 |[.agg [.s 1 a0,.s 1 a1,.s 2 a2],d]=>some (fun _=>d=.agg [.s 1 a0,.s 1 a1,.s 2 a2]/\Rw [.sl [tI]] a0/\Rw [tB] a1/\Rw [tI,tI] a2/\aP [a0,a1,a2]<=1099511627776,[.k true])
 |_=>none
def vM:ec 227 jx:=by
 intro _ _ _ h hp;dsimp only[jx,F0]at h;split at h<;>cases h
 rename_i a0 a1 a2 d;obtain⟨rfl,w0,w1,w2,hlim⟩:=hp;simp only[aP,Zi]at hlim;refine cb zF Tryz.func227 ?_
 intro O r F hO hr hF;cbv
 repeat' first|apply Zb|(apply bC<;>intro hb<;>cbv)
 all_goals(subst hO hr hF;(try simp only[nc]at*);(try simp only[ah,SS,sa,az]at*))
 all_goals first|trivial|(refine⟨trivial,Ud,?_⟩;(try simp only[aP,Zi]);omega)|(refine⟨trivial,Ud,Ud,?_⟩;(try simp only[aP,Zi]);omega)|trace_state
def ic:EM:=fun F=>fun
 |[.agg [.s 1 a0,.s 1 a1,.s 2 a2],.one (.v (.int Za k))]=>some (fun _=>Rw [.sl [tI]] a0/\Rw [tB] a1/\Rw [tI,tI] a2/\aP [a0,a1,a2]<=1099511627776/\0<=k/\bj [a0,a1,a2] k<=1152921504606846976,[.s 1 (F.mkN a0 k),.s 1 (F.mkN a1 (F.kN [a0] k)),.s 2 (F.mkN a2 (F.kN [a0,a1] k))],[.j (F.kN [a0,a1,a2] k)])
 |_=>none
def s9:em 238 ic:=by
 intro _ _ _ _ h hp;dsimp only[ic,F0]at h;split at h<;>cases h
 rename_i a0 a1 a2 k;obtain⟨w0,w1,w2,hlim,hk0,hkb⟩:=hp;simp only[aP,Zi]at hlim;have p0:bj [a0] k<=bj [a0,a1,a2] k/\0<=bj [a0] k:=bG (b:=[a1,a2]) hk0;have p1:bj [a0,a1] k<=bj [a0,a1,a2] k/\0<=bj [a0,a1] k:=bG (b:=[a2]) hk0;have p2:bj [a0,a1,a2] k<=bj [a0,a1,a2] k/\0<=bj [a0,a1,a2] k:=bG (b:=[]) hk0;refine mb Gb [(2,0),(2,1),(2,2)] Tryz.func238 ?_
 exact Rl
def ib:EC:=fun F=>fun
 |[.agg [.s 1 m0,.s 1 m1,.s 2 m2],.one (.v (.int Za k))]=>some (fun _=>(∃ a0,m0=dL a0 k/\Rw [.sl [tI]] a0/\au a0<=1099511627776)/\(∃ a1,m1=dL a1 (bj [m0] k)/\Rw [tB] a1/\au a1<=1099511627776)/\(∃ a2,m2=dL a2 (bj [m0,m1] k)/\Rw [tI,tI] a2/\au a2<=1099511627776)/\0<=k/\bj [m0,m1,m2] k<=1152921504606846976,[.j (F.kN [m0,m1,m2] k)])
 |_=>none
def s8:ec 244 ib:=by
 intro _ _ _ h hp;dsimp only[ib,F0]at h;split at h<;>cases h
 rename_i m0 m1 m2 k;obtain⟨e0,e1,e2,hk0,hkb⟩:=hp;have p0:bj [m0] k<=bj [m0,m1,m2] k/\0<=bj [m0] k:=bG (b:=[m1,m2]) hk0;have p1:bj [m0,m1] k<=bj [m0,m1,m2] k/\0<=bj [m0,m1] k:=bG (b:=[m2]) hk0;have p2:bj [m0,m1,m2] k<=bj [m0,m1,m2] k/\0<=bj [m0,m1,m2] k:=bG (b:=[]) hk0;refine cb Gb Tryz.func244 ?_
 intro O r F hO hr hF;cbv
 repeat' first|apply Zb|(apply bC<;>intro hb<;>cbv)
 all_goals(subst hO hr hF;(try simp only[nc]at*);(try simp only[ah,SS,sa,az]at*);(try simp only[jJ,ZP,ZJ]at*))
 all_goals first|trivial|(exfalso;omega)|(obtain⟨x,y1,y2,y3⟩:=e0;exact⟨x,y1,y2,y3,Uc,Uc⟩)|(obtain⟨x,y1,y2,y3⟩:=e1;exact⟨x,y1,y2,y3,Uc,Uc⟩)|(obtain⟨x,y1,y2,y3⟩:=e2;exact⟨x,y1,y2,y3,Uc,Uc⟩)|(refine⟨Ud,Uc,Uc⟩)|(refine⟨Ud,Ud,Uc,Uc⟩)|(refine⟨Ud,Ud,Ud,Uc,Uc⟩)|trace_state
abbrev Eh:cT:=dG (fun F f=>match f with|189=>jD F|216=>jE F|227=>jx F|190=>gY F|217=>gZ F|228=>gX F|_=>fun _=>none) (by
 intro f;dsimp only;split;exact vV;exact vW;exact vM;exact nN;exact nO;exact nM;exact cX)
abbrev Jq:cT:={
 Φ:=sF
 F0:=F0
 ct:=fun F f=>match f with|244=>ib F|245=>fI F|_=>fun _=>none
 hc:=(by
  intro f;dsimp only;split;exact s8;exact kf;exact cX)
 mt:=fun F f=>match f with|238=>some (ic F)|239=>some (fJ F)|_=>none
 hm:=(by
  intro f mk h;dsimp only at h;split at h<;>cases h
  exact s9;exact kg)}
def kP:EC:=fun F=>fun
 |[.agg [.s 1 a0,.s 1 a1,.s 2 a2,.v (.int Za a3),.s 1 a4],.one (.v (.int Za left))]=>some (fun _=>Rw [.sl [tI]] a0/\Rw [tB] a1/\Rw [tI,tI] a2/\Rw [tI] a4/\0<=left/\left<=1048576,[.j (F.szN [a0,a1,a2,a4] left)])
 |_=>none
def ym:ec 81 kP:=by
 intro _ _ _ h hp;dsimp only[kP,F0]at h;split at h<;>cases h
 rename_i a0 a1 a2 a3 a4 left;obtain⟨w0,w1,w2,w3,h0,h1⟩:=hp;refine cb Eh Tryz.func81 ?_
 intro O r F hO hr hF;cbv
 repeat' first|apply Zb|(apply bC<;>intro hb<;>cbv)
 all_goals(subst hO hr hF;(try simp only[nc]at*);(try simp only[ah,SS,sa,az]at*);(try simp(disch:=assumption) only[nH,ZP,ZJ]at*))
 all_goals first|trivial|(refine⟨Ud,Uc,by first|omega|exact XD (BP Ud) h1⟩)|(rw[mU Ud])|exact congrArg (fun x=>[DV.one (L.v (Zq ZG x))]) (gE (a:=[a0,a1,a2]) (b:=[a4]) Ud).symm|trace_state
def kU:EC:=fun F=>fun
 |[.agg [.s 1 a0,.s 1 a1,.s 2 a2,.v (.int Za a3),.s 1 a4]]=>some (fun _=>Rw [.sl [tI]] a0/\Rw [tB] a1/\Rw [tI,tI] a2/\Rw [tI] a4/\aP [a0,a1,a2,a4]<=1048576,[.agg [.s 1 a0,.s 1 a1,.s 2 a2,.i a3,.s 1 a4]])
 |_=>none
def yv:ec 94 kU:=by
 intro _ _ _ h hp;dsimp only[kU,F0]at h;split at h<;>cases h
 rename_i a0 a1 a2 a3 a4;obtain⟨w0,w1,w2,w3,hlim⟩:=hp;simp only[aP,Zi]at hlim;refine cb Eh Tryz.func94 ?_
 intro O r F hO hr hF;cbv
 repeat' first|apply Zb|(apply bC<;>intro hb<;>cbv)
 all_goals(subst hO hr hF;(try simp only[nc]at*);(try simp only[ah,SS,sa,az]at*))
 all_goals first|trivial|(refine⟨Ud,?_⟩;(try simp only[aP,Zi]);omega)|(refine⟨Ud,Ud,Ud,?_⟩;(try simp only[aP,Zi]);omega)|trace_state
def ky:EC:=fun F=>fun
 |[.agg [.s 1 a0,.s 1 a1,.s 2 a2,.v (.int Za a3),.s 1 a4],d]=>some (fun _=>d=.agg [.s 1 a0,.s 1 a1,.s 2 a2,.i a3,.s 1 a4]/\Rw [.sl [tI]] a0/\Rw [tB] a1/\Rw [tI,tI] a2/\Rw [tI] a4/\aP [a0,a1,a2,a4]<=1099511627776,[.k true])
 |_=>none
def xZ:ec 103 ky:=by
 intro _ _ _ h hp;dsimp only[ky,F0]at h;split at h<;>cases h
 rename_i a0 a1 a2 a3 a4 d;obtain⟨rfl,w0,w1,w2,w3,hlim⟩:=hp;simp only[aP,Zi]at hlim;refine cb Eh Tryz.func103 ?_
 intro O r F hO hr hF;cbv
 repeat' first|apply Zb|(apply bC<;>intro hb<;>cbv)
 all_goals(subst hO hr hF;(try simp only[nc]at*);(try simp only[ah,SS,sa,az]at*))
 all_goals first|trivial|(refine⟨trivial,Ud,?_⟩;(try simp only[aP,Zi]);omega)|(refine⟨trivial,Ud,Ud,Ud,?_⟩;(try simp only[aP,Zi]);omega)|trace_state
def iW:EM:=fun F=>fun
 |[.agg [.s 1 a0,.s 1 a1,.s 2 a2,.v (.int Za a3),.s 1 a4],.one (.v (.int Za k))]=>some (fun _=>Rw [.sl [tI]] a0/\Rw [tB] a1/\Rw [tI,tI] a2/\Rw [tI] a4/\aP [a0,a1,a2,a4]<=1099511627776/\0<=k/\bj [a0,a1,a2,a4] k<=1152921504606846976,[.s 1 (F.mkN a0 k),.s 1 (F.mkN a1 (F.kN [a0] k)),.s 2 (F.mkN a2 (F.kN [a0,a1] k)),.s 1 (F.mkN a4 (F.kN [a0,a1,a2] k))],[.j (F.kN [a0,a1,a2,a4] k)])
 |_=>none
def uf:em 112 iW:=by
 intro _ _ _ _ h hp;dsimp only[iW,F0]at h;split at h<;>cases h
 rename_i a0 a1 a2 a3 a4 k;obtain⟨w0,w1,w2,w3,hlim,hk0,hkb⟩:=hp;simp only[aP,Zi]at hlim;have p0:bj [a0] k<=bj [a0,a1,a2,a4] k/\0<=bj [a0] k:=bG (b:=[a1,a2,a4]) hk0;have p1:bj [a0,a1] k<=bj [a0,a1,a2,a4] k/\0<=bj [a0,a1] k:=bG (b:=[a2,a4]) hk0;have p2:bj [a0,a1,a2] k<=bj [a0,a1,a2,a4] k/\0<=bj [a0,a1,a2] k:=bG (b:=[a4]) hk0;have p3:bj [a0,a1,a2,a4] k<=bj [a0,a1,a2,a4] k/\0<=bj [a0,a1,a2,a4] k:=bG (b:=[]) hk0;refine mb Jq [(2,0),(2,1),(2,2),(2,4)] Tryz.func112 ?_
 exact Rl
def iR:EC:=fun F=>fun
 |[.agg [.s 1 m0,.s 1 m1,.s 2 m2,.v (.int Za m3),.s 1 m4],.one (.v (.int Za k))]=>some (fun _=>(∃ a0,m0=dL a0 k/\Rw [.sl [tI]] a0/\au a0<=1099511627776)/\(∃ a1,m1=dL a1 (bj [m0] k)/\Rw [tB] a1/\au a1<=1099511627776)/\(∃ a2,m2=dL a2 (bj [m0,m1] k)/\Rw [tI,tI] a2/\au a2<=1099511627776)/\(∃ a4,m4=dL a4 (bj [m0,m1,m2] k)/\Rw [tI] a4/\au a4<=1099511627776)/\0<=k/\bj [m0,m1,m2,m4] k<=1152921504606846976,[.j (F.kN [m0,m1,m2,m4] k)])
 |_=>none
def tY:ec 121 iR:=by
 intro _ _ _ h hp;dsimp only[iR,F0]at h;split at h<;>cases h
 rename_i m0 m1 m2 m3 m4 k;obtain⟨e0,e1,e2,e3,hk0,hkb⟩:=hp;have p0:bj [m0] k<=bj [m0,m1,m2,m4] k/\0<=bj [m0] k:=bG (b:=[m1,m2,m4]) hk0;have p1:bj [m0,m1] k<=bj [m0,m1,m2,m4] k/\0<=bj [m0,m1] k:=bG (b:=[m2,m4]) hk0;have p2:bj [m0,m1,m2] k<=bj [m0,m1,m2,m4] k/\0<=bj [m0,m1,m2] k:=bG (b:=[m4]) hk0;have p3:bj [m0,m1,m2,m4] k<=bj [m0,m1,m2,m4] k/\0<=bj [m0,m1,m2,m4] k:=bG (b:=[]) hk0;refine cb Jq Tryz.func121 ?_
 intro O r F hO hr hF;cbv
 repeat' first|apply Zb|(apply bC<;>intro hb<;>cbv)
 all_goals(subst hO hr hF;(try simp only[nc]at*);(try simp only[ah,SS,sa,az]at*);(try simp only[jJ,ZP,ZJ]at*))
 all_goals first|trivial|(exfalso;omega)|(obtain⟨x,y1,y2,y3⟩:=e0;exact⟨x,y1,y2,y3,Uc,Uc⟩)|(obtain⟨x,y1,y2,y3⟩:=e1;exact⟨x,y1,y2,y3,Uc,Uc⟩)|(obtain⟨x,y1,y2,y3⟩:=e2;exact⟨x,y1,y2,y3,Uc,Uc⟩)|(obtain⟨x,y1,y2,y3⟩:=e3;exact⟨x,y1,y2,y3,Uc,Uc⟩)|(refine⟨Ud,Uc,Uc⟩)|(refine⟨Ud,Ud,Uc,Uc⟩)|(refine⟨Ud,Ud,Ud,Uc,Uc⟩)|(refine⟨Ud,Ud,Ud,Ud,Uc,Uc⟩)|trace_state
end Go.V