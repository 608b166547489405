/- Contracts. -/
import Derived.Test.YtbedjnlfdopeeaaGreatFnu
set_option linter.all false
open Go
open And renaming intro->Zb
open Int renaming toNat_natCast->Zy,le_trans->XB
open IntKind renaming i64->Zp,i64->Za
open List renaming length_replicate->Yn,nil_append->ZI,cons_append->ZN
open List.cons renaming injEq->Yk
open Nat renaming zero_le->Zg,add_zero->Zj,zero_add->ZB,le_refl->Zd
open Value renaming int->Zi
open Value.bool renaming injEq->Yr
open Value.int renaming injEq->Yq
namespace Go.V
open Go Go.Proofs
set_option maxRecDepth 1000000
set_option maxHeartbeats 8000000
def hN:EC:=fun F=>fun
 |[.one (.s 1 es),.one (.v (.int Za left))]=>some (fun _=>Rw [tI] es/\0<=left/\left<=1048576,[.j (F.szN [es] left)])
 |_=>none
theorem nL:ec 94 hN:=by
 intro _ _ _ h hp;dsimp only[hN,F0]at h;split at h<;>cases h
 rename_i es left;obtain⟨hw,h0,h1⟩:=hp;have hc:ak es=es.length:=hw.cnt rfl;have hm:=hw.1;unfold maxLen at hm;have hs:bO .sub Za left es.length=left-es.length:=dG (by omega);have hn:dV [es] left=if left<es.length then-1 else left-es.length:=by unfold dV;rw[eH,hc]
 refine cb nB Tryz.func94 ?_
 exact QN
def hP:EC:=fun F=>fun
 |[.one (.s 1 es)]=>some (fun _=>Rw [tI] es/\ak es<=1048576,[.one (.s 1 es)])
 |_=>none
theorem nM:ec 108 hP:=by
 intro _ _ _ h hp;dsimp only[hP,F0]at h;split at h<;>cases h
 rename_i es;obtain⟨hw,hlim⟩:=hp;have hwf:Wf [.i 0] es:=hw.wf;have hlen:=ew hlim;refine cb nB Tryz.func108 ?_
 intro O r F hO hr hF;cbv
 have h0z:cE es [.i 0] 0=O.rep (O.zi (O.ln es)) [.i 0]:=by
  subst hO;rw[dU];rfl
 refine⟨?_,?_,[0,3,4],[3],Int×aa,fun s=>[.reg 4 (.j s.1),.leaf 3 0 ⟨0,0,none,.own (.s 1 s.2)⟩],fun s=>0<=s.1/\s.1.toNat<=es.length/\s.2=cE es [.i 0] s.1.toNat,fun s=>es.length-s.1.toNat,⟨(0,O.rep (O.zi (O.ln es)) [.i 0]),?_,?_⟩,?_⟩
 ·subst hO;exact qi (b:=8) (show es.length*_<=_ by omega) (show es.length<=_ by omega)
 ·subst hO;exact⟨rfl,rfl⟩
 ·exact⟨by omega,Zg _,h0z.symm⟩
 ·cbv
 ·rintro⟨i,m⟩ hi;replace hi:0<=i/\i.toNat<=es.length/\m=cE es [.i 0] i.toNat:=hi;obtain⟨g0,g1,hm⟩:=hi;cbv
  repeat' first|apply Zb|(apply bF<;>intro hb<;>cbv)|(refine ag (O.ar .add Za i 1,O.up (.s 1 m) [(O.ad 0 i,0)] [.i (O.gi es i 0)]) ?_ ?_ ?_;focus (cbv;done))
  all_goals(subst hO hr hF;(try simp only[nc]at*);(try simp only[ah,SS,sa,az]at*);(try simp only[pI,Yn,Zy]at*);(try have hlt:i<es.length:=by assumption);(try have he:es.getD i.toNat []=[.i (ab es i 0)]:=(ao hwf g0 hlt).symm))
  all_goals exact QL
def hK:EC:=fun F=>fun
 |[.one (.s 1 es),d]=>some (fun _=>d=.one (.s 1 es)/\Rw [tI] es/\ak es<=1099511627776,[.k true])
 |_=>none
theorem nK:ec 142 hK:=by
 intro _ _ _ h hp;dsimp only[hK,F0]at h;split at h<;>cases h
 rename_i es d;obtain⟨rfl,hw,hlim⟩:=hp;have hwf:Wf [.i 0] es:=hw.wf;have hlen:=ew hlim;refine cb nB Tryz.func142 ?_
 intro O r F hO hr hF;cbv
 apply bF<;>intro hb<;>cbv
 ·(subst hO hr hF;(try simp only[nc]at*);(try simp only[ah,SS,sa,az]at*));exact absurd rfl hb
 ·clear hb;refine⟨[0,1,5],[],Int,fun i=>[.reg 5 (.j i)],fun i=>0<=i/\i.toNat<=es.length,fun i=>es.length-i.toNat,⟨0,?_,?_⟩,?_⟩;exact⟨by omega,Zg _⟩
  ·cbv
  ·rintro i hi;replace hi:0<=i/\i.toNat<=es.length:=hi;obtain⟨g0,g1⟩:=hi;cbv
   repeat' first|apply Zb|(apply bF<;>intro hb<;>cbv)|(refine ag (O.ar .add Za i 1) ?_ ?_ ?_;focus (cbv;done))
   all_goals(subst hO hr hF;(try simp only[nc]at*);(try simp only[ah,SS,sa,az]at*);(try have hlt:i<es.length:=by assumption);(try have he:es.getD i.toNat []=[.i (ab es i 0)]:=(ao hwf g0 hlt).symm))
   all_goals exact TK
def fT:EM:=fun F=>fun
 |[.one (.s 1 es),.one (.v (.int Za k))]=>some (fun _=>Rw [tI] es/\ak es<=1099511627776/\0<=k/\be [es] k<=1152921504606846976,[.s 1 (F.mkN es k)],[.j (F.kN [es] k)])
 |_=>none
theorem kC:em 153 fT:=by
 intro _ _ _ _ h hp;dsimp only[fT,F0]at h;split at h<;>cases h
 rename_i es k;obtain⟨hw,hlim,hk0,hkb⟩:=hp;have hwf:Wf [.i 0] es:=hw.wf;have hlen:=ew hlim;refine mb nB [(0,0)] Tryz.func153 ?_
 intro O r os F hO hr hos hF;cbv
 refine⟨[0,1,5],[0],Int×Int×aa,fun s=>match s with|(i,k',cur)=>[.reg 5 (.j i),.reg 1 (.j k'),.leaf 0 0 ⟨0,0,some 0,.own (.s 1 cur)⟩],fun s=>0<=s.1/\s.1.toNat<=es.length/\s.2.1=fU es k s.1.toNat/\s.2.2=gG es k s.1.toNat,fun s=>es.length-s.1.toNat,⟨(0,k,es),?_,?_⟩,?_⟩;exact⟨by omega,Zg _,bT.symm,eW.symm⟩
 ·cbv
 ·rintro⟨i,k',cur⟩ hi;replace hi:0<=i/\i.toNat<=es.length/\k'=fU es k i.toNat/\cur=gG es k i.toNat:=hi;obtain⟨g0,g1,hk',hc⟩:=hi;cbv
  repeat' first|apply Zb|(apply bF<;>intro hb<;>cbv)|(refine ag (O.ar .add Za i 1,O.ar .add Za (k') 1,O.up (.s 1 (cur)) [(O.ad 0 i,0)] [.i (k')]) ?_ ?_ ?_;focus (cbv;done))
  all_goals((try subst hos);subst hO hr hF;(try simp only[nc]at*);(try simp only[ah,SS,sa,az]at*);(try have hlt:i<es.length:=by assumption);(try have he:es.getD i.toNat []=[.i (ab es i 0)]:=(ao hwf g0 hlt).symm);(try have hcg:cur.getD i.toNat []=[.i (ab es i 0)]:=by rw[hc,eV g1];exact he))
  all_goals exact TH
def fS:EC:=fun F=>fun
 |[.one (.s 1 ms),.one (.v (.int Za k))]=>some (fun _=>∃ es,ms=dY es k/\Rw [tI] es/\ak es<=1099511627776/\0<=k/\be [ms] k<=1152921504606846976,[.j (F.kN [ms] k)])
 |_=>none
theorem kB:ec 159 fS:=by
 intro _ _ _ h hp;dsimp only[fS,F0]at h;split at h<;>cases h
 rename_i ms k;obtain⟨es,hms,hw,hlim,hk0,hkb⟩:=hp;have hlen:=ew hlim;have hml:ms.length=es.length:=by rw[hms];exact cF
 have hkk:be [ms] k=be [es] k:=by rw[hms];exact qg
 have hwm:Wf [.i 0] ms:=by rw[hms];exact dS hw
 have hwf:Wf [.i 0] es:=hw.wf;have hat:∀ n,n<es.length->ms.getD n []=(gY (es.getD n []) (fU es k n)).1:=fun n hn=>by rw[hms];exact lC hn
 refine cb nB Tryz.func159 ?_
 intro O r F hO hr hF;cbv
 refine⟨[0,1,5],[],Int×Int,fun s=>match s with|(i,k')=>[.reg 5 (.j i),.reg 1 (.j k')],fun s=>0<=s.1/\s.1.toNat<=es.length/\s.2=fU es k s.1.toNat,fun s=>es.length-s.1.toNat,⟨(0,k),?_,?_⟩,?_⟩;exact⟨by omega,Zg _,bT.symm⟩
 ·cbv
 ·rintro⟨i,k'⟩ hi;replace hi:0<=i/\i.toNat<=es.length/\k'=fU es k i.toNat:=hi;obtain⟨g0,g1,hk'⟩:=hi;cbv
  repeat' first|apply Zb|(apply bF<;>intro hb<;>cbv)|(refine ag (O.ar .add Za i 1,O.ar .add Za (k') 1) ?_ ?_ ?_;focus (cbv;done))
  all_goals(subst hO hr hF;(try simp only[nc]at*);(try simp only[ah,SS,sa,az]at*);(try have hltm:i<ms.length:=by assumption);(try have hlt:i<es.length:=by omega);(try rw[fa (n:=es.length) g0 hlt (by omega)]);(try have hlt':i.toNat<es.length:=by omega);(try have he:es.getD i.toNat []=[.i (ab es i 0)]:=(ao hwf g0 hlt).symm);(try have hct:=dz (es:=es) (n:=i.toNat) (by omega);rw[he]at hct;simp only[cU,fR,Zj,ZB]at hct);(try have hks:=dW (es:=es) (k:=k) hlt';rw[he]at hks;simp only[gY,iH]at hks);(try have hem:([.i (ab ms i 0)]:ay)=_:=(ao hwm g0 hltm).trans (hat i.toNat hlt');rw[he]at hem;simp only[gY,iH,Yk,L.v.injEq,Yq,Yr,L.s.injEq,true_and,and_true]at hem))
  all_goals have hle1:=bS (es:=es) (n:=i.toNat+1)
  all_goals have hcE:ak es=es.length+bL es:=rfl
  all_goals have hk1:=jv (es:=es) (k:=k) (n:=i.toNat)
  all_goals have hk2:=jv (es:=es) (k:=k) (n:=i.toNat+1)
  all_goals have hk3:=rE (es:=es) (k:=k)
  all_goals have hk4:=jv (es:=es) (k:=k) (n:=es.length)
  all_goals have hk5:=fP (es:=es) (m:=0) (n:=i.toNat) g1 (Zg _)
  all_goals((have hk6:=fP (es:=es) (m:=i.toNat) (n:=es.length) (Zd _) g1);(try have hk7:=fP (es:=es) (m:=i.toNat+1) (n:=es.length) (Zd _) hlt'))
  all_goals rw[bT]at hk5
  all_goals((try have hk8:=mP (es:=es) (n:=i.toNat) hlt');(try rw[<-hk']at hem hks))
  all_goals have ha1:bO .add Za k' 1=k'+1:=bz (by omega)
  all_goals have ha2:bO .add Za (k'+1) 1=k'+1+1:=bz (by omega)
  all_goals have ha3:bO .add Za (k'+1+1) 1=k'+1+1+1:=bz (by omega)
  all_goals((have ha4:bO .add Za (k'+1+1+1) 1=k'+1+1+1+1:=bz (by omega));(try simp only[ha1,ha2,ha3,ha4]at*))
  all_goals first|exact oC hwm g0 hltm|omega|(rw[hk',show i.toNat=es.length from by omega,hk3,hkk];done)|(rw[show(i+1).toNat=i.toNat+1 from by omega,hks];done)|trace_state
abbrev Hf:da:=ez (fun F f=>match f with|94=>hN F|108=>hP F|142=>hK F|_=>fun _=>none) (by
 intro f;dsimp only;split;exact nL;exact nM;exact nK;exact de)
abbrev Lg:da:={
 Φ:=rz
 F0:=F0
 ct:=fun F f=>match f with|159=>fS F|_=>fun _=>none
 hc:=(by
  intro f;dsimp only;split;exact kB;exact de)
 mt:=fun F f=>match f with|153=>some (fT F)|_=>none
 hm:=(by
  intro f mk h;dsimp only at h;split at h<;>cases h
  exact kC)}
def gB:EC:=fun F=>fun
 |[.one (.s 1 es),.one (.v (.int Za left))]=>some (fun _=>Rw [.sl [tI]] es/\0<=left/\left<=1048576,[.j (F.szN [es] left)])
 |_=>none
theorem lZ:ec 97 gB:=by
 intro _ _ _ h hp;dsimp only[gB,F0]at h;split at h<;>cases h
 rename_i es left;obtain⟨hw,h0,h1⟩:=hp;have hwf:Wf [.s 1 []] es:=hw.wf;have hm:=hw.1;unfold maxLen at hm;have hs:bO .sub Za left es.length=left-es.length:=dG (by omega);have hcE:ak es=es.length+bL es:=rfl;have hn:dV [es] left=if left<ak es then-1 else left-ak es:=by unfold dV;rw[eH]
 refine cb Hf Tryz.func97 ?_
 intro O r F hO hr hF;cbv
 apply bF<;>intro hb<;>cbv
 ·repeat' first|apply Zb|(apply bF<;>intro hb<;>cbv)
  all_goals exact aci
 have hb0:0<=left-es.length:=by
  (subst hO hr hF;(try simp only[nc]at*);(try simp only[ah,SS,sa,az]at*))
  rw[hs]at hb;exact hb
 clear hb;refine⟨[0,1,5],[],Int×Int,fun s=>match s with|(i,l)=>[.reg 5 (.j i),.reg 1 (.j l)],fun s=>0<=s.1/\s.1.toNat<=es.length/\0<=s.2/\s.2=left-es.length-bL (es.take s.1.toNat),fun s=>es.length-s.1.toNat,⟨(0,O.ar .sub Za left (O.zi (O.ln es))),?_,?_⟩,?_⟩
 ·(subst hO hr hF;(try simp only[nc]at*);(try simp only[ah,SS,sa,az]at*))
  rw[hs];exact⟨by omega,Zg _,hb0,by simp[bL]⟩
 ·cbv
 ·rintro⟨i,l⟩ hi;replace hi:0<=i/\i.toNat<=es.length/\0<=l/\l=left-es.length-bL (es.take i.toNat):=hi;obtain⟨g0,g1,g2,g3⟩:=hi;cbv
  repeat' first|apply Zb|(apply bF<;>intro hb<;>cbv)|(refine ag (O.ar .add Za i 1,F.szN [O.gs es i 0] l) ?_ ?_ ?_;focus (cbv;done))
  all_goals(subst hO hr hF;(try simp only[nc]at*);(try simp only[ah,SS,sa,az]at*))
  all_goals have hle:=bS (es:=es) (n:=i.toNat)
  all_goals have hsz:=pM (a:=[aw es i 0]) (left:=l)
  all_goals((have hsz2:0<=dV [aw es i 0] l->dV [aw es i 0] l=l-aQ [aw es i 0]:=uF);(try have hlt:i<es.length:=by assumption);(try have he:es.getD i.toNat []=[.s 1 (aw es i 0)]:=(ao hwf g0 hlt).symm);(try rw[fa (n:=es.length) g0 hlt (by omega)]);(try have hr0:Rw [tI] (aw es i 0):=Rw.sub (fs:=[.sl [tI]]) hw (by omega) rfl))
  all_goals exact acf
def gC:EC:=fun F=>fun
 |[.one (.s 1 es)]=>some (fun _=>Rw [.sl [tI]] es/\ak es<=1048576,[.one (.s 1 es)])
 |_=>none
theorem ma:ec 115 gC:=by
 intro _ _ _ h hp;dsimp only[gC,F0]at h;split at h<;>cases h
 rename_i es;obtain⟨hw,hlim⟩:=hp;have hwf:Wf [.s 1 []] es:=hw.wf;have hlen:=ew hlim;refine cb Hf Tryz.func115 ?_
 intro O r F hO hr hF;cbv
 have h0z:cE es [.s 1 []] 0=O.rep (O.zi (O.ln es)) [.s 1 []]:=by
  subst hO;rw[dU];rfl
 refine⟨?_,?_,[0,3,4],[3],Int×aa,fun s=>[.reg 4 (.j s.1),.leaf 3 0 ⟨0,0,none,.own (.s 1 s.2)⟩],fun s=>0<=s.1/\s.1.toNat<=es.length/\s.2=cE es [.s 1 []] s.1.toNat,fun s=>es.length-s.1.toNat,⟨(0,O.rep (O.zi (O.ln es)) [.s 1 []]),?_,?_⟩,?_⟩
 ·subst hO;exact qi (b:=24) (show es.length*_<=_ by omega) (show es.length<=_ by omega)
 ·subst hO;exact⟨rfl,rfl⟩
 ·exact⟨by omega,Zg _,h0z.symm⟩
 ·cbv
 ·rintro⟨i,m⟩ hi;replace hi:0<=i/\i.toNat<=es.length/\m=cE es [.s 1 []] i.toNat:=hi;obtain⟨g0,g1,hm⟩:=hi;cbv
  repeat' first|apply Zb|(apply bF<;>intro hb<;>cbv)|(refine ag (O.ar .add Za i 1,O.up (.s 1 m) [(O.ad 0 i,0)] [.s 1 (O.gs es i 0)]) ?_ ?_ ?_;focus (cbv;done))
  all_goals(subst hO hr hF;(try simp only[nc]at*);(try simp only[ah,SS,sa,az]at*);(try simp only[pI,Yn,Zy]at*);(try have hlt:i<es.length:=by assumption);(try have he:es.getD i.toNat []=[.s 1 (aw es i 0)]:=(ao hwf g0 hlt).symm);(try rw[fa (n:=es.length) g0 hlt (by omega)]);(try have hr0:Rw [tI] (aw es i 0):=Rw.sub (fs:=[.sl [tI]]) hw (by omega) rfl))
  all_goals exact ace
def gA:EC:=fun F=>fun
 |[.one (.s 1 es),d]=>some (fun _=>d=.one (.s 1 es)/\Rw [.sl [tI]] es/\ak es<=1099511627776,[.k true])
 |_=>none
theorem lY:ec 149 gA:=by
 intro _ _ _ h hp;dsimp only[gA,F0]at h;split at h<;>cases h
 rename_i es d;obtain⟨rfl,hw,hlim⟩:=hp;have hwf:Wf [.s 1 []] es:=hw.wf;have hlen:=ew hlim;refine cb Hf Tryz.func149 ?_
 intro O r F hO hr hF;cbv
 apply bF<;>intro hb<;>cbv
 ·(subst hO hr hF;(try simp only[nc]at*);(try simp only[ah,SS,sa,az]at*));exact absurd rfl hb
 ·clear hb;refine⟨[0,1,5],[],Int,fun i=>[.reg 5 (.j i)],fun i=>0<=i/\i.toNat<=es.length,fun i=>es.length-i.toNat,⟨0,?_,?_⟩,?_⟩;exact⟨by omega,Zg _⟩
  ·cbv
  ·rintro i hi;replace hi:0<=i/\i.toNat<=es.length:=hi;obtain⟨g0,g1⟩:=hi;cbv
   repeat' first|apply Zb|(apply bF<;>intro hb<;>cbv)|(refine ag (O.ar .add Za i 1) ?_ ?_ ?_;focus (cbv;done))
   all_goals(subst hO hr hF;(try simp only[nc]at*);(try simp only[ah,SS,sa,az]at*);(try have hlt:i<es.length:=by assumption);(try have he:es.getD i.toNat []=[.s 1 (aw es i 0)]:=(ao hwf g0 hlt).symm);(try rw[fa (n:=es.length) g0 hlt (by omega)]);(try have hr0:Rw [tI] (aw es i 0):=Rw.sub (fs:=[.sl [tI]]) hw (by omega) rfl))
   all_goals exact acg
def fC:EM:=fun F=>fun
 |[.one (.s 1 es),.one (.v (.int Za k))]=>some (fun _=>Rw [.sl [tI]] es/\ak es<=1099511627776/\0<=k/\be [es] k<=1152921504606846976,[.s 1 (F.mkN es k)],[.j (F.kN [es] k)])
 |_=>none
theorem jF:em 154 fC:=by
 intro _ _ _ _ h hp;dsimp only[fC,F0]at h;split at h<;>cases h
 rename_i es k;obtain⟨hw,hlim,hk0,hkb⟩:=hp;have hwf:Wf [.s 1 []] es:=hw.wf;have hlen:=ew hlim;refine mb Lg [(0,0)] Tryz.func154 ?_
 intro O r os F hO hr hos hF;cbv
 refine⟨[0,1,5],[0],Int×Int×aa,fun s=>match s with|(i,k',cur)=>[.reg 5 (.j i),.reg 1 (.j k'),.leaf 0 0 ⟨0,0,some 0,.own (.s 1 cur)⟩],fun s=>0<=s.1/\s.1.toNat<=es.length/\s.2.1=fU es k s.1.toNat/\s.2.2=gG es k s.1.toNat,fun s=>es.length-s.1.toNat,⟨(0,k,es),?_,?_⟩,?_⟩;exact⟨by omega,Zg _,bT.symm,eW.symm⟩
 ·cbv
 ·rintro⟨i,k',cur⟩ hi;replace hi:0<=i/\i.toNat<=es.length/\k'=fU es k i.toNat/\cur=gG es k i.toNat:=hi;obtain⟨g0,g1,hk',hc⟩:=hi;cbv
  repeat' first|apply Zb|(apply bF<;>intro hb<;>cbv)|(refine ag (O.ar .add Za i 1,F.kN [O.ps (.s 1 (cur)) [(O.ad 0 i,0)]] (k'),O.up (.s 1 (cur)) [(O.ad 0 i,0)] [.s 1 (F.mkN (O.ps (.s 1 (cur)) [(O.ad 0 i,0)]) (k'))]) ?_ ?_ ?_;focus (cbv;done))
  all_goals((try subst hos);subst hO hr hF;(try simp only[nc]at*);(try simp only[ah,SS,sa,az]at*);(try have hlt:i<es.length:=by assumption);(try have he:es.getD i.toNat []=[.s 1 (aw es i 0)]:=(ao hwf g0 hlt).symm);(try have hcg:cur.getD i.toNat []=[.s 1 (aw es i 0)]:=by rw[hc,eV g1];exact he);(try rw[fa (n:=es.length) g0 hlt (by omega)]);(try have hlt':i.toNat<es.length:=by omega);(try have hr0:Rw [tI] (aw es i 0):=Rw.sub (fs:=[.sl [tI]]) hw (by omega) rfl))
  all_goals exact zq3
def fB:EC:=fun F=>fun
 |[.one (.s 1 ms),.one (.v (.int Za k))]=>some (fun _=>∃ es,ms=dY es k/\Rw [.sl [tI]] es/\ak es<=1099511627776/\0<=k/\be [ms] k<=1152921504606846976,[.j (F.kN [ms] k)])
 |_=>none
theorem jE:ec 160 fB:=by
 intro _ _ _ h hp;dsimp only[fB,F0]at h;split at h<;>cases h
 rename_i ms k;obtain⟨es,hms,hw,hlim,hk0,hkb⟩:=hp;have hlen:=ew hlim;have hml:ms.length=es.length:=by rw[hms];exact cF
 have hkk:be [ms] k=be [es] k:=by rw[hms];exact qg
 have hwm:Wf [.s 1 []] ms:=by rw[hms];exact dS hw
 have hwf:Wf [.s 1 []] es:=hw.wf;have hat:∀ n,n<es.length->ms.getD n []=(gY (es.getD n []) (fU es k n)).1:=fun n hn=>by rw[hms];exact lC hn
 refine cb Lg Tryz.func160 ?_
 intro O r F hO hr hF;cbv
 refine⟨[0,1,5],[],Int×Int,fun s=>match s with|(i,k')=>[.reg 5 (.j i),.reg 1 (.j k')],fun s=>0<=s.1/\s.1.toNat<=es.length/\s.2=fU es k s.1.toNat,fun s=>es.length-s.1.toNat,⟨(0,k),?_,?_⟩,?_⟩;exact⟨by omega,Zg _,bT.symm⟩
 ·cbv
 ·rintro⟨i,k'⟩ hi;replace hi:0<=i/\i.toNat<=es.length/\k'=fU es k i.toNat:=hi;obtain⟨g0,g1,hk'⟩:=hi;cbv
  repeat' first|apply Zb|(apply bF<;>intro hb<;>cbv)|(refine ag (O.ar .add Za i 1,F.kN [O.gs ms i 0] (k')) ?_ ?_ ?_;focus (cbv;done))
  all_goals(subst hO hr hF;(try simp only[nc]at*);(try simp only[ah,SS,sa,az]at*);(try have hltm:i<ms.length:=by assumption);(try have hlt:i<es.length:=by omega);(try have he:es.getD i.toNat []=[.s 1 (aw es i 0)]:=(ao hwf g0 hlt).symm);(try rw[fa (n:=es.length) g0 hlt (by omega)]);(try have hlt':i.toNat<es.length:=by omega);(try have hr0:Rw [tI] (aw es i 0):=Rw.sub (fs:=[.sl [tI]]) hw (by omega) rfl);(try have hct:=dz (es:=es) (n:=i.toNat) (by omega);rw[he]at hct;simp only[cU,fR,Zj,ZB]at hct);(try have hks:=dW (es:=es) (k:=k) hlt';rw[he]at hks;simp only[gY,iH]at hks);(try have hem:([.s 1 (aw ms i 0)]:ay)=_:=(ao hwm g0 hltm).trans (hat i.toNat hlt');rw[he]at hem;simp only[gY,iH,Yk,L.v.injEq,Yq,Yr,L.s.injEq,true_and,and_true]at hem))
  all_goals exact zq5
def mC:EC:=fun F=>fun
 |[.one (.s 1 es),.one (.v (.int Za left))]=>some (fun _=>Rw [tB] es/\0<=left/\left<=1048576,[.j (F.szN [es] left)])
 |_=>none
theorem zC:ec 301 mC:=by
 intro _ _ _ h hp;dsimp only[mC,F0]at h;split at h<;>cases h
 rename_i es left;obtain⟨hw,h0,h1⟩:=hp;have hc:ak es=es.length:=hw.cnt rfl;have hm:=hw.1;unfold maxLen at hm;have hs:bO .sub Za left es.length=left-es.length:=dG (by omega);have hn:dV [es] left=if left<es.length then-1 else left-es.length:=by unfold dV;rw[eH,hc]
 refine cb nB Tryz.func301 ?_
 exact QN
def mF:EC:=fun F=>fun
 |[.one (.s 1 es)]=>some (fun _=>Rw [tB] es/\ak es<=1048576,[.one (.s 1 es)])
 |_=>none
theorem zH:ec 307 mF:=by
 intro _ _ _ h hp;dsimp only[mF,F0]at h;split at h<;>cases h
 rename_i es;obtain⟨hw,hlim⟩:=hp;have hwf:Wf [.v (.bool false)] es:=hw.wf;have hlen:=ew hlim;refine cb nB Tryz.func307 ?_
 intro O r F hO hr hF;cbv
 have h0z:cE es [.v (.bool false)] 0=O.rep (O.zi (O.ln es)) [.v (.bool false)]:=by
  subst hO;rw[dU];rfl
 refine⟨?_,?_,[0,3,4],[3],Int×aa,fun s=>[.reg 4 (.j s.1),.leaf 3 0 ⟨0,0,none,.own (.s 1 s.2)⟩],fun s=>0<=s.1/\s.1.toNat<=es.length/\s.2=cE es [.v (.bool false)] s.1.toNat,fun s=>es.length-s.1.toNat,⟨(0,O.rep (O.zi (O.ln es)) [.v (.bool false)]),?_,?_⟩,?_⟩
 ·subst hO;exact qi (b:=1) (show es.length*_<=_ by omega) (show es.length<=_ by omega)
 ·subst hO;exact⟨rfl,rfl⟩
 ·exact⟨by omega,Zg _,h0z.symm⟩
 ·cbv
 ·rintro⟨i,m⟩ hi;replace hi:0<=i/\i.toNat<=es.length/\m=cE es [.v (.bool false)] i.toNat:=hi;obtain⟨g0,g1,hm⟩:=hi;cbv
  repeat' first|apply Zb|(apply bF<;>intro hb<;>cbv)|(refine ag (O.ar .add Za i 1,O.up (.s 1 m) [(O.ad 0 i,0)] [.v (.bool (O.gb es i 0))]) ?_ ?_ ?_;focus (cbv;done))
  all_goals(subst hO hr hF;(try simp only[nc]at*);(try simp only[ah,SS,sa,az]at*);(try simp only[pI,Yn,Zy]at*);(try have hlt:i<es.length:=by assumption);(try have he:es.getD i.toNat []=[.v (.bool (ua es i 0))]:=(ao hwf g0 hlt).symm))
  all_goals exact QL
def mr:EC:=fun F=>fun
 |[.one (.s 1 es),d]=>some (fun _=>d=.one (.s 1 es)/\Rw [tB] es/\ak es<=1099511627776,[.k true])
 |_=>none
theorem zn:ec 322 mr:=by
 intro _ _ _ h hp;dsimp only[mr,F0]at h;split at h<;>cases h
 rename_i es d;obtain⟨rfl,hw,hlim⟩:=hp;have hwf:Wf [.v (.bool false)] es:=hw.wf;have hlen:=ew hlim;refine cb nB Tryz.func322 ?_
 intro O r F hO hr hF;cbv
 apply bF<;>intro hb<;>cbv
 ·(subst hO hr hF;(try simp only[nc]at*);(try simp only[ah,SS,sa,az]at*));exact absurd rfl hb
 ·clear hb;refine⟨[0,1,5],[],Int,fun i=>[.reg 5 (.j i)],fun i=>0<=i/\i.toNat<=es.length,fun i=>es.length-i.toNat,⟨0,?_,?_⟩,?_⟩;exact⟨by omega,Zg _⟩
  ·cbv
  ·rintro i hi;replace hi:0<=i/\i.toNat<=es.length:=hi;obtain⟨g0,g1⟩:=hi;cbv
   repeat' first|apply Zb|(apply bF<;>intro hb<;>cbv)|(refine ag (O.ar .add Za i 1) ?_ ?_ ?_;focus (cbv;done))
   all_goals(subst hO hr hF;(try simp only[nc]at*);(try simp only[ah,SS,sa,az]at*);(try have hlt:i<es.length:=by assumption);(try rw[fa (n:=es.length) g0 hlt (by omega)]);(try have he:es.getD i.toNat []=[.v (.bool (ua es i 0))]:=(ao hwf g0 hlt).symm);(try have hct:=dz (es:=es) (n:=i.toNat) (by omega);rw[he]at hct;simp only[cU,fR,Zj,ZB]at hct))
   all_goals have hle1:=bS (es:=es) (n:=i.toNat+1)
   all_goals have hcE:ak es=es.length+bL es:=rfl
   all_goals first|omega|exact oC hwf g0 hlt|exact absurd rfl hb|trivial|trace_state
def jM:EM:=fun F=>fun
 |[.one (.s 1 es),.one (.v (.int Za k))]=>some (fun _=>Rw [tB] es/\ak es<=1099511627776/\0<=k/\be [es] k<=1152921504606846976,[.s 1 (F.mkN es k)],[.j (F.kN [es] k)])
 |_=>none
theorem vg:em 325 jM:=by
 intro _ _ _ _ h hp;dsimp only[jM,F0]at h;split at h<;>cases h
 rename_i es k;obtain⟨hw,hlim,hk0,hkb⟩:=hp;have hwf:Wf [.v (.bool false)] es:=hw.wf;have hlen:=ew hlim;refine mb nB [(0,0)] Tryz.func325 ?_
 intro O r os F hO hr hos hF;cbv
 refine⟨[0,1,5],[0],Int×Int×aa,fun s=>match s with|(i,k',cur)=>[.reg 5 (.j i),.reg 1 (.j k'),.leaf 0 0 ⟨0,0,some 0,.own (.s 1 cur)⟩],fun s=>0<=s.1/\s.1.toNat<=es.length/\s.2.1=fU es k s.1.toNat/\s.2.2=gG es k s.1.toNat,fun s=>es.length-s.1.toNat,⟨(0,k,es),?_,?_⟩,?_⟩;exact⟨by omega,Zg _,bT.symm,eW.symm⟩
 ·cbv
 ·rintro⟨i,k',cur⟩ hi;replace hi:0<=i/\i.toNat<=es.length/\k'=fU es k i.toNat/\cur=gG es k i.toNat:=hi;obtain⟨g0,g1,hk',hc⟩:=hi;cbv
  repeat' first|apply Zb|(apply bF<;>intro hb<;>cbv)|(refine ag (O.ar .add Za i 1,O.ar .add Za (k') 1,O.up (.s 1 (cur)) [(O.ad 0 i,0)] [.v (.bool (O.cmp .eql (O.ar .rem Za (k') 3) 0))]) ?_ ?_ ?_;focus (cbv;done))
  all_goals((try subst hos);subst hO hr hF;(try simp only[nc]at*);(try simp only[ah,SS,sa,az]at*);(try have hlt:i<es.length:=by assumption);(try rw[fa (n:=es.length) g0 hlt (by omega)]);(try have hlt':i.toNat<es.length:=by omega);(try have he:es.getD i.toNat []=[.v (.bool (ua es i 0))]:=(ao hwf g0 hlt).symm);(try have hct:=dz (es:=es) (n:=i.toNat) (by omega);rw[he]at hct;simp only[cU,fR,Zj,ZB]at hct);(try have hks:=dW (es:=es) (k:=k) hlt';rw[he]at hks;simp only[gY,iH]at hks);(try have hms:=AZ (es:=es) (k:=k) hlt';rw[he]at hms;simp only[gY,iH]at hms))
  all_goals have hle1:=bS (es:=es) (n:=i.toNat+1)
  all_goals have hcE:ak es=es.length+bL es:=rfl
  all_goals have hk1:=jv (es:=es) (k:=k) (n:=i.toNat)
  all_goals have hk2:=jv (es:=es) (k:=k) (n:=i.toNat+1)
  all_goals have hk3:=rE (es:=es) (k:=k)
  all_goals have hk4:=jv (es:=es) (k:=k) (n:=es.length)
  all_goals have hk5:=fP (es:=es) (m:=0) (n:=i.toNat) g1 (Zg _)
  all_goals((have hk6:=fP (es:=es) (m:=i.toNat) (n:=es.length) (Zd _) g1);(try have hk7:=fP (es:=es) (m:=i.toNat+1) (n:=es.length) (Zd _) hlt'))
  all_goals rw[bT]at hk5
  all_goals((try have hk8:=mP (es:=es) (n:=i.toNat) hlt');(try have hcl:i.toNat<cur.length:=by rw[hc,qX g1];exact hlt');(try have hcg:cur.getD i.toNat []=[.v (.bool (ua es i 0))]:=by rw[hc,eV g1];exact he))
  all_goals have ha1:bO .add Za k' 1=k'+1:=bz (by omega)
  all_goals have ha2:bO .add Za (k'+1) 1=k'+1+1:=bz (by omega)
  all_goals have ha3:bO .add Za (k'+1+1) 1=k'+1+1+1:=bz (by omega)
  all_goals((have ha4:bO .add Za (k'+1+1+1) 1=k'+1+1+1+1:=bz (by omega));(try simp only[ha1,ha2,ha3,ha4]);(try simp only[az]);(try simp only[Bq,hcg,List.take,List.drop,List.length_cons,List.length_nil,ZI,ZN,List.append_nil,ZB,Nat.reduceAdd,ff hcl,List.set_set,List.append_assoc]);(try simp only[ux,hcg,ff hcl,List.getD_cons_zero,List.getD_cons_succ,K7]);(try simp only[yB hcl,uc hcl,yC hcl,AA hcl,hcg,List.getElem?_cons_zero,List.getElem?_cons_succ]))
  all_goals first|exact⟨g0,hlt⟩|(refine⟨_,_,rfl,?_⟩;simp;done)|omega|(rw[hk',show i.toNat=es.length from by omega,hk3];done)|(rw[hc,show i.toNat=es.length from by omega,AY];rfl)|(rw[show(i+1).toNat=i.toNat+1 from by omega,hks,hk'];done)|(rw[show(i+1).toNat=i.toNat+1 from by omega, <-hms,hc,hk'];rfl)|trace_state
def jK:EC:=fun F=>fun
 |[.one (.s 1 ms),.one (.v (.int Za k))]=>some (fun _=>∃ es,ms=dY es k/\Rw [tB] es/\ak es<=1099511627776/\0<=k/\be [ms] k<=1152921504606846976,[.j (F.kN [ms] k)])
 |_=>none
theorem vc:ec 327 jK:=by
 intro _ _ _ h hp;dsimp only[jK,F0]at h;split at h<;>cases h
 rename_i ms k;obtain⟨es,hms,hw,hlim,hk0,hkb⟩:=hp;have hlen:=ew hlim;have hml:ms.length=es.length:=by rw[hms];exact cF
 have hkk:be [ms] k=be [es] k:=by rw[hms];exact qg
 have hwm:Wf [.v (.bool false)] ms:=by rw[hms];exact dS hw
 have hwf:Wf [.v (.bool false)] es:=hw.wf;have hat:∀ n,n<es.length->ms.getD n []=(gY (es.getD n []) (fU es k n)).1:=fun n hn=>by rw[hms];exact lC hn
 refine cb nB Tryz.func327 ?_
 intro O r F hO hr hF;cbv
 refine⟨[0,1,5],[],Int×Int,fun s=>match s with|(i,k')=>[.reg 5 (.j i),.reg 1 (.j k')],fun s=>0<=s.1/\s.1.toNat<=es.length/\s.2=fU es k s.1.toNat,fun s=>es.length-s.1.toNat,⟨(0,k),?_,?_⟩,?_⟩;exact⟨by omega,Zg _,bT.symm⟩
 ·cbv
 ·rintro⟨i,k'⟩ hi;replace hi:0<=i/\i.toNat<=es.length/\k'=fU es k i.toNat:=hi;obtain⟨g0,g1,hk'⟩:=hi;cbv
  repeat' first|apply Zb|(apply bF<;>intro hb<;>cbv)|(refine ag (O.ar .add Za i 1,O.ar .add Za (k') 1) ?_ ?_ ?_;focus (cbv;done))
  all_goals(subst hO hr hF;(try simp only[nc]at*);(try simp only[ah,SS,sa,az]at*);(try have hltm:i<ms.length:=by assumption);(try have hlt:i<es.length:=by omega);(try have he:es.getD i.toNat []=[.v (.bool (ua es i 0))]:=(ao hwf g0 hlt).symm);(try rw[fa (n:=es.length) g0 hlt (by omega)]);(try have hlt':i.toNat<es.length:=by omega);(try have hct:=dz (es:=es) (n:=i.toNat) (by omega);rw[he]at hct;simp only[cU,fR,Zj,ZB]at hct);(try have hks:=dW (es:=es) (k:=k) hlt';rw[he]at hks;simp only[gY,iH]at hks);(try have hem:([.v (.bool (ua ms i 0))]:ay)=_:=(ao hwm g0 hltm).trans (hat i.toNat hlt');rw[he]at hem;simp only[gY,iH,Yk,L.v.injEq,Yq,Yr,L.s.injEq,true_and,and_true]at hem))
  all_goals exact TJ
abbrev Dw:da:=ez (fun F f=>match f with|97=>gB F|115=>gC F|149=>gA F|301=>mC F|307=>mF F|322=>mr F|_=>fun _=>none) (by
 intro f;dsimp only;split;exact lZ;exact ma;exact lY;exact zC;exact zH;exact zn;exact de)
abbrev IR:da:={
 Φ:=rz
 F0:=F0
 ct:=fun F f=>match f with|160=>fB F|327=>jK F|_=>fun _=>none
 hc:=(by
  intro f;dsimp only;split;exact jE;exact vc;exact de)
 mt:=fun F f=>match f with|154=>some (fC F)|325=>some (jM F)|_=>none
 hm:=(by
  intro f mk h;dsimp only at h;split at h<;>cases h
  exact jF;exact vg)}
def k9:EC:=fun F=>fun
 |[.agg [.s 1 a0,.s 1 a1],.one (.v (.int Za left))]=>some (fun _=>Rw [.sl [tI]] a0/\Rw [tB] a1/\0<=left/\left<=1048576,[.j (F.szN [a0,a1] left)])
 |_=>none
theorem xH:ec 209 k9:=by
 intro _ _ _ h hp;dsimp only[k9,F0]at h;split at h<;>cases h
 rename_i a0 a1 left;obtain⟨w0,w1,h0,h1⟩:=hp;refine cb Dw Tryz.func209 ?_
 intro O r F hO hr hF;cbv
 repeat' first|apply Zb|(apply bF<;>intro hb<;>cbv)
 all_goals(subst hO hr hF;(try simp only[nc]at*);(try simp only[ah,SS,sa,az]at*);(try simp(disch:=assumption) only[nG,ZN,ZI]at*))
 all_goals exact agG
def lp:EC:=fun F=>fun
 |[.agg [.s 1 a0,.s 1 a1]]=>some (fun _=>Rw [.sl [tI]] a0/\Rw [tB] a1/\aQ [a0,a1]<=1048576,[.agg [.s 1 a0,.s 1 a1]])
 |_=>none
theorem xP:ec 217 lp:=by
 intro _ _ _ h hp;dsimp only[lp,F0]at h;split at h<;>cases h
 rename_i a0 a1;obtain⟨w0,w1,hlim⟩:=hp;simp only[aQ,Zj]at hlim;refine cb Dw Tryz.func217 ?_
 exact agE
def kM:EC:=fun F=>fun
 |[.agg [.s 1 a0,.s 1 a1],d]=>some (fun _=>d=.agg [.s 1 a0,.s 1 a1]/\Rw [.sl [tI]] a0/\Rw [tB] a1/\aQ [a0,a1]<=1099511627776,[.k true])
 |_=>none
theorem xm:ec 247 kM:=by
 intro _ _ _ h hp;dsimp only[kM,F0]at h;split at h<;>cases h
 rename_i a0 a1 d;obtain⟨rfl,w0,w1,hlim⟩:=hp;simp only[aQ,Zj]at hlim;refine cb Dw Tryz.func247 ?_
 exact agD
def ja:EM:=fun F=>fun
 |[.agg [.s 1 a0,.s 1 a1],.one (.v (.int Za k))]=>some (fun _=>Rw [.sl [tI]] a0/\Rw [tB] a1/\aQ [a0,a1]<=1099511627776/\0<=k/\be [a0,a1] k<=1152921504606846976,[.s 1 (F.mkN a0 k),.s 1 (F.mkN a1 (F.kN [a0] k))],[.j (F.kN [a0,a1] k)])
 |_=>none
theorem tK:em 251 ja:=by
 intro _ _ _ _ h hp;dsimp only[ja,F0]at h;split at h<;>cases h
 rename_i a0 a1 k;obtain⟨w0,w1,hlim,hk0,hkb⟩:=hp;simp only[aQ,Zj]at hlim;have p0:be [a0] k<=be [a0,a1] k/\0<=be [a0] k:=bJ (b:=[a1]) hk0;have p1:be [a0,a1] k<=be [a0,a1] k/\0<=be [a0,a1] k:=bJ (b:=[]) hk0;refine mb IR [(2,0),(2,1)] Tryz.func251 ?_
 exact QJ
end Go.V
