/- Contracts. -/
import Derived.Test.YtbedjnlfdopeeaaGreatYFnu
set_option linter.all false
open Go
open And renaming intro->Zb
open Int renaming toNat_natCast->Zx,le_trans->Xx
open IntKind renaming i64->Zz,i64->Za
open List renaming length_replicate->Yi,nil_append->ZI,cons_append->ZP
open List.cons renaming injEq->Yg
open Nat renaming zero_le->Zh,add_zero->Zi,zero_add->Zv,le_refl->Ze
open Value renaming int->Zm
open Value.bool renaming injEq->Yq
open Value.int renaming injEq->Yp
namespace Go.V
open Go Go.Proofs
set_option maxRecDepth 1000000
set_option maxHeartbeats 8000000
def im:EC:=fun F=>fun
 |[.one (.s 1 es),.one (.v (.int Za left))]=>some (fun _=>Rw [tI] es/\0<=left/\left<=1048576,[.j (F.szN [es] left)])
 |_=>none
theorem nE:ec 94 im:=by
 intro _ _ _ h hp;dsimp only[im,F0]at h;split at h<;>cases h
 rename_i es left;obtain⟨hw,h0,h1⟩:=hp;have hc:am es=es.length:=hw.cnt rfl;have hm:=hw.1;unfold maxLen at hm;have hs:bO .sub Za left es.length=left-es.length:=di (by omega);have hn:dT [es] left=if left<es.length then-1 else left-es.length:=by unfold dT;rw[eM,hc]
 refine cb nB Tryz.func94 ?_
 exact EY
def io:EC:=fun F=>fun
 |[.one (.s 1 es)]=>some (fun _=>Rw [tI] es/\am es<=1048576,[.one (.s 1 es)])
 |_=>none
theorem nF:ec 108 io:=by
 intro _ _ _ h hp;dsimp only[io,F0]at h;split at h<;>cases h
 rename_i es;obtain⟨hw,hlim⟩:=hp;have hwf:Wf [.i 0] es:=hw.wf;have hlen:=eB hlim;refine cb nB Tryz.func108 ?_
 intro O r F hO hr hF;cbv
 have h0z:cG es [.i 0] 0=O.rep (O.zi (O.ln es)) [.i 0]:=by
  subst hO;rw[dS];rfl
 refine⟨?_,?_,[0,3,4],[3],Int×af,fun s=>[.reg 4 (.j s.1),.leaf 3 0 ⟨0,0,none,.own (.s 1 s.2)⟩],fun s=>0<=s.1/\s.1.toNat<=es.length/\s.2=cG es [.i 0] s.1.toNat,fun s=>es.length-s.1.toNat,⟨(0,O.rep (O.zi (O.ln es)) [.i 0]),?_,?_⟩,?_⟩
 ·subst hO;exact qg (b:=8) (show es.length*_<=_ by omega) (show es.length<=_ by omega)
 ·subst hO;exact⟨rfl,rfl⟩
 ·exact⟨by omega,Zh _,h0z.symm⟩
 ·cbv
 ·rintro⟨i,m⟩ hi;replace hi:0<=i/\i.toNat<=es.length/\m=cG es [.i 0] i.toNat:=hi;obtain⟨g0,g1,hm⟩:=hi;cbv
  repeat' first|apply Zb|(apply bG<;>intro hb<;>cbv)|(refine ag (O.ar .add Za i 1,O.up (.s 1 m) [(O.ad 0 i,0)] [.i (O.gi es i 0)]) ?_ ?_ ?_;focus (cbv;done))
  all_goals(subst hO hr hF;(try simp only[nc]at*);(try simp only[ai,SS,sa,az]at*);(try simp only[pz,Yi,Zx]at*);(try have hlt:i<es.length:=by assumption);(try have he:es.getD i.toNat []=[.i (ah es i 0)]:=(au hwf g0 hlt).symm))
  all_goals exact Qd
def ij:EC:=fun F=>fun
 |[.one (.s 1 es),d]=>some (fun _=>d=.one (.s 1 es)/\Rw [tI] es/\am es<=1099511627776,[.k true])
 |_=>none
theorem nD:ec 142 ij:=by
 intro _ _ _ h hp;dsimp only[ij,F0]at h;split at h<;>cases h
 rename_i es d;obtain⟨rfl,hw,hlim⟩:=hp;have hwf:Wf [.i 0] es:=hw.wf;have hlen:=eB hlim;refine cb nB Tryz.func142 ?_
 intro O r F hO hr hF;cbv
 apply bG<;>intro hb<;>cbv
 ·(subst hO hr hF;(try simp only[nc]at*);(try simp only[ai,SS,sa,az]at*));exact absurd rfl hb
 ·clear hb;refine⟨[0,1,5],[],Int,fun i=>[.reg 5 (.j i)],fun i=>0<=i/\i.toNat<=es.length,fun i=>es.length-i.toNat,⟨0,?_,?_⟩,?_⟩;exact⟨by omega,Zh _⟩
  ·cbv
  ·rintro i hi;replace hi:0<=i/\i.toNat<=es.length:=hi;obtain⟨g0,g1⟩:=hi;cbv
   repeat' first|apply Zb|(apply bG<;>intro hb<;>cbv)|(refine ag (O.ar .add Za i 1) ?_ ?_ ?_;focus (cbv;done))
   all_goals(subst hO hr hF;(try simp only[nc]at*);(try simp only[ai,SS,sa,az]at*);(try have hlt:i<es.length:=by assumption);(try have he:es.getD i.toNat []=[.i (ah es i 0)]:=(au hwf g0 hlt).symm))
   all_goals exact Sf
def fX:EM:=fun F=>fun
 |[.one (.s 1 es),.one (.v (.int Za k))]=>some (fun _=>Rw [tI] es/\am es<=1099511627776/\0<=k/\bg [es] k<=1152921504606846976,[.s 1 (F.mkN es k)],[.j (F.kN [es] k)])
 |_=>none
theorem kx:em 153 fX:=by
 intro _ _ _ _ h hp;dsimp only[fX,F0]at h;split at h<;>cases h
 rename_i es k;obtain⟨hw,hlim,hk0,hkb⟩:=hp;have hwf:Wf [.i 0] es:=hw.wf;have hlen:=eB hlim;refine mb nB [(0,0)] Tryz.func153 ?_
 intro O r os F hO hr hos hF;cbv
 refine⟨[0,1,5],[0],Int×Int×af,fun s=>match s with|(i,k',cur)=>[.reg 5 (.j i),.reg 1 (.j k'),.leaf 0 0 ⟨0,0,some 0,.own (.s 1 cur)⟩],fun s=>0<=s.1/\s.1.toNat<=es.length/\s.2.1=fY es k s.1.toNat/\s.2.2=gK es k s.1.toNat,fun s=>es.length-s.1.toNat,⟨(0,k,es),?_,?_⟩,?_⟩;exact⟨by omega,Zh _,bS.symm,eW.symm⟩
 ·cbv
 ·rintro⟨i,k',cur⟩ hi;replace hi:0<=i/\i.toNat<=es.length/\k'=fY es k i.toNat/\cur=gK es k i.toNat:=hi;obtain⟨g0,g1,hk',hc⟩:=hi;cbv
  repeat' first|apply Zb|(apply bG<;>intro hb<;>cbv)|(refine ag (O.ar .add Za i 1,O.ar .add Za (k') 1,O.up (.s 1 (cur)) [(O.ad 0 i,0)] [.i (k')]) ?_ ?_ ?_;focus (cbv;done))
  all_goals((try subst hos);subst hO hr hF;(try simp only[nc]at*);(try simp only[ai,SS,sa,az]at*);(try have hlt:i<es.length:=by assumption);(try have he:es.getD i.toNat []=[.i (ah es i 0)]:=(au hwf g0 hlt).symm);(try have hcg:cur.getD i.toNat []=[.i (ah es i 0)]:=by rw[hc,eV g1];exact he))
  all_goals exact Sd
def fW:EC:=fun F=>fun
 |[.one (.s 1 ms),.one (.v (.int Za k))]=>some (fun _=>∃ es,ms=dW es k/\Rw [tI] es/\am es<=1099511627776/\0<=k/\bg [ms] k<=1152921504606846976,[.j (F.kN [ms] k)])
 |_=>none
theorem kw:ec 159 fW:=by
 intro _ _ _ h hp;dsimp only[fW,F0]at h;split at h<;>cases h
 rename_i ms k;obtain⟨es,hms,hw,hlim,hk0,hkb⟩:=hp;have hlen:=eB hlim;have hml:ms.length=es.length:=by rw[hms];exact cH
 have hkk:bg [ms] k=bg [es] k:=by rw[hms];exact qe
 have hwm:Wf [.i 0] ms:=by rw[hms];exact dQ hw
 have hwf:Wf [.i 0] es:=hw.wf;have hat:∀ n,n<es.length->ms.getD n []=(hJ (es.getD n []) (fY es k n)).1:=fun n hn=>by rw[hms];exact lx hn
 refine cb nB Tryz.func159 ?_
 intro O r F hO hr hF;cbv
 refine⟨[0,1,5],[],Int×Int,fun s=>match s with|(i,k')=>[.reg 5 (.j i),.reg 1 (.j k')],fun s=>0<=s.1/\s.1.toNat<=es.length/\s.2=fY es k s.1.toNat,fun s=>es.length-s.1.toNat,⟨(0,k),?_,?_⟩,?_⟩;exact⟨by omega,Zh _,bS.symm⟩
 ·cbv
 ·rintro⟨i,k'⟩ hi;replace hi:0<=i/\i.toNat<=es.length/\k'=fY es k i.toNat:=hi;obtain⟨g0,g1,hk'⟩:=hi;cbv
  repeat' first|apply Zb|(apply bG<;>intro hb<;>cbv)|(refine ag (O.ar .add Za i 1,O.ar .add Za (k') 1) ?_ ?_ ?_;focus (cbv;done))
  all_goals(subst hO hr hF;(try simp only[nc]at*);(try simp only[ai,SS,sa,az]at*);(try have hltm:i<ms.length:=by assumption);(try have hlt:i<es.length:=by omega);(try rw[fa (n:=es.length) g0 hlt (by omega)]);(try have hlt':i.toNat<es.length:=by omega);(try have he:es.getD i.toNat []=[.i (ah es i 0)]:=(au hwf g0 hlt).symm);(try have hct:=dx (es:=es) (n:=i.toNat) (by omega);rw[he]at hct;simp only[dC,gS,Zi,Zv]at hct);(try have hks:=dU (es:=es) (k:=k) hlt';rw[he]at hks;simp only[hJ,iI]at hks);(try have hem:([.i (ah ms i 0)]:ay)=_:=(au hwm g0 hltm).trans (hat i.toNat hlt');rw[he]at hem;simp only[hJ,iI,Yg,L.v.injEq,Yp,Yq,L.s.injEq,true_and,and_true]at hem))
  all_goals have hle1:=bR (es:=es) (n:=i.toNat+1)
  all_goals have hcE:am es=es.length+bN es:=rfl
  all_goals have hk1:=jB (es:=es) (k:=k) (n:=i.toNat)
  all_goals have hk2:=jB (es:=es) (k:=k) (n:=i.toNat+1)
  all_goals have hk3:=rM (es:=es) (k:=k)
  all_goals have hk4:=jB (es:=es) (k:=k) (n:=es.length)
  all_goals have hk5:=fT (es:=es) (m:=0) (n:=i.toNat) g1 (Zh _)
  all_goals((have hk6:=fT (es:=es) (m:=i.toNat) (n:=es.length) (Ze _) g1);(try have hk7:=fT (es:=es) (m:=i.toNat+1) (n:=es.length) (Ze _) hlt'))
  all_goals rw[bS]at hk5
  all_goals((try have hk8:=mL (es:=es) (n:=i.toNat) hlt');(try rw[<-hk']at hem hks))
  all_goals have ha1:bO .add Za k' 1=k'+1:=bF (by omega)
  all_goals have ha2:bO .add Za (k'+1) 1=k'+1+1:=bF (by omega)
  all_goals have ha3:bO .add Za (k'+1+1) 1=k'+1+1+1:=bF (by omega)
  all_goals((have ha4:bO .add Za (k'+1+1+1) 1=k'+1+1+1+1:=bF (by omega));(try simp only[ha1,ha2,ha3,ha4]at*))
  all_goals first|exact oy hwm g0 hltm|omega|(rw[hk',show i.toNat=es.length from by omega,hk3,hkk];done)|(rw[show(i+1).toNat=i.toNat+1 from by omega,hks];done)|trace_state
abbrev GQ:cZ:=eK (fun F f=>match f with|94=>im F|108=>io F|142=>ij F|_=>fun _=>none) (by
 intro f;dsimp only;split;exact nE;exact nF;exact nD;exact db)
abbrev KD:cZ:={
 Φ:=qp
 F0:=F0
 ct:=fun F f=>match f with|159=>fW F|_=>fun _=>none
 hc:=(by
  intro f;dsimp only;split;exact kw;exact db)
 mt:=fun F f=>match f with|153=>some (fX F)|_=>none
 hm:=(by
  intro f mk h;dsimp only at h;split at h<;>cases h
  exact kx)}
def gE:EC:=fun F=>fun
 |[.one (.s 1 es),.one (.v (.int Za left))]=>some (fun _=>Rw [.sl [tI]] es/\0<=left/\left<=1048576,[.j (F.szN [es] left)])
 |_=>none
theorem lP:ec 97 gE:=by
 intro _ _ _ h hp;dsimp only[gE,F0]at h;split at h<;>cases h
 rename_i es left;obtain⟨hw,h0,h1⟩:=hp;have hwf:Wf [.s 1 []] es:=hw.wf;have hm:=hw.1;unfold maxLen at hm;have hs:bO .sub Za left es.length=left-es.length:=di (by omega);have hcE:am es=es.length+bN es:=rfl;have hn:dT [es] left=if left<am es then-1 else left-am es:=by unfold dT;rw[eM]
 refine cb GQ Tryz.func97 ?_
 intro O r F hO hr hF;cbv
 apply bG<;>intro hb<;>cbv
 ·repeat' first|apply Zb|(apply bG<;>intro hb<;>cbv)
  all_goals exact abr
 have hb0:0<=left-es.length:=by
  (subst hO hr hF;(try simp only[nc]at*);(try simp only[ai,SS,sa,az]at*))
  rw[hs]at hb;exact hb
 clear hb;refine⟨[0,1,5],[],Int×Int,fun s=>match s with|(i,l)=>[.reg 5 (.j i),.reg 1 (.j l)],fun s=>0<=s.1/\s.1.toNat<=es.length/\0<=s.2/\s.2=left-es.length-bN (es.take s.1.toNat),fun s=>es.length-s.1.toNat,⟨(0,O.ar .sub Za left (O.zi (O.ln es))),?_,?_⟩,?_⟩
 ·(subst hO hr hF;(try simp only[nc]at*);(try simp only[ai,SS,sa,az]at*))
  rw[hs];exact⟨by omega,Zh _,hb0,by simp[bN]⟩
 ·cbv
 ·rintro⟨i,l⟩ hi;replace hi:0<=i/\i.toNat<=es.length/\0<=l/\l=left-es.length-bN (es.take i.toNat):=hi;obtain⟨g0,g1,g2,g3⟩:=hi;cbv
  repeat' first|apply Zb|(apply bG<;>intro hb<;>cbv)|(refine ag (O.ar .add Za i 1,F.szN [O.gs es i 0] l) ?_ ?_ ?_;focus (cbv;done))
  all_goals(subst hO hr hF;(try simp only[nc]at*);(try simp only[ai,SS,sa,az]at*))
  all_goals have hle:=bR (es:=es) (n:=i.toNat)
  all_goals have hsz:=pG (a:=[ax es i 0]) (left:=l)
  all_goals((have hsz2:0<=dT [ax es i 0] l->dT [ax es i 0] l=l-aR [ax es i 0]:=uB);(try have hlt:i<es.length:=by assumption);(try have he:es.getD i.toNat []=[.s 1 (ax es i 0)]:=(au hwf g0 hlt).symm);(try rw[fa (n:=es.length) g0 hlt (by omega)]);(try have hr0:Rw [tI] (ax es i 0):=Rw.sub (fs:=[.sl [tI]]) hw (by omega) rfl))
  all_goals exact abo
def gF:EC:=fun F=>fun
 |[.one (.s 1 es)]=>some (fun _=>Rw [.sl [tI]] es/\am es<=1048576,[.one (.s 1 es)])
 |_=>none
theorem lQ:ec 115 gF:=by
 intro _ _ _ h hp;dsimp only[gF,F0]at h;split at h<;>cases h
 rename_i es;obtain⟨hw,hlim⟩:=hp;have hwf:Wf [.s 1 []] es:=hw.wf;have hlen:=eB hlim;refine cb GQ Tryz.func115 ?_
 intro O r F hO hr hF;cbv
 have h0z:cG es [.s 1 []] 0=O.rep (O.zi (O.ln es)) [.s 1 []]:=by
  subst hO;rw[dS];rfl
 refine⟨?_,?_,[0,3,4],[3],Int×af,fun s=>[.reg 4 (.j s.1),.leaf 3 0 ⟨0,0,none,.own (.s 1 s.2)⟩],fun s=>0<=s.1/\s.1.toNat<=es.length/\s.2=cG es [.s 1 []] s.1.toNat,fun s=>es.length-s.1.toNat,⟨(0,O.rep (O.zi (O.ln es)) [.s 1 []]),?_,?_⟩,?_⟩
 ·subst hO;exact qg (b:=24) (show es.length*_<=_ by omega) (show es.length<=_ by omega)
 ·subst hO;exact⟨rfl,rfl⟩
 ·exact⟨by omega,Zh _,h0z.symm⟩
 ·cbv
 ·rintro⟨i,m⟩ hi;replace hi:0<=i/\i.toNat<=es.length/\m=cG es [.s 1 []] i.toNat:=hi;obtain⟨g0,g1,hm⟩:=hi;cbv
  repeat' first|apply Zb|(apply bG<;>intro hb<;>cbv)|(refine ag (O.ar .add Za i 1,O.up (.s 1 m) [(O.ad 0 i,0)] [.s 1 (O.gs es i 0)]) ?_ ?_ ?_;focus (cbv;done))
  all_goals(subst hO hr hF;(try simp only[nc]at*);(try simp only[ai,SS,sa,az]at*);(try simp only[pz,Yi,Zx]at*);(try have hlt:i<es.length:=by assumption);(try have he:es.getD i.toNat []=[.s 1 (ax es i 0)]:=(au hwf g0 hlt).symm);(try rw[fa (n:=es.length) g0 hlt (by omega)]);(try have hr0:Rw [tI] (ax es i 0):=Rw.sub (fs:=[.sl [tI]]) hw (by omega) rfl))
  all_goals exact abn
def gD:EC:=fun F=>fun
 |[.one (.s 1 es),d]=>some (fun _=>d=.one (.s 1 es)/\Rw [.sl [tI]] es/\am es<=1099511627776,[.k true])
 |_=>none
theorem lO:ec 149 gD:=by
 intro _ _ _ h hp;dsimp only[gD,F0]at h;split at h<;>cases h
 rename_i es d;obtain⟨rfl,hw,hlim⟩:=hp;have hwf:Wf [.s 1 []] es:=hw.wf;have hlen:=eB hlim;refine cb GQ Tryz.func149 ?_
 intro O r F hO hr hF;cbv
 apply bG<;>intro hb<;>cbv
 ·(subst hO hr hF;(try simp only[nc]at*);(try simp only[ai,SS,sa,az]at*));exact absurd rfl hb
 ·clear hb;refine⟨[0,1,5],[],Int,fun i=>[.reg 5 (.j i)],fun i=>0<=i/\i.toNat<=es.length,fun i=>es.length-i.toNat,⟨0,?_,?_⟩,?_⟩;exact⟨by omega,Zh _⟩
  ·cbv
  ·rintro i hi;replace hi:0<=i/\i.toNat<=es.length:=hi;obtain⟨g0,g1⟩:=hi;cbv
   repeat' first|apply Zb|(apply bG<;>intro hb<;>cbv)|(refine ag (O.ar .add Za i 1) ?_ ?_ ?_;focus (cbv;done))
   all_goals(subst hO hr hF;(try simp only[nc]at*);(try simp only[ai,SS,sa,az]at*);(try have hlt:i<es.length:=by assumption);(try have he:es.getD i.toNat []=[.s 1 (ax es i 0)]:=(au hwf g0 hlt).symm);(try rw[fa (n:=es.length) g0 hlt (by omega)]);(try have hr0:Rw [tI] (ax es i 0):=Rw.sub (fs:=[.sl [tI]]) hw (by omega) rfl))
   all_goals exact abp
def fH:EM:=fun F=>fun
 |[.one (.s 1 es),.one (.v (.int Za k))]=>some (fun _=>Rw [.sl [tI]] es/\am es<=1099511627776/\0<=k/\bg [es] k<=1152921504606846976,[.s 1 (F.mkN es k)],[.j (F.kN [es] k)])
 |_=>none
theorem jG:em 154 fH:=by
 intro _ _ _ _ h hp;dsimp only[fH,F0]at h;split at h<;>cases h
 rename_i es k;obtain⟨hw,hlim,hk0,hkb⟩:=hp;have hwf:Wf [.s 1 []] es:=hw.wf;have hlen:=eB hlim;refine mb KD [(0,0)] Tryz.func154 ?_
 intro O r os F hO hr hos hF;cbv
 refine⟨[0,1,5],[0],Int×Int×af,fun s=>match s with|(i,k',cur)=>[.reg 5 (.j i),.reg 1 (.j k'),.leaf 0 0 ⟨0,0,some 0,.own (.s 1 cur)⟩],fun s=>0<=s.1/\s.1.toNat<=es.length/\s.2.1=fY es k s.1.toNat/\s.2.2=gK es k s.1.toNat,fun s=>es.length-s.1.toNat,⟨(0,k,es),?_,?_⟩,?_⟩;exact⟨by omega,Zh _,bS.symm,eW.symm⟩
 ·cbv
 ·rintro⟨i,k',cur⟩ hi;replace hi:0<=i/\i.toNat<=es.length/\k'=fY es k i.toNat/\cur=gK es k i.toNat:=hi;obtain⟨g0,g1,hk',hc⟩:=hi;cbv
  repeat' first|apply Zb|(apply bG<;>intro hb<;>cbv)|(refine ag (O.ar .add Za i 1,F.kN [O.ps (.s 1 (cur)) [(O.ad 0 i,0)]] (k'),O.up (.s 1 (cur)) [(O.ad 0 i,0)] [.s 1 (F.mkN (O.ps (.s 1 (cur)) [(O.ad 0 i,0)]) (k'))]) ?_ ?_ ?_;focus (cbv;done))
  all_goals((try subst hos);subst hO hr hF;(try simp only[nc]at*);(try simp only[ai,SS,sa,az]at*);(try have hlt:i<es.length:=by assumption);(try have he:es.getD i.toNat []=[.s 1 (ax es i 0)]:=(au hwf g0 hlt).symm);(try have hcg:cur.getD i.toNat []=[.s 1 (ax es i 0)]:=by rw[hc,eV g1];exact he);(try rw[fa (n:=es.length) g0 hlt (by omega)]);(try have hlt':i.toNat<es.length:=by omega);(try have hr0:Rw [tI] (ax es i 0):=Rw.sub (fs:=[.sl [tI]]) hw (by omega) rfl))
  all_goals exact zq3
def fG:EC:=fun F=>fun
 |[.one (.s 1 ms),.one (.v (.int Za k))]=>some (fun _=>∃ es,ms=dW es k/\Rw [.sl [tI]] es/\am es<=1099511627776/\0<=k/\bg [ms] k<=1152921504606846976,[.j (F.kN [ms] k)])
 |_=>none
theorem jF:ec 160 fG:=by
 intro _ _ _ h hp;dsimp only[fG,F0]at h;split at h<;>cases h
 rename_i ms k;obtain⟨es,hms,hw,hlim,hk0,hkb⟩:=hp;have hlen:=eB hlim;have hml:ms.length=es.length:=by rw[hms];exact cH
 have hkk:bg [ms] k=bg [es] k:=by rw[hms];exact qe
 have hwm:Wf [.s 1 []] ms:=by rw[hms];exact dQ hw
 have hwf:Wf [.s 1 []] es:=hw.wf;have hat:∀ n,n<es.length->ms.getD n []=(hJ (es.getD n []) (fY es k n)).1:=fun n hn=>by rw[hms];exact lx hn
 refine cb KD Tryz.func160 ?_
 intro O r F hO hr hF;cbv
 refine⟨[0,1,5],[],Int×Int,fun s=>match s with|(i,k')=>[.reg 5 (.j i),.reg 1 (.j k')],fun s=>0<=s.1/\s.1.toNat<=es.length/\s.2=fY es k s.1.toNat,fun s=>es.length-s.1.toNat,⟨(0,k),?_,?_⟩,?_⟩;exact⟨by omega,Zh _,bS.symm⟩
 ·cbv
 ·rintro⟨i,k'⟩ hi;replace hi:0<=i/\i.toNat<=es.length/\k'=fY es k i.toNat:=hi;obtain⟨g0,g1,hk'⟩:=hi;cbv
  repeat' first|apply Zb|(apply bG<;>intro hb<;>cbv)|(refine ag (O.ar .add Za i 1,F.kN [O.gs ms i 0] (k')) ?_ ?_ ?_;focus (cbv;done))
  all_goals(subst hO hr hF;(try simp only[nc]at*);(try simp only[ai,SS,sa,az]at*);(try have hltm:i<ms.length:=by assumption);(try have hlt:i<es.length:=by omega);(try have he:es.getD i.toNat []=[.s 1 (ax es i 0)]:=(au hwf g0 hlt).symm);(try rw[fa (n:=es.length) g0 hlt (by omega)]);(try have hlt':i.toNat<es.length:=by omega);(try have hr0:Rw [tI] (ax es i 0):=Rw.sub (fs:=[.sl [tI]]) hw (by omega) rfl);(try have hct:=dx (es:=es) (n:=i.toNat) (by omega);rw[he]at hct;simp only[dC,gS,Zi,Zv]at hct);(try have hks:=dU (es:=es) (k:=k) hlt';rw[he]at hks;simp only[hJ,iI]at hks);(try have hem:([.s 1 (ax ms i 0)]:ay)=_:=(au hwm g0 hltm).trans (hat i.toNat hlt');rw[he]at hem;simp only[hJ,iI,Yg,L.v.injEq,Yp,Yq,L.s.injEq,true_and,and_true]at hem))
  all_goals exact zq5
def mn:EC:=fun F=>fun
 |[.one (.s 1 es),.one (.v (.int Za left))]=>some (fun _=>Rw [tB] es/\0<=left/\left<=1048576,[.j (F.szN [es] left)])
 |_=>none
theorem zn:ec 301 mn:=by
 intro _ _ _ h hp;dsimp only[mn,F0]at h;split at h<;>cases h
 rename_i es left;obtain⟨hw,h0,h1⟩:=hp;have hc:am es=es.length:=hw.cnt rfl;have hm:=hw.1;unfold maxLen at hm;have hs:bO .sub Za left es.length=left-es.length:=di (by omega);have hn:dT [es] left=if left<es.length then-1 else left-es.length:=by unfold dT;rw[eM,hc]
 refine cb nB Tryz.func301 ?_
 exact EY
def mr:EC:=fun F=>fun
 |[.one (.s 1 es)]=>some (fun _=>Rw [tB] es/\am es<=1048576,[.one (.s 1 es)])
 |_=>none
theorem zw:ec 307 mr:=by
 intro _ _ _ h hp;dsimp only[mr,F0]at h;split at h<;>cases h
 rename_i es;obtain⟨hw,hlim⟩:=hp;have hwf:Wf [.v (.bool false)] es:=hw.wf;have hlen:=eB hlim;refine cb nB Tryz.func307 ?_
 intro O r F hO hr hF;cbv
 have h0z:cG es [.v (.bool false)] 0=O.rep (O.zi (O.ln es)) [.v (.bool false)]:=by
  subst hO;rw[dS];rfl
 refine⟨?_,?_,[0,3,4],[3],Int×af,fun s=>[.reg 4 (.j s.1),.leaf 3 0 ⟨0,0,none,.own (.s 1 s.2)⟩],fun s=>0<=s.1/\s.1.toNat<=es.length/\s.2=cG es [.v (.bool false)] s.1.toNat,fun s=>es.length-s.1.toNat,⟨(0,O.rep (O.zi (O.ln es)) [.v (.bool false)]),?_,?_⟩,?_⟩
 ·subst hO;exact qg (b:=1) (show es.length*_<=_ by omega) (show es.length<=_ by omega)
 ·subst hO;exact⟨rfl,rfl⟩
 ·exact⟨by omega,Zh _,h0z.symm⟩
 ·cbv
 ·rintro⟨i,m⟩ hi;replace hi:0<=i/\i.toNat<=es.length/\m=cG es [.v (.bool false)] i.toNat:=hi;obtain⟨g0,g1,hm⟩:=hi;cbv
  repeat' first|apply Zb|(apply bG<;>intro hb<;>cbv)|(refine ag (O.ar .add Za i 1,O.up (.s 1 m) [(O.ad 0 i,0)] [.v (.bool (O.gb es i 0))]) ?_ ?_ ?_;focus (cbv;done))
  all_goals(subst hO hr hF;(try simp only[nc]at*);(try simp only[ai,SS,sa,az]at*);(try simp only[pz,Yi,Zx]at*);(try have hlt:i<es.length:=by assumption);(try have he:es.getD i.toNat []=[.v (.bool (sn es i 0))]:=(au hwf g0 hlt).symm))
  all_goals exact Qd
def md:EC:=fun F=>fun
 |[.one (.s 1 es),d]=>some (fun _=>d=.one (.s 1 es)/\Rw [tB] es/\am es<=1099511627776,[.k true])
 |_=>none
theorem y8:ec 322 md:=by
 intro _ _ _ h hp;dsimp only[md,F0]at h;split at h<;>cases h
 rename_i es d;obtain⟨rfl,hw,hlim⟩:=hp;have hwf:Wf [.v (.bool false)] es:=hw.wf;have hlen:=eB hlim;refine cb nB Tryz.func322 ?_
 intro O r F hO hr hF;cbv
 apply bG<;>intro hb<;>cbv
 ·(subst hO hr hF;(try simp only[nc]at*);(try simp only[ai,SS,sa,az]at*));exact absurd rfl hb
 ·clear hb;refine⟨[0,1,5],[],Int,fun i=>[.reg 5 (.j i)],fun i=>0<=i/\i.toNat<=es.length,fun i=>es.length-i.toNat,⟨0,?_,?_⟩,?_⟩;exact⟨by omega,Zh _⟩
  ·cbv
  ·rintro i hi;replace hi:0<=i/\i.toNat<=es.length:=hi;obtain⟨g0,g1⟩:=hi;cbv
   repeat' first|apply Zb|(apply bG<;>intro hb<;>cbv)|(refine ag (O.ar .add Za i 1) ?_ ?_ ?_;focus (cbv;done))
   all_goals(subst hO hr hF;(try simp only[nc]at*);(try simp only[ai,SS,sa,az]at*);(try have hlt:i<es.length:=by assumption);(try rw[fa (n:=es.length) g0 hlt (by omega)]);(try have he:es.getD i.toNat []=[.v (.bool (sn es i 0))]:=(au hwf g0 hlt).symm);(try have hct:=dx (es:=es) (n:=i.toNat) (by omega);rw[he]at hct;simp only[dC,gS,Zi,Zv]at hct))
   all_goals have hle1:=bR (es:=es) (n:=i.toNat+1)
   all_goals have hcE:am es=es.length+bN es:=rfl
   all_goals first|omega|exact oy hwf g0 hlt|exact absurd rfl hb|trivial|trace_state
def jP:EM:=fun F=>fun
 |[.one (.s 1 es),.one (.v (.int Za k))]=>some (fun _=>Rw [tB] es/\am es<=1099511627776/\0<=k/\bg [es] k<=1152921504606846976,[.s 1 (F.mkN es k)],[.j (F.kN [es] k)])
 |_=>none
theorem vk:em 325 jP:=by
 intro _ _ _ _ h hp;dsimp only[jP,F0]at h;split at h<;>cases h
 rename_i es k;obtain⟨hw,hlim,hk0,hkb⟩:=hp;have hwf:Wf [.v (.bool false)] es:=hw.wf;have hlen:=eB hlim;refine mb nB [(0,0)] Tryz.func325 ?_
 intro O r os F hO hr hos hF;cbv
 refine⟨[0,1,5],[0],Int×Int×af,fun s=>match s with|(i,k',cur)=>[.reg 5 (.j i),.reg 1 (.j k'),.leaf 0 0 ⟨0,0,some 0,.own (.s 1 cur)⟩],fun s=>0<=s.1/\s.1.toNat<=es.length/\s.2.1=fY es k s.1.toNat/\s.2.2=gK es k s.1.toNat,fun s=>es.length-s.1.toNat,⟨(0,k,es),?_,?_⟩,?_⟩;exact⟨by omega,Zh _,bS.symm,eW.symm⟩
 ·cbv
 ·rintro⟨i,k',cur⟩ hi;replace hi:0<=i/\i.toNat<=es.length/\k'=fY es k i.toNat/\cur=gK es k i.toNat:=hi;obtain⟨g0,g1,hk',hc⟩:=hi;cbv
  repeat' first|apply Zb|(apply bG<;>intro hb<;>cbv)|(refine ag (O.ar .add Za i 1,O.ar .add Za (k') 1,O.up (.s 1 (cur)) [(O.ad 0 i,0)] [.v (.bool (O.cmp .eql (O.ar .rem Za (k') 3) 0))]) ?_ ?_ ?_;focus (cbv;done))
  all_goals((try subst hos);subst hO hr hF;(try simp only[nc]at*);(try simp only[ai,SS,sa,az]at*);(try have hlt:i<es.length:=by assumption);(try rw[fa (n:=es.length) g0 hlt (by omega)]);(try have hlt':i.toNat<es.length:=by omega);(try have he:es.getD i.toNat []=[.v (.bool (sn es i 0))]:=(au hwf g0 hlt).symm);(try have hct:=dx (es:=es) (n:=i.toNat) (by omega);rw[he]at hct;simp only[dC,gS,Zi,Zv]at hct);(try have hks:=dU (es:=es) (k:=k) hlt';rw[he]at hks;simp only[hJ,iI]at hks);(try have hms:=AF (es:=es) (k:=k) hlt';rw[he]at hms;simp only[hJ,iI]at hms))
  all_goals have hle1:=bR (es:=es) (n:=i.toNat+1)
  all_goals have hcE:am es=es.length+bN es:=rfl
  all_goals have hk1:=jB (es:=es) (k:=k) (n:=i.toNat)
  all_goals have hk2:=jB (es:=es) (k:=k) (n:=i.toNat+1)
  all_goals have hk3:=rM (es:=es) (k:=k)
  all_goals have hk4:=jB (es:=es) (k:=k) (n:=es.length)
  all_goals have hk5:=fT (es:=es) (m:=0) (n:=i.toNat) g1 (Zh _)
  all_goals((have hk6:=fT (es:=es) (m:=i.toNat) (n:=es.length) (Ze _) g1);(try have hk7:=fT (es:=es) (m:=i.toNat+1) (n:=es.length) (Ze _) hlt'))
  all_goals rw[bS]at hk5
  all_goals((try have hk8:=mL (es:=es) (n:=i.toNat) hlt');(try have hcl:i.toNat<cur.length:=by rw[hc,ra g1];exact hlt');(try have hcg:cur.getD i.toNat []=[.v (.bool (sn es i 0))]:=by rw[hc,eV g1];exact he))
  all_goals have ha1:bO .add Za k' 1=k'+1:=bF (by omega)
  all_goals have ha2:bO .add Za (k'+1) 1=k'+1+1:=bF (by omega)
  all_goals have ha3:bO .add Za (k'+1+1) 1=k'+1+1+1:=bF (by omega)
  all_goals((have ha4:bO .add Za (k'+1+1+1) 1=k'+1+1+1+1:=bF (by omega));(try simp only[ha1,ha2,ha3,ha4]);(try simp only[az]);(try simp only[A7,hcg,List.take,List.drop,List.length_cons,List.length_nil,ZI,ZP,List.append_nil,Zv,Nat.reduceAdd,fk hcl,List.set_set,List.append_assoc]);(try simp only[uv,hcg,fk hcl,List.getD_cons_zero,List.getD_cons_succ,Ko]);(try simp only[yr hcl,ua hcl,yt hcl,Ak hcl,hcg,List.getElem?_cons_zero,List.getElem?_cons_succ]))
  all_goals first|exact⟨g0,hlt⟩|(refine⟨_,_,rfl,?_⟩;simp;done)|omega|(rw[hk',show i.toNat=es.length from by omega,hk3];done)|(rw[hc,show i.toNat=es.length from by omega,AE];rfl)|(rw[show(i+1).toNat=i.toNat+1 from by omega,hks,hk'];done)|(rw[show(i+1).toNat=i.toNat+1 from by omega, <-hms,hc,hk'];rfl)|trace_state
def jN:EC:=fun F=>fun
 |[.one (.s 1 ms),.one (.v (.int Za k))]=>some (fun _=>∃ es,ms=dW es k/\Rw [tB] es/\am es<=1099511627776/\0<=k/\bg [ms] k<=1152921504606846976,[.j (F.kN [ms] k)])
 |_=>none
theorem vg:ec 327 jN:=by
 intro _ _ _ h hp;dsimp only[jN,F0]at h;split at h<;>cases h
 rename_i ms k;obtain⟨es,hms,hw,hlim,hk0,hkb⟩:=hp;have hlen:=eB hlim;have hml:ms.length=es.length:=by rw[hms];exact cH
 have hkk:bg [ms] k=bg [es] k:=by rw[hms];exact qe
 have hwm:Wf [.v (.bool false)] ms:=by rw[hms];exact dQ hw
 have hwf:Wf [.v (.bool false)] es:=hw.wf;have hat:∀ n,n<es.length->ms.getD n []=(hJ (es.getD n []) (fY es k n)).1:=fun n hn=>by rw[hms];exact lx hn
 refine cb nB Tryz.func327 ?_
 intro O r F hO hr hF;cbv
 refine⟨[0,1,5],[],Int×Int,fun s=>match s with|(i,k')=>[.reg 5 (.j i),.reg 1 (.j k')],fun s=>0<=s.1/\s.1.toNat<=es.length/\s.2=fY es k s.1.toNat,fun s=>es.length-s.1.toNat,⟨(0,k),?_,?_⟩,?_⟩;exact⟨by omega,Zh _,bS.symm⟩
 ·cbv
 ·rintro⟨i,k'⟩ hi;replace hi:0<=i/\i.toNat<=es.length/\k'=fY es k i.toNat:=hi;obtain⟨g0,g1,hk'⟩:=hi;cbv
  repeat' first|apply Zb|(apply bG<;>intro hb<;>cbv)|(refine ag (O.ar .add Za i 1,O.ar .add Za (k') 1) ?_ ?_ ?_;focus (cbv;done))
  all_goals(subst hO hr hF;(try simp only[nc]at*);(try simp only[ai,SS,sa,az]at*);(try have hltm:i<ms.length:=by assumption);(try have hlt:i<es.length:=by omega);(try have he:es.getD i.toNat []=[.v (.bool (sn es i 0))]:=(au hwf g0 hlt).symm);(try rw[fa (n:=es.length) g0 hlt (by omega)]);(try have hlt':i.toNat<es.length:=by omega);(try have hct:=dx (es:=es) (n:=i.toNat) (by omega);rw[he]at hct;simp only[dC,gS,Zi,Zv]at hct);(try have hks:=dU (es:=es) (k:=k) hlt';rw[he]at hks;simp only[hJ,iI]at hks);(try have hem:([.v (.bool (sn ms i 0))]:ay)=_:=(au hwm g0 hltm).trans (hat i.toNat hlt');rw[he]at hem;simp only[hJ,iI,Yg,L.v.injEq,Yp,Yq,L.s.injEq,true_and,and_true]at hem))
  all_goals exact Se
abbrev C7:cZ:=eK (fun F f=>match f with|97=>gE F|115=>gF F|149=>gD F|301=>mn F|307=>mr F|322=>md F|_=>fun _=>none) (by
 intro f;dsimp only;split;exact lP;exact lQ;exact lO;exact zn;exact zw;exact y8;exact db)
abbrev Ii:cZ:={
 Φ:=qp
 F0:=F0
 ct:=fun F f=>match f with|160=>fG F|327=>jN F|_=>fun _=>none
 hc:=(by
  intro f;dsimp only;split;exact jF;exact vg;exact db)
 mt:=fun F f=>match f with|154=>some (fH F)|325=>some (jP F)|_=>none
 hm:=(by
  intro f mk h;dsimp only at h;split at h<;>cases h
  exact jG;exact vk)}
def kX:EC:=fun F=>fun
 |[.agg [.s 1 a0,.s 1 a1],.one (.v (.int Za left))]=>some (fun _=>Rw [.sl [tI]] a0/\Rw [tB] a1/\0<=left/\left<=1048576,[.j (F.szN [a0,a1] left)])
 |_=>none
theorem xG:ec 209 kX:=by
 intro _ _ _ h hp;dsimp only[kX,F0]at h;split at h<;>cases h
 rename_i a0 a1 left;obtain⟨w0,w1,h0,h1⟩:=hp;refine cb C7 Tryz.func209 ?_
 intro O r F hO hr hF;cbv
 repeat' first|apply Zb|(apply bG<;>intro hb<;>cbv)
 all_goals(subst hO hr hF;(try simp only[nc]at*);(try simp only[ai,SS,sa,az]at*);(try simp(disch:=assumption) only[nu,ZP,ZI]at*))
 all_goals exact afR
def k9:EC:=fun F=>fun
 |[.agg [.s 1 a0,.s 1 a1]]=>some (fun _=>Rw [.sl [tI]] a0/\Rw [tB] a1/\aR [a0,a1]<=1048576,[.agg [.s 1 a0,.s 1 a1]])
 |_=>none
theorem xO:ec 217 k9:=by
 intro _ _ _ h hp;dsimp only[k9,F0]at h;split at h<;>cases h
 rename_i a0 a1;obtain⟨w0,w1,hlim⟩:=hp;simp only[aR,Zi]at hlim;refine cb C7 Tryz.func217 ?_
 exact afP
def kH:EC:=fun F=>fun
 |[.agg [.s 1 a0,.s 1 a1],d]=>some (fun _=>d=.agg [.s 1 a0,.s 1 a1]/\Rw [.sl [tI]] a0/\Rw [tB] a1/\aR [a0,a1]<=1099511627776,[.k true])
 |_=>none
theorem xi:ec 247 kH:=by
 intro _ _ _ h hp;dsimp only[kH,F0]at h;split at h<;>cases h
 rename_i a0 a1 d;obtain⟨rfl,w0,w1,hlim⟩:=hp;simp only[aR,Zi]at hlim;refine cb C7 Tryz.func247 ?_
 exact afO
def jf:EM:=fun F=>fun
 |[.agg [.s 1 a0,.s 1 a1],.one (.v (.int Za k))]=>some (fun _=>Rw [.sl [tI]] a0/\Rw [tB] a1/\aR [a0,a1]<=1099511627776/\0<=k/\bg [a0,a1] k<=1152921504606846976,[.s 1 (F.mkN a0 k),.s 1 (F.mkN a1 (F.kN [a0] k))],[.j (F.kN [a0,a1] k)])
 |_=>none
theorem tL:em 251 jf:=by
 intro _ _ _ _ h hp;dsimp only[jf,F0]at h;split at h<;>cases h
 rename_i a0 a1 k;obtain⟨w0,w1,hlim,hk0,hkb⟩:=hp;simp only[aR,Zi]at hlim;have p0:bg [a0] k<=bg [a0,a1] k/\0<=bg [a0] k:=bI (b:=[a1]) hk0;have p1:bg [a0,a1] k<=bg [a0,a1] k/\0<=bg [a0,a1] k:=bI (b:=[]) hk0;refine mb Ii [(2,0),(2,1)] Tryz.func251 ?_
 exact Qb
def iZ:EC:=fun F=>fun
 |[.agg [.s 1 m0,.s 1 m1],.one (.v (.int Za k))]=>some (fun _=>(∃ a0,m0=dW a0 k/\Rw [.sl [tI]] a0/\am a0<=1099511627776)/\(∃ a1,m1=dW a1 (bg [m0] k)/\Rw [tB] a1/\am a1<=1099511627776)/\0<=k/\bg [m0,m1] k<=1152921504606846976,[.j (F.kN [m0,m1] k)])
 |_=>none
theorem tC:ec 254 iZ:=by
 intro _ _ _ h hp;dsimp only[iZ,F0]at h;split at h<;>cases h
 rename_i m0 m1 k;obtain⟨e0,e1,hk0,hkb⟩:=hp;have p0:bg [m0] k<=bg [m0,m1] k/\0<=bg [m0] k:=bI (b:=[m1]) hk0;have p1:bg [m0,m1] k<=bg [m0,m1] k/\0<=bg [m0,m1] k:=bI (b:=[]) hk0;refine cb Ii Tryz.func254 ?_
 exact afx
def my:EC:=fun F=>fun
 |[.agg [.v (.int Za a0),.v (.int Za a1)]]=>some (fun _=>True,[.agg [.i a0,.i a1]])
 |_=>none
theorem zy:ec 359 my:=by
 intro _ _ _ h hp;dsimp only[my,F0]at h;split at h<;>cases h
 rename_i a0 a1;refine cb nB Tryz.func359 ?_
 exact yl
def mg:EC:=fun F=>fun
 |[.agg [.v (.int Za a0),.v (.int Za a1)],d]=>some (fun _=>d=.agg [.i a0,.i a1],[.k true])
 |_=>none
theorem za:ec 363 mg:=by
 intro _ _ _ h hp;dsimp only[mg,F0]at h;split at h<;>cases h
 rename_i a0 a1 d;subst hp;refine cb nB Tryz.func363 ?_
 exact yl
abbrev C6:cZ:=eK (fun F f=>match f with|359=>my F|363=>mg F|_=>fun _=>none) (by
 intro f;dsimp only;split;exact zy;exact za;exact db)
def kW:EC:=fun F=>fun
 |[.one (.s 2 es),.one (.v (.int Za left))]=>some (fun _=>Rw [tI,tI] es/\0<=left/\left<=1048576,[.j (F.szN [es] left)])
 |_=>none
theorem xF:ec 302 kW:=by
 intro _ _ _ h hp;dsimp only[kW,F0]at h;split at h<;>cases h
 rename_i es left;obtain⟨hw,h0,h1⟩:=hp;have hc:am es=es.length:=hw.cnt rfl;have hm:=hw.1;unfold maxLen at hm;have hs:bO .sub Za left es.length=left-es.length:=di (by omega);have hn:dT [es] left=if left<es.length then-1 else left-es.length:=by unfold dT;rw[eM,hc]
 refine cb C6 Tryz.func302 ?_
 exact EY
def k8:EC:=fun F=>fun
 |[.one (.s 2 es)]=>some (fun _=>Rw [tI,tI] es/\am es<=1048576,[.one (.s 2 es)])
 |_=>none
theorem xN:ec 308 k8:=by
 intro _ _ _ h hp;dsimp only[k8,F0]at h;split at h<;>cases h
 rename_i es;obtain⟨hw,hlim⟩:=hp;have hwf:Wf [.i 0,.i 0] es:=hw.wf;have hlen:=eB hlim;refine cb C6 Tryz.func308 ?_
 intro O r F hO hr hF;cbv
 have h0z:cG es [.i 0,.i 0] 0=O.rep (O.zi (O.ln es)) [.i 0,.i 0]:=by
  subst hO;rw[dS];rfl
 refine⟨?_,?_,[0,3,4],[3],Int×af,fun s=>[.reg 4 (.j s.1),.leaf 3 0 ⟨0,0,none,.own (.s 2 s.2)⟩],fun s=>0<=s.1/\s.1.toNat<=es.length/\s.2=cG es [.i 0,.i 0] s.1.toNat,fun s=>es.length-s.1.toNat,⟨(0,O.rep (O.zi (O.ln es)) [.i 0,.i 0]),?_,?_⟩,?_⟩
 ·subst hO;exact qg (b:=16) (show es.length*_<=_ by omega) (show es.length<=_ by omega)
 ·subst hO;exact⟨rfl,rfl⟩
 ·exact⟨by omega,Zh _,h0z.symm⟩
 ·cbv
 ·rintro⟨i,m⟩ hi;replace hi:0<=i/\i.toNat<=es.length/\m=cG es [.i 0,.i 0] i.toNat:=hi;obtain⟨g0,g1,hm⟩:=hi;cbv
  repeat' first|apply Zb|(apply bG<;>intro hb<;>cbv)|(refine ag (O.ar .add Za i 1,O.up (.s 2 m) [(O.ad 0 i,0)] [.i (O.gi es i 0),.i (O.gi es i 1)]) ?_ ?_ ?_;focus (cbv;done))
  all_goals(subst hO hr hF;(try simp only[nc]at*);(try simp only[ai,SS,sa,az]at*);(try simp only[pz,Yi,Zx]at*);(try have hlt:i<es.length:=by assumption);(try have he:es.getD i.toNat []=[.i (ah es i 0),.i (ah es i 1)]:=(au hwf g0 hlt).symm))
  all_goals exact Qd
def kG:EC:=fun F=>fun
 |[.one (.s 2 es),d]=>some (fun _=>d=.one (.s 2 es)/\Rw [tI,tI] es/\am es<=1099511627776,[.k true])
 |_=>none
theorem xh:ec 323 kG:=by
 intro _ _ _ h hp;dsimp only[kG,F0]at h;split at h<;>cases h
 rename_i es d;obtain⟨rfl,hw,hlim⟩:=hp;have hwf:Wf [.i 0,.i 0] es:=hw.wf;have hlen:=eB hlim;refine cb C6 Tryz.func323 ?_
 intro O r F hO hr hF;cbv
 apply bG<;>intro hb<;>cbv
 ·(subst hO hr hF;(try simp only[nc]at*);(try simp only[ai,SS,sa,az]at*));exact absurd rfl hb
 ·clear hb;refine⟨[0,1,5],[],Int,fun i=>[.reg 5 (.j i)],fun i=>0<=i/\i.toNat<=es.length,fun i=>es.length-i.toNat,⟨0,?_,?_⟩,?_⟩;exact⟨by omega,Zh _⟩
  ·cbv
  ·rintro i hi;replace hi:0<=i/\i.toNat<=es.length:=hi;obtain⟨g0,g1⟩:=hi;cbv
   repeat' first|apply Zb|(apply bG<;>intro hb<;>cbv)|(refine ag (O.ar .add Za i 1) ?_ ?_ ?_;focus (cbv;done))
   all_goals(subst hO hr hF;(try simp only[nc]at*);(try simp only[ai,SS,sa,az]at*);(try have hlt:i<es.length:=by assumption);(try have he:es.getD i.toNat []=[.i (ah es i 0),.i (ah es i 1)]:=(au hwf g0 hlt).symm))
   all_goals exact Sf
def je:EM:=fun F=>fun
 |[.one (.s 2 es),.one (.v (.int Za k))]=>some (fun _=>Rw [tI,tI] es/\am es<=1099511627776/\0<=k/\bg [es] k<=1152921504606846976,[.s 2 (F.mkN es k)],[.j (F.kN [es] k)])
 |_=>none
theorem tK:em 326 je:=by
 intro _ _ _ _ h hp;dsimp only[je,F0]at h;split at h<;>cases h
 rename_i es k;obtain⟨hw,hlim,hk0,hkb⟩:=hp;have hwf:Wf [.i 0,.i 0] es:=hw.wf;have hlen:=eB hlim;refine mb nB [(0,0)] Tryz.func326 ?_
 intro O r os F hO hr hos hF;cbv
 refine⟨[0,1,5],[0],Int×Int×af,fun s=>match s with|(i,k',cur)=>[.reg 5 (.j i),.reg 1 (.j k'),.leaf 0 0 ⟨0,0,some 0,.own (.s 2 cur)⟩],fun s=>0<=s.1/\s.1.toNat<=es.length/\s.2.1=fY es k s.1.toNat/\s.2.2=gK es k s.1.toNat,fun s=>es.length-s.1.toNat,⟨(0,k,es),?_,?_⟩,?_⟩;exact⟨by omega,Zh _,bS.symm,eW.symm⟩
 ·cbv
 ·rintro⟨i,k',cur⟩ hi;replace hi:0<=i/\i.toNat<=es.length/\k'=fY es k i.toNat/\cur=gK es k i.toNat:=hi;obtain⟨g0,g1,hk',hc⟩:=hi;cbv
  repeat' first|apply Zb|(apply bG<;>intro hb<;>cbv)|(refine ag (O.ar .add Za i 1,O.ar .add Za (O.ar .add Za (k') 1) 1,O.up (.s 2 (O.up (.s 2 (cur)) [(O.ad 0 i,0)] [.i (k')])) [(O.ad 0 i,1)] [.i (O.ar .add Za (k') 1)]) ?_ ?_ ?_;focus (cbv;done))
  all_goals((try subst hos);subst hO hr hF;(try simp only[nc]at*);(try simp only[ai,SS,sa,az]at*);(try have hlt:i<es.length:=by assumption);(try have he:es.getD i.toNat []=[.i (ah es i 0),.i (ah es i 1)]:=(au hwf g0 hlt).symm);(try have hcg:cur.getD i.toNat []=[.i (ah es i 0),.i (ah es i 1)]:=by rw[hc,eV g1];exact he))
  all_goals exact Sd
def iY:EC:=fun F=>fun
 |[.one (.s 2 ms),.one (.v (.int Za k))]=>some (fun _=>∃ es,ms=dW es k/\Rw [tI,tI] es/\am es<=1099511627776/\0<=k/\bg [ms] k<=1152921504606846976,[.j (F.kN [ms] k)])
 |_=>none
theorem tA:ec 328 iY:=by
 intro _ _ _ h hp;dsimp only[iY,F0]at h;split at h<;>cases h
 rename_i ms k;obtain⟨es,hms,hw,hlim,hk0,hkb⟩:=hp;have hlen:=eB hlim;have hml:ms.length=es.length:=by rw[hms];exact cH
 have hkk:bg [ms] k=bg [es] k:=by rw[hms];exact qe
 have hwm:Wf [.i 0,.i 0] ms:=by rw[hms];exact dQ hw
 have hwf:Wf [.i 0,.i 0] es:=hw.wf;have hat:∀ n,n<es.length->ms.getD n []=(hJ (es.getD n []) (fY es k n)).1:=fun n hn=>by rw[hms];exact lx hn
 refine cb nB Tryz.func328 ?_
 intro O r F hO hr hF;cbv
 refine⟨[0,1,5],[],Int×Int,fun s=>match s with|(i,k')=>[.reg 5 (.j i),.reg 1 (.j k')],fun s=>0<=s.1/\s.1.toNat<=es.length/\s.2=fY es k s.1.toNat,fun s=>es.length-s.1.toNat,⟨(0,k),?_,?_⟩,?_⟩;exact⟨by omega,Zh _,bS.symm⟩
 ·cbv
 ·rintro⟨i,k'⟩ hi;replace hi:0<=i/\i.toNat<=es.length/\k'=fY es k i.toNat:=hi;obtain⟨g0,g1,hk'⟩:=hi;cbv
  repeat' first|apply Zb|(apply bG<;>intro hb<;>cbv)|(refine ag (O.ar .add Za i 1,O.ar .add Za (O.ar .add Za (k') 1) 1) ?_ ?_ ?_;focus (cbv;done))
  all_goals(subst hO hr hF;(try simp only[nc]at*);(try simp only[ai,SS,sa,az]at*);(try have hltm:i<ms.length:=by assumption);(try have hlt:i<es.length:=by omega);(try have he:es.getD i.toNat []=[.i (ah es i 0),.i (ah es i 1)]:=(au hwf g0 hlt).symm);(try rw[fa (n:=es.length) g0 hlt (by omega)]);(try have hlt':i.toNat<es.length:=by omega);(try have hct:=dx (es:=es) (n:=i.toNat) (by omega);rw[he]at hct;simp only[dC,gS,Zi,Zv]at hct);(try have hks:=dU (es:=es) (k:=k) hlt';rw[he]at hks;simp only[hJ,iI]at hks);(try have hem:([.i (ah ms i 0),.i (ah ms i 1)]:ay)=_:=(au hwm g0 hltm).trans (hat i.toNat hlt');rw[he]at hem;simp only[hJ,iI,Yg,L.v.injEq,Yp,Yq,L.s.injEq,true_and,and_true]at hem))
  all_goals exact Se
abbrev GU:cZ:=eK (fun F f=>match f with|302=>kW F|308=>k8 F|323=>kG F|_=>fun _=>none) (by
 intro f;dsimp only;split;exact xF;exact xN;exact xh;exact db)
abbrev KE:cZ:={
 Φ:=qp
 F0:=F0
 ct:=fun F f=>match f with|328=>iY F|_=>fun _=>none
 hc:=(by
  intro f;dsimp only;split;exact tA;exact db)
 mt:=fun F f=>match f with|326=>some (je F)|_=>none
 hm:=(by
  intro f mk h;dsimp only at h;split at h<;>cases h
  exact tK)}
def mq:EC:=fun F=>fun
 |[.agg [.s 2 a0],.one (.v (.int Za left))]=>some (fun _=>Rw [tI,tI] a0/\0<=left/\left<=1048576,[.j (F.szN [a0] left)])
 |_=>none
theorem zu:ec 210 mq:=by
 intro _ _ _ h hp;dsimp only[mq,F0]at h;split at h<;>cases h
 rename_i a0 left;obtain⟨w0,h0,h1⟩:=hp;refine cb GU Tryz.func210 ?_
 intro O r F hO hr hF;cbv
 repeat' first|apply Zb|(apply bG<;>intro hb<;>cbv)
 all_goals(subst hO hr hF;(try simp only[nc]at*);(try simp only[ai,SS,sa,az]at*);(try simp(disch:=assumption) only[nu,ZP,ZI]at*))
 all_goals first|trivial|(rw[mR (by assumption)])|trace_state
def mz:EC:=fun F=>fun
 |[.agg [.s 2 a0]]=>some (fun _=>Rw [tI,tI] a0/\aR [a0]<=1048576,[.agg [.s 2 a0]])
 |_=>none
theorem zE:ec 218 mz:=by
 intro _ _ _ h hp;dsimp only[mz,F0]at h;split at h<;>cases h
 rename_i a0;obtain⟨w0,hlim⟩:=hp;simp only[aR,Zi]at hlim;refine cb GU Tryz.func218 ?_
 exact yl
def mh:EC:=fun F=>fun
 |[.agg [.s 2 a0],d]=>some (fun _=>d=.agg [.s 2 a0]/\Rw [tI,tI] a0/\aR [a0]<=1099511627776,[.k true])
 |_=>none
theorem zh:ec 248 mh:=by
 intro _ _ _ h hp;dsimp only[mh,F0]at h;split at h<;>cases h
 rename_i a0 d;obtain⟨rfl,w0,hlim⟩:=hp;simp only[aR,Zi]at hlim;refine cb GU Tryz.func248 ?_
 exact yl
def jQ:EM:=fun F=>fun
 |[.agg [.s 2 a0],.one (.v (.int Za k))]=>some (fun _=>Rw [tI,tI] a0/\aR [a0]<=1099511627776/\0<=k/\bg [a0] k<=1152921504606846976,[.s 2 (F.mkN a0 k)],[.j (F.kN [a0] k)])
 |_=>none
theorem vp:em 252 jQ:=by
 intro _ _ _ _ h hp;dsimp only[jQ,F0]at h;split at h<;>cases h
 rename_i a0 k;obtain⟨w0,hlim,hk0,hkb⟩:=hp;simp only[aR,Zi]at hlim;have p0:bg [a0] k<=bg [a0] k/\0<=bg [a0] k:=bI (b:=[]) hk0;refine mb KE [(2,0)] Tryz.func252 ?_
 exact Qe
def jO:EC:=fun F=>fun
 |[.agg [.s 2 m0],.one (.v (.int Za k))]=>some (fun _=>(∃ a0,m0=dW a0 k/\Rw [tI,tI] a0/\am a0<=1099511627776)/\0<=k/\bg [m0] k<=1152921504606846976,[.j (F.kN [m0] k)])
 |_=>none
theorem vj:ec 255 jO:=by
 intro _ _ _ h hp;dsimp only[jO,F0]at h;split at h<;>cases h
 rename_i m0 k;obtain⟨e0,hk0,hkb⟩:=hp;have p0:bg [m0] k<=bg [m0] k/\0<=bg [m0] k:=bI (b:=[]) hk0;refine cb KE Tryz.func255 ?_
 exact Qc
abbrev yH:cZ:=eK (fun F f=>match f with|209=>kX F|217=>k9 F|247=>kH F|210=>mq F|218=>mz F|248=>mh F|_=>fun _=>none) (by
 intro f;dsimp only;split;exact xG;exact xO;exact xi;exact zu;exact zE;exact zh;exact db)
abbrev E6:cZ:={
 Φ:=qp
 F0:=F0
 ct:=fun F f=>match f with|254=>iZ F|255=>jO F|_=>fun _=>none
 hc:=(by
  intro f;dsimp only;split;exact tC;exact vj;exact db)
 mt:=fun F f=>match f with|251=>some (jf F)|252=>some (jQ F)|_=>none
 hm:=(by
  intro f mk h;dsimp only at h;split at h<;>cases h
  exact tL;exact vp)}
def jR:EC:=fun F=>fun
 |[.agg [.s 1 a0,.s 1 a1,.s 2 a2],.one (.v (.int Za left))]=>some (fun _=>Rw [.sl [tI]] a0/\Rw [tB] a1/\Rw [tI,tI] a2/\0<=left/\left<=1048576,[.j (F.szN [a0,a1,a2] left)])
 |_=>none
theorem vq:ec 93 jR:=by
 intro _ _ _ h hp;dsimp only[jR,F0]at h;split at h<;>cases h
 rename_i a0 a1 a2 left;obtain⟨w0,w1,w2,h0,h1⟩:=hp;refine cb yH Tryz.func93 ?_
 intro O r F hO hr hF;cbv
 repeat' first|apply Zb|(apply bG<;>intro hb<;>cbv)
 all_goals(subst hO hr hF;(try simp only[nc]at*);(try simp only[ai,SS,sa,az]at*);(try simp(disch:=assumption) only[nu,ZP,ZI]at*))
 all_goals first|trivial|(refine⟨by assumption,by omega,by first|omega|exact Xx (A2 (by assumption)) h1⟩)|(rw[mR (by assumption)])|exact congrArg (fun x=>[DV.one (L.v (Zm Zz x))]) (gO (a:=[a0,a1]) (b:=[a2]) (by assumption)).symm|trace_state
def jS:EC:=fun F=>fun
 |[.agg [.s 1 a0,.s 1 a1,.s 2 a2]]=>some (fun _=>Rw [.sl [tI]] a0/\Rw [tB] a1/\Rw [tI,tI] a2/\aR [a0,a1,a2]<=1048576,[.agg [.s 1 a0,.s 1 a1,.s 2 a2]])
 |_=>none
theorem vt:ec 107 jS:=by
 intro _ _ _ h hp;dsimp only[jS,F0]at h;split at h<;>cases h
 rename_i a0 a1 a2;obtain⟨w0,w1,w2,hlim⟩:=hp;simp only[aR,Zi]at hlim;refine cb yH Tryz.func107 ?_
 intro O r F hO hr hF;cbv
 repeat' first|apply Zb|(apply bG<;>intro hb<;>cbv)
 all_goals(subst hO hr hF;(try simp only[nc]at*);(try simp only[ai,SS,sa,az]at*))
 all_goals first|trivial|(refine⟨by assumption,?_⟩;(try simp only[aR,Zi]);omega)|(refine⟨by assumption,by assumption,?_⟩;(try simp only[aR,Zi]);omega)|trace_state
def jM:EC:=fun F=>fun
 |[.agg [.s 1 a0,.s 1 a1,.s 2 a2],d]=>some (fun _=>d=.agg [.s 1 a0,.s 1 a1,.s 2 a2]/\Rw [.sl [tI]] a0/\Rw [tB] a1/\Rw [tI,tI] a2/\aR [a0,a1,a2]<=1099511627776,[.k true])
 |_=>none
theorem vf:ec 141 jM:=by
 intro _ _ _ h hp;dsimp only[jM,F0]at h;split at h<;>cases h
 rename_i a0 a1 a2 d;obtain⟨rfl,w0,w1,w2,hlim⟩:=hp;simp only[aR,Zi]at hlim;refine cb yH Tryz.func141 ?_
 intro O r F hO hr hF;cbv
 repeat' first|apply Zb|(apply bG<;>intro hb<;>cbv)
 all_goals(subst hO hr hF;(try simp only[nc]at*);(try simp only[ai,SS,sa,az]at*))
 all_goals first|trivial|(refine⟨trivial,by assumption,?_⟩;(try simp only[aR,Zi]);omega)|(refine⟨trivial,by assumption,by assumption,?_⟩;(try simp only[aR,Zi]);omega)|trace_state
def iz:EM:=fun F=>fun
 |[.agg [.s 1 a0,.s 1 a1,.s 2 a2],.one (.v (.int Za k))]=>some (fun _=>Rw [.sl [tI]] a0/\Rw [tB] a1/\Rw [tI,tI] a2/\aR [a0,a1,a2]<=1099511627776/\0<=k/\bg [a0,a1,a2] k<=1152921504606846976,[.s 1 (F.mkN a0 k),.s 1 (F.mkN a1 (F.kN [a0] k)),.s 2 (F.mkN a2 (F.kN [a0,a1] k))],[.j (F.kN [a0,a1,a2] k)])
 |_=>none
theorem sO:em 152 iz:=by
 intro _ _ _ _ h hp;dsimp only[iz,F0]at h;split at h<;>cases h
 rename_i a0 a1 a2 k;obtain⟨w0,w1,w2,hlim,hk0,hkb⟩:=hp;simp only[aR,Zi]at hlim;have p0:bg [a0] k<=bg [a0,a1,a2] k/\0<=bg [a0] k:=bI (b:=[a1,a2]) hk0;have p1:bg [a0,a1] k<=bg [a0,a1,a2] k/\0<=bg [a0,a1] k:=bI (b:=[a2]) hk0;have p2:bg [a0,a1,a2] k<=bg [a0,a1,a2] k/\0<=bg [a0,a1,a2] k:=bI (b:=[]) hk0;refine mb E6 [(2,0),(2,1),(2,2)] Tryz.func152 ?_
 exact Qb
def iy:EC:=fun F=>fun
 |[.agg [.s 1 m0,.s 1 m1,.s 2 m2],.one (.v (.int Za k))]=>some (fun _=>(∃ a0,m0=dW a0 k/\Rw [.sl [tI]] a0/\am a0<=1099511627776)/\(∃ a1,m1=dW a1 (bg [m0] k)/\Rw [tB] a1/\am a1<=1099511627776)/\(∃ a2,m2=dW a2 (bg [m0,m1] k)/\Rw [tI,tI] a2/\am a2<=1099511627776)/\0<=k/\bg [m0,m1,m2] k<=1152921504606846976,[.j (F.kN [m0,m1,m2] k)])
 |_=>none
theorem sN:ec 158 iy:=by
 intro _ _ _ h hp;dsimp only[iy,F0]at h;split at h<;>cases h
 rename_i m0 m1 m2 k;obtain⟨e0,e1,e2,hk0,hkb⟩:=hp;have p0:bg [m0] k<=bg [m0,m1,m2] k/\0<=bg [m0] k:=bI (b:=[m1,m2]) hk0;have p1:bg [m0,m1] k<=bg [m0,m1,m2] k/\0<=bg [m0,m1] k:=bI (b:=[m2]) hk0;have p2:bg [m0,m1,m2] k<=bg [m0,m1,m2] k/\0<=bg [m0,m1,m2] k:=bI (b:=[]) hk0;refine cb E6 Tryz.func158 ?_
 intro O r F hO hr hF;cbv
 repeat' first|apply Zb|(apply bG<;>intro hb<;>cbv)
 all_goals(subst hO hr hF;(try simp only[nc]at*);(try simp only[ai,SS,sa,az]at*);(try simp only[jW,ZP,ZI]at*))
 all_goals first|trivial|(exfalso;omega)|(obtain⟨x,y1,y2,y3⟩:=e0;exact⟨x,y1,y2,y3,by omega,by omega⟩)|(obtain⟨x,y1,y2,y3⟩:=e1;exact⟨x,y1,y2,y3,by omega,by omega⟩)|(obtain⟨x,y1,y2,y3⟩:=e2;exact⟨x,y1,y2,y3,by omega,by omega⟩)|(refine⟨by assumption,by omega,by omega⟩)|(refine⟨by assumption,by assumption,by omega,by omega⟩)|(refine⟨by assumption,by assumption,by assumption,by omega,by omega⟩)|trace_state
abbrev C8:cZ:=eK (fun F f=>match f with|93=>jR F|107=>jS F|141=>jM F|94=>im F|108=>io F|142=>ij F|_=>fun _=>none) (by
 intro f;dsimp only;split;exact vq;exact vt;exact vf;exact nE;exact nF;exact nD;exact db)
abbrev Ij:cZ:={
 Φ:=qp
 F0:=F0
 ct:=fun F f=>match f with|158=>iy F|159=>fW F|_=>fun _=>none
 hc:=(by
  intro f;dsimp only;split;exact sN;exact kw;exact db)
 mt:=fun F f=>match f with|152=>some (iz F)|153=>some (fX F)|_=>none
 hm:=(by
  intro f mk h;dsimp only at h;split at h<;>cases h
  exact sO;exact kx)}
def kY:EC:=fun F=>fun
 |[.agg [.s 1 a0,.s 1 a1,.s 2 a2,.v (.int Za a3),.s 1 a4],.one (.v (.int Za left))]=>some (fun _=>Rw [.sl [tI]] a0/\Rw [tB] a1/\Rw [tI,tI] a2/\Rw [tI] a4/\0<=left/\left<=1048576,[.j (F.szN [a0,a1,a2,a4] left)])
 |_=>none
theorem xH:ec 17 kY:=by
 intro _ _ _ h hp;dsimp only[kY,F0]at h;split at h<;>cases h
 rename_i a0 a1 a2 a3 a4 left;obtain⟨w0,w1,w2,w3,h0,h1⟩:=hp;refine cb C8 Tryz.func17 ?_
 intro O r F hO hr hF;cbv
 repeat' first|apply Zb|(apply bG<;>intro hb<;>cbv)
 all_goals(subst hO hr hF;(try simp only[nc]at*);(try simp only[ai,SS,sa,az]at*);(try simp(disch:=assumption) only[nu,ZP,ZI]at*))
 all_goals first|trivial|(refine⟨by assumption,by omega,by first|omega|exact Xx (A2 (by assumption)) h1⟩)|(rw[mR (by assumption)])|exact congrArg (fun x=>[DV.one (L.v (Zm Zz x))]) (gO (a:=[a0,a1,a2]) (b:=[a4]) (by assumption)).symm|trace_state
def lc:EC:=fun F=>fun
 |[.agg [.s 1 a0,.s 1 a1,.s 2 a2,.v (.int Za a3),.s 1 a4]]=>some (fun _=>Rw [.sl [tI]] a0/\Rw [tB] a1/\Rw [tI,tI] a2/\Rw [tI] a4/\aR [a0,a1,a2,a4]<=1048576,[.agg [.s 1 a0,.s 1 a1,.s 2 a2,.i a3,.s 1 a4]])
 |_=>none
theorem xP:ec 30 lc:=by
 intro _ _ _ h hp;dsimp only[lc,F0]at h;split at h<;>cases h
 rename_i a0 a1 a2 a3 a4;obtain⟨w0,w1,w2,w3,hlim⟩:=hp;simp only[aR,Zi]at hlim;refine cb C8 Tryz.func30 ?_
 intro O r F hO hr hF;cbv
 repeat' first|apply Zb|(apply bG<;>intro hb<;>cbv)
 all_goals(subst hO hr hF;(try simp only[nc]at*);(try simp only[ai,SS,sa,az]at*))
 all_goals first|trivial|(refine⟨by assumption,?_⟩;(try simp only[aR,Zi]);omega)|(refine⟨by assumption,by assumption,by assumption,?_⟩;(try simp only[aR,Zi]);omega)|trace_state
def kI:EC:=fun F=>fun
 |[.agg [.s 1 a0,.s 1 a1,.s 2 a2,.v (.int Za a3),.s 1 a4],d]=>some (fun _=>d=.agg [.s 1 a0,.s 1 a1,.s 2 a2,.i a3,.s 1 a4]/\Rw [.sl [tI]] a0/\Rw [tB] a1/\Rw [tI,tI] a2/\Rw [tI] a4/\aR [a0,a1,a2,a4]<=1099511627776,[.k true])
 |_=>none
theorem xj:ec 44 kI:=by
 intro _ _ _ h hp;dsimp only[kI,F0]at h;split at h<;>cases h
 rename_i a0 a1 a2 a3 a4 d;obtain⟨rfl,w0,w1,w2,w3,hlim⟩:=hp;simp only[aR,Zi]at hlim;refine cb C8 Tryz.func44 ?_
 intro O r F hO hr hF;cbv
 repeat' first|apply Zb|(apply bG<;>intro hb<;>cbv)
 all_goals(subst hO hr hF;(try simp only[nc]at*);(try simp only[ai,SS,sa,az]at*))
 all_goals first|trivial|(refine⟨trivial,by assumption,?_⟩;(try simp only[aR,Zi]);omega)|(refine⟨trivial,by assumption,by assumption,by assumption,?_⟩;(try simp only[aR,Zi]);omega)|trace_state
def jg:EM:=fun F=>fun
 |[.agg [.s 1 a0,.s 1 a1,.s 2 a2,.v (.int Za a3),.s 1 a4],.one (.v (.int Za k))]=>some (fun _=>Rw [.sl [tI]] a0/\Rw [tB] a1/\Rw [tI,tI] a2/\Rw [tI] a4/\aR [a0,a1,a2,a4]<=1099511627776/\0<=k/\bg [a0,a1,a2,a4] k<=1152921504606846976,[.s 1 (F.mkN a0 k),.s 1 (F.mkN a1 (F.kN [a0] k)),.s 2 (F.mkN a2 (F.kN [a0,a1] k)),.s 1 (F.mkN a4 (F.kN [a0,a1,a2] k))],[.j (F.kN [a0,a1,a2,a4] k)])
 |_=>none
theorem tM:em 53 jg:=by
 intro _ _ _ _ h hp;dsimp only[jg,F0]at h;split at h<;>cases h
 rename_i a0 a1 a2 a3 a4 k;obtain⟨w0,w1,w2,w3,hlim,hk0,hkb⟩:=hp;simp only[aR,Zi]at hlim;have p0:bg [a0] k<=bg [a0,a1,a2,a4] k/\0<=bg [a0] k:=bI (b:=[a1,a2,a4]) hk0;have p1:bg [a0,a1] k<=bg [a0,a1,a2,a4] k/\0<=bg [a0,a1] k:=bI (b:=[a2,a4]) hk0;have p2:bg [a0,a1,a2] k<=bg [a0,a1,a2,a4] k/\0<=bg [a0,a1,a2] k:=bI (b:=[a4]) hk0;have p3:bg [a0,a1,a2,a4] k<=bg [a0,a1,a2,a4] k/\0<=bg [a0,a1,a2,a4] k:=bI (b:=[]) hk0;refine mb Ij [(2,0),(2,1),(2,2),(2,4)] Tryz.func53 ?_
 exact Qb
def ja:EC:=fun F=>fun
 |[.agg [.s 1 m0,.s 1 m1,.s 2 m2,.v (.int Za m3),.s 1 m4],.one (.v (.int Za k))]=>some (fun _=>(∃ a0,m0=dW a0 k/\Rw [.sl [tI]] a0/\am a0<=1099511627776)/\(∃ a1,m1=dW a1 (bg [m0] k)/\Rw [tB] a1/\am a1<=1099511627776)/\(∃ a2,m2=dW a2 (bg [m0,m1] k)/\Rw [tI,tI] a2/\am a2<=1099511627776)/\(∃ a4,m4=dW a4 (bg [m0,m1,m2] k)/\Rw [tI] a4/\am a4<=1099511627776)/\0<=k/\bg [m0,m1,m2,m4] k<=1152921504606846976,[.j (F.kN [m0,m1,m2,m4] k)])
 |_=>none
theorem tD:ec 62 ja:=by
 intro _ _ _ h hp;dsimp only[ja,F0]at h;split at h<;>cases h
 rename_i m0 m1 m2 m3 m4 k;obtain⟨e0,e1,e2,e3,hk0,hkb⟩:=hp;have p0:bg [m0] k<=bg [m0,m1,m2,m4] k/\0<=bg [m0] k:=bI (b:=[m1,m2,m4]) hk0;have p1:bg [m0,m1] k<=bg [m0,m1,m2,m4] k/\0<=bg [m0,m1] k:=bI (b:=[m2,m4]) hk0;have p2:bg [m0,m1,m2] k<=bg [m0,m1,m2,m4] k/\0<=bg [m0,m1,m2] k:=bI (b:=[m4]) hk0;have p3:bg [m0,m1,m2,m4] k<=bg [m0,m1,m2,m4] k/\0<=bg [m0,m1,m2,m4] k:=bI (b:=[]) hk0;refine cb Ij Tryz.func62 ?_
 intro O r F hO hr hF;cbv
 repeat' first|apply Zb|(apply bG<;>intro hb<;>cbv)
 all_goals(subst hO hr hF;(try simp only[nc]at*);(try simp only[ai,SS,sa,az]at*);(try simp only[jW,ZP,ZI]at*))
 all_goals first|trivial|(exfalso;omega)|(obtain⟨x,y1,y2,y3⟩:=e0;exact⟨x,y1,y2,y3,by omega,by omega⟩)|(obtain⟨x,y1,y2,y3⟩:=e1;exact⟨x,y1,y2,y3,by omega,by omega⟩)|(obtain⟨x,y1,y2,y3⟩:=e2;exact⟨x,y1,y2,y3,by omega,by omega⟩)|(obtain⟨x,y1,y2,y3⟩:=e3;exact⟨x,y1,y2,y3,by omega,by omega⟩)|(refine⟨by assumption,by omega,by omega⟩)|(refine⟨by assumption,by assumption,by omega,by omega⟩)|(refine⟨by assumption,by assumption,by assumption,by omega,by omega⟩)|(refine⟨by assumption,by assumption,by assumption,by assumption,by omega,by omega⟩)|trace_state
end Go.V