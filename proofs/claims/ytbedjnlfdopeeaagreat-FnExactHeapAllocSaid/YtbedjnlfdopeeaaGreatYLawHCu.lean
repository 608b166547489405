/- Contracts. -/
import Derived.Test.YtbedjnlfdopeeaaGreatYLawHAu
import Derived.Test.YtbedjnlfdopeeaaGreatYLawHEu
set_option linter.all false
open Go
open And renaming intro->Zb
open Int renaming toNat_natCast->Zx
open IntKind renaming i64->Za
open List renaming length_replicate->Yi
open List.cons renaming injEq->Yg
open Nat renaming add_zero->Zi,zero_le->Zh,zero_add->Zv
open Value.bool renaming injEq->Yq
open Value.int renaming injEq->Yp
namespace Go.V
open Go Go.Proofs
set_option maxRecDepth 1000000
set_option maxHeartbeats 8000000
abbrev GP:cZ:=eK (fun F f=>match f with|97=>gE F|115=>gF F|149=>gD F|_=>fun _=>none) (by
 intro f;dsimp only;split;exact lP;exact lQ;exact lO;exact db)
def mo:EC:=fun F=>fun
 |[.agg [.s 1 a0],.one (.v (.int Za left))]=>some (fun _=>Rw [.sl [tI]] a0/\0<=left/\left<=1048576,[.j (F.szN [a0] left)])
 |_=>none
theorem zo:ec 95 mo:=by
 intro _ _ _ h hp;dsimp only[mo,F0]at h;split at h<;>cases h
 rename_i a0 left;obtain⟨w0,h0,h1⟩:=hp;refine cb GP Tryz.func95 ?_
 exact afI
def mw:EC:=fun F=>fun
 |[.agg [.s 1 a0]]=>some (fun _=>Rw [.sl [tI]] a0/\aR [a0]<=1048576,[.agg [.s 1 a0]])
 |_=>none
theorem zx:ec 113 mw:=by
 intro _ _ _ h hp;dsimp only[mw,F0]at h;split at h<;>cases h
 rename_i a0;obtain⟨w0,hlim⟩:=hp;simp only[aR,Zi]at hlim;refine cb GP Tryz.func113 ?_
 exact yl
def mf:EC:=fun F=>fun
 |[.agg [.s 1 a0],d]=>some (fun _=>d=.agg [.s 1 a0]/\Rw [.sl [tI]] a0/\aR [a0]<=1099511627776,[.k true])
 |_=>none
theorem y9:ec 147 mf:=by
 intro _ _ _ h hp;dsimp only[mf,F0]at h;split at h<;>cases h
 rename_i a0 d;obtain⟨rfl,w0,hlim⟩:=hp;simp only[aR,Zi]at hlim;refine cb GP Tryz.func147 ?_
 exact yl
abbrev C5:cZ:=eK (fun F f=>match f with|95=>mo F|113=>mw F|147=>mf F|_=>fun _=>none) (by
 intro f;dsimp only;split;exact zo;exact zx;exact y9;exact db)
abbrev Ih:cZ:={
 Φ:=qp
 F0:=F0
 ct:=fun F f=>match f with|160=>fG F|_=>fun _=>none
 hc:=(by
  intro f;dsimp only;split;exact jF;exact db)
 mt:=fun F f=>match f with|154=>some (fH F)|_=>none
 hm:=(by
  intro f mk h;dsimp only at h;split at h<;>cases h
  exact jG)}
def kV:EC:=fun F=>fun
 |[.one (.s 1 es),.one (.v (.int Za left))]=>some (fun _=>Rw [.sl [.sl [tI]]] es/\0<=left/\left<=1048576,[.j (F.szN [es] left)])
 |_=>none
theorem xE:ec 22 kV:=by
 intro _ _ _ h hp;dsimp only[kV,F0]at h;split at h<;>cases h
 rename_i es left;obtain⟨hw,h0,h1⟩:=hp;have hwf:Wf [.s 1 []] es:=hw.wf;have hm:=hw.1;unfold maxLen at hm;have hs:bO .sub Za left es.length=left-es.length:=di (by omega);have hcE:am es=es.length+bN es:=rfl;have hn:dT [es] left=if left<am es then-1 else left-am es:=by unfold dT;rw[eM]
 refine cb C5 Tryz.func22 ?_
 intro O r F hO hr hF;cbv
 apply bG<;>intro hb<;>cbv
 ·repeat' first|apply Zb|(apply bG<;>intro hb<;>cbv)
  all_goals exact abr
 have hb0:0<=left-es.length:=by
  (subst hO hr hF;(try simp only[nc]at*);(try simp only[ai,SS,sa,az]at*))
  rw[hs]at hb;exact hb
 clear hb;refine⟨[0,1,5],[],Int×Int,fun s=>match s with|(i,l)=>[.reg 5 (.j i),.reg 1 (.j l)],fun s=>0<=s.1/\s.1.toNat<=es.length/\0<=s.2/\s.2=left-es.length-bN (es.take s.1.toNat),fun s=>es.length-s.1.toNat,⟨(0,O.ar .sub Za left (O.zi (O.ln es))),?_,?_⟩,?_⟩
 ·(subst hO hr hF;(try simp only[nc]at*);(try simp only[ai,SS,sa,az]at*))
  rw[hs];exact⟨by omega,Zh _,hb0,by simp[bN]⟩
 ·cbv
 ·rintro⟨i,l⟩ hi;replace hi:0<=i/\i.toNat<=es.length/\0<=l/\l=left-es.length-bN (es.take i.toNat):=hi;obtain⟨g0,g1,g2,g3⟩:=hi;cbv
  repeat' first|apply Zb|(apply bG<;>intro hb<;>cbv)|(refine ag (O.ar .add Za i 1,F.szN [O.gs es i 0] l) ?_ ?_ ?_;focus (cbv;done))
  all_goals(subst hO hr hF;(try simp only[nc]at*);(try simp only[ai,SS,sa,az]at*))
  all_goals have hle:=bR (es:=es) (n:=i.toNat)
  all_goals have hsz:=pG (a:=[ax es i 0]) (left:=l)
  all_goals((have hsz2:0<=dT [ax es i 0] l->dT [ax es i 0] l=l-aR [ax es i 0]:=uB);(try have hlt:i<es.length:=by assumption);(try have he:es.getD i.toNat []=[.s 1 (ax es i 0)]:=(au hwf g0 hlt).symm);(try rw[fa (n:=es.length) g0 hlt (by omega)]);(try have hr0:Rw [.sl [tI]] (ax es i 0):=Rw.sub (fs:=[.sl [.sl [tI]]]) hw (by omega) rfl))
  all_goals exact abo
def k7:EC:=fun F=>fun
 |[.one (.s 1 es)]=>some (fun _=>Rw [.sl [.sl [tI]]] es/\am es<=1048576,[.one (.s 1 es)])
 |_=>none
theorem xM:ec 35 k7:=by
 intro _ _ _ h hp;dsimp only[k7,F0]at h;split at h<;>cases h
 rename_i es;obtain⟨hw,hlim⟩:=hp;have hwf:Wf [.s 1 []] es:=hw.wf;have hlen:=eB hlim;refine cb C5 Tryz.func35 ?_
 intro O r F hO hr hF;cbv
 have h0z:cG es [.s 1 []] 0=O.rep (O.zi (O.ln es)) [.s 1 []]:=by
  subst hO;rw[dS];rfl
 refine⟨?_,?_,[0,3,4],[3],Int×af,fun s=>[.reg 4 (.j s.1),.leaf 3 0 ⟨0,0,none,.own (.s 1 s.2)⟩],fun s=>0<=s.1/\s.1.toNat<=es.length/\s.2=cG es [.s 1 []] s.1.toNat,fun s=>es.length-s.1.toNat,⟨(0,O.rep (O.zi (O.ln es)) [.s 1 []]),?_,?_⟩,?_⟩
 ·subst hO;exact qg (b:=24) (show es.length*_<=_ by omega) (show es.length<=_ by omega)
 ·subst hO;exact⟨rfl,rfl⟩
 ·exact⟨by omega,Zh _,h0z.symm⟩
 ·cbv
 ·rintro⟨i,m⟩ hi;replace hi:0<=i/\i.toNat<=es.length/\m=cG es [.s 1 []] i.toNat:=hi;obtain⟨g0,g1,hm⟩:=hi;cbv
  repeat' first|apply Zb|(apply bG<;>intro hb<;>cbv)|(refine ag (O.ar .add Za i 1,O.up (.s 1 m) [(O.ad 0 i,0)] [.s 1 (O.gs es i 0)]) ?_ ?_ ?_;focus (cbv;done))
  all_goals(subst hO hr hF;(try simp only[nc]at*);(try simp only[ai,SS,sa,az]at*);(try simp only[pz,Yi,Zx]at*);(try have hlt:i<es.length:=by assumption);(try have he:es.getD i.toNat []=[.s 1 (ax es i 0)]:=(au hwf g0 hlt).symm);(try rw[fa (n:=es.length) g0 hlt (by omega)]);(try have hr0:Rw [.sl [tI]] (ax es i 0):=Rw.sub (fs:=[.sl [.sl [tI]]]) hw (by omega) rfl))
  all_goals exact abn
def kF:EC:=fun F=>fun
 |[.one (.s 1 es),d]=>some (fun _=>d=.one (.s 1 es)/\Rw [.sl [.sl [tI]]] es/\am es<=1099511627776,[.k true])
 |_=>none
theorem xg:ec 49 kF:=by
 intro _ _ _ h hp;dsimp only[kF,F0]at h;split at h<;>cases h
 rename_i es d;obtain⟨rfl,hw,hlim⟩:=hp;have hwf:Wf [.s 1 []] es:=hw.wf;have hlen:=eB hlim;refine cb C5 Tryz.func49 ?_
 intro O r F hO hr hF;cbv
 apply bG<;>intro hb<;>cbv
 ·(subst hO hr hF;(try simp only[nc]at*);(try simp only[ai,SS,sa,az]at*));exact absurd rfl hb
 ·clear hb;refine⟨[0,1,5],[],Int,fun i=>[.reg 5 (.j i)],fun i=>0<=i/\i.toNat<=es.length,fun i=>es.length-i.toNat,⟨0,?_,?_⟩,?_⟩;exact⟨by omega,Zh _⟩
  ·cbv
  ·rintro i hi;replace hi:0<=i/\i.toNat<=es.length:=hi;obtain⟨g0,g1⟩:=hi;cbv
   repeat' first|apply Zb|(apply bG<;>intro hb<;>cbv)|(refine ag (O.ar .add Za i 1) ?_ ?_ ?_;focus (cbv;done))
   all_goals(subst hO hr hF;(try simp only[nc]at*);(try simp only[ai,SS,sa,az]at*);(try have hlt:i<es.length:=by assumption);(try have he:es.getD i.toNat []=[.s 1 (ax es i 0)]:=(au hwf g0 hlt).symm);(try rw[fa (n:=es.length) g0 hlt (by omega)]);(try have hr0:Rw [.sl [tI]] (ax es i 0):=Rw.sub (fs:=[.sl [.sl [tI]]]) hw (by omega) rfl))
   all_goals exact abp
def jd:EM:=fun F=>fun
 |[.one (.s 1 es),.one (.v (.int Za k))]=>some (fun _=>Rw [.sl [.sl [tI]]] es/\am es<=1099511627776/\0<=k/\bg [es] k<=1152921504606846976,[.s 1 (F.mkN es k)],[.j (F.kN [es] k)])
 |_=>none
theorem tJ:em 58 jd:=by
 intro _ _ _ _ h hp;dsimp only[jd,F0]at h;split at h<;>cases h
 rename_i es k;obtain⟨hw,hlim,hk0,hkb⟩:=hp;have hwf:Wf [.s 1 []] es:=hw.wf;have hlen:=eB hlim;refine mb Ih [(0,0)] Tryz.func58 ?_
 intro O r os F hO hr hos hF;cbv
 refine⟨[0,1,5],[0],Int×Int×af,fun s=>match s with|(i,k',cur)=>[.reg 5 (.j i),.reg 1 (.j k'),.leaf 0 0 ⟨0,0,some 0,.own (.s 1 cur)⟩],fun s=>0<=s.1/\s.1.toNat<=es.length/\s.2.1=fY es k s.1.toNat/\s.2.2=gK es k s.1.toNat,fun s=>es.length-s.1.toNat,⟨(0,k,es),?_,?_⟩,?_⟩;exact⟨by omega,Zh _,bS.symm,eW.symm⟩
 ·cbv
 ·rintro⟨i,k',cur⟩ hi;replace hi:0<=i/\i.toNat<=es.length/\k'=fY es k i.toNat/\cur=gK es k i.toNat:=hi;obtain⟨g0,g1,hk',hc⟩:=hi;cbv
  repeat' first|apply Zb|(apply bG<;>intro hb<;>cbv)|(refine ag (O.ar .add Za i 1,F.kN [O.ps (.s 1 (cur)) [(O.ad 0 i,0)]] (k'),O.up (.s 1 (cur)) [(O.ad 0 i,0)] [.s 1 (F.mkN (O.ps (.s 1 (cur)) [(O.ad 0 i,0)]) (k'))]) ?_ ?_ ?_;focus (cbv;done))
  all_goals((try subst hos);subst hO hr hF;(try simp only[nc]at*);(try simp only[ai,SS,sa,az]at*);(try have hlt:i<es.length:=by assumption);(try have he:es.getD i.toNat []=[.s 1 (ax es i 0)]:=(au hwf g0 hlt).symm);(try have hcg:cur.getD i.toNat []=[.s 1 (ax es i 0)]:=by rw[hc,eV g1];exact he);(try rw[fa (n:=es.length) g0 hlt (by omega)]);(try have hlt':i.toNat<es.length:=by omega);(try have hr0:Rw [.sl [tI]] (ax es i 0):=Rw.sub (fs:=[.sl [.sl [tI]]]) hw (by omega) rfl))
  all_goals exact zq3
def iX:EC:=fun F=>fun
 |[.one (.s 1 ms),.one (.v (.int Za k))]=>some (fun _=>∃ es,ms=dW es k/\Rw [.sl [.sl [tI]]] es/\am es<=1099511627776/\0<=k/\bg [ms] k<=1152921504606846976,[.j (F.kN [ms] k)])
 |_=>none
theorem tz:ec 67 iX:=by
 intro _ _ _ h hp;dsimp only[iX,F0]at h;split at h<;>cases h
 rename_i ms k;obtain⟨es,hms,hw,hlim,hk0,hkb⟩:=hp;have hlen:=eB hlim;have hml:ms.length=es.length:=by rw[hms];exact cH
 have hkk:bg [ms] k=bg [es] k:=by rw[hms];exact qe
 have hwm:Wf [.s 1 []] ms:=by rw[hms];exact dQ hw
 have hwf:Wf [.s 1 []] es:=hw.wf;have hat:∀ n,n<es.length->ms.getD n []=(hJ (es.getD n []) (fY es k n)).1:=fun n hn=>by rw[hms];exact lx hn
 refine cb Ih Tryz.func67 ?_
 intro O r F hO hr hF;cbv
 refine⟨[0,1,5],[],Int×Int,fun s=>match s with|(i,k')=>[.reg 5 (.j i),.reg 1 (.j k')],fun s=>0<=s.1/\s.1.toNat<=es.length/\s.2=fY es k s.1.toNat,fun s=>es.length-s.1.toNat,⟨(0,k),?_,?_⟩,?_⟩;exact⟨by omega,Zh _,bS.symm⟩
 ·cbv
 ·rintro⟨i,k'⟩ hi;replace hi:0<=i/\i.toNat<=es.length/\k'=fY es k i.toNat:=hi;obtain⟨g0,g1,hk'⟩:=hi;cbv
  repeat' first|apply Zb|(apply bG<;>intro hb<;>cbv)|(refine ag (O.ar .add Za i 1,F.kN [O.gs ms i 0] (k')) ?_ ?_ ?_;focus (cbv;done))
  all_goals(subst hO hr hF;(try simp only[nc]at*);(try simp only[ai,SS,sa,az]at*);(try have hltm:i<ms.length:=by assumption);(try have hlt:i<es.length:=by omega);(try have he:es.getD i.toNat []=[.s 1 (ax es i 0)]:=(au hwf g0 hlt).symm);(try rw[fa (n:=es.length) g0 hlt (by omega)]);(try have hlt':i.toNat<es.length:=by omega);(try have hr0:Rw [.sl [tI]] (ax es i 0):=Rw.sub (fs:=[.sl [.sl [tI]]]) hw (by omega) rfl);(try have hct:=dx (es:=es) (n:=i.toNat) (by omega);rw[he]at hct;simp only[dC,gS,Zi,Zv]at hct);(try have hks:=dU (es:=es) (k:=k) hlt';rw[he]at hks;simp only[hJ,iI]at hks);(try have hem:([.s 1 (ax ms i 0)]:ay)=_:=(au hwm g0 hltm).trans (hat i.toNat hlt');rw[he]at hem;simp only[hJ,iI,Yg,L.v.injEq,Yp,Yq,L.s.injEq,true_and,and_true]at hem))
  all_goals exact zq5
abbrev Da:cZ:=eK (fun F f=>match f with|211=>fI F|219=>fJ F|249=>fF F|_=>fun _=>none) (by
 intro f;dsimp only;split;exact zq;exact zA;exact zd;exact db)
abbrev Ik:cZ:={
 Φ:=qp
 F0:=F0
 ct:=fun F f=>match f with|256=>ez F|_=>fun _=>none
 hc:=(by
  intro f;dsimp only;split;exact vh;exact db)
 mt:=fun F f=>match f with|253=>some (eA F)|_=>none
 hm:=(by
  intro f mk h;dsimp only at h;split at h<;>cases h
  exact vl)}
def kZ:EC:=fun F=>fun
 |[.one (.s 1 es),.one (.v (.int Za left))]=>some (fun _=>Rw [.sl [tI,tI]] es/\0<=left/\left<=1048576,[.j (F.szN [es] left)])
 |_=>none
theorem xJ:ec 96 kZ:=by
 intro _ _ _ h hp;dsimp only[kZ,F0]at h;split at h<;>cases h
 rename_i es left;obtain⟨hw,h0,h1⟩:=hp;have hwf:Wf [.s 2 []] es:=hw.wf;have hm:=hw.1;unfold maxLen at hm;have hs:bO .sub Za left es.length=left-es.length:=di (by omega);have hcE:am es=es.length+bN es:=rfl;have hn:dT [es] left=if left<am es then-1 else left-am es:=by unfold dT;rw[eM]
 refine cb Da Tryz.func96 ?_
 intro O r F hO hr hF;cbv
 apply bG<;>intro hb<;>cbv
 ·repeat' first|apply Zb|(apply bG<;>intro hb<;>cbv)
  all_goals exact abr
 have hb0:0<=left-es.length:=by
  (subst hO hr hF;(try simp only[nc]at*);(try simp only[ai,SS,sa,az]at*))
  rw[hs]at hb;exact hb
 clear hb;refine⟨[0,1,5],[],Int×Int,fun s=>match s with|(i,l)=>[.reg 5 (.j i),.reg 1 (.j l)],fun s=>0<=s.1/\s.1.toNat<=es.length/\0<=s.2/\s.2=left-es.length-bN (es.take s.1.toNat),fun s=>es.length-s.1.toNat,⟨(0,O.ar .sub Za left (O.zi (O.ln es))),?_,?_⟩,?_⟩
 ·(subst hO hr hF;(try simp only[nc]at*);(try simp only[ai,SS,sa,az]at*))
  rw[hs];exact⟨by omega,Zh _,hb0,by simp[bN]⟩
 ·cbv
 ·rintro⟨i,l⟩ hi;replace hi:0<=i/\i.toNat<=es.length/\0<=l/\l=left-es.length-bN (es.take i.toNat):=hi;obtain⟨g0,g1,g2,g3⟩:=hi;cbv
  repeat' first|apply Zb|(apply bG<;>intro hb<;>cbv)|(refine ag (O.ar .add Za i 1,F.szN [O.gs es i 0] l) ?_ ?_ ?_;focus (cbv;done))
  all_goals(subst hO hr hF;(try simp only[nc]at*);(try simp only[ai,SS,sa,az]at*))
  all_goals have hle:=bR (es:=es) (n:=i.toNat)
  all_goals have hsz:=pG (a:=[ax es i 0]) (left:=l)
  all_goals((have hsz2:0<=dT [ax es i 0] l->dT [ax es i 0] l=l-aR [ax es i 0]:=uB);(try have hlt:i<es.length:=by assumption);(try have he:es.getD i.toNat []=[.s 2 (ax es i 0)]:=(au hwf g0 hlt).symm);(try rw[fa (n:=es.length) g0 hlt (by omega)]);(try have hr0:Rw [tI,tI] (ax es i 0):=Rw.sub (fs:=[.sl [tI,tI]]) hw (by omega) rfl))
  all_goals exact abo
def lh:EC:=fun F=>fun
 |[.one (.s 1 es)]=>some (fun _=>Rw [.sl [tI,tI]] es/\am es<=1048576,[.one (.s 1 es)])
 |_=>none
theorem xR:ec 114 lh:=by
 intro _ _ _ h hp;dsimp only[lh,F0]at h;split at h<;>cases h
 rename_i es;obtain⟨hw,hlim⟩:=hp;have hwf:Wf [.s 2 []] es:=hw.wf;have hlen:=eB hlim;refine cb Da Tryz.func114 ?_
 intro O r F hO hr hF;cbv
 have h0z:cG es [.s 2 []] 0=O.rep (O.zi (O.ln es)) [.s 2 []]:=by
  subst hO;rw[dS];rfl
 refine⟨?_,?_,[0,3,4],[3],Int×af,fun s=>[.reg 4 (.j s.1),.leaf 3 0 ⟨0,0,none,.own (.s 1 s.2)⟩],fun s=>0<=s.1/\s.1.toNat<=es.length/\s.2=cG es [.s 2 []] s.1.toNat,fun s=>es.length-s.1.toNat,⟨(0,O.rep (O.zi (O.ln es)) [.s 2 []]),?_,?_⟩,?_⟩
 ·subst hO;exact qg (b:=24) (show es.length*_<=_ by omega) (show es.length<=_ by omega)
 ·subst hO;exact⟨rfl,rfl⟩
 ·exact⟨by omega,Zh _,h0z.symm⟩
 ·cbv
 ·rintro⟨i,m⟩ hi;replace hi:0<=i/\i.toNat<=es.length/\m=cG es [.s 2 []] i.toNat:=hi;obtain⟨g0,g1,hm⟩:=hi;cbv
  repeat' first|apply Zb|(apply bG<;>intro hb<;>cbv)|(refine ag (O.ar .add Za i 1,O.up (.s 1 m) [(O.ad 0 i,0)] [.s 2 (O.gs es i 0)]) ?_ ?_ ?_;focus (cbv;done))
  all_goals(subst hO hr hF;(try simp only[nc]at*);(try simp only[ai,SS,sa,az]at*);(try simp only[pz,Yi,Zx]at*);(try have hlt:i<es.length:=by assumption);(try have he:es.getD i.toNat []=[.s 2 (ax es i 0)]:=(au hwf g0 hlt).symm);(try rw[fa (n:=es.length) g0 hlt (by omega)]);(try have hr0:Rw [tI,tI] (ax es i 0):=Rw.sub (fs:=[.sl [tI,tI]]) hw (by omega) rfl))
  all_goals exact abn
def kJ:EC:=fun F=>fun
 |[.one (.s 1 es),d]=>some (fun _=>d=.one (.s 1 es)/\Rw [.sl [tI,tI]] es/\am es<=1099511627776,[.k true])
 |_=>none
theorem xm:ec 148 kJ:=by
 intro _ _ _ h hp;dsimp only[kJ,F0]at h;split at h<;>cases h
 rename_i es d;obtain⟨rfl,hw,hlim⟩:=hp;have hwf:Wf [.s 2 []] es:=hw.wf;have hlen:=eB hlim;refine cb Da Tryz.func148 ?_
 intro O r F hO hr hF;cbv
 apply bG<;>intro hb<;>cbv
 ·(subst hO hr hF;(try simp only[nc]at*);(try simp only[ai,SS,sa,az]at*));exact absurd rfl hb
 ·clear hb;refine⟨[0,1,5],[],Int,fun i=>[.reg 5 (.j i)],fun i=>0<=i/\i.toNat<=es.length,fun i=>es.length-i.toNat,⟨0,?_,?_⟩,?_⟩;exact⟨by omega,Zh _⟩
  ·cbv
  ·rintro i hi;replace hi:0<=i/\i.toNat<=es.length:=hi;obtain⟨g0,g1⟩:=hi;cbv
   repeat' first|apply Zb|(apply bG<;>intro hb<;>cbv)|(refine ag (O.ar .add Za i 1) ?_ ?_ ?_;focus (cbv;done))
   all_goals(subst hO hr hF;(try simp only[nc]at*);(try simp only[ai,SS,sa,az]at*);(try have hlt:i<es.length:=by assumption);(try have he:es.getD i.toNat []=[.s 2 (ax es i 0)]:=(au hwf g0 hlt).symm);(try rw[fa (n:=es.length) g0 hlt (by omega)]);(try have hr0:Rw [tI,tI] (ax es i 0):=Rw.sub (fs:=[.sl [tI,tI]]) hw (by omega) rfl))
   all_goals exact abp
def jh:EM:=fun F=>fun
 |[.one (.s 1 es),.one (.v (.int Za k))]=>some (fun _=>Rw [.sl [tI,tI]] es/\am es<=1099511627776/\0<=k/\bg [es] k<=1152921504606846976,[.s 1 (F.mkN es k)],[.j (F.kN [es] k)])
 |_=>none
theorem tO:em 155 jh:=by
 intro _ _ _ _ h hp;dsimp only[jh,F0]at h;split at h<;>cases h
 rename_i es k;obtain⟨hw,hlim,hk0,hkb⟩:=hp;have hwf:Wf [.s 2 []] es:=hw.wf;have hlen:=eB hlim;refine mb Ik [(0,0)] Tryz.func155 ?_
 intro O r os F hO hr hos hF;cbv
 refine⟨[0,1,5],[0],Int×Int×af,fun s=>match s with|(i,k',cur)=>[.reg 5 (.j i),.reg 1 (.j k'),.leaf 0 0 ⟨0,0,some 0,.own (.s 1 cur)⟩],fun s=>0<=s.1/\s.1.toNat<=es.length/\s.2.1=fY es k s.1.toNat/\s.2.2=gK es k s.1.toNat,fun s=>es.length-s.1.toNat,⟨(0,k,es),?_,?_⟩,?_⟩;exact⟨by omega,Zh _,bS.symm,eW.symm⟩
 ·cbv
 ·rintro⟨i,k',cur⟩ hi;replace hi:0<=i/\i.toNat<=es.length/\k'=fY es k i.toNat/\cur=gK es k i.toNat:=hi;obtain⟨g0,g1,hk',hc⟩:=hi;cbv
  repeat' first|apply Zb|(apply bG<;>intro hb<;>cbv)|(refine ag (O.ar .add Za i 1,F.kN [O.ps (.s 1 (cur)) [(O.ad 0 i,0)]] (k'),O.up (.s 1 (cur)) [(O.ad 0 i,0)] [.s 2 (F.mkN (O.ps (.s 1 (cur)) [(O.ad 0 i,0)]) (k'))]) ?_ ?_ ?_;focus (cbv;done))
  all_goals((try subst hos);subst hO hr hF;(try simp only[nc]at*);(try simp only[ai,SS,sa,az]at*);(try have hlt:i<es.length:=by assumption);(try have he:es.getD i.toNat []=[.s 2 (ax es i 0)]:=(au hwf g0 hlt).symm);(try have hcg:cur.getD i.toNat []=[.s 2 (ax es i 0)]:=by rw[hc,eV g1];exact he);(try rw[fa (n:=es.length) g0 hlt (by omega)]);(try have hlt':i.toNat<es.length:=by omega);(try have hr0:Rw [tI,tI] (ax es i 0):=Rw.sub (fs:=[.sl [tI,tI]]) hw (by omega) rfl))
  all_goals exact zq3
def jc:EC:=fun F=>fun
 |[.one (.s 1 ms),.one (.v (.int Za k))]=>some (fun _=>∃ es,ms=dW es k/\Rw [.sl [tI,tI]] es/\am es<=1099511627776/\0<=k/\bg [ms] k<=1152921504606846976,[.j (F.kN [ms] k)])
 |_=>none
theorem tF:ec 161 jc:=by
 intro _ _ _ h hp;dsimp only[jc,F0]at h;split at h<;>cases h
 rename_i ms k;obtain⟨es,hms,hw,hlim,hk0,hkb⟩:=hp;have hlen:=eB hlim;have hml:ms.length=es.length:=by rw[hms];exact cH
 have hkk:bg [ms] k=bg [es] k:=by rw[hms];exact qe
 have hwm:Wf [.s 2 []] ms:=by rw[hms];exact dQ hw
 have hwf:Wf [.s 2 []] es:=hw.wf;have hat:∀ n,n<es.length->ms.getD n []=(hJ (es.getD n []) (fY es k n)).1:=fun n hn=>by rw[hms];exact lx hn
 refine cb Ik Tryz.func161 ?_
 intro O r F hO hr hF;cbv
 refine⟨[0,1,5],[],Int×Int,fun s=>match s with|(i,k')=>[.reg 5 (.j i),.reg 1 (.j k')],fun s=>0<=s.1/\s.1.toNat<=es.length/\s.2=fY es k s.1.toNat,fun s=>es.length-s.1.toNat,⟨(0,k),?_,?_⟩,?_⟩;exact⟨by omega,Zh _,bS.symm⟩
 ·cbv
 ·rintro⟨i,k'⟩ hi;replace hi:0<=i/\i.toNat<=es.length/\k'=fY es k i.toNat:=hi;obtain⟨g0,g1,hk'⟩:=hi;cbv
  repeat' first|apply Zb|(apply bG<;>intro hb<;>cbv)|(refine ag (O.ar .add Za i 1,F.kN [O.gs ms i 0] (k')) ?_ ?_ ?_;focus (cbv;done))
  all_goals(subst hO hr hF;(try simp only[nc]at*);(try simp only[ai,SS,sa,az]at*);(try have hltm:i<ms.length:=by assumption);(try have hlt:i<es.length:=by omega);(try have he:es.getD i.toNat []=[.s 2 (ax es i 0)]:=(au hwf g0 hlt).symm);(try rw[fa (n:=es.length) g0 hlt (by omega)]);(try have hlt':i.toNat<es.length:=by omega);(try have hr0:Rw [tI,tI] (ax es i 0):=Rw.sub (fs:=[.sl [tI,tI]]) hw (by omega) rfl);(try have hct:=dx (es:=es) (n:=i.toNat) (by omega);rw[he]at hct;simp only[dC,gS,Zi,Zv]at hct);(try have hks:=dU (es:=es) (k:=k) hlt';rw[he]at hks;simp only[hJ,iI]at hks);(try have hem:([.s 2 (ax ms i 0)]:ay)=_:=(au hwm g0 hltm).trans (hat i.toNat hlt');rw[he]at hem;simp only[hJ,iI,Yg,L.v.injEq,Yp,Yq,L.s.injEq,true_and,and_true]at hem))
  all_goals exact zq5
abbrev Kz:cZ:=eK (fun F f=>match f with|96=>kZ F|114=>lh F|148=>kJ F|97=>gE F|115=>gF F|149=>gD F|_=>fun _=>none) (by
 intro f;dsimp only;split;exact xJ;exact xR;exact xm;exact lP;exact lQ;exact lO;exact db)
abbrev Qn:cZ:={
 Φ:=qp
 F0:=F0
 ct:=fun F f=>match f with|161=>jc F|160=>fG F|_=>fun _=>none
 hc:=(by
  intro f;dsimp only;split;exact tF;exact jF;exact db)
 mt:=fun F f=>match f with|155=>some (jh F)|154=>some (fH F)|_=>none
 hm:=(by
  intro f mk h;dsimp only at h;split at h<;>cases h
  exact tO;exact jG)}
def nQ:EC:=fun F=>fun
 |[.agg [.s 1 a0,.s 1 a1],.one (.v (.int Za left))]=>some (fun _=>Rw [.sl [tI,tI]] a0/\Rw [.sl [tI]] a1/\0<=left/\left<=1048576,[.j (F.szN [a0,a1] left)])
 |_=>none
theorem BE:ec 23 nQ:=by
 intro _ _ _ h hp;dsimp only[nQ,F0]at h;split at h<;>cases h
 rename_i a0 a1 left;obtain⟨w0,w1,h0,h1⟩:=hp;refine cb Kz Tryz.func23 ?_
 intro O r F hO hr hF;cbv
 repeat' first|apply Zb|(apply bG<;>intro hb<;>cbv)
 all_goals(subst hO hr hF;(try simp only[nc]at*);(try simp only[ai,SS,sa,az]at*))
 all_goals iterate 1 (try simp(disch:=assumption) only[nu,List.cons_append,List.nil_append]at*)
 all_goals exact afR
def nV:EC:=fun F=>fun
 |[.agg [.s 1 a0,.s 1 a1]]=>some (fun _=>Rw [.sl [tI,tI]] a0/\Rw [.sl [tI]] a1/\aR [a0,a1]<=1048576,[.agg [.s 1 a0,.s 1 a1]])
 |_=>none
theorem BJ:ec 36 nV:=by
 intro _ _ _ h hp;dsimp only[nV,F0]at h;split at h<;>cases h
 rename_i a0 a1;obtain⟨w0,w1,hlim⟩:=hp;simp only[aR,Zi]at hlim;refine cb Kz Tryz.func36 ?_
 exact afP
def nL:EC:=fun F=>fun
 |[.agg [.s 1 a0,.s 1 a1],d]=>some (fun _=>d=.agg [.s 1 a0,.s 1 a1]/\Rw [.sl [tI,tI]] a0/\Rw [.sl [tI]] a1/\aR [a0,a1]<=1099511627776,[.k true])
 |_=>none
theorem Bw:ec 50 nL:=by
 intro _ _ _ h hp;dsimp only[nL,F0]at h;split at h<;>cases h
 rename_i a0 a1 d;obtain⟨rfl,w0,w1,hlim⟩:=hp;simp only[aR,Zi]at hlim;refine cb Kz Tryz.func50 ?_
 exact afO
def kR:EM:=fun F=>fun
 |[.agg [.s 1 a0,.s 1 a1],.one (.v (.int Za k))]=>some (fun _=>Rw [.sl [tI,tI]] a0/\Rw [.sl [tI]] a1/\aR [a0,a1]<=1099511627776/\0<=k/\bg [a0,a1] k<=1152921504606846976,[.s 1 (F.mkN a0 k),.s 1 (F.mkN a1 (F.kN [a0] k))],[.j (F.kN [a0,a1] k)])
 |_=>none
theorem xA:em 59 kR:=by
 intro _ _ _ _ h hp;dsimp only[kR,F0]at h;split at h<;>cases h
 rename_i a0 a1 k;obtain⟨w0,w1,hlim,hk0,hkb⟩:=hp;simp only[aR,Zi]at hlim;have p0:bg [a0] k<=bg [a0,a1] k/\0<=bg [a0] k:=bI (b:=[a1]) hk0;have p1:bg [a0,a1] k<=bg [a0,a1] k/\0<=bg [a0,a1] k:=bI (b:=[]) hk0;refine mb Qn [(2,0),(2,1)] Tryz.func59 ?_
 exact Qb
def kL:EC:=fun F=>fun
 |[.agg [.s 1 m0,.s 1 m1],.one (.v (.int Za k))]=>some (fun _=>(∃ a0,m0=dW a0 k/\Rw [.sl [tI,tI]] a0/\am a0<=1099511627776)/\(∃ a1,m1=dW a1 (bg [m0] k)/\Rw [.sl [tI]] a1/\am a1<=1099511627776)/\0<=k/\bg [m0,m1] k<=1152921504606846976,[.j (F.kN [m0,m1] k)])
 |_=>none
theorem xu:ec 68 kL:=by
 intro _ _ _ h hp;dsimp only[kL,F0]at h;split at h<;>cases h
 rename_i m0 m1 k;obtain⟨e0,e1,hk0,hkb⟩:=hp;have p0:bg [m0] k<=bg [m0,m1] k/\0<=bg [m0] k:=bI (b:=[m1]) hk0;have p1:bg [m0,m1] k<=bg [m0,m1] k/\0<=bg [m0,m1] k:=bI (b:=[]) hk0;refine cb Qn Tryz.func68 ?_
 exact afx
abbrev KC:cZ:=eK (fun F f=>match f with|98=>cT F|116=>cU F|150=>cS F|_=>fun _=>none) (by
 intro f;dsimp only;split;exact xL;exact xT;exact xp;exact db)
abbrev Qp:cZ:={
 Φ:=qp
 F0:=F0
 ct:=fun F f=>match f with|162=>cB F|_=>fun _=>none
 hc:=(by
  intro f;dsimp only;split;exact tH;exact db)
 mt:=fun F f=>match f with|156=>some (cC F)|_=>none
 hm:=(by
  intro f mk h;dsimp only at h;split at h<;>cases h
  exact tQ)}
def nT:EC:=fun F=>fun
 |[.agg [.v (.int Za a0),.s 3 a1],.one (.v (.int Za left))]=>some (fun _=>Rw [tI,tI,tI] a1/\0<=left/\left<=1048576,[.j (F.szN [a1] left)])
 |_=>none
theorem BH:ec 24 nT:=by
 intro _ _ _ h hp;dsimp only[nT,F0]at h;split at h<;>cases h
 rename_i a0 a1 left;obtain⟨w0,h0,h1⟩:=hp;refine cb KC Tryz.func24 ?_
 exact afI
def nY:EC:=fun F=>fun
 |[.agg [.v (.int Za a0),.s 3 a1]]=>some (fun _=>Rw [tI,tI,tI] a1/\aR [a1]<=1048576,[.agg [.i a0,.s 3 a1]])
 |_=>none
theorem BN:ec 37 nY:=by
 intro _ _ _ h hp;dsimp only[nY,F0]at h;split at h<;>cases h
 rename_i a0 a1;obtain⟨w0,hlim⟩:=hp;simp only[aR,Zi]at hlim;refine cb KC Tryz.func37 ?_
 exact yl
def nO:EC:=fun F=>fun
 |[.agg [.v (.int Za a0),.s 3 a1],d]=>some (fun _=>d=.agg [.i a0,.s 3 a1]/\Rw [tI,tI,tI] a1/\aR [a1]<=1099511627776,[.k true])
 |_=>none
theorem BB:ec 51 nO:=by
 intro _ _ _ h hp;dsimp only[nO,F0]at h;split at h<;>cases h
 rename_i a0 a1 d;obtain⟨rfl,w0,hlim⟩:=hp;simp only[aR,Zi]at hlim;refine cb KC Tryz.func51 ?_
 exact yl
def kU:EM:=fun F=>fun
 |[.agg [.v (.int Za a0),.s 3 a1],.one (.v (.int Za k))]=>some (fun _=>Rw [tI,tI,tI] a1/\aR [a1]<=1099511627776/\0<=k/\bg [a1] k<=1152921504606846976,[.s 3 (F.mkN a1 k)],[.j (F.kN [a1] k)])
 |_=>none
theorem xD:em 60 kU:=by
 intro _ _ _ _ h hp;dsimp only[kU,F0]at h;split at h<;>cases h
 rename_i a0 a1 k;obtain⟨w0,hlim,hk0,hkb⟩:=hp;simp only[aR,Zi]at hlim;have p0:bg [a1] k<=bg [a1] k/\0<=bg [a1] k:=bI (b:=[]) hk0;refine mb Qp [(2,1)] Tryz.func60 ?_
 exact Qe
def kP:EC:=fun F=>fun
 |[.agg [.v (.int Za m0),.s 3 m1],.one (.v (.int Za k))]=>some (fun _=>(∃ a1,m1=dW a1 k/\Rw [tI,tI,tI] a1/\am a1<=1099511627776)/\0<=k/\bg [m1] k<=1152921504606846976,[.j (F.kN [m1] k)])
 |_=>none
theorem xy:ec 69 kP:=by
 intro _ _ _ h hp;dsimp only[kP,F0]at h;split at h<;>cases h
 rename_i m0 m1 k;obtain⟨e0,hk0,hkb⟩:=hp;have p0:bg [m1] k<=bg [m1] k/\0<=bg [m1] k:=bI (b:=[]) hk0;refine cb Qp Tryz.func69 ?_
 exact Qc
abbrev KB:cZ:=eK (fun F f=>match f with|94=>im F|108=>io F|142=>ij F|_=>fun _=>none) (by
 intro f;dsimp only;split;exact nE;exact nF;exact nD;exact db)
abbrev Qo:cZ:={
 Φ:=qp
 F0:=F0
 ct:=fun F f=>match f with|159=>fW F|_=>fun _=>none
 hc:=(by
  intro f;dsimp only;split;exact kw;exact db)
 mt:=fun F f=>match f with|153=>some (fX F)|_=>none
 hm:=(by
  intro f mk h;dsimp only at h;split at h<;>cases h
  exact kx)}
def nS:EC:=fun F=>fun
 |[.agg [.v (.int Za a0),.v (.int Za a1),.s 1 a2],.one (.v (.int Za left))]=>some (fun _=>Rw [tI] a2/\0<=left/\left<=1048576,[.j (F.szN [a2] left)])
 |_=>none
theorem BG:ec 99 nS:=by
 intro _ _ _ h hp;dsimp only[nS,F0]at h;split at h<;>cases h
 rename_i a0 a1 a2 left;obtain⟨w0,h0,h1⟩:=hp;refine cb KB Tryz.func99 ?_
 exact afJ
def nX:EC:=fun F=>fun
 |[.agg [.v (.int Za a0),.v (.int Za a1),.s 1 a2]]=>some (fun _=>Rw [tI] a2/\aR [a2]<=1048576,[.agg [.i a0,.i a1,.s 1 a2]])
 |_=>none
theorem BL:ec 117 nX:=by
 intro _ _ _ h hp;dsimp only[nX,F0]at h;split at h<;>cases h
 rename_i a0 a1 a2;obtain⟨w0,hlim⟩:=hp;simp only[aR,Zi]at hlim;refine cb KB Tryz.func117 ?_
 exact yl
def nN:EC:=fun F=>fun
 |[.agg [.v (.int Za a0),.v (.int Za a1),.s 1 a2],d]=>some (fun _=>d=.agg [.i a0,.i a1,.s 1 a2]/\Rw [tI] a2/\aR [a2]<=1099511627776,[.k true])
 |_=>none
theorem Bz:ec 151 nN:=by
 intro _ _ _ h hp;dsimp only[nN,F0]at h;split at h<;>cases h
 rename_i a0 a1 a2 d;obtain⟨rfl,w0,hlim⟩:=hp;simp only[aR,Zi]at hlim;refine cb KB Tryz.func151 ?_
 exact yl
def kT:EM:=fun F=>fun
 |[.agg [.v (.int Za a0),.v (.int Za a1),.s 1 a2],.one (.v (.int Za k))]=>some (fun _=>Rw [tI] a2/\aR [a2]<=1099511627776/\0<=k/\bg [a2] k<=1152921504606846976,[.s 1 (F.mkN a2 k)],[.j (F.kN [a2] k)])
 |_=>none
theorem xC:em 157 kT:=by
 intro _ _ _ _ h hp;dsimp only[kT,F0]at h;split at h<;>cases h
 rename_i a0 a1 a2 k;obtain⟨w0,hlim,hk0,hkb⟩:=hp;simp only[aR,Zi]at hlim;have p0:bg [a2] k<=bg [a2] k/\0<=bg [a2] k:=bI (b:=[]) hk0;refine mb Qo [(2,2)] Tryz.func157 ?_
 exact Qe
def kO:EC:=fun F=>fun
 |[.agg [.v (.int Za m0),.v (.int Za m1),.s 1 m2],.one (.v (.int Za k))]=>some (fun _=>(∃ a2,m2=dW a2 k/\Rw [tI] a2/\am a2<=1099511627776)/\0<=k/\bg [m2] k<=1152921504606846976,[.j (F.kN [m2] k)])
 |_=>none
theorem xx:ec 163 kO:=by
 intro _ _ _ h hp;dsimp only[kO,F0]at h;split at h<;>cases h
 rename_i m0 m1 m2 k;obtain⟨e0,hk0,hkb⟩:=hp;have p0:bg [m2] k<=bg [m2] k/\0<=bg [m2] k:=bI (b:=[]) hk0;refine cb Qo Tryz.func163 ?_
 exact Qc
abbrev Sw:cZ:=eK (fun F f=>match f with|99=>nS F|117=>nX F|151=>nN F|_=>fun _=>none) (by
 intro f;dsimp only;split;exact BG;exact BL;exact Bz;exact db)
abbrev abx:cZ:={
 Φ:=qp
 F0:=F0
 ct:=fun F f=>match f with|163=>kO F|_=>fun _=>none
 hc:=(by
  intro f;dsimp only;split;exact xx;exact db)
 mt:=fun F f=>match f with|157=>some (kT F)|_=>none
 hm:=(by
  intro f mk h;dsimp only at h;split at h<;>cases h
  exact xC)}
def pc:EC:=fun F=>fun
 |[.agg [.v (.int Za a0),.v (.int Za a1),.s 1 a2,.v (.int Za a3),.v (.int Za a4)],.one (.v (.int Za left))]=>some (fun _=>Rw [tI] a2/\0<=left/\left<=1048576,[.j (F.szN [a2] left)])
 |_=>none
theorem Dn:ec 25 pc:=by
 intro _ _ _ h hp;dsimp only[pc,F0]at h;split at h<;>cases h
 rename_i a0 a1 a2 a3 a4 left;obtain⟨w0,h0,h1⟩:=hp;refine cb Sw Tryz.func25 ?_
 exact afJ
def pd:EC:=fun F=>fun
 |[.agg [.v (.int Za a0),.v (.int Za a1),.s 1 a2,.v (.int Za a3),.v (.int Za a4)]]=>some (fun _=>Rw [tI] a2/\aR [a2]<=1048576,[.agg [.i a0,.i a1,.s 1 a2,.i a3,.i a4]])
 |_=>none
theorem Do:ec 38 pd:=by
 intro _ _ _ h hp;dsimp only[pd,F0]at h;split at h<;>cases h
 rename_i a0 a1 a2 a3 a4;obtain⟨w0,hlim⟩:=hp;simp only[aR,Zi]at hlim;refine cb Sw Tryz.func38 ?_
 exact yl
def o9:EC:=fun F=>fun
 |[.agg [.v (.int Za a0),.v (.int Za a1),.s 1 a2,.v (.int Za a3),.v (.int Za a4)],d]=>some (fun _=>d=.agg [.i a0,.i a1,.s 1 a2,.i a3,.i a4]/\Rw [tI] a2/\aR [a2]<=1099511627776,[.k true])
 |_=>none
theorem Dl:ec 52 o9:=by
 intro _ _ _ h hp;dsimp only[o9,F0]at h;split at h<;>cases h
 rename_i a0 a1 a2 a3 a4 d;obtain⟨rfl,w0,hlim⟩:=hp;simp only[aR,Zi]at hlim;refine cb Sw Tryz.func52 ?_
 exact yl
def mj:EM:=fun F=>fun
 |[.agg [.v (.int Za a0),.v (.int Za a1),.s 1 a2,.v (.int Za a3),.v (.int Za a4)],.one (.v (.int Za k))]=>some (fun _=>Rw [tI] a2/\aR [a2]<=1099511627776/\0<=k/\bg [a2] k<=1152921504606846976,[.s 1 (F.mkN a2 k)],[.j (F.kN [a2] k)])
 |_=>none
theorem zm:em 61 mj:=by
 intro _ _ _ _ h hp;dsimp only[mj,F0]at h;split at h<;>cases h
 rename_i a0 a1 a2 a3 a4 k;obtain⟨w0,hlim,hk0,hkb⟩:=hp;simp only[aR,Zi]at hlim;have p0:bg [a2] k<=bg [a2] k/\0<=bg [a2] k:=bI (b:=[]) hk0;refine mb abx [(2,2)] Tryz.func61 ?_
 exact Qe
def mi:EC:=fun F=>fun
 |[.agg [.v (.int Za m0),.v (.int Za m1),.s 1 m2,.v (.int Za m3),.v (.int Za m4)],.one (.v (.int Za k))]=>some (fun _=>(∃ a2,m2=dW a2 k/\Rw [tI] a2/\am a2<=1099511627776)/\0<=k/\bg [m2] k<=1152921504606846976,[.j (F.kN [m2] k)])
 |_=>none
theorem zk:ec 70 mi:=by
 intro _ _ _ h hp;dsimp only[mi,F0]at h;split at h<;>cases h
 rename_i m0 m1 m2 m3 m4 k;obtain⟨e0,hk0,hkb⟩:=hp;have p0:bg [m2] k<=bg [m2] k/\0<=bg [m2] k:=bI (b:=[]) hk0;refine cb abx Tryz.func70 ?_
 exact Qc
end Go.V