/- Contracts. -/
import Derived.Test.YtbedjnlfdopeeaaGreatYLawHEu
set_option linter.all false
open Go
open And renaming intro->Zb
open Int renaming toNat_natCast->Zx
open IntKind renaming i64->Za
open List renaming length_replicate->Yi
open List.cons renaming injEq->Yg
open Nat renaming zero_le->Zh,add_zero->Zi,zero_add->Zv
open Value.bool renaming injEq->Yq
open Value.int renaming injEq->Yp
namespace Go.V
open Go Go.Proofs
set_option maxRecDepth 1000000
set_option maxHeartbeats 8000000
theorem zB:ec 109 gj:=by
 intro _ _ _ h hp;dsimp only[gj,F0]at h;split at h<;>cases h
 rename_i a0 a1;refine cb nB Tryz.func109 ?_
 exact yl
theorem ze:ec 143 gh:=by
 intro _ _ _ h hp;dsimp only[gh,F0]at h;split at h<;>cases h
 rename_i a0 a1 d;subst hp;refine cb nB Tryz.func143 ?_
 exact yl
abbrev Db:cZ:=eK (fun F f=>match f with|109=>gj F|143=>gh F|_=>fun _=>none) (by
 intro f;dsimp only;split;exact zB;exact ze;exact db)
theorem xK:ec 18 fI:=by
 intro _ _ _ h hp;dsimp only[fI,F0]at h;split at h<;>cases h
 rename_i es left;obtain⟨hw,h0,h1⟩:=hp;have hc:am es=es.length:=hw.cnt rfl;have hm:=hw.1;unfold maxLen at hm;have hs:bO .sub Za left es.length=left-es.length:=di (by omega);have hn:dT [es] left=if left<es.length then-1 else left-es.length:=by unfold dT;rw[eM,hc]
 refine cb Db Tryz.func18 ?_
 exact EY
theorem xS:ec 31 fJ:=by
 intro _ _ _ h hp;dsimp only[fJ,F0]at h;split at h<;>cases h
 rename_i es;obtain⟨hw,hlim⟩:=hp;have hwf:Wf [.i 0,.i 0] es:=hw.wf;have hlen:=eB hlim;refine cb Db Tryz.func31 ?_
 intro O r F hO hr hF;cbv
 have h0z:cG es [.i 0,.i 0] 0=O.rep (O.zi (O.ln es)) [.i 0,.i 0]:=by
  subst hO;rw[dS];rfl
 refine⟨?_,?_,[0,3,4],[3],Int×af,fun s=>[.reg 4 (.j s.1),.leaf 3 0 ⟨0,0,none,.own (.s 2 s.2)⟩],fun s=>0<=s.1/\s.1.toNat<=es.length/\s.2=cG es [.i 0,.i 0] s.1.toNat,fun s=>es.length-s.1.toNat,⟨(0,O.rep (O.zi (O.ln es)) [.i 0,.i 0]),?_,?_⟩,?_⟩
 ·subst hO;exact qg (b:=16) (show es.length*_<=_ by omega) (show es.length<=_ by omega)
 ·subst hO;exact⟨rfl,rfl⟩
 ·exact⟨by omega,Zh _,h0z.symm⟩
 ·cbv
 ·rintro⟨i,m⟩ hi;replace hi:0<=i/\i.toNat<=es.length/\m=cG es [.i 0,.i 0] i.toNat:=hi;obtain⟨g0,g1,hm⟩:=hi;cbv
  repeat' first|apply Zb|(apply bG<;>intro hb<;>cbv)|(refine ag (O.ar .add Za i 1,O.up (.s 2 m) [(O.ad 0 i,0)] [.i (O.gi es i 0),.i (O.gi es i 1)]) ?_ ?_ ?_;focus (cbv;done))
  all_goals(subst hO hr hF;(try simp only[nc]at*);(try simp only[ai,SS,sa,az]at*);(try simp only[pz,Yi,Zx]at*);(try have hlt:i<es.length:=by assumption);(try have he:es.getD i.toNat []=[.i (ah es i 0),.i (ah es i 1)]:=(au hwf g0 hlt).symm))
  all_goals exact Qd
theorem xo:ec 45 fF:=by
 intro _ _ _ h hp;dsimp only[fF,F0]at h;split at h<;>cases h
 rename_i es d;obtain⟨rfl,hw,hlim⟩:=hp;have hwf:Wf [.i 0,.i 0] es:=hw.wf;have hlen:=eB hlim;refine cb Db Tryz.func45 ?_
 intro O r F hO hr hF;cbv
 apply bG<;>intro hb<;>cbv
 ·(subst hO hr hF;(try simp only[nc]at*);(try simp only[ai,SS,sa,az]at*));exact absurd rfl hb
 ·clear hb;refine⟨[0,1,5],[],Int,fun i=>[.reg 5 (.j i)],fun i=>0<=i/\i.toNat<=es.length,fun i=>es.length-i.toNat,⟨0,?_,?_⟩,?_⟩;exact⟨by omega,Zh _⟩
  ·cbv
  ·rintro i hi;replace hi:0<=i/\i.toNat<=es.length:=hi;obtain⟨g0,g1⟩:=hi;cbv
   repeat' first|apply Zb|(apply bG<;>intro hb<;>cbv)|(refine ag (O.ar .add Za i 1) ?_ ?_ ?_;focus (cbv;done))
   all_goals(subst hO hr hF;(try simp only[nc]at*);(try simp only[ai,SS,sa,az]at*);(try have hlt:i<es.length:=by assumption);(try have he:es.getD i.toNat []=[.i (ah es i 0),.i (ah es i 1)]:=(au hwf g0 hlt).symm))
   all_goals exact Sf
theorem tP:em 54 eA:=by
 intro _ _ _ _ h hp;dsimp only[eA,F0]at h;split at h<;>cases h
 rename_i es k;obtain⟨hw,hlim,hk0,hkb⟩:=hp;have hwf:Wf [.i 0,.i 0] es:=hw.wf;have hlen:=eB hlim;refine mb nB [(0,0)] Tryz.func54 ?_
 intro O r os F hO hr hos hF;cbv
 refine⟨[0,1,5],[0],Int×Int×af,fun s=>match s with|(i,k',cur)=>[.reg 5 (.j i),.reg 1 (.j k'),.leaf 0 0 ⟨0,0,some 0,.own (.s 2 cur)⟩],fun s=>0<=s.1/\s.1.toNat<=es.length/\s.2.1=fY es k s.1.toNat/\s.2.2=gK es k s.1.toNat,fun s=>es.length-s.1.toNat,⟨(0,k,es),?_,?_⟩,?_⟩;exact⟨by omega,Zh _,bS.symm,eW.symm⟩
 ·cbv
 ·rintro⟨i,k',cur⟩ hi;replace hi:0<=i/\i.toNat<=es.length/\k'=fY es k i.toNat/\cur=gK es k i.toNat:=hi;obtain⟨g0,g1,hk',hc⟩:=hi;cbv
  repeat' first|apply Zb|(apply bG<;>intro hb<;>cbv)|(refine ag (O.ar .add Za i 1,O.ar .add Za (O.ar .add Za (k') 1) 1,O.up (.s 2 (O.up (.s 2 (cur)) [(O.ad 0 i,0)] [.i (k')])) [(O.ad 0 i,1)] [.i (O.ar .add Za (k') 1)]) ?_ ?_ ?_;focus (cbv;done))
  all_goals((try subst hos);subst hO hr hF;(try simp only[nc]at*);(try simp only[ai,SS,sa,az]at*);(try have hlt:i<es.length:=by assumption);(try have he:es.getD i.toNat []=[.i (ah es i 0),.i (ah es i 1)]:=(au hwf g0 hlt).symm);(try have hcg:cur.getD i.toNat []=[.i (ah es i 0),.i (ah es i 1)]:=by rw[hc,eV g1];exact he))
  all_goals exact Sd
theorem tG:ec 63 ez:=by
 intro _ _ _ h hp;dsimp only[ez,F0]at h;split at h<;>cases h
 rename_i ms k;obtain⟨es,hms,hw,hlim,hk0,hkb⟩:=hp;have hlen:=eB hlim;have hml:ms.length=es.length:=by rw[hms];exact cH
 have hkk:bg [ms] k=bg [es] k:=by rw[hms];exact qe
 have hwm:Wf [.i 0,.i 0] ms:=by rw[hms];exact dQ hw
 have hwf:Wf [.i 0,.i 0] es:=hw.wf;have hat:∀ n,n<es.length->ms.getD n []=(hJ (es.getD n []) (fY es k n)).1:=fun n hn=>by rw[hms];exact lx hn
 refine cb nB Tryz.func63 ?_
 intro O r F hO hr hF;cbv
 refine⟨[0,1,5],[],Int×Int,fun s=>match s with|(i,k')=>[.reg 5 (.j i),.reg 1 (.j k')],fun s=>0<=s.1/\s.1.toNat<=es.length/\s.2=fY es k s.1.toNat,fun s=>es.length-s.1.toNat,⟨(0,k),?_,?_⟩,?_⟩;exact⟨by omega,Zh _,bS.symm⟩
 ·cbv
 ·rintro⟨i,k'⟩ hi;replace hi:0<=i/\i.toNat<=es.length/\k'=fY es k i.toNat:=hi;obtain⟨g0,g1,hk'⟩:=hi;cbv
  repeat' first|apply Zb|(apply bG<;>intro hb<;>cbv)|(refine ag (O.ar .add Za i 1,O.ar .add Za (O.ar .add Za (k') 1) 1) ?_ ?_ ?_;focus (cbv;done))
  all_goals(subst hO hr hF;(try simp only[nc]at*);(try simp only[ai,SS,sa,az]at*);(try have hltm:i<ms.length:=by assumption);(try have hlt:i<es.length:=by omega);(try have he:es.getD i.toNat []=[.i (ah es i 0),.i (ah es i 1)]:=(au hwf g0 hlt).symm);(try rw[fa (n:=es.length) g0 hlt (by omega)]);(try have hlt':i.toNat<es.length:=by omega);(try have hct:=dx (es:=es) (n:=i.toNat) (by omega);rw[he]at hct;simp only[dC,gS,Zi,Zv]at hct);(try have hks:=dU (es:=es) (k:=k) hlt';rw[he]at hks;simp only[hJ,iI]at hks);(try have hem:([.i (ah ms i 0),.i (ah ms i 1)]:ay)=_:=(au hwm g0 hltm).trans (hat i.toNat hlt');rw[he]at hem;simp only[hJ,iI,Yg,L.v.injEq,Yp,Yq,L.s.injEq,true_and,and_true]at hem))
  all_goals exact Se
theorem BO:ec 110 de:=by
 intro _ _ _ h hp;dsimp only[de,F0]at h;split at h<;>cases h
 rename_i a0 a1 a2;refine cb nB Tryz.func110 ?_
 exact yl
theorem BC:ec 144 dd:=by
 intro _ _ _ h hp;dsimp only[dd,F0]at h;split at h<;>cases h
 rename_i a0 a1 a2 d;subst hp;refine cb nB Tryz.func144 ?_
 exact yl
abbrev GT:cZ:=eK (fun F f=>match f with|110=>de F|144=>dd F|_=>fun _=>none) (by
 intro f;dsimp only;split;exact BO;exact BC;exact db)
theorem zt:ec 19 cT:=by
 intro _ _ _ h hp;dsimp only[cT,F0]at h;split at h<;>cases h
 rename_i es left;obtain⟨hw,h0,h1⟩:=hp;have hc:am es=es.length:=hw.cnt rfl;have hm:=hw.1;unfold maxLen at hm;have hs:bO .sub Za left es.length=left-es.length:=di (by omega);have hn:dT [es] left=if left<es.length then-1 else left-es.length:=by unfold dT;rw[eM,hc]
 refine cb GT Tryz.func19 ?_
 exact EY
theorem zC:ec 32 cU:=by
 intro _ _ _ h hp;dsimp only[cU,F0]at h;split at h<;>cases h
 rename_i es;obtain⟨hw,hlim⟩:=hp;have hwf:Wf [.i 0,.i 0,.i 0] es:=hw.wf;have hlen:=eB hlim;refine cb GT Tryz.func32 ?_
 intro O r F hO hr hF;cbv
 have h0z:cG es [.i 0,.i 0,.i 0] 0=O.rep (O.zi (O.ln es)) [.i 0,.i 0,.i 0]:=by
  subst hO;rw[dS];rfl
 refine⟨?_,?_,[0,3,4],[3],Int×af,fun s=>[.reg 4 (.j s.1),.leaf 3 0 ⟨0,0,none,.own (.s 3 s.2)⟩],fun s=>0<=s.1/\s.1.toNat<=es.length/\s.2=cG es [.i 0,.i 0,.i 0] s.1.toNat,fun s=>es.length-s.1.toNat,⟨(0,O.rep (O.zi (O.ln es)) [.i 0,.i 0,.i 0]),?_,?_⟩,?_⟩
 ·subst hO;exact qg (b:=24) (show es.length*_<=_ by omega) (show es.length<=_ by omega)
 ·subst hO;exact⟨rfl,rfl⟩
 ·exact⟨by omega,Zh _,h0z.symm⟩
 ·cbv
 ·rintro⟨i,m⟩ hi;replace hi:0<=i/\i.toNat<=es.length/\m=cG es [.i 0,.i 0,.i 0] i.toNat:=hi;obtain⟨g0,g1,hm⟩:=hi;cbv
  repeat' first|apply Zb|(apply bG<;>intro hb<;>cbv)|(refine ag (O.ar .add Za i 1,O.up (.s 3 m) [(O.ad 0 i,0)] [.i (O.gi es i 0),.i (O.gi es i 1),.i (O.gi es i 2)]) ?_ ?_ ?_;focus (cbv;done))
  all_goals(subst hO hr hF;(try simp only[nc]at*);(try simp only[ai,SS,sa,az]at*);(try simp only[pz,Yi,Zx]at*);(try have hlt:i<es.length:=by assumption);(try have he:es.getD i.toNat []=[.i (ah es i 0),.i (ah es i 1),.i (ah es i 2)]:=(au hwf g0 hlt).symm))
  all_goals exact Qd
theorem zf:ec 46 cS:=by
 intro _ _ _ h hp;dsimp only[cS,F0]at h;split at h<;>cases h
 rename_i es d;obtain⟨rfl,hw,hlim⟩:=hp;have hwf:Wf [.i 0,.i 0,.i 0] es:=hw.wf;have hlen:=eB hlim;refine cb GT Tryz.func46 ?_
 intro O r F hO hr hF;cbv
 apply bG<;>intro hb<;>cbv
 ·(subst hO hr hF;(try simp only[nc]at*);(try simp only[ai,SS,sa,az]at*));exact absurd rfl hb
 ·clear hb;refine⟨[0,1,5],[],Int,fun i=>[.reg 5 (.j i)],fun i=>0<=i/\i.toNat<=es.length,fun i=>es.length-i.toNat,⟨0,?_,?_⟩,?_⟩;exact⟨by omega,Zh _⟩
  ·cbv
  ·rintro i hi;replace hi:0<=i/\i.toNat<=es.length:=hi;obtain⟨g0,g1⟩:=hi;cbv
   repeat' first|apply Zb|(apply bG<;>intro hb<;>cbv)|(refine ag (O.ar .add Za i 1) ?_ ?_ ?_;focus (cbv;done))
   all_goals(subst hO hr hF;(try simp only[nc]at*);(try simp only[ai,SS,sa,az]at*);(try have hlt:i<es.length:=by assumption);(try have he:es.getD i.toNat []=[.i (ah es i 0),.i (ah es i 1),.i (ah es i 2)]:=(au hwf g0 hlt).symm))
   all_goals exact Sf
theorem vm:em 55 cC:=by
 intro _ _ _ _ h hp;dsimp only[cC,F0]at h;split at h<;>cases h
 rename_i es k;obtain⟨hw,hlim,hk0,hkb⟩:=hp;have hwf:Wf [.i 0,.i 0,.i 0] es:=hw.wf;have hlen:=eB hlim;refine mb nB [(0,0)] Tryz.func55 ?_
 intro O r os F hO hr hos hF;cbv
 refine⟨[0,1,5],[0],Int×Int×af,fun s=>match s with|(i,k',cur)=>[.reg 5 (.j i),.reg 1 (.j k'),.leaf 0 0 ⟨0,0,some 0,.own (.s 3 cur)⟩],fun s=>0<=s.1/\s.1.toNat<=es.length/\s.2.1=fY es k s.1.toNat/\s.2.2=gK es k s.1.toNat,fun s=>es.length-s.1.toNat,⟨(0,k,es),?_,?_⟩,?_⟩;exact⟨by omega,Zh _,bS.symm,eW.symm⟩
 ·cbv
 ·rintro⟨i,k',cur⟩ hi;replace hi:0<=i/\i.toNat<=es.length/\k'=fY es k i.toNat/\cur=gK es k i.toNat:=hi;obtain⟨g0,g1,hk',hc⟩:=hi;cbv
  repeat' first|apply Zb|(apply bG<;>intro hb<;>cbv)|(refine ag (O.ar .add Za i 1,O.ar .add Za (O.ar .add Za (O.ar .add Za (k') 1) 1) 1,O.up (.s 3 (O.up (.s 3 (O.up (.s 3 (cur)) [(O.ad 0 i,0)] [.i (k')])) [(O.ad 0 i,1)] [.i (O.ar .add Za (k') 1)])) [(O.ad 0 i,2)] [.i (O.ar .add Za (O.ar .add Za (k') 1) 1)]) ?_ ?_ ?_;focus (cbv;done))
  all_goals((try subst hos);subst hO hr hF;(try simp only[nc]at*);(try simp only[ai,SS,sa,az]at*);(try have hlt:i<es.length:=by assumption);(try have he:es.getD i.toNat []=[.i (ah es i 0),.i (ah es i 1),.i (ah es i 2)]:=(au hwf g0 hlt).symm);(try have hcg:cur.getD i.toNat []=[.i (ah es i 0),.i (ah es i 1),.i (ah es i 2)]:=by rw[hc,eV g1];exact he))
  all_goals exact Sd
theorem vi:ec 64 cB:=by
 intro _ _ _ h hp;dsimp only[cB,F0]at h;split at h<;>cases h
 rename_i ms k;obtain⟨es,hms,hw,hlim,hk0,hkb⟩:=hp;have hlen:=eB hlim;have hml:ms.length=es.length:=by rw[hms];exact cH
 have hkk:bg [ms] k=bg [es] k:=by rw[hms];exact qe
 have hwm:Wf [.i 0,.i 0,.i 0] ms:=by rw[hms];exact dQ hw
 have hwf:Wf [.i 0,.i 0,.i 0] es:=hw.wf;have hat:∀ n,n<es.length->ms.getD n []=(hJ (es.getD n []) (fY es k n)).1:=fun n hn=>by rw[hms];exact lx hn
 refine cb nB Tryz.func64 ?_
 intro O r F hO hr hF;cbv
 refine⟨[0,1,5],[],Int×Int,fun s=>match s with|(i,k')=>[.reg 5 (.j i),.reg 1 (.j k')],fun s=>0<=s.1/\s.1.toNat<=es.length/\s.2=fY es k s.1.toNat,fun s=>es.length-s.1.toNat,⟨(0,k),?_,?_⟩,?_⟩;exact⟨by omega,Zh _,bS.symm⟩
 ·cbv
 ·rintro⟨i,k'⟩ hi;replace hi:0<=i/\i.toNat<=es.length/\k'=fY es k i.toNat:=hi;obtain⟨g0,g1,hk'⟩:=hi;cbv
  repeat' first|apply Zb|(apply bG<;>intro hb<;>cbv)|(refine ag (O.ar .add Za i 1,O.ar .add Za (O.ar .add Za (O.ar .add Za (k') 1) 1) 1) ?_ ?_ ?_;focus (cbv;done))
  all_goals(subst hO hr hF;(try simp only[nc]at*);(try simp only[ai,SS,sa,az]at*);(try have hltm:i<ms.length:=by assumption);(try have hlt:i<es.length:=by omega);(try have he:es.getD i.toNat []=[.i (ah es i 0),.i (ah es i 1),.i (ah es i 2)]:=(au hwf g0 hlt).symm);(try rw[fa (n:=es.length) g0 hlt (by omega)]);(try have hlt':i.toNat<es.length:=by omega);(try have hct:=dx (es:=es) (n:=i.toNat) (by omega);rw[he]at hct;simp only[dC,gS,Zi,Zv]at hct);(try have hks:=dU (es:=es) (k:=k) hlt';rw[he]at hks;simp only[hJ,iI]at hks);(try have hem:([.i (ah ms i 0),.i (ah ms i 1),.i (ah ms i 2)]:ay)=_:=(au hwm g0 hltm).trans (hat i.toNat hlt');rw[he]at hem;simp only[hJ,iI,Yg,L.v.injEq,Yp,Yq,L.s.injEq,true_and,and_true]at hem))
  all_goals exact Se
theorem zz:ec 111 de:=by
 intro _ _ _ h hp;dsimp only[de,F0]at h;split at h<;>cases h
 rename_i a0 a1 a2;refine cb nB Tryz.func111 ?_
 exact yl
theorem zb:ec 145 dd:=by
 intro _ _ _ h hp;dsimp only[dd,F0]at h;split at h<;>cases h
 rename_i a0 a1 a2 d;subst hp;refine cb nB Tryz.func145 ?_
 exact yl
abbrev C9:cZ:=eK (fun F f=>match f with|111=>de F|145=>dd F|_=>fun _=>none) (by
 intro f;dsimp only;split;exact zz;exact zb;exact db)
theorem xI:ec 20 cT:=by
 intro _ _ _ h hp;dsimp only[cT,F0]at h;split at h<;>cases h
 rename_i es left;obtain⟨hw,h0,h1⟩:=hp;have hc:am es=es.length:=hw.cnt rfl;have hm:=hw.1;unfold maxLen at hm;have hs:bO .sub Za left es.length=left-es.length:=di (by omega);have hn:dT [es] left=if left<es.length then-1 else left-es.length:=by unfold dT;rw[eM,hc]
 refine cb C9 Tryz.func20 ?_
 exact EY
theorem xQ:ec 33 cU:=by
 intro _ _ _ h hp;dsimp only[cU,F0]at h;split at h<;>cases h
 rename_i es;obtain⟨hw,hlim⟩:=hp;have hwf:Wf [.i 0,.i 0,.i 0] es:=hw.wf;have hlen:=eB hlim;refine cb C9 Tryz.func33 ?_
 intro O r F hO hr hF;cbv
 have h0z:cG es [.i 0,.i 0,.i 0] 0=O.rep (O.zi (O.ln es)) [.i 0,.i 0,.i 0]:=by
  subst hO;rw[dS];rfl
 refine⟨?_,?_,[0,3,4],[3],Int×af,fun s=>[.reg 4 (.j s.1),.leaf 3 0 ⟨0,0,none,.own (.s 3 s.2)⟩],fun s=>0<=s.1/\s.1.toNat<=es.length/\s.2=cG es [.i 0,.i 0,.i 0] s.1.toNat,fun s=>es.length-s.1.toNat,⟨(0,O.rep (O.zi (O.ln es)) [.i 0,.i 0,.i 0]),?_,?_⟩,?_⟩
 ·subst hO;exact qg (b:=24) (show es.length*_<=_ by omega) (show es.length<=_ by omega)
 ·subst hO;exact⟨rfl,rfl⟩
 ·exact⟨by omega,Zh _,h0z.symm⟩
 ·cbv
 ·rintro⟨i,m⟩ hi;replace hi:0<=i/\i.toNat<=es.length/\m=cG es [.i 0,.i 0,.i 0] i.toNat:=hi;obtain⟨g0,g1,hm⟩:=hi;cbv
  repeat' first|apply Zb|(apply bG<;>intro hb<;>cbv)|(refine ag (O.ar .add Za i 1,O.up (.s 3 m) [(O.ad 0 i,0)] [.i (O.gi es i 0),.i (O.gi es i 1),.i (O.gi es i 2)]) ?_ ?_ ?_;focus (cbv;done))
  all_goals(subst hO hr hF;(try simp only[nc]at*);(try simp only[ai,SS,sa,az]at*);(try simp only[pz,Yi,Zx]at*);(try have hlt:i<es.length:=by assumption);(try have he:es.getD i.toNat []=[.i (ah es i 0),.i (ah es i 1),.i (ah es i 2)]:=(au hwf g0 hlt).symm))
  all_goals exact Qd
theorem xk:ec 47 cS:=by
 intro _ _ _ h hp;dsimp only[cS,F0]at h;split at h<;>cases h
 rename_i es d;obtain⟨rfl,hw,hlim⟩:=hp;have hwf:Wf [.i 0,.i 0,.i 0] es:=hw.wf;have hlen:=eB hlim;refine cb C9 Tryz.func47 ?_
 intro O r F hO hr hF;cbv
 apply bG<;>intro hb<;>cbv
 ·(subst hO hr hF;(try simp only[nc]at*);(try simp only[ai,SS,sa,az]at*));exact absurd rfl hb
 ·clear hb;refine⟨[0,1,5],[],Int,fun i=>[.reg 5 (.j i)],fun i=>0<=i/\i.toNat<=es.length,fun i=>es.length-i.toNat,⟨0,?_,?_⟩,?_⟩;exact⟨by omega,Zh _⟩
  ·cbv
  ·rintro i hi;replace hi:0<=i/\i.toNat<=es.length:=hi;obtain⟨g0,g1⟩:=hi;cbv
   repeat' first|apply Zb|(apply bG<;>intro hb<;>cbv)|(refine ag (O.ar .add Za i 1) ?_ ?_ ?_;focus (cbv;done))
   all_goals(subst hO hr hF;(try simp only[nc]at*);(try simp only[ai,SS,sa,az]at*);(try have hlt:i<es.length:=by assumption);(try have he:es.getD i.toNat []=[.i (ah es i 0),.i (ah es i 1),.i (ah es i 2)]:=(au hwf g0 hlt).symm))
   all_goals exact Sf
theorem tN:em 56 cC:=by
 intro _ _ _ _ h hp;dsimp only[cC,F0]at h;split at h<;>cases h
 rename_i es k;obtain⟨hw,hlim,hk0,hkb⟩:=hp;have hwf:Wf [.i 0,.i 0,.i 0] es:=hw.wf;have hlen:=eB hlim;refine mb nB [(0,0)] Tryz.func56 ?_
 intro O r os F hO hr hos hF;cbv
 refine⟨[0,1,5],[0],Int×Int×af,fun s=>match s with|(i,k',cur)=>[.reg 5 (.j i),.reg 1 (.j k'),.leaf 0 0 ⟨0,0,some 0,.own (.s 3 cur)⟩],fun s=>0<=s.1/\s.1.toNat<=es.length/\s.2.1=fY es k s.1.toNat/\s.2.2=gK es k s.1.toNat,fun s=>es.length-s.1.toNat,⟨(0,k,es),?_,?_⟩,?_⟩;exact⟨by omega,Zh _,bS.symm,eW.symm⟩
 ·cbv
 ·rintro⟨i,k',cur⟩ hi;replace hi:0<=i/\i.toNat<=es.length/\k'=fY es k i.toNat/\cur=gK es k i.toNat:=hi;obtain⟨g0,g1,hk',hc⟩:=hi;cbv
  repeat' first|apply Zb|(apply bG<;>intro hb<;>cbv)|(refine ag (O.ar .add Za i 1,O.ar .add Za (O.ar .add Za (O.ar .add Za (k') 1) 1) 1,O.up (.s 3 (O.up (.s 3 (O.up (.s 3 (cur)) [(O.ad 0 i,0)] [.i (k')])) [(O.ad 0 i,1)] [.i (O.ar .add Za (k') 1)])) [(O.ad 0 i,2)] [.i (O.ar .add Za (O.ar .add Za (k') 1) 1)]) ?_ ?_ ?_;focus (cbv;done))
  all_goals((try subst hos);subst hO hr hF;(try simp only[nc]at*);(try simp only[ai,SS,sa,az]at*);(try have hlt:i<es.length:=by assumption);(try have he:es.getD i.toNat []=[.i (ah es i 0),.i (ah es i 1),.i (ah es i 2)]:=(au hwf g0 hlt).symm);(try have hcg:cur.getD i.toNat []=[.i (ah es i 0),.i (ah es i 1),.i (ah es i 2)]:=by rw[hc,eV g1];exact he))
  all_goals exact Sd
theorem tE:ec 65 cB:=by
 intro _ _ _ h hp;dsimp only[cB,F0]at h;split at h<;>cases h
 rename_i ms k;obtain⟨es,hms,hw,hlim,hk0,hkb⟩:=hp;have hlen:=eB hlim;have hml:ms.length=es.length:=by rw[hms];exact cH
 have hkk:bg [ms] k=bg [es] k:=by rw[hms];exact qe
 have hwm:Wf [.i 0,.i 0,.i 0] ms:=by rw[hms];exact dQ hw
 have hwf:Wf [.i 0,.i 0,.i 0] es:=hw.wf;have hat:∀ n,n<es.length->ms.getD n []=(hJ (es.getD n []) (fY es k n)).1:=fun n hn=>by rw[hms];exact lx hn
 refine cb nB Tryz.func65 ?_
 intro O r F hO hr hF;cbv
 refine⟨[0,1,5],[],Int×Int,fun s=>match s with|(i,k')=>[.reg 5 (.j i),.reg 1 (.j k')],fun s=>0<=s.1/\s.1.toNat<=es.length/\s.2=fY es k s.1.toNat,fun s=>es.length-s.1.toNat,⟨(0,k),?_,?_⟩,?_⟩;exact⟨by omega,Zh _,bS.symm⟩
 ·cbv
 ·rintro⟨i,k'⟩ hi;replace hi:0<=i/\i.toNat<=es.length/\k'=fY es k i.toNat:=hi;obtain⟨g0,g1,hk'⟩:=hi;cbv
  repeat' first|apply Zb|(apply bG<;>intro hb<;>cbv)|(refine ag (O.ar .add Za i 1,O.ar .add Za (O.ar .add Za (O.ar .add Za (k') 1) 1) 1) ?_ ?_ ?_;focus (cbv;done))
  all_goals(subst hO hr hF;(try simp only[nc]at*);(try simp only[ai,SS,sa,az]at*);(try have hltm:i<ms.length:=by assumption);(try have hlt:i<es.length:=by omega);(try have he:es.getD i.toNat []=[.i (ah es i 0),.i (ah es i 1),.i (ah es i 2)]:=(au hwf g0 hlt).symm);(try rw[fa (n:=es.length) g0 hlt (by omega)]);(try have hlt':i.toNat<es.length:=by omega);(try have hct:=dx (es:=es) (n:=i.toNat) (by omega);rw[he]at hct;simp only[dC,gS,Zi,Zv]at hct);(try have hks:=dU (es:=es) (k:=k) hlt';rw[he]at hks;simp only[hJ,iI]at hks);(try have hem:([.i (ah ms i 0),.i (ah ms i 1),.i (ah ms i 2)]:ay)=_:=(au hwm g0 hltm).trans (hat i.toNat hlt');rw[he]at hem;simp only[hJ,iI,Yg,L.v.injEq,Yp,Yq,L.s.injEq,true_and,and_true]at hem))
  all_goals exact Se
end Go.V