/- Contracts. -/
import Derived.Test.YtbedjnlfdopeeaaGreatYFnu
set_option linter.all false
open Go
open And renaming intro->Zb
open Int renaming toNat_natCast->Zx
open IntKind renaming i64->Za
open List renaming length_replicate->Yi
open List.cons renaming injEq->Yg
open Nat renaming zero_le->Zh,add_zero->Zi,zero_add->Zv
open Value.bool renaming injEq->Yq
open Value.int renaming injEq->Yp
namespace Go.V
open Go Go.Proofs
set_option maxRecDepth 1000000
set_option maxHeartbeats 8000000
def pe:EC:=fun F=>fun
 |[.agg [.v (.int Za a0),.v (.int Za a1),.v (.int Za a2),.v (.int Za a3)]]=>some (fun _=>True,[.agg [.i a0,.i a1,.i a2,.i a3]])
 |_=>none
theorem Dp:ec 112 pe:=by
 intro _ _ _ h hp;dsimp only[pe,F0]at h;split at h<;>cases h
 rename_i a0 a1 a2 a3;refine cb nB Tryz.func112 ?_
 exact yl
def pa:EC:=fun F=>fun
 |[.agg [.v (.int Za a0),.v (.int Za a1),.v (.int Za a2),.v (.int Za a3)],d]=>some (fun _=>d=.agg [.i a0,.i a1,.i a2,.i a3],[.k true])
 |_=>none
theorem Dm:ec 146 pa:=by
 intro _ _ _ h hp;dsimp only[pa,F0]at h;split at h<;>cases h
 rename_i a0 a1 a2 a3 d;subst hp;refine cb nB Tryz.func146 ?_
 exact yl
abbrev KA:cZ:=eK (fun F f=>match f with|112=>pe F|146=>pa F|_=>fun _=>none) (by
 intro f;dsimp only;split;exact Dp;exact Dm;exact db)
def nR:EC:=fun F=>fun
 |[.one (.s 4 es),.one (.v (.int Za left))]=>some (fun _=>Rw [tI,tI,tI,tI] es/\0<=left/\left<=1048576,[.j (F.szN [es] left)])
 |_=>none
theorem BF:ec 21 nR:=by
 intro _ _ _ h hp;dsimp only[nR,F0]at h;split at h<;>cases h
 rename_i es left;obtain⟨hw,h0,h1⟩:=hp;have hc:am es=es.length:=hw.cnt rfl;have hm:=hw.1;unfold maxLen at hm;have hs:bO .sub Za left es.length=left-es.length:=di (by omega);have hn:dT [es] left=if left<es.length then-1 else left-es.length:=by unfold dT;rw[eM,hc]
 refine cb KA Tryz.func21 ?_
 exact EY
def nW:EC:=fun F=>fun
 |[.one (.s 4 es)]=>some (fun _=>Rw [tI,tI,tI,tI] es/\am es<=1048576,[.one (.s 4 es)])
 |_=>none
theorem BK:ec 34 nW:=by
 intro _ _ _ h hp;dsimp only[nW,F0]at h;split at h<;>cases h
 rename_i es;obtain⟨hw,hlim⟩:=hp;have hwf:Wf [.i 0,.i 0,.i 0,.i 0] es:=hw.wf;have hlen:=eB hlim;refine cb KA Tryz.func34 ?_
 intro O r F hO hr hF;cbv
 have h0z:cG es [.i 0,.i 0,.i 0,.i 0] 0=O.rep (O.zi (O.ln es)) [.i 0,.i 0,.i 0,.i 0]:=by
  subst hO;rw[dS];rfl
 refine⟨?_,?_,[0,3,4],[3],Int×af,fun s=>[.reg 4 (.j s.1),.leaf 3 0 ⟨0,0,none,.own (.s 4 s.2)⟩],fun s=>0<=s.1/\s.1.toNat<=es.length/\s.2=cG es [.i 0,.i 0,.i 0,.i 0] s.1.toNat,fun s=>es.length-s.1.toNat,⟨(0,O.rep (O.zi (O.ln es)) [.i 0,.i 0,.i 0,.i 0]),?_,?_⟩,?_⟩
 ·subst hO;exact qg (b:=32) (show es.length*_<=_ by omega) (show es.length<=_ by omega)
 ·subst hO;exact⟨rfl,rfl⟩
 ·exact⟨by omega,Zh _,h0z.symm⟩
 ·cbv
 ·rintro⟨i,m⟩ hi;replace hi:0<=i/\i.toNat<=es.length/\m=cG es [.i 0,.i 0,.i 0,.i 0] i.toNat:=hi;obtain⟨g0,g1,hm⟩:=hi;cbv
  repeat' first|apply Zb|(apply bG<;>intro hb<;>cbv)|(refine ag (O.ar .add Za i 1,O.up (.s 4 m) [(O.ad 0 i,0)] [.i (O.gi es i 0),.i (O.gi es i 1),.i (O.gi es i 2),.i (O.gi es i 3)]) ?_ ?_ ?_;focus (cbv;done))
  all_goals(subst hO hr hF;(try simp only[nc]at*);(try simp only[ai,SS,sa,az]at*);(try simp only[pz,Yi,Zx]at*);(try have hlt:i<es.length:=by assumption);(try have he:es.getD i.toNat []=[.i (ah es i 0),.i (ah es i 1),.i (ah es i 2),.i (ah es i 3)]:=(au hwf g0 hlt).symm))
  all_goals exact Qd
def nM:EC:=fun F=>fun
 |[.one (.s 4 es),d]=>some (fun _=>d=.one (.s 4 es)/\Rw [tI,tI,tI,tI] es/\am es<=1099511627776,[.k true])
 |_=>none
theorem By:ec 48 nM:=by
 intro _ _ _ h hp;dsimp only[nM,F0]at h;split at h<;>cases h
 rename_i es d;obtain⟨rfl,hw,hlim⟩:=hp;have hwf:Wf [.i 0,.i 0,.i 0,.i 0] es:=hw.wf;have hlen:=eB hlim;refine cb KA Tryz.func48 ?_
 intro O r F hO hr hF;cbv
 apply bG<;>intro hb<;>cbv
 ·(subst hO hr hF;(try simp only[nc]at*);(try simp only[ai,SS,sa,az]at*));exact absurd rfl hb
 ·clear hb;refine⟨[0,1,5],[],Int,fun i=>[.reg 5 (.j i)],fun i=>0<=i/\i.toNat<=es.length,fun i=>es.length-i.toNat,⟨0,?_,?_⟩,?_⟩;exact⟨by omega,Zh _⟩
  ·cbv
  ·rintro i hi;replace hi:0<=i/\i.toNat<=es.length:=hi;obtain⟨g0,g1⟩:=hi;cbv
   repeat' first|apply Zb|(apply bG<;>intro hb<;>cbv)|(refine ag (O.ar .add Za i 1) ?_ ?_ ?_;focus (cbv;done))
   all_goals(subst hO hr hF;(try simp only[nc]at*);(try simp only[ai,SS,sa,az]at*);(try have hlt:i<es.length:=by assumption);(try have he:es.getD i.toNat []=[.i (ah es i 0),.i (ah es i 1),.i (ah es i 2),.i (ah es i 3)]:=(au hwf g0 hlt).symm))
   all_goals exact Sf
def kS:EM:=fun F=>fun
 |[.one (.s 4 es),.one (.v (.int Za k))]=>some (fun _=>Rw [tI,tI,tI,tI] es/\am es<=1099511627776/\0<=k/\bg [es] k<=1152921504606846976,[.s 4 (F.mkN es k)],[.j (F.kN [es] k)])
 |_=>none
theorem xB:em 57 kS:=by
 intro _ _ _ _ h hp;dsimp only[kS,F0]at h;split at h<;>cases h
 rename_i es k;obtain⟨hw,hlim,hk0,hkb⟩:=hp;have hwf:Wf [.i 0,.i 0,.i 0,.i 0] es:=hw.wf;have hlen:=eB hlim;refine mb nB [(0,0)] Tryz.func57 ?_
 intro O r os F hO hr hos hF;cbv
 refine⟨[0,1,5],[0],Int×Int×af,fun s=>match s with|(i,k',cur)=>[.reg 5 (.j i),.reg 1 (.j k'),.leaf 0 0 ⟨0,0,some 0,.own (.s 4 cur)⟩],fun s=>0<=s.1/\s.1.toNat<=es.length/\s.2.1=fY es k s.1.toNat/\s.2.2=gK es k s.1.toNat,fun s=>es.length-s.1.toNat,⟨(0,k,es),?_,?_⟩,?_⟩;exact⟨by omega,Zh _,bS.symm,eW.symm⟩
 ·cbv
 ·rintro⟨i,k',cur⟩ hi;replace hi:0<=i/\i.toNat<=es.length/\k'=fY es k i.toNat/\cur=gK es k i.toNat:=hi;obtain⟨g0,g1,hk',hc⟩:=hi;cbv
  repeat' first|apply Zb|(apply bG<;>intro hb<;>cbv)|(refine ag (O.ar .add Za i 1,O.ar .add Za (O.ar .add Za (O.ar .add Za (O.ar .add Za (k') 1) 1) 1) 1,O.up (.s 4 (O.up (.s 4 (O.up (.s 4 (O.up (.s 4 (cur)) [(O.ad 0 i,0)] [.i (k')])) [(O.ad 0 i,1)] [.i (O.ar .add Za (k') 1)])) [(O.ad 0 i,2)] [.i (O.ar .add Za (O.ar .add Za (k') 1) 1)])) [(O.ad 0 i,3)] [.i (O.ar .add Za (O.ar .add Za (O.ar .add Za (k') 1) 1) 1)]) ?_ ?_ ?_;focus (cbv;done))
  all_goals((try subst hos);subst hO hr hF;(try simp only[nc]at*);(try simp only[ai,SS,sa,az]at*);(try have hlt:i<es.length:=by assumption);(try have he:es.getD i.toNat []=[.i (ah es i 0),.i (ah es i 1),.i (ah es i 2),.i (ah es i 3)]:=(au hwf g0 hlt).symm);(try have hcg:cur.getD i.toNat []=[.i (ah es i 0),.i (ah es i 1),.i (ah es i 2),.i (ah es i 3)]:=by rw[hc,eV g1];exact he))
  all_goals exact Sd
def kM:EC:=fun F=>fun
 |[.one (.s 4 ms),.one (.v (.int Za k))]=>some (fun _=>∃ es,ms=dW es k/\Rw [tI,tI,tI,tI] es/\am es<=1099511627776/\0<=k/\bg [ms] k<=1152921504606846976,[.j (F.kN [ms] k)])
 |_=>none
theorem xv:ec 66 kM:=by
 intro _ _ _ h hp;dsimp only[kM,F0]at h;split at h<;>cases h
 rename_i ms k;obtain⟨es,hms,hw,hlim,hk0,hkb⟩:=hp;have hlen:=eB hlim;have hml:ms.length=es.length:=by rw[hms];exact cH
 have hkk:bg [ms] k=bg [es] k:=by rw[hms];exact qe
 have hwm:Wf [.i 0,.i 0,.i 0,.i 0] ms:=by rw[hms];exact dQ hw
 have hwf:Wf [.i 0,.i 0,.i 0,.i 0] es:=hw.wf;have hat:∀ n,n<es.length->ms.getD n []=(hJ (es.getD n []) (fY es k n)).1:=fun n hn=>by rw[hms];exact lx hn
 refine cb nB Tryz.func66 ?_
 intro O r F hO hr hF;cbv
 refine⟨[0,1,5],[],Int×Int,fun s=>match s with|(i,k')=>[.reg 5 (.j i),.reg 1 (.j k')],fun s=>0<=s.1/\s.1.toNat<=es.length/\s.2=fY es k s.1.toNat,fun s=>es.length-s.1.toNat,⟨(0,k),?_,?_⟩,?_⟩;exact⟨by omega,Zh _,bS.symm⟩
 ·cbv
 ·rintro⟨i,k'⟩ hi;replace hi:0<=i/\i.toNat<=es.length/\k'=fY es k i.toNat:=hi;obtain⟨g0,g1,hk'⟩:=hi;cbv
  repeat' first|apply Zb|(apply bG<;>intro hb<;>cbv)|(refine ag (O.ar .add Za i 1,O.ar .add Za (O.ar .add Za (O.ar .add Za (O.ar .add Za (k') 1) 1) 1) 1) ?_ ?_ ?_;focus (cbv;done))
  all_goals(subst hO hr hF;(try simp only[nc]at*);(try simp only[ai,SS,sa,az]at*);(try have hltm:i<ms.length:=by assumption);(try have hlt:i<es.length:=by omega);(try have he:es.getD i.toNat []=[.i (ah es i 0),.i (ah es i 1),.i (ah es i 2),.i (ah es i 3)]:=(au hwf g0 hlt).symm);(try rw[fa (n:=es.length) g0 hlt (by omega)]);(try have hlt':i.toNat<es.length:=by omega);(try have hct:=dx (es:=es) (n:=i.toNat) (by omega);rw[he]at hct;simp only[dC,gS,Zi,Zv]at hct);(try have hks:=dU (es:=es) (k:=k) hlt';rw[he]at hks;simp only[hJ,iI]at hks);(try have hem:([.i (ah ms i 0),.i (ah ms i 1),.i (ah ms i 2),.i (ah ms i 3)]:ay)=_:=(au hwm g0 hltm).trans (hat i.toNat hlt');rw[he]at hem;simp only[hJ,iI,Yg,L.v.injEq,Yp,Yq,L.s.injEq,true_and,and_true]at hem))
  all_goals exact Se
def de:EC:=fun F=>fun
 |[.agg [.v (.int Za a0),.v (.int Za a1),.v (.int Za a2)]]=>some (fun _=>True,[.agg [.i a0,.i a1,.i a2]])
 |_=>none
theorem zD:ec 220 de:=by
 intro _ _ _ h hp;dsimp only[de,F0]at h;split at h<;>cases h
 rename_i a0 a1 a2;refine cb nB Tryz.func220 ?_
 exact yl
def dd:EC:=fun F=>fun
 |[.agg [.v (.int Za a0),.v (.int Za a1),.v (.int Za a2)],d]=>some (fun _=>d=.agg [.i a0,.i a1,.i a2],[.k true])
 |_=>none
theorem zg:ec 250 dd:=by
 intro _ _ _ h hp;dsimp only[dd,F0]at h;split at h<;>cases h
 rename_i a0 a1 a2 d;subst hp;refine cb nB Tryz.func250 ?_
 exact yl
abbrev Dc:cZ:=eK (fun F f=>match f with|220=>de F|250=>dd F|_=>fun _=>none) (by
 intro f;dsimp only;split;exact zD;exact zg;exact db)
def cT:EC:=fun F=>fun
 |[.one (.s 3 es),.one (.v (.int Za left))]=>some (fun _=>Rw [tI,tI,tI] es/\0<=left/\left<=1048576,[.j (F.szN [es] left)])
 |_=>none
theorem xL:ec 98 cT:=by
 intro _ _ _ h hp;dsimp only[cT,F0]at h;split at h<;>cases h
 rename_i es left;obtain⟨hw,h0,h1⟩:=hp;have hc:am es=es.length:=hw.cnt rfl;have hm:=hw.1;unfold maxLen at hm;have hs:bO .sub Za left es.length=left-es.length:=di (by omega);have hn:dT [es] left=if left<es.length then-1 else left-es.length:=by unfold dT;rw[eM,hc]
 refine cb Dc Tryz.func98 ?_
 exact EY
def cU:EC:=fun F=>fun
 |[.one (.s 3 es)]=>some (fun _=>Rw [tI,tI,tI] es/\am es<=1048576,[.one (.s 3 es)])
 |_=>none
theorem xT:ec 116 cU:=by
 intro _ _ _ h hp;dsimp only[cU,F0]at h;split at h<;>cases h
 rename_i es;obtain⟨hw,hlim⟩:=hp;have hwf:Wf [.i 0,.i 0,.i 0] es:=hw.wf;have hlen:=eB hlim;refine cb Dc Tryz.func116 ?_
 intro O r F hO hr hF;cbv
 have h0z:cG es [.i 0,.i 0,.i 0] 0=O.rep (O.zi (O.ln es)) [.i 0,.i 0,.i 0]:=by
  subst hO;rw[dS];rfl
 refine⟨?_,?_,[0,3,4],[3],Int×af,fun s=>[.reg 4 (.j s.1),.leaf 3 0 ⟨0,0,none,.own (.s 3 s.2)⟩],fun s=>0<=s.1/\s.1.toNat<=es.length/\s.2=cG es [.i 0,.i 0,.i 0] s.1.toNat,fun s=>es.length-s.1.toNat,⟨(0,O.rep (O.zi (O.ln es)) [.i 0,.i 0,.i 0]),?_,?_⟩,?_⟩
 ·subst hO;exact qg (b:=24) (show es.length*_<=_ by omega) (show es.length<=_ by omega)
 ·subst hO;exact⟨rfl,rfl⟩
 ·exact⟨by omega,Zh _,h0z.symm⟩
 ·cbv
 ·rintro⟨i,m⟩ hi;replace hi:0<=i/\i.toNat<=es.length/\m=cG es [.i 0,.i 0,.i 0] i.toNat:=hi;obtain⟨g0,g1,hm⟩:=hi;cbv
  repeat' first|apply Zb|(apply bG<;>intro hb<;>cbv)|(refine ag (O.ar .add Za i 1,O.up (.s 3 m) [(O.ad 0 i,0)] [.i (O.gi es i 0),.i (O.gi es i 1),.i (O.gi es i 2)]) ?_ ?_ ?_;focus (cbv;done))
  all_goals(subst hO hr hF;(try simp only[nc]at*);(try simp only[ai,SS,sa,az]at*);(try simp only[pz,Yi,Zx]at*);(try have hlt:i<es.length:=by assumption);(try have he:es.getD i.toNat []=[.i (ah es i 0),.i (ah es i 1),.i (ah es i 2)]:=(au hwf g0 hlt).symm))
  all_goals exact Qd
def cS:EC:=fun F=>fun
 |[.one (.s 3 es),d]=>some (fun _=>d=.one (.s 3 es)/\Rw [tI,tI,tI] es/\am es<=1099511627776,[.k true])
 |_=>none
theorem xp:ec 150 cS:=by
 intro _ _ _ h hp;dsimp only[cS,F0]at h;split at h<;>cases h
 rename_i es d;obtain⟨rfl,hw,hlim⟩:=hp;have hwf:Wf [.i 0,.i 0,.i 0] es:=hw.wf;have hlen:=eB hlim;refine cb Dc Tryz.func150 ?_
 intro O r F hO hr hF;cbv
 apply bG<;>intro hb<;>cbv
 ·(subst hO hr hF;(try simp only[nc]at*);(try simp only[ai,SS,sa,az]at*));exact absurd rfl hb
 ·clear hb;refine⟨[0,1,5],[],Int,fun i=>[.reg 5 (.j i)],fun i=>0<=i/\i.toNat<=es.length,fun i=>es.length-i.toNat,⟨0,?_,?_⟩,?_⟩;exact⟨by omega,Zh _⟩
  ·cbv
  ·rintro i hi;replace hi:0<=i/\i.toNat<=es.length:=hi;obtain⟨g0,g1⟩:=hi;cbv
   repeat' first|apply Zb|(apply bG<;>intro hb<;>cbv)|(refine ag (O.ar .add Za i 1) ?_ ?_ ?_;focus (cbv;done))
   all_goals(subst hO hr hF;(try simp only[nc]at*);(try simp only[ai,SS,sa,az]at*);(try have hlt:i<es.length:=by assumption);(try have he:es.getD i.toNat []=[.i (ah es i 0),.i (ah es i 1),.i (ah es i 2)]:=(au hwf g0 hlt).symm))
   all_goals exact Sf
def cC:EM:=fun F=>fun
 |[.one (.s 3 es),.one (.v (.int Za k))]=>some (fun _=>Rw [tI,tI,tI] es/\am es<=1099511627776/\0<=k/\bg [es] k<=1152921504606846976,[.s 3 (F.mkN es k)],[.j (F.kN [es] k)])
 |_=>none
theorem tQ:em 156 cC:=by
 intro _ _ _ _ h hp;dsimp only[cC,F0]at h;split at h<;>cases h
 rename_i es k;obtain⟨hw,hlim,hk0,hkb⟩:=hp;have hwf:Wf [.i 0,.i 0,.i 0] es:=hw.wf;have hlen:=eB hlim;refine mb nB [(0,0)] Tryz.func156 ?_
 intro O r os F hO hr hos hF;cbv
 refine⟨[0,1,5],[0],Int×Int×af,fun s=>match s with|(i,k',cur)=>[.reg 5 (.j i),.reg 1 (.j k'),.leaf 0 0 ⟨0,0,some 0,.own (.s 3 cur)⟩],fun s=>0<=s.1/\s.1.toNat<=es.length/\s.2.1=fY es k s.1.toNat/\s.2.2=gK es k s.1.toNat,fun s=>es.length-s.1.toNat,⟨(0,k,es),?_,?_⟩,?_⟩;exact⟨by omega,Zh _,bS.symm,eW.symm⟩
 ·cbv
 ·rintro⟨i,k',cur⟩ hi;replace hi:0<=i/\i.toNat<=es.length/\k'=fY es k i.toNat/\cur=gK es k i.toNat:=hi;obtain⟨g0,g1,hk',hc⟩:=hi;cbv
  repeat' first|apply Zb|(apply bG<;>intro hb<;>cbv)|(refine ag (O.ar .add Za i 1,O.ar .add Za (O.ar .add Za (O.ar .add Za (k') 1) 1) 1,O.up (.s 3 (O.up (.s 3 (O.up (.s 3 (cur)) [(O.ad 0 i,0)] [.i (k')])) [(O.ad 0 i,1)] [.i (O.ar .add Za (k') 1)])) [(O.ad 0 i,2)] [.i (O.ar .add Za (O.ar .add Za (k') 1) 1)]) ?_ ?_ ?_;focus (cbv;done))
  all_goals((try subst hos);subst hO hr hF;(try simp only[nc]at*);(try simp only[ai,SS,sa,az]at*);(try have hlt:i<es.length:=by assumption);(try have he:es.getD i.toNat []=[.i (ah es i 0),.i (ah es i 1),.i (ah es i 2)]:=(au hwf g0 hlt).symm);(try have hcg:cur.getD i.toNat []=[.i (ah es i 0),.i (ah es i 1),.i (ah es i 2)]:=by rw[hc,eV g1];exact he))
  all_goals exact Sd
def cB:EC:=fun F=>fun
 |[.one (.s 3 ms),.one (.v (.int Za k))]=>some (fun _=>∃ es,ms=dW es k/\Rw [tI,tI,tI] es/\am es<=1099511627776/\0<=k/\bg [ms] k<=1152921504606846976,[.j (F.kN [ms] k)])
 |_=>none
theorem tH:ec 162 cB:=by
 intro _ _ _ h hp;dsimp only[cB,F0]at h;split at h<;>cases h
 rename_i ms k;obtain⟨es,hms,hw,hlim,hk0,hkb⟩:=hp;have hlen:=eB hlim;have hml:ms.length=es.length:=by rw[hms];exact cH
 have hkk:bg [ms] k=bg [es] k:=by rw[hms];exact qe
 have hwm:Wf [.i 0,.i 0,.i 0] ms:=by rw[hms];exact dQ hw
 have hwf:Wf [.i 0,.i 0,.i 0] es:=hw.wf;have hat:∀ n,n<es.length->ms.getD n []=(hJ (es.getD n []) (fY es k n)).1:=fun n hn=>by rw[hms];exact lx hn
 refine cb nB Tryz.func162 ?_
 intro O r F hO hr hF;cbv
 refine⟨[0,1,5],[],Int×Int,fun s=>match s with|(i,k')=>[.reg 5 (.j i),.reg 1 (.j k')],fun s=>0<=s.1/\s.1.toNat<=es.length/\s.2=fY es k s.1.toNat,fun s=>es.length-s.1.toNat,⟨(0,k),?_,?_⟩,?_⟩;exact⟨by omega,Zh _,bS.symm⟩
 ·cbv
 ·rintro⟨i,k'⟩ hi;replace hi:0<=i/\i.toNat<=es.length/\k'=fY es k i.toNat:=hi;obtain⟨g0,g1,hk'⟩:=hi;cbv
  repeat' first|apply Zb|(apply bG<;>intro hb<;>cbv)|(refine ag (O.ar .add Za i 1,O.ar .add Za (O.ar .add Za (O.ar .add Za (k') 1) 1) 1) ?_ ?_ ?_;focus (cbv;done))
  all_goals(subst hO hr hF;(try simp only[nc]at*);(try simp only[ai,SS,sa,az]at*);(try have hltm:i<ms.length:=by assumption);(try have hlt:i<es.length:=by omega);(try have he:es.getD i.toNat []=[.i (ah es i 0),.i (ah es i 1),.i (ah es i 2)]:=(au hwf g0 hlt).symm);(try rw[fa (n:=es.length) g0 hlt (by omega)]);(try have hlt':i.toNat<es.length:=by omega);(try have hct:=dx (es:=es) (n:=i.toNat) (by omega);rw[he]at hct;simp only[dC,gS,Zi,Zv]at hct);(try have hks:=dU (es:=es) (k:=k) hlt';rw[he]at hks;simp only[hJ,iI]at hks);(try have hem:([.i (ah ms i 0),.i (ah ms i 1),.i (ah ms i 2)]:ay)=_:=(au hwm g0 hltm).trans (hat i.toNat hlt');rw[he]at hem;simp only[hJ,iI,Yg,L.v.injEq,Yp,Yq,L.s.injEq,true_and,and_true]at hem))
  all_goals exact Se
def gj:EC:=fun F=>fun
 |[.agg [.v (.int Za a0),.v (.int Za a1)]]=>some (fun _=>True,[.agg [.i a0,.i a1]])
 |_=>none
theorem BM:ec 309 gj:=by
 intro _ _ _ h hp;dsimp only[gj,F0]at h;split at h<;>cases h
 rename_i a0 a1;refine cb nB Tryz.func309 ?_
 exact yl
def gh:EC:=fun F=>fun
 |[.agg [.v (.int Za a0),.v (.int Za a1)],d]=>some (fun _=>d=.agg [.i a0,.i a1],[.k true])
 |_=>none
theorem BA:ec 324 gh:=by
 intro _ _ _ h hp;dsimp only[gh,F0]at h;split at h<;>cases h
 rename_i a0 a1 d;subst hp;refine cb nB Tryz.func324 ?_
 exact yl
abbrev GR:cZ:=eK (fun F f=>match f with|309=>gj F|324=>gh F|_=>fun _=>none) (by
 intro f;dsimp only;split;exact BM;exact BA;exact db)
def fI:EC:=fun F=>fun
 |[.one (.s 2 es),.one (.v (.int Za left))]=>some (fun _=>Rw [tI,tI] es/\0<=left/\left<=1048576,[.j (F.szN [es] left)])
 |_=>none
theorem zq:ec 211 fI:=by
 intro _ _ _ h hp;dsimp only[fI,F0]at h;split at h<;>cases h
 rename_i es left;obtain⟨hw,h0,h1⟩:=hp;have hc:am es=es.length:=hw.cnt rfl;have hm:=hw.1;unfold maxLen at hm;have hs:bO .sub Za left es.length=left-es.length:=di (by omega);have hn:dT [es] left=if left<es.length then-1 else left-es.length:=by unfold dT;rw[eM,hc]
 refine cb GR Tryz.func211 ?_
 exact EY
def fJ:EC:=fun F=>fun
 |[.one (.s 2 es)]=>some (fun _=>Rw [tI,tI] es/\am es<=1048576,[.one (.s 2 es)])
 |_=>none
theorem zA:ec 219 fJ:=by
 intro _ _ _ h hp;dsimp only[fJ,F0]at h;split at h<;>cases h
 rename_i es;obtain⟨hw,hlim⟩:=hp;have hwf:Wf [.i 0,.i 0] es:=hw.wf;have hlen:=eB hlim;refine cb GR Tryz.func219 ?_
 intro O r F hO hr hF;cbv
 have h0z:cG es [.i 0,.i 0] 0=O.rep (O.zi (O.ln es)) [.i 0,.i 0]:=by
  subst hO;rw[dS];rfl
 refine⟨?_,?_,[0,3,4],[3],Int×af,fun s=>[.reg 4 (.j s.1),.leaf 3 0 ⟨0,0,none,.own (.s 2 s.2)⟩],fun s=>0<=s.1/\s.1.toNat<=es.length/\s.2=cG es [.i 0,.i 0] s.1.toNat,fun s=>es.length-s.1.toNat,⟨(0,O.rep (O.zi (O.ln es)) [.i 0,.i 0]),?_,?_⟩,?_⟩
 ·subst hO;exact qg (b:=16) (show es.length*_<=_ by omega) (show es.length<=_ by omega)
 ·subst hO;exact⟨rfl,rfl⟩
 ·exact⟨by omega,Zh _,h0z.symm⟩
 ·cbv
 ·rintro⟨i,m⟩ hi;replace hi:0<=i/\i.toNat<=es.length/\m=cG es [.i 0,.i 0] i.toNat:=hi;obtain⟨g0,g1,hm⟩:=hi;cbv
  repeat' first|apply Zb|(apply bG<;>intro hb<;>cbv)|(refine ag (O.ar .add Za i 1,O.up (.s 2 m) [(O.ad 0 i,0)] [.i (O.gi es i 0),.i (O.gi es i 1)]) ?_ ?_ ?_;focus (cbv;done))
  all_goals(subst hO hr hF;(try simp only[nc]at*);(try simp only[ai,SS,sa,az]at*);(try simp only[pz,Yi,Zx]at*);(try have hlt:i<es.length:=by assumption);(try have he:es.getD i.toNat []=[.i (ah es i 0),.i (ah es i 1)]:=(au hwf g0 hlt).symm))
  all_goals exact Qd
def fF:EC:=fun F=>fun
 |[.one (.s 2 es),d]=>some (fun _=>d=.one (.s 2 es)/\Rw [tI,tI] es/\am es<=1099511627776,[.k true])
 |_=>none
theorem zd:ec 249 fF:=by
 intro _ _ _ h hp;dsimp only[fF,F0]at h;split at h<;>cases h
 rename_i es d;obtain⟨rfl,hw,hlim⟩:=hp;have hwf:Wf [.i 0,.i 0] es:=hw.wf;have hlen:=eB hlim;refine cb GR Tryz.func249 ?_
 intro O r F hO hr hF;cbv
 apply bG<;>intro hb<;>cbv
 ·(subst hO hr hF;(try simp only[nc]at*);(try simp only[ai,SS,sa,az]at*));exact absurd rfl hb
 ·clear hb;refine⟨[0,1,5],[],Int,fun i=>[.reg 5 (.j i)],fun i=>0<=i/\i.toNat<=es.length,fun i=>es.length-i.toNat,⟨0,?_,?_⟩,?_⟩;exact⟨by omega,Zh _⟩
  ·cbv
  ·rintro i hi;replace hi:0<=i/\i.toNat<=es.length:=hi;obtain⟨g0,g1⟩:=hi;cbv
   repeat' first|apply Zb|(apply bG<;>intro hb<;>cbv)|(refine ag (O.ar .add Za i 1) ?_ ?_ ?_;focus (cbv;done))
   all_goals(subst hO hr hF;(try simp only[nc]at*);(try simp only[ai,SS,sa,az]at*);(try have hlt:i<es.length:=by assumption);(try have he:es.getD i.toNat []=[.i (ah es i 0),.i (ah es i 1)]:=(au hwf g0 hlt).symm))
   all_goals exact Sf
def eA:EM:=fun F=>fun
 |[.one (.s 2 es),.one (.v (.int Za k))]=>some (fun _=>Rw [tI,tI] es/\am es<=1099511627776/\0<=k/\bg [es] k<=1152921504606846976,[.s 2 (F.mkN es k)],[.j (F.kN [es] k)])
 |_=>none
theorem vl:em 253 eA:=by
 intro _ _ _ _ h hp;dsimp only[eA,F0]at h;split at h<;>cases h
 rename_i es k;obtain⟨hw,hlim,hk0,hkb⟩:=hp;have hwf:Wf [.i 0,.i 0] es:=hw.wf;have hlen:=eB hlim;refine mb nB [(0,0)] Tryz.func253 ?_
 intro O r os F hO hr hos hF;cbv
 refine⟨[0,1,5],[0],Int×Int×af,fun s=>match s with|(i,k',cur)=>[.reg 5 (.j i),.reg 1 (.j k'),.leaf 0 0 ⟨0,0,some 0,.own (.s 2 cur)⟩],fun s=>0<=s.1/\s.1.toNat<=es.length/\s.2.1=fY es k s.1.toNat/\s.2.2=gK es k s.1.toNat,fun s=>es.length-s.1.toNat,⟨(0,k,es),?_,?_⟩,?_⟩;exact⟨by omega,Zh _,bS.symm,eW.symm⟩
 ·cbv
 ·rintro⟨i,k',cur⟩ hi;replace hi:0<=i/\i.toNat<=es.length/\k'=fY es k i.toNat/\cur=gK es k i.toNat:=hi;obtain⟨g0,g1,hk',hc⟩:=hi;cbv
  repeat' first|apply Zb|(apply bG<;>intro hb<;>cbv)|(refine ag (O.ar .add Za i 1,O.ar .add Za (O.ar .add Za (k') 1) 1,O.up (.s 2 (O.up (.s 2 (cur)) [(O.ad 0 i,0)] [.i (k')])) [(O.ad 0 i,1)] [.i (O.ar .add Za (k') 1)]) ?_ ?_ ?_;focus (cbv;done))
  all_goals((try subst hos);subst hO hr hF;(try simp only[nc]at*);(try simp only[ai,SS,sa,az]at*);(try have hlt:i<es.length:=by assumption);(try have he:es.getD i.toNat []=[.i (ah es i 0),.i (ah es i 1)]:=(au hwf g0 hlt).symm);(try have hcg:cur.getD i.toNat []=[.i (ah es i 0),.i (ah es i 1)]:=by rw[hc,eV g1];exact he))
  all_goals exact Sd
def ez:EC:=fun F=>fun
 |[.one (.s 2 ms),.one (.v (.int Za k))]=>some (fun _=>∃ es,ms=dW es k/\Rw [tI,tI] es/\am es<=1099511627776/\0<=k/\bg [ms] k<=1152921504606846976,[.j (F.kN [ms] k)])
 |_=>none
theorem vh:ec 256 ez:=by
 intro _ _ _ h hp;dsimp only[ez,F0]at h;split at h<;>cases h
 rename_i ms k;obtain⟨es,hms,hw,hlim,hk0,hkb⟩:=hp;have hlen:=eB hlim;have hml:ms.length=es.length:=by rw[hms];exact cH
 have hkk:bg [ms] k=bg [es] k:=by rw[hms];exact qe
 have hwm:Wf [.i 0,.i 0] ms:=by rw[hms];exact dQ hw
 have hwf:Wf [.i 0,.i 0] es:=hw.wf;have hat:∀ n,n<es.length->ms.getD n []=(hJ (es.getD n []) (fY es k n)).1:=fun n hn=>by rw[hms];exact lx hn
 refine cb nB Tryz.func256 ?_
 intro O r F hO hr hF;cbv
 refine⟨[0,1,5],[],Int×Int,fun s=>match s with|(i,k')=>[.reg 5 (.j i),.reg 1 (.j k')],fun s=>0<=s.1/\s.1.toNat<=es.length/\s.2=fY es k s.1.toNat,fun s=>es.length-s.1.toNat,⟨(0,k),?_,?_⟩,?_⟩;exact⟨by omega,Zh _,bS.symm⟩
 ·cbv
 ·rintro⟨i,k'⟩ hi;replace hi:0<=i/\i.toNat<=es.length/\k'=fY es k i.toNat:=hi;obtain⟨g0,g1,hk'⟩:=hi;cbv
  repeat' first|apply Zb|(apply bG<;>intro hb<;>cbv)|(refine ag (O.ar .add Za i 1,O.ar .add Za (O.ar .add Za (k') 1) 1) ?_ ?_ ?_;focus (cbv;done))
  all_goals(subst hO hr hF;(try simp only[nc]at*);(try simp only[ai,SS,sa,az]at*);(try have hltm:i<ms.length:=by assumption);(try have hlt:i<es.length:=by omega);(try have he:es.getD i.toNat []=[.i (ah es i 0),.i (ah es i 1)]:=(au hwf g0 hlt).symm);(try rw[fa (n:=es.length) g0 hlt (by omega)]);(try have hlt':i.toNat<es.length:=by omega);(try have hct:=dx (es:=es) (n:=i.toNat) (by omega);rw[he]at hct;simp only[dC,gS,Zi,Zv]at hct);(try have hks:=dU (es:=es) (k:=k) hlt';rw[he]at hks;simp only[hJ,iI]at hks);(try have hem:([.i (ah ms i 0),.i (ah ms i 1)]:ay)=_:=(au hwm g0 hltm).trans (hat i.toNat hlt');rw[he]at hem;simp only[hJ,iI,Yg,L.v.injEq,Yp,Yq,L.s.injEq,true_and,and_true]at hem))
  all_goals exact Se
end Go.V