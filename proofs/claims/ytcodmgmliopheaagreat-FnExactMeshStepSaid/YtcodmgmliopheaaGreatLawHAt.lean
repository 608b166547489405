/- Contracts. -/
import Derived.Test.YtcodmgmliopheaaGreatS13
set_option linter.all false
open Go
open And renaming intro->AT
open Int renaming toNat_natCast->V4,le_trans->YM
open IntKind renaming i64->Wx
open List renaming length_replicate->Ws,nil_append->V5,cons_append->We
open List.cons renaming injEq->WI
open Nat renaming zero_le->No,add_zero->VL,zero_add->Wc,le_refl->VJ
open Value renaming int->Wg
open Value.bool renaming injEq->WE
open Value.int renaming injEq->WL
namespace Go.V
open Go Go.Proofs
set_option maxRecDepth 1000000
set_option maxHeartbeats 8000000
theorem hY {es:aa}{left:Int}(hp:Rw [tI] es/\0<=left/\left<=1048576):aw 123 [.one (.s 1 es),.j left] [.j (bK [es] left)]:=by
 obtain⟨hw,h0,h1⟩:=hp;have hc:ag es=es.length:=hw.cnt rfl;have hm:=hw.1;unfold maxLen at hm;have hs:bJ .sub .i64 left es.length=left-es.length:=cO (by omega);have hn:bK [es] left=if left<es.length then-1 else left-es.length:=by unfold bK;rw[cV,hc]
 refine cb nB Tryz.func123 ?_
 exact Jk
theorem hZ {es:aa}(hp:Rw [tI] es/\ag es<=1048576):aw 149 [.one (.s 1 es)] [.one (.s 1 es)]:=by
 obtain⟨hw,hlim⟩:=hp;have hwf:Wf [.i 0] es:=hw.wf;have hlen:=cQ hlim;refine cb nB Tryz.func149 ?_
 intro O r F hO hr hF;cbv
 have h0z:bZ es [.i 0] 0=O.rep (O.zi (O.ln es)) [.i 0]:=by
  subst hO;rw[cH];rfl
 refine⟨?_,?_,[0,3,4],[3],Int×aa,fun s=>[.reg 4 (.j s.1),.leaf 3 0 ⟨0,0,none,.own (.s 1 s.2)⟩],fun s=>0<=s.1/\s.1.toNat<=es.length/\s.2=bZ es [.i 0] s.1.toNat,fun s=>es.length-s.1.toNat,⟨(0,O.rep (O.zi (O.ln es)) [.i 0]),?_,?_⟩,?_⟩
 ·subst hO;exact jX (b:=8) (show es.length*_<=_ by omega) (show es.length<=_ by omega)
 ·subst hO;exact⟨rfl,rfl⟩
 ·exact⟨by omega,No _,h0z.symm⟩
 ·cbv
 ·rintro⟨i,m⟩ hi;replace hi:0<=i/\i.toNat<=es.length/\m=bZ es [.i 0] i.toNat:=hi;obtain⟨g0,g1,hm⟩:=hi;cbv
  repeat' first|apply AT|(apply bi<;>intro hb<;>cbv)|(refine ab (O.ar .add .i64 i 1,O.up (.s 1 m) [(O.ad 0 i,0)] [.i (O.gi es i 0)]) ?_ ?_ ?_;focus (cbv;done))
  all_goals(subst hO hr hF;(try simp only[nc]at*);(try simp only[ah,SS,sa,az]at*);(try simp only[jC,Ws,V4]at*);(try have hlt:i<es.length:=by assumption);(try have he:es.getD i.toNat []=[.i (af es i 0)]:=(au hwf g0 hlt).symm))
  all_goals exact Jj
theorem hP {es:aa}{d:DV}(hp:d=.one (.s 1 es)/\Rw [tI] es/\ag es<=1099511627776):aw 179 [.one (.s 1 es),d] [.k true]:=by
 obtain⟨rfl,hw,hlim⟩:=hp;have hwf:Wf [.i 0] es:=hw.wf;have hlen:=cQ hlim;refine cb nB Tryz.func179 ?_
 intro O r F hO hr hF;cbv
 apply bi<;>intro hb<;>cbv
 ·(subst hO hr hF;(try simp only[nc]at*);(try simp only[ah,SS,sa,az]at*));exact absurd rfl hb
 ·clear hb;refine⟨[0,1,5],[],Int,fun i=>[.reg 5 (.j i)],fun i=>0<=i/\i.toNat<=es.length,fun i=>es.length-i.toNat,⟨0,?_,?_⟩,?_⟩
  ·exact⟨by omega,No _⟩
  ·cbv
  ·rintro i hi;replace hi:0<=i/\i.toNat<=es.length:=hi;obtain⟨g0,g1⟩:=hi;cbv
   repeat' first|apply AT|(apply bi<;>intro hb<;>cbv)|(refine ab (O.ar .add .i64 i 1) ?_ ?_ ?_;focus (cbv;done))
   all_goals(subst hO hr hF;(try simp only[nc]at*);(try simp only[ah,SS,sa,az]at*);(try have hlt:i<es.length:=by assumption);(try have he:es.getD i.toNat []=[.i (af es i 0)]:=(au hwf g0 hlt).symm))
   all_goals exact KW
theorem fM {es:aa}{k:Int}(hp:Rw [tI] es/\ag es<=1099511627776/\0<=k/\am [es] k<=1152921504606846976):ed 190 [.one (.s 1 es),.j k] [.s 1 (ao es k)] [.j (am [es] k)]:=by
 obtain⟨hw,hlim,hk0,hkb⟩:=hp;have hwf:Wf [.i 0] es:=hw.wf;have hlen:=cQ hlim;refine mb nB [(0,0)] Tryz.func190 ?_
 intro O r os F hO hr hos hF;cbv
 refine⟨[0,1,5],[0],Int×Int×aa,fun s=>match s with|(i,k',cur)=>[.reg 5 (.j i),.reg 1 (.j k'),.leaf 0 0 ⟨0,0,some 0,.own (.s 1 cur)⟩],fun s=>0<=s.1/\s.1.toNat<=es.length/\s.2.1=dF es k s.1.toNat/\s.2.2=dS es k s.1.toNat,fun s=>es.length-s.1.toNat,⟨(0,k,es),?_,?_⟩,?_⟩
 ·exact⟨by omega,No _,bG.symm,cX.symm⟩
 ·cbv
 ·rintro⟨i,k',cur⟩ hi;replace hi:0<=i/\i.toNat<=es.length/\k'=dF es k i.toNat/\cur=dS es k i.toNat:=hi;obtain⟨g0,g1,hk',hc⟩:=hi;cbv
  repeat' first|apply AT|(apply bi<;>intro hb<;>cbv)|(refine ab (O.ar .add .i64 i 1,O.ar .add .i64 (k') 1,O.up (.s 1 (cur)) [(O.ad 0 i,0)] [.i (k')]) ?_ ?_ ?_;focus (cbv;done))
  all_goals((try subst hos);subst hO hr hF;(try simp only[nc]at*);(try simp only[ah,SS,sa,az]at*);(try have hlt:i<es.length:=by assumption);(try have he:es.getD i.toNat []=[.i (af es i 0)]:=(au hwf g0 hlt).symm);(try have hcg:cur.getD i.toNat []=[.i (af es i 0)]:=by rw[hc,cW g1];exact he))
  all_goals exact KU
theorem fL {ms:aa}{k:Int}(hp:∃ es,ms=ao es k/\Rw [tI] es/\ag es<=1099511627776/\0<=k/\am [ms] k<=1152921504606846976):aw 196 [.one (.s 1 ms),.j k] [.j (am [ms] k)]:=by
 obtain⟨es,hms,hw,hlim,hk0,hkb⟩:=hp;have hlen:=cQ hlim;have hml:ms.length=es.length:=by rw[hms];exact b8
 have hkk:am [ms] k=am [es] k:=by rw[hms];exact jV
 have hwm:Wf [.i 0] ms:=by rw[hms];exact cG hw
 have hwf:Wf [.i 0] es:=hw.wf;have hat:∀ n,n<es.length->ms.getD n []=(eo (es.getD n []) (dF es k n)).1:=fun n hn=>by rw[hms];exact fP hn
 refine cb nB Tryz.func196 ?_
 intro O r F hO hr hF;cbv
 refine⟨[0,1,5],[],Int×Int,fun s=>match s with|(i,k')=>[.reg 5 (.j i),.reg 1 (.j k')],fun s=>0<=s.1/\s.1.toNat<=es.length/\s.2=dF es k s.1.toNat,fun s=>es.length-s.1.toNat,⟨(0,k),?_,?_⟩,?_⟩
 ·exact⟨by omega,No _,bG.symm⟩
 ·cbv
 ·rintro⟨i,k'⟩ hi;replace hi:0<=i/\i.toNat<=es.length/\k'=dF es k i.toNat:=hi;obtain⟨g0,g1,hk'⟩:=hi;cbv
  repeat' first|apply AT|(apply bi<;>intro hb<;>cbv)|(refine ab (O.ar .add .i64 i 1,O.ar .add .i64 (k') 1) ?_ ?_ ?_;focus (cbv;done))
  all_goals(subst hO hr hF;(try simp only[nc]at*);(try simp only[ah,SS,sa,az]at*);(try have hltm:i<ms.length:=by assumption);(try have hlt:i<es.length:=by omega);(try rw[da (n:=es.length) g0 hlt (by omega)]);(try have hlt':i.toNat<es.length:=by omega);(try have he:es.getD i.toNat []=[.i (af es i 0)]:=(au hwf g0 hlt).symm);(try have hct:=cq (es:=es) (n:=i.toNat) (by omega);rw[he]at hct;simp only[cL,eC,VL,Wc]at hct);(try have hks:=cI (es:=es) (k:=k) hlt';rw[he]at hks;simp only[eo,eM]at hks);(try have hem:([.i (af ms i 0)]:ay)=_:=(au hwm g0 hltm).trans (hat i.toNat hlt');rw[he]at hem;simp only[eo,eM,WI,L.v.injEq,WL,WE,L.s.injEq,true_and,and_true]at hem))
  all_goals have hle1:=bF (es:=es) (n:=i.toNat+1)
  all_goals have hcE:ag es=es.length+bD es:=rfl
  all_goals have hk1:=fc (es:=es) (k:=k) (n:=i.toNat)
  all_goals have hk2:=fc (es:=es) (k:=k) (n:=i.toNat+1)
  all_goals have hk3:=li (es:=es) (k:=k)
  all_goals have hk4:=fc (es:=es) (k:=k) (n:=es.length)
  all_goals have hk5:=dB (es:=es) (m:=0) (n:=i.toNat) g1 (No _)
  all_goals((have hk6:=dB (es:=es) (m:=i.toNat) (n:=es.length) (VJ _) g1);(try have hk7:=dB (es:=es) (m:=i.toNat+1) (n:=es.length) (VJ _) hlt'))
  all_goals rw[bG]at hk5
  all_goals((try have hk8:=gC (es:=es) (n:=i.toNat) hlt');(try rw[<-hk']at hem hks))
  all_goals have ha1:bJ .add .i64 k' 1=k'+1:=bB (by omega)
  all_goals have ha2:bJ .add .i64 (k'+1) 1=k'+1+1:=bB (by omega)
  all_goals have ha3:bJ .add .i64 (k'+1+1) 1=k'+1+1+1:=bB (by omega)
  all_goals((have ha4:bJ .add .i64 (k'+1+1+1) 1=k'+1+1+1+1:=bB (by omega));(try simp only[ha1,ha2,ha3,ha4]at*))
  all_goals first|exact ip hwm g0 hltm|omega|(rw[hk',show i.toNat=es.length from by omega,hk3,hkk];done)|(rw[show(i+1).toNat=i.toNat+1 from by omega,hks];done)|trace_state
namespace LIntSS
structure aQ where
 szN:List aa->Int->Int
abbrev F0 :aQ:=⟨bK⟩
def ct (F:aQ):CT:=fun f ds=>match f,ds with
 |123,[.one (.s 1 es),.one (.v (.int .i64 left))]=>some (fun _=>Rw [tI] es/\0<=left/\left<=1048576,[.j (F.szN [es] left)])
 |149,[.one (.s 1 es)]=>some (fun _=>Rw [tI] es/\ag es<=1048576,[.one (.s 1 es)])
 |179,[.one (.s 1 es),d]=>some (fun _=>d=.one (.s 1 es)/\Rw [tI] es/\ag es<=1099511627776,[.k true])
 |_,_=>none
theorem aj :aR (ct F0):=by
 intro f ds pre res h hp;unfold ct at h;split at h<;>cases h
 exact hY hp;exact hZ hp;exact hP hp
abbrev B :cy:=tb aj
end LIntSS
namespace MIntSS
structure aQ where
 kN:List aa->Int->Int
 mkN:aa->Int->aa
abbrev F0 :aQ:=⟨am,ao⟩
def ct (F:aQ):CT:=fun f ds=>match f,ds with
 |196,[.one (.s 1 ms),.one (.v (.int .i64 k))]=>some (fun _=>∃ es,ms=ao es k/\Rw [tI] es/\ag es<=1099511627776/\0<=k/\am [ms] k<=1152921504606846976,[.j (F.kN [ms] k)])
 |_,_=>none
theorem aj :aR (ct F0):=by
 intro f ds pre res h hp;unfold ct at h;split at h<;>cases h
 exact fL hp
def mt (F:aQ):MT:=fun f=>match f with
 | 190=>some fun ds=>match ds with
   |[.one (.s 1 es),.one (.v (.int .i64 k))]=>some (fun _=>Rw [tI] es/\ag es<=1099511627776/\0<=k/\am [es] k<=1152921504606846976,[.s 1 (F.mkN es k)],[.j (F.kN [es] k)])
   |_=>none
 |_=>none
theorem du :gR (mt F0):=by
 intro f mk h ds pre outs res hm hp;unfold mt at h;split at h
 ·cases h;dsimp only at hm;split at hm
  ·cases hm;exact fM hp
  ·cases hm
 ·cases h
abbrev B :cy:={Φ:=aQ,F0:=F0,ct:=ct,hc:=aj,mt:=mt,hm:=du}
end MIntSS
theorem gq {es:aa}{left:Int}(hp:Rw [.sl [tI]] es/\0<=left/\left<=1048576):aw 126 [.one (.s 1 es),.j left] [.j (bK [es] left)]:=by
 obtain⟨hw,h0,h1⟩:=hp;have hwf:Wf [.s 1 []] es:=hw.wf;have hm:=hw.1;unfold maxLen at hm;have hs:bJ .sub .i64 left es.length=left-es.length:=cO (by omega);have hcE:ag es=es.length+bD es:=rfl;have hn:bK [es] left=if left<ag es then-1 else left-ag es:=by unfold bK;rw[cV]
 refine cb LIntSS.B Tryz.func126 ?_
 intro O r F hO hr hF;cbv
 apply bi<;>intro hb<;>cbv
 ·repeat' first|apply AT|(apply bi<;>intro hb<;>cbv)
  all_goals exact Nt
 have hb0:0<=left-es.length:=by
  (subst hO hr hF;(try simp only[nc]at*);(try simp only[ah,SS,sa,az]at*))
  rw[hs]at hb;exact hb
 clear hb;refine⟨[0,1,5],[],Int×Int,fun s=>match s with|(i,l)=>[.reg 5 (.j i),.reg 1 (.j l)],fun s=>0<=s.1/\s.1.toNat<=es.length/\0<=s.2/\s.2=left-es.length-bD (es.take s.1.toNat),fun s=>es.length-s.1.toNat,⟨(0,O.ar .sub .i64 left (O.zi (O.ln es))),?_,?_⟩,?_⟩
 ·(subst hO hr hF;(try simp only[nc]at*);(try simp only[ah,SS,sa,az]at*))
  rw[hs];exact⟨by omega,No _,hb0,by simp[bD]⟩
 ·cbv
 ·rintro⟨i,l⟩ hi;replace hi:0<=i/\i.toNat<=es.length/\0<=l/\l=left-es.length-bD (es.take i.toNat):=hi;obtain⟨g0,g1,g2,g3⟩:=hi;cbv
  repeat' first|apply AT|(apply bi<;>intro hb<;>cbv)|(refine ab (O.ar .add .i64 i 1,F.szN [O.gs es i 0] l) ?_ ?_ ?_;focus (cbv;done))
  all_goals(subst hO hr hF;(try simp only[nc]at*);(try simp only[ah,SS,sa,az]at*))
  all_goals have hle:=bF (es:=es) (n:=i.toNat)
  all_goals have hsz:=jI (a:=[aO es i 0]) (left:=l)
  all_goals((have hsz2:0<=bK [aO es i 0] l->bK [aO es i 0] l=l-ax [aO es i 0]:=oE);(try have hlt:i<es.length:=by assumption);(try have he:es.getD i.toNat []=[.s 1 (aO es i 0)]:=(au hwf g0 hlt).symm);(try rw[da (n:=es.length) g0 hlt (by omega)]);(try have hr0:Rw [tI] (aO es i 0):=Rw.sub (fs:=[.sl [tI]]) hw (by omega) rfl))
  all_goals exact Nr
theorem gu {es:aa}(hp:Rw [.sl [tI]] es/\ag es<=1048576):aw 156 [.one (.s 1 es)] [.one (.s 1 es)]:=by
 obtain⟨hw,hlim⟩:=hp;have hwf:Wf [.s 1 []] es:=hw.wf;have hlen:=cQ hlim;refine cb LIntSS.B Tryz.func156 ?_
 intro O r F hO hr hF;cbv
 have h0z:bZ es [.s 1 []] 0=O.rep (O.zi (O.ln es)) [.s 1 []]:=by
  subst hO;rw[cH];rfl
 refine⟨?_,?_,[0,3,4],[3],Int×aa,fun s=>[.reg 4 (.j s.1),.leaf 3 0 ⟨0,0,none,.own (.s 1 s.2)⟩],fun s=>0<=s.1/\s.1.toNat<=es.length/\s.2=bZ es [.s 1 []] s.1.toNat,fun s=>es.length-s.1.toNat,⟨(0,O.rep (O.zi (O.ln es)) [.s 1 []]),?_,?_⟩,?_⟩
 ·subst hO;exact jX (b:=24) (show es.length*_<=_ by omega) (show es.length<=_ by omega)
 ·subst hO;exact⟨rfl,rfl⟩
 ·exact⟨by omega,No _,h0z.symm⟩
 ·cbv
 ·rintro⟨i,m⟩ hi;replace hi:0<=i/\i.toNat<=es.length/\m=bZ es [.s 1 []] i.toNat:=hi;obtain⟨g0,g1,hm⟩:=hi;cbv
  repeat' first|apply AT|(apply bi<;>intro hb<;>cbv)|(refine ab (O.ar .add .i64 i 1,O.up (.s 1 m) [(O.ad 0 i,0)] [.s 1 (O.gs es i 0)]) ?_ ?_ ?_;focus (cbv;done))
  all_goals(subst hO hr hF;(try simp only[nc]at*);(try simp only[ah,SS,sa,az]at*);(try simp only[jC,Ws,V4]at*);(try have hlt:i<es.length:=by assumption);(try have he:es.getD i.toNat []=[.s 1 (aO es i 0)]:=(au hwf g0 hlt).symm);(try rw[da (n:=es.length) g0 hlt (by omega)]);(try have hr0:Rw [tI] (aO es i 0):=Rw.sub (fs:=[.sl [tI]]) hw (by omega) rfl))
  all_goals exact Nq
theorem gn {es:aa}{d:DV}(hp:d=.one (.s 1 es)/\Rw [.sl [tI]] es/\ag es<=1099511627776):aw 186 [.one (.s 1 es),d] [.k true]:=by
 obtain⟨rfl,hw,hlim⟩:=hp;have hwf:Wf [.s 1 []] es:=hw.wf;have hlen:=cQ hlim;refine cb LIntSS.B Tryz.func186 ?_
 intro O r F hO hr hF;cbv
 apply bi<;>intro hb<;>cbv
 ·(subst hO hr hF;(try simp only[nc]at*);(try simp only[ah,SS,sa,az]at*));exact absurd rfl hb
 ·clear hb;refine⟨[0,1,5],[],Int,fun i=>[.reg 5 (.j i)],fun i=>0<=i/\i.toNat<=es.length,fun i=>es.length-i.toNat,⟨0,?_,?_⟩,?_⟩
  ·exact⟨by omega,No _⟩
  ·cbv
  ·rintro i hi;replace hi:0<=i/\i.toNat<=es.length:=hi;obtain⟨g0,g1⟩:=hi;cbv
   repeat' first|apply AT|(apply bi<;>intro hb<;>cbv)|(refine ab (O.ar .add .i64 i 1) ?_ ?_ ?_;focus (cbv;done))
   all_goals(subst hO hr hF;(try simp only[nc]at*);(try simp only[ah,SS,sa,az]at*);(try have hlt:i<es.length:=by assumption);(try have he:es.getD i.toNat []=[.s 1 (aO es i 0)]:=(au hwf g0 hlt).symm);(try rw[da (n:=es.length) g0 hlt (by omega)]);(try have hr0:Rw [tI] (aO es i 0):=Rw.sub (fs:=[.sl [tI]]) hw (by omega) rfl))
   all_goals exact Ns
theorem fi {es:aa}{k:Int}(hp:Rw [.sl [tI]] es/\ag es<=1099511627776/\0<=k/\am [es] k<=1152921504606846976):ed 191 [.one (.s 1 es),.j k] [.s 1 (ao es k)] [.j (am [es] k)]:=by
 obtain⟨hw,hlim,hk0,hkb⟩:=hp;have hwf:Wf [.s 1 []] es:=hw.wf;have hlen:=cQ hlim;refine mb MIntSS.B [(0,0)] Tryz.func191 ?_
 intro O r os F hO hr hos hF;cbv
 refine⟨[0,1,5],[0],Int×Int×aa,fun s=>match s with|(i,k',cur)=>[.reg 5 (.j i),.reg 1 (.j k'),.leaf 0 0 ⟨0,0,some 0,.own (.s 1 cur)⟩],fun s=>0<=s.1/\s.1.toNat<=es.length/\s.2.1=dF es k s.1.toNat/\s.2.2=dS es k s.1.toNat,fun s=>es.length-s.1.toNat,⟨(0,k,es),?_,?_⟩,?_⟩
 ·exact⟨by omega,No _,bG.symm,cX.symm⟩
 ·cbv
 ·rintro⟨i,k',cur⟩ hi;replace hi:0<=i/\i.toNat<=es.length/\k'=dF es k i.toNat/\cur=dS es k i.toNat:=hi;obtain⟨g0,g1,hk',hc⟩:=hi;cbv
  repeat' first|apply AT|(apply bi<;>intro hb<;>cbv)|(refine ab (O.ar .add .i64 i 1,F.kN [O.ps (.s 1 (cur)) [(O.ad 0 i,0)]] (k'),O.up (.s 1 (cur)) [(O.ad 0 i,0)] [.s 1 (F.mkN (O.ps (.s 1 (cur)) [(O.ad 0 i,0)]) (k'))]) ?_ ?_ ?_;focus (cbv;done))
  all_goals((try subst hos);subst hO hr hF;(try simp only[nc]at*);(try simp only[ah,SS,sa,az]at*);(try have hlt:i<es.length:=by assumption);(try have he:es.getD i.toNat []=[.s 1 (aO es i 0)]:=(au hwf g0 hlt).symm);(try have hcg:cur.getD i.toNat []=[.s 1 (aO es i 0)]:=by rw[hc,cW g1];exact he);(try rw[da (n:=es.length) g0 hlt (by omega)]);(try have hlt':i.toNat<es.length:=by omega);(try have hr0:Rw [tI] (aO es i 0):=Rw.sub (fs:=[.sl [tI]]) hw (by omega) rfl))
  all_goals exact Ul
theorem fh {ms:aa}{k:Int}(hp:∃ es,ms=ao es k/\Rw [.sl [tI]] es/\ag es<=1099511627776/\0<=k/\am [ms] k<=1152921504606846976):aw 197 [.one (.s 1 ms),.j k] [.j (am [ms] k)]:=by
 obtain⟨es,hms,hw,hlim,hk0,hkb⟩:=hp;have hlen:=cQ hlim;have hml:ms.length=es.length:=by rw[hms];exact b8
 have hkk:am [ms] k=am [es] k:=by rw[hms];exact jV
 have hwm:Wf [.s 1 []] ms:=by rw[hms];exact cG hw
 have hwf:Wf [.s 1 []] es:=hw.wf;have hat:∀ n,n<es.length->ms.getD n []=(eo (es.getD n []) (dF es k n)).1:=fun n hn=>by rw[hms];exact fP hn
 refine cb MIntSS.B Tryz.func197 ?_
 intro O r F hO hr hF;cbv
 refine⟨[0,1,5],[],Int×Int,fun s=>match s with|(i,k')=>[.reg 5 (.j i),.reg 1 (.j k')],fun s=>0<=s.1/\s.1.toNat<=es.length/\s.2=dF es k s.1.toNat,fun s=>es.length-s.1.toNat,⟨(0,k),?_,?_⟩,?_⟩
 ·exact⟨by omega,No _,bG.symm⟩
 ·cbv
 ·rintro⟨i,k'⟩ hi;replace hi:0<=i/\i.toNat<=es.length/\k'=dF es k i.toNat:=hi;obtain⟨g0,g1,hk'⟩:=hi;cbv
  repeat' first|apply AT|(apply bi<;>intro hb<;>cbv)|(refine ab (O.ar .add .i64 i 1,F.kN [O.gs ms i 0] (k')) ?_ ?_ ?_;focus (cbv;done))
  all_goals(subst hO hr hF;(try simp only[nc]at*);(try simp only[ah,SS,sa,az]at*);(try have hltm:i<ms.length:=by assumption);(try have hlt:i<es.length:=by omega);(try have he:es.getD i.toNat []=[.s 1 (aO es i 0)]:=(au hwf g0 hlt).symm);(try rw[da (n:=es.length) g0 hlt (by omega)]);(try have hlt':i.toNat<es.length:=by omega);(try have hr0:Rw [tI] (aO es i 0):=Rw.sub (fs:=[.sl [tI]]) hw (by omega) rfl);(try have hct:=cq (es:=es) (n:=i.toNat) (by omega);rw[he]at hct;simp only[cL,eC,VL,Wc]at hct);(try have hks:=cI (es:=es) (k:=k) hlt';rw[he]at hks;simp only[eo,eM]at hks);(try have hem:([.s 1 (aO ms i 0)]:ay)=_:=(au hwm g0 hltm).trans (hat i.toNat hlt');rw[he]at hem;simp only[eo,eM,WI,L.v.injEq,WL,WE,L.s.injEq,true_and,and_true]at hem))
  all_goals exact Um
theorem tD {es:aa}{left:Int}(hp:Rw [tB] es/\0<=left/\left<=1048576):aw 362 [.one (.s 1 es),.j left] [.j (bK [es] left)]:=by
 obtain⟨hw,h0,h1⟩:=hp;have hc:ag es=es.length:=hw.cnt rfl;have hm:=hw.1;unfold maxLen at hm;have hs:bJ .sub .i64 left es.length=left-es.length:=cO (by omega);have hn:bK [es] left=if left<es.length then-1 else left-es.length:=by unfold bK;rw[cV,hc]
 refine cb nB Tryz.func362 ?_
 exact Jk
theorem tJ {es:aa}(hp:Rw [tB] es/\ag es<=1048576):aw 374 [.one (.s 1 es)] [.one (.s 1 es)]:=by
 obtain⟨hw,hlim⟩:=hp;have hwf:Wf [.v (.bool false)] es:=hw.wf;have hlen:=cQ hlim;refine cb nB Tryz.func374 ?_
 intro O r F hO hr hF;cbv
 have h0z:bZ es [.v (.bool false)] 0=O.rep (O.zi (O.ln es)) [.v (.bool false)]:=by
  subst hO;rw[cH];rfl
 refine⟨?_,?_,[0,3,4],[3],Int×aa,fun s=>[.reg 4 (.j s.1),.leaf 3 0 ⟨0,0,none,.own (.s 1 s.2)⟩],fun s=>0<=s.1/\s.1.toNat<=es.length/\s.2=bZ es [.v (.bool false)] s.1.toNat,fun s=>es.length-s.1.toNat,⟨(0,O.rep (O.zi (O.ln es)) [.v (.bool false)]),?_,?_⟩,?_⟩
 ·subst hO;exact jX (b:=1) (show es.length*_<=_ by omega) (show es.length<=_ by omega)
 ·subst hO;exact⟨rfl,rfl⟩
 ·exact⟨by omega,No _,h0z.symm⟩
 ·cbv
 ·rintro⟨i,m⟩ hi;replace hi:0<=i/\i.toNat<=es.length/\m=bZ es [.v (.bool false)] i.toNat:=hi;obtain⟨g0,g1,hm⟩:=hi;cbv
  repeat' first|apply AT|(apply bi<;>intro hb<;>cbv)|(refine ab (O.ar .add .i64 i 1,O.up (.s 1 m) [(O.ad 0 i,0)] [.v (.bool (O.gb es i 0))]) ?_ ?_ ?_;focus (cbv;done))
  all_goals(subst hO hr hF;(try simp only[nc]at*);(try simp only[ah,SS,sa,az]at*);(try simp only[jC,Ws,V4]at*);(try have hlt:i<es.length:=by assumption);(try have he:es.getD i.toNat []=[.v (.bool (oR es i 0))]:=(au hwf g0 hlt).symm))
  all_goals exact Jj
theorem tj {es:aa}{d:DV}(hp:d=.one (.s 1 es)/\Rw [tB] es/\ag es<=1099511627776):aw 385 [.one (.s 1 es),d] [.k true]:=by
 obtain⟨rfl,hw,hlim⟩:=hp;have hwf:Wf [.v (.bool false)] es:=hw.wf;have hlen:=cQ hlim;refine cb nB Tryz.func385 ?_
 intro O r F hO hr hF;cbv
 apply bi<;>intro hb<;>cbv
 ·(subst hO hr hF;(try simp only[nc]at*);(try simp only[ah,SS,sa,az]at*));exact absurd rfl hb
 ·clear hb;refine⟨[0,1,5],[],Int,fun i=>[.reg 5 (.j i)],fun i=>0<=i/\i.toNat<=es.length,fun i=>es.length-i.toNat,⟨0,?_,?_⟩,?_⟩
  ·exact⟨by omega,No _⟩
  ·cbv
  ·rintro i hi;replace hi:0<=i/\i.toNat<=es.length:=hi;obtain⟨g0,g1⟩:=hi;cbv
   repeat' first|apply AT|(apply bi<;>intro hb<;>cbv)|(refine ab (O.ar .add .i64 i 1) ?_ ?_ ?_;focus (cbv;done))
   all_goals(subst hO hr hF;(try simp only[nc]at*);(try simp only[ah,SS,sa,az]at*);(try have hlt:i<es.length:=by assumption);(try rw[da (n:=es.length) g0 hlt (by omega)]);(try have he:es.getD i.toNat []=[.v (.bool (oR es i 0))]:=(au hwf g0 hlt).symm);(try have hct:=cq (es:=es) (n:=i.toNat) (by omega);rw[he]at hct;simp only[cL,eC,VL,Wc]at hct))
   all_goals have hle1:=bF (es:=es) (n:=i.toNat+1)
   all_goals have hcE:ag es=es.length+bD es:=rfl
   all_goals first|omega|exact ip hwf g0 hlt|exact absurd rfl hb|trivial|trace_state
theorem pd {es:aa}{k:Int}(hp:Rw [tB] es/\ag es<=1099511627776/\0<=k/\am [es] k<=1152921504606846976):ed 388 [.one (.s 1 es),.j k] [.s 1 (ao es k)] [.j (am [es] k)]:=by
 obtain⟨hw,hlim,hk0,hkb⟩:=hp;have hwf:Wf [.v (.bool false)] es:=hw.wf;have hlen:=cQ hlim;refine mb nB [(0,0)] Tryz.func388 ?_
 intro O r os F hO hr hos hF;cbv
 refine⟨[0,1,5],[0],Int×Int×aa,fun s=>match s with|(i,k',cur)=>[.reg 5 (.j i),.reg 1 (.j k'),.leaf 0 0 ⟨0,0,some 0,.own (.s 1 cur)⟩],fun s=>0<=s.1/\s.1.toNat<=es.length/\s.2.1=dF es k s.1.toNat/\s.2.2=dS es k s.1.toNat,fun s=>es.length-s.1.toNat,⟨(0,k,es),?_,?_⟩,?_⟩
 ·exact⟨by omega,No _,bG.symm,cX.symm⟩
 ·cbv
 ·rintro⟨i,k',cur⟩ hi;replace hi:0<=i/\i.toNat<=es.length/\k'=dF es k i.toNat/\cur=dS es k i.toNat:=hi;obtain⟨g0,g1,hk',hc⟩:=hi;cbv
  repeat' first|apply AT|(apply bi<;>intro hb<;>cbv)|(refine ab (O.ar .add .i64 i 1,O.ar .add .i64 (k') 1,O.up (.s 1 (cur)) [(O.ad 0 i,0)] [.v (.bool (O.cmp .eql (O.ar .rem .i64 (k') 3) 0))]) ?_ ?_ ?_;focus (cbv;done))
  all_goals((try subst hos);subst hO hr hF;(try simp only[nc]at*);(try simp only[ah,SS,sa,az]at*);(try have hlt:i<es.length:=by assumption);(try rw[da (n:=es.length) g0 hlt (by omega)]);(try have hlt':i.toNat<es.length:=by omega);(try have he:es.getD i.toNat []=[.v (.bool (oR es i 0))]:=(au hwf g0 hlt).symm);(try have hct:=cq (es:=es) (n:=i.toNat) (by omega);rw[he]at hct;simp only[cL,eC,VL,Wc]at hct);(try have hks:=cI (es:=es) (k:=k) hlt';rw[he]at hks;simp only[eo,eM]at hks);(try have hms:=vj (es:=es) (k:=k) hlt';rw[he]at hms;simp only[eo,eM]at hms))
  all_goals have hle1:=bF (es:=es) (n:=i.toNat+1)
  all_goals have hcE:ag es=es.length+bD es:=rfl
  all_goals have hk1:=fc (es:=es) (k:=k) (n:=i.toNat)
  all_goals have hk2:=fc (es:=es) (k:=k) (n:=i.toNat+1)
  all_goals have hk3:=li (es:=es) (k:=k)
  all_goals have hk4:=fc (es:=es) (k:=k) (n:=es.length)
  all_goals have hk5:=dB (es:=es) (m:=0) (n:=i.toNat) g1 (No _)
  all_goals((have hk6:=dB (es:=es) (m:=i.toNat) (n:=es.length) (VJ _) g1);(try have hk7:=dB (es:=es) (m:=i.toNat+1) (n:=es.length) (VJ _) hlt'))
  all_goals rw[bG]at hk5
  all_goals((try have hk8:=gC (es:=es) (n:=i.toNat) hlt');(try have hcl:i.toNat<cur.length:=by rw[hc,kJ g1];exact hlt');(try have hcg:cur.getD i.toNat []=[.v (.bool (oR es i 0))]:=by rw[hc,cW g1];exact he))
  all_goals have ha1:bJ .add .i64 k' 1=k'+1:=bB (by omega)
  all_goals have ha2:bJ .add .i64 (k'+1) 1=k'+1+1:=bB (by omega)
  all_goals have ha3:bJ .add .i64 (k'+1+1) 1=k'+1+1+1:=bB (by omega)
  all_goals((have ha4:bJ .add .i64 (k'+1+1+1) 1=k'+1+1+1+1:=bB (by omega));(try simp only[ha1,ha2,ha3,ha4]);(try simp only[az]);(try simp only[vP,hcg,List.take,List.drop,List.length_cons,List.length_nil,V5,We,List.append_nil,Wc,Nat.reduceAdd,dh hcl,List.set_set,List.append_assoc]);(try simp only[oj,hcg,dh hcl,List.getD_cons_zero,List.getD_cons_succ,EK]);(try simp only[sD hcl,nP hcl,sE hcl,uM hcl,hcg,List.getElem?_cons_zero,List.getElem?_cons_succ]))
  all_goals first|exact⟨g0,hlt⟩|(refine⟨_,_,rfl,?_⟩;simp;done)|omega|(rw[hk',show i.toNat=es.length from by omega,hk3];done)|(rw[hc,show i.toNat=es.length from by omega,vi];rfl)|(rw[show(i+1).toNat=i.toNat+1 from by omega,hks,hk'];done)|(rw[show(i+1).toNat=i.toNat+1 from by omega, <-hms,hc,hk'];rfl)|trace_state
theorem o8 {ms:aa}{k:Int}(hp:∃ es,ms=ao es k/\Rw [tB] es/\ag es<=1099511627776/\0<=k/\am [ms] k<=1152921504606846976):aw 390 [.one (.s 1 ms),.j k] [.j (am [ms] k)]:=by
 obtain⟨es,hms,hw,hlim,hk0,hkb⟩:=hp;have hlen:=cQ hlim;have hml:ms.length=es.length:=by rw[hms];exact b8
 have hkk:am [ms] k=am [es] k:=by rw[hms];exact jV
 have hwm:Wf [.v (.bool false)] ms:=by rw[hms];exact cG hw
 have hwf:Wf [.v (.bool false)] es:=hw.wf;have hat:∀ n,n<es.length->ms.getD n []=(eo (es.getD n []) (dF es k n)).1:=fun n hn=>by rw[hms];exact fP hn
 refine cb nB Tryz.func390 ?_
 intro O r F hO hr hF;cbv
 refine⟨[0,1,5],[],Int×Int,fun s=>match s with|(i,k')=>[.reg 5 (.j i),.reg 1 (.j k')],fun s=>0<=s.1/\s.1.toNat<=es.length/\s.2=dF es k s.1.toNat,fun s=>es.length-s.1.toNat,⟨(0,k),?_,?_⟩,?_⟩
 ·exact⟨by omega,No _,bG.symm⟩
 ·cbv
 ·rintro⟨i,k'⟩ hi;replace hi:0<=i/\i.toNat<=es.length/\k'=dF es k i.toNat:=hi;obtain⟨g0,g1,hk'⟩:=hi;cbv
  repeat' first|apply AT|(apply bi<;>intro hb<;>cbv)|(refine ab (O.ar .add .i64 i 1,O.ar .add .i64 (k') 1) ?_ ?_ ?_;focus (cbv;done))
  all_goals(subst hO hr hF;(try simp only[nc]at*);(try simp only[ah,SS,sa,az]at*);(try have hltm:i<ms.length:=by assumption);(try have hlt:i<es.length:=by omega);(try have he:es.getD i.toNat []=[.v (.bool (oR es i 0))]:=(au hwf g0 hlt).symm);(try rw[da (n:=es.length) g0 hlt (by omega)]);(try have hlt':i.toNat<es.length:=by omega);(try have hct:=cq (es:=es) (n:=i.toNat) (by omega);rw[he]at hct;simp only[cL,eC,VL,Wc]at hct);(try have hks:=cI (es:=es) (k:=k) hlt';rw[he]at hks;simp only[eo,eM]at hks);(try have hem:([.v (.bool (oR ms i 0))]:ay)=_:=(au hwm g0 hltm).trans (hat i.toNat hlt');rw[he]at hem;simp only[eo,eM,WI,L.v.injEq,WL,WE,L.s.injEq,true_and,and_true]at hem))
  all_goals exact KV
namespace LFrames
structure aQ where
 szN:List aa->Int->Int
abbrev F0 :aQ:=⟨bK⟩
def ct (F:aQ):CT:=fun f ds=>match f,ds with
 |126,[.one (.s 1 es),.one (.v (.int .i64 left))]=>some (fun _=>Rw [.sl [tI]] es/\0<=left/\left<=1048576,[.j (F.szN [es] left)])
 |156,[.one (.s 1 es)]=>some (fun _=>Rw [.sl [tI]] es/\ag es<=1048576,[.one (.s 1 es)])
 |186,[.one (.s 1 es),d]=>some (fun _=>d=.one (.s 1 es)/\Rw [.sl [tI]] es/\ag es<=1099511627776,[.k true])
 |362,[.one (.s 1 es),.one (.v (.int .i64 left))]=>some (fun _=>Rw [tB] es/\0<=left/\left<=1048576,[.j (F.szN [es] left)])
 |374,[.one (.s 1 es)]=>some (fun _=>Rw [tB] es/\ag es<=1048576,[.one (.s 1 es)])
 |385,[.one (.s 1 es),d]=>some (fun _=>d=.one (.s 1 es)/\Rw [tB] es/\ag es<=1099511627776,[.k true])
 |_,_=>none
theorem aj :aR (ct F0):=by
 intro f ds pre res h hp;unfold ct at h;split at h<;>cases h
 exact gq hp;exact gu hp;exact gn hp;exact tD hp;exact tJ hp;exact tj hp
abbrev B :cy:=tb aj
end LFrames
namespace MFrames
structure aQ where
 kN:List aa->Int->Int
 mkN:aa->Int->aa
abbrev F0 :aQ:=⟨am,ao⟩
def ct (F:aQ):CT:=fun f ds=>match f,ds with
 |197,[.one (.s 1 ms),.one (.v (.int .i64 k))]=>some (fun _=>∃ es,ms=ao es k/\Rw [.sl [tI]] es/\ag es<=1099511627776/\0<=k/\am [ms] k<=1152921504606846976,[.j (F.kN [ms] k)])
 |390,[.one (.s 1 ms),.one (.v (.int .i64 k))]=>some (fun _=>∃ es,ms=ao es k/\Rw [tB] es/\ag es<=1099511627776/\0<=k/\am [ms] k<=1152921504606846976,[.j (F.kN [ms] k)])
 |_,_=>none
theorem aj :aR (ct F0):=by
 intro f ds pre res h hp;unfold ct at h;split at h<;>cases h
 exact fh hp;exact o8 hp
def mt (F:aQ):MT:=fun f=>match f with
 | 191=>some fun ds=>match ds with
   |[.one (.s 1 es),.one (.v (.int .i64 k))]=>some (fun _=>Rw [.sl [tI]] es/\ag es<=1099511627776/\0<=k/\am [es] k<=1152921504606846976,[.s 1 (F.mkN es k)],[.j (F.kN [es] k)])
   |_=>none
 | 388=>some fun ds=>match ds with
   |[.one (.s 1 es),.one (.v (.int .i64 k))]=>some (fun _=>Rw [tB] es/\ag es<=1099511627776/\0<=k/\am [es] k<=1152921504606846976,[.s 1 (F.mkN es k)],[.j (F.kN [es] k)])
   |_=>none
 |_=>none
theorem du :gR (mt F0):=by
 intro f mk h ds pre outs res hm hp;unfold mt at h;split at h
 ·cases h;dsimp only at hm;split at hm
  ·cases hm;exact fi hp
  ·cases hm
 ·cases h;dsimp only at hm;split at hm
  ·cases hm;exact pd hp
  ·cases hm
 ·cases h
abbrev B :cy:={Φ:=aQ,F0:=F0,ct:=ct,hc:=aj,mt:=mt,hm:=du}
end MFrames
theorem rA {a0 a1:aa}{left:Int}(hp:Rw [.sl [tI]] a0/\Rw [tB] a1/\0<=left/\left<=1048576):aw 259 [.agg [.s 1 a0,.s 1 a1],.j left] [.j (bK [a0,a1] left)]:=by
 obtain⟨w0,w1,h0,h1⟩:=hp;refine cb LFrames.B Tryz.func259 ?_
 intro O r F hO hr hF;cbv
 repeat' first|apply AT|(apply bi<;>intro hb<;>cbv)
 all_goals(subst hO hr hF;(try simp only[nc]at*);(try simp only[ah,SS,sa,az]at*);(try simp(disch:=assumption) only[hH,We,V5]at*))
 all_goals exact RA
theorem rI {a0 a1:aa}(hp:Rw [.sl [tI]] a0/\Rw [tB] a1/\ax [a0,a1]<=1048576):aw 279 [.agg [.s 1 a0,.s 1 a1]] [.agg [.s 1 a0,.s 1 a1]]:=by
 obtain⟨w0,w1,hlim⟩:=hp;simp only[ax,VL]at hlim;refine cb LFrames.B Tryz.func279 ?_
 exact Ry
theorem qY {a0 a1:aa}{d:DV}(hp:d=.agg [.s 1 a0,.s 1 a1]/\Rw [.sl [tI]] a0/\Rw [tB] a1/\ax [a0,a1]<=1099511627776):aw 298 [.agg [.s 1 a0,.s 1 a1],d] [.k true]:=by
 obtain⟨rfl,w0,w1,hlim⟩:=hp;simp only[ax,VL]at hlim;refine cb LFrames.B Tryz.func298 ?_
 exact Rx
theorem no {a0 a1:aa}{k:Int}(hp:Rw [.sl [tI]] a0/\Rw [tB] a1/\ax [a0,a1]<=1099511627776/\0<=k/\am [a0,a1] k<=1152921504606846976):ed 302 [.agg [.s 1 a0,.s 1 a1],.j k] [.s 1 (ao a0 k),.s 1 (ao a1 (am [a0] k))] [.j (am [a0,a1] k)]:=by
 obtain⟨w0,w1,hlim,hk0,hkb⟩:=hp;simp only[ax,VL]at hlim;have p0:am [a0] k<=am [a0,a1] k/\0<=am [a0] k:=bj (b:=[a1]) hk0;have p1:am [a0,a1] k<=am [a0,a1] k/\0<=am [a0,a1] k:=bj (b:=[]) hk0;refine mb MFrames.B [(2,0),(2,1)] Tryz.func302 ?_
 exact Jg
theorem mX {m0 m1:aa}{k:Int}(hp:(∃ a0,m0=ao a0 k/\Rw [.sl [tI]] a0/\ag a0<=1099511627776)/\(∃ a1,m1=ao a1 (am [m0] k)/\Rw [tB] a1/\ag a1<=1099511627776)/\0<=k/\am [m0,m1] k<=1152921504606846976):aw 305 [.agg [.s 1 m0,.s 1 m1],.j k] [.j (am [m0,m1] k)]:=by
 obtain⟨e0,e1,hk0,hkb⟩:=hp;have p0:am [m0] k<=am [m0,m1] k/\0<=am [m0] k:=bj (b:=[m1]) hk0;have p1:am [m0,m1] k<=am [m0,m1] k/\0<=am [m0,m1] k:=bj (b:=[]) hk0;refine cb MFrames.B Tryz.func305 ?_
 exact Rf
theorem tL {a0 a1:Int}(hp:True):aw 418 [.agg [.i a0,.i a1]] [.agg [.i a0,.i a1]]:=by
 refine cb nB Tryz.func418 ?_
 exact su
theorem tp {a0 a1:Int}{d:DV}(hp:d=.agg [.i a0,.i a1]):aw 422 [.agg [.i a0,.i a1],d] [.k true]:=by
 subst hp;refine cb nB Tryz.func422 ?_
 exact su
namespace LEntryS
def ct (F:aQ):CT:=fun f ds=>match f,ds with
 |418,[.agg [.v (.int .i64 a0),.v (.int .i64 a1)]]=>some (fun _=>True,[.agg [.i a0,.i a1]])
 |422,[.agg [.v (.int .i64 a0),.v (.int .i64 a1)],d]=>some (fun _=>d=.agg [.i a0,.i a1],[.k true])
 |_,_=>none
theorem aj :aR (ct F0):=by
 intro f ds pre res h hp;unfold ct at h;split at h<;>cases h
 exact tL hp;exact tp hp
abbrev B :cy:=tb aj
end LEntryS
theorem rz {es:aa}{left:Int}(hp:Rw [tI,tI] es/\0<=left/\left<=1048576):aw 363 [.one (.s 2 es),.j left] [.j (bK [es] left)]:=by
 obtain⟨hw,h0,h1⟩:=hp;have hc:ag es=es.length:=hw.cnt rfl;have hm:=hw.1;unfold maxLen at hm;have hs:bJ .sub .i64 left es.length=left-es.length:=cO (by omega);have hn:bK [es] left=if left<es.length then-1 else left-es.length:=by unfold bK;rw[cV,hc]
 refine cb LEntryS.B Tryz.func363 ?_
 exact Jk
theorem rH {es:aa}(hp:Rw [tI,tI] es/\ag es<=1048576):aw 375 [.one (.s 2 es)] [.one (.s 2 es)]:=by
 obtain⟨hw,hlim⟩:=hp;have hwf:Wf [.i 0,.i 0] es:=hw.wf;have hlen:=cQ hlim;refine cb LEntryS.B Tryz.func375 ?_
 intro O r F hO hr hF;cbv
 have h0z:bZ es [.i 0,.i 0] 0=O.rep (O.zi (O.ln es)) [.i 0,.i 0]:=by
  subst hO;rw[cH];rfl
 refine⟨?_,?_,[0,3,4],[3],Int×aa,fun s=>[.reg 4 (.j s.1),.leaf 3 0 ⟨0,0,none,.own (.s 2 s.2)⟩],fun s=>0<=s.1/\s.1.toNat<=es.length/\s.2=bZ es [.i 0,.i 0] s.1.toNat,fun s=>es.length-s.1.toNat,⟨(0,O.rep (O.zi (O.ln es)) [.i 0,.i 0]),?_,?_⟩,?_⟩
 ·subst hO;exact jX (b:=16) (show es.length*_<=_ by omega) (show es.length<=_ by omega)
 ·subst hO;exact⟨rfl,rfl⟩
 ·exact⟨by omega,No _,h0z.symm⟩
 ·cbv
 ·rintro⟨i,m⟩ hi;replace hi:0<=i/\i.toNat<=es.length/\m=bZ es [.i 0,.i 0] i.toNat:=hi;obtain⟨g0,g1,hm⟩:=hi;cbv
  repeat' first|apply AT|(apply bi<;>intro hb<;>cbv)|(refine ab (O.ar .add .i64 i 1,O.up (.s 2 m) [(O.ad 0 i,0)] [.i (O.gi es i 0),.i (O.gi es i 1)]) ?_ ?_ ?_;focus (cbv;done))
  all_goals(subst hO hr hF;(try simp only[nc]at*);(try simp only[ah,SS,sa,az]at*);(try simp only[jC,Ws,V4]at*);(try have hlt:i<es.length:=by assumption);(try have he:es.getD i.toNat []=[.i (af es i 0),.i (af es i 1)]:=(au hwf g0 hlt).symm))
  all_goals exact Jj
theorem qX {es:aa}{d:DV}(hp:d=.one (.s 2 es)/\Rw [tI,tI] es/\ag es<=1099511627776):aw 386 [.one (.s 2 es),d] [.k true]:=by
 obtain⟨rfl,hw,hlim⟩:=hp;have hwf:Wf [.i 0,.i 0] es:=hw.wf;have hlen:=cQ hlim;refine cb LEntryS.B Tryz.func386 ?_
 intro O r F hO hr hF;cbv
 apply bi<;>intro hb<;>cbv
 ·(subst hO hr hF;(try simp only[nc]at*);(try simp only[ah,SS,sa,az]at*));exact absurd rfl hb
 ·clear hb;refine⟨[0,1,5],[],Int,fun i=>[.reg 5 (.j i)],fun i=>0<=i/\i.toNat<=es.length,fun i=>es.length-i.toNat,⟨0,?_,?_⟩,?_⟩
  ·exact⟨by omega,No _⟩
  ·cbv
  ·rintro i hi;replace hi:0<=i/\i.toNat<=es.length:=hi;obtain⟨g0,g1⟩:=hi;cbv
   repeat' first|apply AT|(apply bi<;>intro hb<;>cbv)|(refine ab (O.ar .add .i64 i 1) ?_ ?_ ?_;focus (cbv;done))
   all_goals(subst hO hr hF;(try simp only[nc]at*);(try simp only[ah,SS,sa,az]at*);(try have hlt:i<es.length:=by assumption);(try have he:es.getD i.toNat []=[.i (af es i 0),.i (af es i 1)]:=(au hwf g0 hlt).symm))
   all_goals exact KW
theorem nk {es:aa}{k:Int}(hp:Rw [tI,tI] es/\ag es<=1099511627776/\0<=k/\am [es] k<=1152921504606846976):ed 389 [.one (.s 2 es),.j k] [.s 2 (ao es k)] [.j (am [es] k)]:=by
 obtain⟨hw,hlim,hk0,hkb⟩:=hp;have hwf:Wf [.i 0,.i 0] es:=hw.wf;have hlen:=cQ hlim;refine mb nB [(0,0)] Tryz.func389 ?_
 intro O r os F hO hr hos hF;cbv
 refine⟨[0,1,5],[0],Int×Int×aa,fun s=>match s with|(i,k',cur)=>[.reg 5 (.j i),.reg 1 (.j k'),.leaf 0 0 ⟨0,0,some 0,.own (.s 2 cur)⟩],fun s=>0<=s.1/\s.1.toNat<=es.length/\s.2.1=dF es k s.1.toNat/\s.2.2=dS es k s.1.toNat,fun s=>es.length-s.1.toNat,⟨(0,k,es),?_,?_⟩,?_⟩
 ·exact⟨by omega,No _,bG.symm,cX.symm⟩
 ·cbv
 ·rintro⟨i,k',cur⟩ hi;replace hi:0<=i/\i.toNat<=es.length/\k'=dF es k i.toNat/\cur=dS es k i.toNat:=hi;obtain⟨g0,g1,hk',hc⟩:=hi;cbv
  repeat' first|apply AT|(apply bi<;>intro hb<;>cbv)|(refine ab (O.ar .add .i64 i 1,O.ar .add .i64 (O.ar .add .i64 (k') 1) 1,O.up (.s 2 (O.up (.s 2 (cur)) [(O.ad 0 i,0)] [.i (k')])) [(O.ad 0 i,1)] [.i (O.ar .add .i64 (k') 1)]) ?_ ?_ ?_;focus (cbv;done))
  all_goals((try subst hos);subst hO hr hF;(try simp only[nc]at*);(try simp only[ah,SS,sa,az]at*);(try have hlt:i<es.length:=by assumption);(try have he:es.getD i.toNat []=[.i (af es i 0),.i (af es i 1)]:=(au hwf g0 hlt).symm);(try have hcg:cur.getD i.toNat []=[.i (af es i 0),.i (af es i 1)]:=by rw[hc,cW g1];exact he))
  all_goals exact KU
theorem mW {ms:aa}{k:Int}(hp:∃ es,ms=ao es k/\Rw [tI,tI] es/\ag es<=1099511627776/\0<=k/\am [ms] k<=1152921504606846976):aw 391 [.one (.s 2 ms),.j k] [.j (am [ms] k)]:=by
 obtain⟨es,hms,hw,hlim,hk0,hkb⟩:=hp;have hlen:=cQ hlim;have hml:ms.length=es.length:=by rw[hms];exact b8
 have hkk:am [ms] k=am [es] k:=by rw[hms];exact jV
 have hwm:Wf [.i 0,.i 0] ms:=by rw[hms];exact cG hw
 have hwf:Wf [.i 0,.i 0] es:=hw.wf;have hat:∀ n,n<es.length->ms.getD n []=(eo (es.getD n []) (dF es k n)).1:=fun n hn=>by rw[hms];exact fP hn
 refine cb nB Tryz.func391 ?_
 intro O r F hO hr hF;cbv
 refine⟨[0,1,5],[],Int×Int,fun s=>match s with|(i,k')=>[.reg 5 (.j i),.reg 1 (.j k')],fun s=>0<=s.1/\s.1.toNat<=es.length/\s.2=dF es k s.1.toNat,fun s=>es.length-s.1.toNat,⟨(0,k),?_,?_⟩,?_⟩
 ·exact⟨by omega,No _,bG.symm⟩
 ·cbv
 ·rintro⟨i,k'⟩ hi;replace hi:0<=i/\i.toNat<=es.length/\k'=dF es k i.toNat:=hi;obtain⟨g0,g1,hk'⟩:=hi;cbv
  repeat' first|apply AT|(apply bi<;>intro hb<;>cbv)|(refine ab (O.ar .add .i64 i 1,O.ar .add .i64 (O.ar .add .i64 (k') 1) 1) ?_ ?_ ?_;focus (cbv;done))
  all_goals(subst hO hr hF;(try simp only[nc]at*);(try simp only[ah,SS,sa,az]at*);(try have hltm:i<ms.length:=by assumption);(try have hlt:i<es.length:=by omega);(try have he:es.getD i.toNat []=[.i (af es i 0),.i (af es i 1)]:=(au hwf g0 hlt).symm);(try rw[da (n:=es.length) g0 hlt (by omega)]);(try have hlt':i.toNat<es.length:=by omega);(try have hct:=cq (es:=es) (n:=i.toNat) (by omega);rw[he]at hct;simp only[cL,eC,VL,Wc]at hct);(try have hks:=cI (es:=es) (k:=k) hlt';rw[he]at hks;simp only[eo,eM]at hks);(try have hem:([.i (af ms i 0),.i (af ms i 1)]:ay)=_:=(au hwm g0 hltm).trans (hat i.toNat hlt');rw[he]at hem;simp only[eo,eM,WI,L.v.injEq,WL,WE,L.s.injEq,true_and,and_true]at hem))
  all_goals exact KV
namespace LTable
structure aQ where
 szN:List aa->Int->Int
abbrev F0 :aQ:=⟨bK⟩
def ct (F:aQ):CT:=fun f ds=>match f,ds with
 |363,[.one (.s 2 es),.one (.v (.int .i64 left))]=>some (fun _=>Rw [tI,tI] es/\0<=left/\left<=1048576,[.j (F.szN [es] left)])
 |375,[.one (.s 2 es)]=>some (fun _=>Rw [tI,tI] es/\ag es<=1048576,[.one (.s 2 es)])
 |386,[.one (.s 2 es),d]=>some (fun _=>d=.one (.s 2 es)/\Rw [tI,tI] es/\ag es<=1099511627776,[.k true])
 |_,_=>none
theorem aj :aR (ct F0):=by
 intro f ds pre res h hp;unfold ct at h;split at h<;>cases h
 exact rz hp;exact rH hp;exact qX hp
abbrev B :cy:=tb aj
end LTable
namespace MTable
structure aQ where
 kN:List aa->Int->Int
 mkN:aa->Int->aa
abbrev F0 :aQ:=⟨am,ao⟩
def ct (F:aQ):CT:=fun f ds=>match f,ds with
 |391,[.one (.s 2 ms),.one (.v (.int .i64 k))]=>some (fun _=>∃ es,ms=ao es k/\Rw [tI,tI] es/\ag es<=1099511627776/\0<=k/\am [ms] k<=1152921504606846976,[.j (F.kN [ms] k)])
 |_,_=>none
theorem aj :aR (ct F0):=by
 intro f ds pre res h hp;unfold ct at h;split at h<;>cases h
 exact mW hp
def mt (F:aQ):MT:=fun f=>match f with
 | 389=>some fun ds=>match ds with
   |[.one (.s 2 es),.one (.v (.int .i64 k))]=>some (fun _=>Rw [tI,tI] es/\ag es<=1099511627776/\0<=k/\am [es] k<=1152921504606846976,[.s 2 (F.mkN es k)],[.j (F.kN [es] k)])
   |_=>none
 |_=>none
theorem du :gR (mt F0):=by
 intro f mk h ds pre outs res hm hp;unfold mt at h;split at h
 ·cases h;dsimp only at hm;split at hm
  ·cases hm;exact nk hp
  ·cases hm
 ·cases h
abbrev B :cy:={Φ:=aQ,F0:=F0,ct:=ct,hc:=aj,mt:=mt,hm:=du}
end MTable
theorem tH {a0:aa}{left:Int}(hp:Rw [tI,tI] a0/\0<=left/\left<=1048576):aw 260 [.agg [.s 2 a0],.j left] [.j (bK [a0] left)]:=by
 obtain⟨w0,h0,h1⟩:=hp;refine cb LTable.B Tryz.func260 ?_
 intro O r F hO hr hF;cbv
 repeat' first|apply AT|(apply bi<;>intro hb<;>cbv)
 all_goals(subst hO hr hF;(try simp only[nc]at*);(try simp only[ah,SS,sa,az]at*);(try simp(disch:=assumption) only[hH,We,V5]at*))
 all_goals first|trivial|(rw[gJ (by assumption)])|trace_state
theorem tR {a0:aa}(hp:Rw [tI,tI] a0/\ax [a0]<=1048576):aw 280 [.agg [.s 2 a0]] [.agg [.s 2 a0]]:=by
 obtain⟨w0,hlim⟩:=hp;simp only[ax,VL]at hlim;refine cb LTable.B Tryz.func280 ?_
 exact su
theorem tz {a0:aa}{d:DV}(hp:d=.agg [.s 2 a0]/\Rw [tI,tI] a0/\ax [a0]<=1099511627776):aw 299 [.agg [.s 2 a0],d] [.k true]:=by
 obtain⟨rfl,w0,hlim⟩:=hp;simp only[ax,VL]at hlim;refine cb LTable.B Tryz.func299 ?_
 exact su
theorem pk {a0:aa}{k:Int}(hp:Rw [tI,tI] a0/\ax [a0]<=1099511627776/\0<=k/\am [a0] k<=1152921504606846976):ed 303 [.agg [.s 2 a0],.j k] [.s 2 (ao a0 k)] [.j (am [a0] k)]:=by
 obtain⟨w0,hlim,hk0,hkb⟩:=hp;simp only[ax,VL]at hlim;have p0:am [a0] k<=am [a0] k/\0<=am [a0] k:=bj (b:=[]) hk0;refine mb MTable.B [(2,0)] Tryz.func303 ?_
 exact Ji
theorem pc {m0:aa}{k:Int}(hp:(∃ a0,m0=ao a0 k/\Rw [tI,tI] a0/\ag a0<=1099511627776)/\0<=k/\am [m0] k<=1152921504606846976):aw 306 [.agg [.s 2 m0],.j k] [.j (am [m0] k)]:=by
 obtain⟨e0,hk0,hkb⟩:=hp;have p0:am [m0] k<=am [m0] k/\0<=am [m0] k:=bj (b:=[]) hk0;refine cb MTable.B Tryz.func306 ?_
 exact Jh
namespace LMachine
structure aQ where
 szN:List aa->Int->Int
abbrev F0 :aQ:=⟨bK⟩
def ct (F:aQ):CT:=fun f ds=>match f,ds with
 |259,[.agg [.s 1 a0,.s 1 a1],.one (.v (.int .i64 left))]=>some (fun _=>Rw [.sl [tI]] a0/\Rw [tB] a1/\0<=left/\left<=1048576,[.j (F.szN [a0,a1] left)])
 |279,[.agg [.s 1 a0,.s 1 a1]]=>some (fun _=>Rw [.sl [tI]] a0/\Rw [tB] a1/\ax [a0,a1]<=1048576,[.agg [.s 1 a0,.s 1 a1]])
 |298,[.agg [.s 1 a0,.s 1 a1],d]=>some (fun _=>d=.agg [.s 1 a0,.s 1 a1]/\Rw [.sl [tI]] a0/\Rw [tB] a1/\ax [a0,a1]<=1099511627776,[.k true])
 |260,[.agg [.s 2 a0],.one (.v (.int .i64 left))]=>some (fun _=>Rw [tI,tI] a0/\0<=left/\left<=1048576,[.j (F.szN [a0] left)])
 |280,[.agg [.s 2 a0]]=>some (fun _=>Rw [tI,tI] a0/\ax [a0]<=1048576,[.agg [.s 2 a0]])
 |299,[.agg [.s 2 a0],d]=>some (fun _=>d=.agg [.s 2 a0]/\Rw [tI,tI] a0/\ax [a0]<=1099511627776,[.k true])
 |_,_=>none
theorem aj :aR (ct F0):=by
 intro f ds pre res h hp;unfold ct at h;split at h<;>cases h
 exact rA hp;exact rI hp;exact qY hp;exact tH hp;exact tR hp;exact tz hp
abbrev B :cy:=tb aj
end LMachine
namespace MMachine
structure aQ where
 kN:List aa->Int->Int
 mkN:aa->Int->aa
abbrev F0 :aQ:=⟨am,ao⟩
def ct (F:aQ):CT:=fun f ds=>match f,ds with
 |305,[.agg [.s 1 m0,.s 1 m1],.one (.v (.int .i64 k))]=>some (fun _=>(∃ a0,m0=ao a0 k/\Rw [.sl [tI]] a0/\ag a0<=1099511627776)/\(∃ a1,m1=ao a1 (am [m0] k)/\Rw [tB] a1/\ag a1<=1099511627776)/\0<=k/\am [m0,m1] k<=1152921504606846976,[.j (F.kN [m0,m1] k)])
 |306,[.agg [.s 2 m0],.one (.v (.int .i64 k))]=>some (fun _=>(∃ a0,m0=ao a0 k/\Rw [tI,tI] a0/\ag a0<=1099511627776)/\0<=k/\am [m0] k<=1152921504606846976,[.j (F.kN [m0] k)])
 |_,_=>none
theorem aj :aR (ct F0):=by
 intro f ds pre res h hp;unfold ct at h;split at h<;>cases h
 exact mX hp;exact pc hp
def mt (F:aQ):MT:=fun f=>match f with
 | 302=>some fun ds=>match ds with
   |[.agg [.s 1 a0,.s 1 a1],.one (.v (.int .i64 k))]=>some (fun _=>Rw [.sl [tI]] a0/\Rw [tB] a1/\ax [a0,a1]<=1099511627776/\0<=k/\am [a0,a1] k<=1152921504606846976,[.s 1 (F.mkN a0 k),.s 1 (F.mkN a1 (F.kN [a0] k))],[.j (F.kN [a0,a1] k)])
   |_=>none
 | 303=>some fun ds=>match ds with
   |[.agg [.s 2 a0],.one (.v (.int .i64 k))]=>some (fun _=>Rw [tI,tI] a0/\ax [a0]<=1099511627776/\0<=k/\am [a0] k<=1152921504606846976,[.s 2 (F.mkN a0 k)],[.j (F.kN [a0] k)])
   |_=>none
 |_=>none
theorem du :gR (mt F0):=by
 intro f mk h ds pre outs res hm hp;unfold mt at h;split at h
 ·cases h;dsimp only at hm;split at hm
  ·cases hm;exact no hp
  ·cases hm
 ·cases h;dsimp only at hm;split at hm
  ·cases hm;exact pk hp
  ·cases hm
 ·cases h
abbrev B :cy:={Φ:=aQ,F0:=F0,ct:=ct,hc:=aj,mt:=mt,hm:=du}
end MMachine
theorem pm {a0 a1 a2:aa}{left:Int}(hp:Rw [.sl [tI]] a0/\Rw [tB] a1/\Rw [tI,tI] a2/\0<=left/\left<=1048576):aw 122 [.agg [.s 1 a0,.s 1 a1,.s 2 a2],.j left] [.j (bK [a0,a1,a2] left)]:=by
 obtain⟨w0,w1,w2,h0,h1⟩:=hp;refine cb LMachine.B Tryz.func122 ?_
 intro O r F hO hr hF;cbv
 repeat' first|apply AT|(apply bi<;>intro hb<;>cbv)
 all_goals(subst hO hr hF;(try simp only[nc]at*);(try simp only[ah,SS,sa,az]at*);(try simp(disch:=assumption) only[hH,We,V5]at*))
 all_goals first|trivial|(refine⟨by assumption,by omega,by first|omega|exact YM (vM (by assumption)) h1⟩)|(rw[gJ (by assumption)])|exact congrArg (fun x=>[DV.one (L.v (Wg Wx x))]) (dV (a:=[a0,a1]) (b:=[a2]) (by assumption)).symm|trace_state
theorem po {a0 a1 a2:aa}(hp:Rw [.sl [tI]] a0/\Rw [tB] a1/\Rw [tI,tI] a2/\ax [a0,a1,a2]<=1048576):aw 148 [.agg [.s 1 a0,.s 1 a1,.s 2 a2]] [.agg [.s 1 a0,.s 1 a1,.s 2 a2]]:=by
 obtain⟨w0,w1,w2,hlim⟩:=hp;simp only[ax,VL]at hlim;refine cb LMachine.B Tryz.func148 ?_
 intro O r F hO hr hF;cbv
 repeat' first|apply AT|(apply bi<;>intro hb<;>cbv)
 all_goals(subst hO hr hF;(try simp only[nc]at*);(try simp only[ah,SS,sa,az]at*))
 all_goals first|trivial|(refine⟨by assumption,?_⟩;(try simp only[ax,VL]);omega)|(refine⟨by assumption,by assumption,?_⟩;(try simp only[ax,VL]);omega)|trace_state
theorem o7 {a0 a1 a2:aa}{d:DV}(hp:d=.agg [.s 1 a0,.s 1 a1,.s 2 a2]/\Rw [.sl [tI]] a0/\Rw [tB] a1/\Rw [tI,tI] a2/\ax [a0,a1,a2]<=1099511627776):aw 178 [.agg [.s 1 a0,.s 1 a1,.s 2 a2],d] [.k true]:=by
 obtain⟨rfl,w0,w1,w2,hlim⟩:=hp;simp only[ax,VL]at hlim;refine cb LMachine.B Tryz.func178 ?_
 intro O r F hO hr hF;cbv
 repeat' first|apply AT|(apply bi<;>intro hb<;>cbv)
 all_goals(subst hO hr hF;(try simp only[nc]at*);(try simp only[ah,SS,sa,az]at*))
 all_goals first|trivial|(refine⟨trivial,by assumption,?_⟩;(try simp only[ax,VL]);omega)|(refine⟨trivial,by assumption,by assumption,?_⟩;(try simp only[ax,VL]);omega)|trace_state
theorem md {a0 a1 a2:aa}{k:Int}(hp:Rw [.sl [tI]] a0/\Rw [tB] a1/\Rw [tI,tI] a2/\ax [a0,a1,a2]<=1099511627776/\0<=k/\am [a0,a1,a2] k<=1152921504606846976):ed 189 [.agg [.s 1 a0,.s 1 a1,.s 2 a2],.j k] [.s 1 (ao a0 k),.s 1 (ao a1 (am [a0] k)),.s 2 (ao a2 (am [a0,a1] k))] [.j (am [a0,a1,a2] k)]:=by
 obtain⟨w0,w1,w2,hlim,hk0,hkb⟩:=hp;simp only[ax,VL]at hlim;have p0:am [a0] k<=am [a0,a1,a2] k/\0<=am [a0] k:=bj (b:=[a1,a2]) hk0;have p1:am [a0,a1] k<=am [a0,a1,a2] k/\0<=am [a0,a1] k:=bj (b:=[a2]) hk0;have p2:am [a0,a1,a2] k<=am [a0,a1,a2] k/\0<=am [a0,a1,a2] k:=bj (b:=[]) hk0;refine mb MMachine.B [(2,0),(2,1),(2,2)] Tryz.func189 ?_
 exact Jg
theorem ma {m0 m1 m2:aa}{k:Int}(hp:(∃ a0,m0=ao a0 k/\Rw [.sl [tI]] a0/\ag a0<=1099511627776)/\(∃ a1,m1=ao a1 (am [m0] k)/\Rw [tB] a1/\ag a1<=1099511627776)/\(∃ a2,m2=ao a2 (am [m0,m1] k)/\Rw [tI,tI] a2/\ag a2<=1099511627776)/\0<=k/\am [m0,m1,m2] k<=1152921504606846976):aw 195 [.agg [.s 1 m0,.s 1 m1,.s 2 m2],.j k] [.j (am [m0,m1,m2] k)]:=by
 obtain⟨e0,e1,e2,hk0,hkb⟩:=hp;have p0:am [m0] k<=am [m0,m1,m2] k/\0<=am [m0] k:=bj (b:=[m1,m2]) hk0;have p1:am [m0,m1] k<=am [m0,m1,m2] k/\0<=am [m0,m1] k:=bj (b:=[m2]) hk0;have p2:am [m0,m1,m2] k<=am [m0,m1,m2] k/\0<=am [m0,m1,m2] k:=bj (b:=[]) hk0;refine cb MMachine.B Tryz.func195 ?_
 intro O r F hO hr hF;cbv
 repeat' first|apply AT|(apply bi<;>intro hb<;>cbv)
 all_goals(subst hO hr hF;(try simp only[nc]at*);(try simp only[ah,SS,sa,az]at*);(try simp only[fk,We,V5]at*))
 all_goals first|trivial|(exfalso;omega)|(obtain⟨x,y1,y2,y3⟩:=e0;exact⟨x,y1,y2,y3,by omega,by omega⟩)|(obtain⟨x,y1,y2,y3⟩:=e1;exact⟨x,y1,y2,y3,by omega,by omega⟩)|(obtain⟨x,y1,y2,y3⟩:=e2;exact⟨x,y1,y2,y3,by omega,by omega⟩)|(refine⟨by assumption,by omega,by omega⟩)|(refine⟨by assumption,by assumption,by omega,by omega⟩)|(refine⟨by assumption,by assumption,by assumption,by omega,by omega⟩)|trace_state
namespace LKernel
structure aQ where
 szN:List aa->Int->Int
abbrev F0 :aQ:=⟨bK⟩
def ct (F:aQ):CT:=fun f ds=>match f,ds with
 |122,[.agg [.s 1 a0,.s 1 a1,.s 2 a2],.one (.v (.int .i64 left))]=>some (fun _=>Rw [.sl [tI]] a0/\Rw [tB] a1/\Rw [tI,tI] a2/\0<=left/\left<=1048576,[.j (F.szN [a0,a1,a2] left)])
 |148,[.agg [.s 1 a0,.s 1 a1,.s 2 a2]]=>some (fun _=>Rw [.sl [tI]] a0/\Rw [tB] a1/\Rw [tI,tI] a2/\ax [a0,a1,a2]<=1048576,[.agg [.s 1 a0,.s 1 a1,.s 2 a2]])
 |178,[.agg [.s 1 a0,.s 1 a1,.s 2 a2],d]=>some (fun _=>d=.agg [.s 1 a0,.s 1 a1,.s 2 a2]/\Rw [.sl [tI]] a0/\Rw [tB] a1/\Rw [tI,tI] a2/\ax [a0,a1,a2]<=1099511627776,[.k true])
 |123,[.one (.s 1 es),.one (.v (.int .i64 left))]=>some (fun _=>Rw [tI] es/\0<=left/\left<=1048576,[.j (F.szN [es] left)])
 |149,[.one (.s 1 es)]=>some (fun _=>Rw [tI] es/\ag es<=1048576,[.one (.s 1 es)])
 |179,[.one (.s 1 es),d]=>some (fun _=>d=.one (.s 1 es)/\Rw [tI] es/\ag es<=1099511627776,[.k true])
 |_,_=>none
theorem aj :aR (ct F0):=by
 intro f ds pre res h hp;unfold ct at h;split at h<;>cases h
 exact pm hp;exact po hp;exact o7 hp;exact hY hp;exact hZ hp;exact hP hp
abbrev B :cy:=tb aj
end LKernel
namespace MKernel
structure aQ where
 kN:List aa->Int->Int
 mkN:aa->Int->aa
abbrev F0 :aQ:=⟨am,ao⟩
def ct (F:aQ):CT:=fun f ds=>match f,ds with
 |195,[.agg [.s 1 m0,.s 1 m1,.s 2 m2],.one (.v (.int .i64 k))]=>some (fun _=>(∃ a0,m0=ao a0 k/\Rw [.sl [tI]] a0/\ag a0<=1099511627776)/\(∃ a1,m1=ao a1 (am [m0] k)/\Rw [tB] a1/\ag a1<=1099511627776)/\(∃ a2,m2=ao a2 (am [m0,m1] k)/\Rw [tI,tI] a2/\ag a2<=1099511627776)/\0<=k/\am [m0,m1,m2] k<=1152921504606846976,[.j (F.kN [m0,m1,m2] k)])
 |196,[.one (.s 1 ms),.one (.v (.int .i64 k))]=>some (fun _=>∃ es,ms=ao es k/\Rw [tI] es/\ag es<=1099511627776/\0<=k/\am [ms] k<=1152921504606846976,[.j (F.kN [ms] k)])
 |_,_=>none
theorem aj :aR (ct F0):=by
 intro f ds pre res h hp;unfold ct at h;split at h<;>cases h
 exact ma hp;exact fL hp
def mt (F:aQ):MT:=fun f=>match f with
 | 189=>some fun ds=>match ds with
   |[.agg [.s 1 a0,.s 1 a1,.s 2 a2],.one (.v (.int .i64 k))]=>some (fun _=>Rw [.sl [tI]] a0/\Rw [tB] a1/\Rw [tI,tI] a2/\ax [a0,a1,a2]<=1099511627776/\0<=k/\am [a0,a1,a2] k<=1152921504606846976,[.s 1 (F.mkN a0 k),.s 1 (F.mkN a1 (F.kN [a0] k)),.s 2 (F.mkN a2 (F.kN [a0,a1] k))],[.j (F.kN [a0,a1,a2] k)])
   |_=>none
 | 190=>some fun ds=>match ds with
   |[.one (.s 1 es),.one (.v (.int .i64 k))]=>some (fun _=>Rw [tI] es/\ag es<=1099511627776/\0<=k/\am [es] k<=1152921504606846976,[.s 1 (F.mkN es k)],[.j (F.kN [es] k)])
   |_=>none
 |_=>none
theorem du :gR (mt F0):=by
 intro f mk h ds pre outs res hm hp;unfold mt at h;split at h
 ·cases h;dsimp only at hm;split at hm
  ·cases hm;exact md hp
  ·cases hm
 ·cases h;dsimp only at hm;split at hm
  ·cases hm;exact fM hp
  ·cases hm
 ·cases h
abbrev B :cy:={Φ:=aQ,F0:=F0,ct:=ct,hc:=aj,mt:=mt,hm:=du}
end MKernel
theorem rB {a0 a1 a2:aa}{a3:Int}{a4:aa}{left:Int}(hp:Rw [.sl [tI]] a0/\Rw [tB] a1/\Rw [tI,tI] a2/\Rw [tI] a4/\0<=left/\left<=1048576):aw 32 [.agg [.s 1 a0,.s 1 a1,.s 2 a2,.i a3,.s 1 a4],.j left] [.j (bK [a0,a1,a2,a4] left)]:=by
 obtain⟨w0,w1,w2,w3,h0,h1⟩:=hp;refine cb LKernel.B Tryz.func32 ?_
 intro O r F hO hr hF;cbv
 repeat' first|apply AT|(apply bi<;>intro hb<;>cbv)
 all_goals(subst hO hr hF;(try simp only[nc]at*);(try simp only[ah,SS,sa,az]at*);(try simp(disch:=assumption) only[hH,We,V5]at*))
 all_goals first|trivial|(refine⟨by assumption,by omega,by first|omega|exact YM (vM (by assumption)) h1⟩)|(rw[gJ (by assumption)])|exact congrArg (fun x=>[DV.one (L.v (Wg Wx x))]) (dV (a:=[a0,a1,a2]) (b:=[a4]) (by assumption)).symm|trace_state
theorem rJ {a0 a1 a2:aa}{a3:Int}{a4:aa}(hp:Rw [.sl [tI]] a0/\Rw [tB] a1/\Rw [tI,tI] a2/\Rw [tI] a4/\ax [a0,a1,a2,a4]<=1048576):aw 44 [.agg [.s 1 a0,.s 1 a1,.s 2 a2,.i a3,.s 1 a4]] [.agg [.s 1 a0,.s 1 a1,.s 2 a2,.i a3,.s 1 a4]]:=by
 obtain⟨w0,w1,w2,w3,hlim⟩:=hp;simp only[ax,VL]at hlim;refine cb LKernel.B Tryz.func44 ?_
 intro O r F hO hr hF;cbv
 repeat' first|apply AT|(apply bi<;>intro hb<;>cbv)
 all_goals(subst hO hr hF;(try simp only[nc]at*);(try simp only[ah,SS,sa,az]at*))
 all_goals first|trivial|(refine⟨by assumption,?_⟩;(try simp only[ax,VL]);omega)|(refine⟨by assumption,by assumption,by assumption,?_⟩;(try simp only[ax,VL]);omega)|trace_state
theorem qZ {a0 a1 a2:aa}{a3:Int}{a4:aa}{d:DV}(hp:d=.agg [.s 1 a0,.s 1 a1,.s 2 a2,.i a3,.s 1 a4]/\Rw [.sl [tI]] a0/\Rw [tB] a1/\Rw [tI,tI] a2/\Rw [tI] a4/\ax [a0,a1,a2,a4]<=1099511627776):aw 56 [.agg [.s 1 a0,.s 1 a1,.s 2 a2,.i a3,.s 1 a4],d] [.k true]:=by
 obtain⟨rfl,w0,w1,w2,w3,hlim⟩:=hp;simp only[ax,VL]at hlim;refine cb LKernel.B Tryz.func56 ?_
 intro O r F hO hr hF;cbv
 repeat' first|apply AT|(apply bi<;>intro hb<;>cbv)
 all_goals(subst hO hr hF;(try simp only[nc]at*);(try simp only[ah,SS,sa,az]at*))
 all_goals first|trivial|(refine⟨trivial,by assumption,?_⟩;(try simp only[ax,VL]);omega)|(refine⟨trivial,by assumption,by assumption,by assumption,?_⟩;(try simp only[ax,VL]);omega)|trace_state
theorem np {a0 a1 a2:aa}{a3:Int}{a4:aa}{k:Int}(hp:Rw [.sl [tI]] a0/\Rw [tB] a1/\Rw [tI,tI] a2/\Rw [tI] a4/\ax [a0,a1,a2,a4]<=1099511627776/\0<=k/\am [a0,a1,a2,a4] k<=1152921504606846976):ed 65 [.agg [.s 1 a0,.s 1 a1,.s 2 a2,.i a3,.s 1 a4],.j k] [.s 1 (ao a0 k),.s 1 (ao a1 (am [a0] k)),.s 2 (ao a2 (am [a0,a1] k)),.s 1 (ao a4 (am [a0,a1,a2] k))] [.j (am [a0,a1,a2,a4] k)]:=by
 obtain⟨w0,w1,w2,w3,hlim,hk0,hkb⟩:=hp;simp only[ax,VL]at hlim;have p0:am [a0] k<=am [a0,a1,a2,a4] k/\0<=am [a0] k:=bj (b:=[a1,a2,a4]) hk0;have p1:am [a0,a1] k<=am [a0,a1,a2,a4] k/\0<=am [a0,a1] k:=bj (b:=[a2,a4]) hk0;have p2:am [a0,a1,a2] k<=am [a0,a1,a2,a4] k/\0<=am [a0,a1,a2] k:=bj (b:=[a4]) hk0;have p3:am [a0,a1,a2,a4] k<=am [a0,a1,a2,a4] k/\0<=am [a0,a1,a2,a4] k:=bj (b:=[]) hk0;refine mb MKernel.B [(2,0),(2,1),(2,2),(2,4)] Tryz.func65 ?_
 exact Jg
theorem mY {m0 m1 m2:aa}{m3:Int}{m4:aa}{k:Int}(hp:(∃ a0,m0=ao a0 k/\Rw [.sl [tI]] a0/\ag a0<=1099511627776)/\(∃ a1,m1=ao a1 (am [m0] k)/\Rw [tB] a1/\ag a1<=1099511627776)/\(∃ a2,m2=ao a2 (am [m0,m1] k)/\Rw [tI,tI] a2/\ag a2<=1099511627776)/\(∃ a4,m4=ao a4 (am [m0,m1,m2] k)/\Rw [tI] a4/\ag a4<=1099511627776)/\0<=k/\am [m0,m1,m2,m4] k<=1152921504606846976):aw 74 [.agg [.s 1 m0,.s 1 m1,.s 2 m2,.i m3,.s 1 m4],.j k] [.j (am [m0,m1,m2,m4] k)]:=by
 obtain⟨e0,e1,e2,e3,hk0,hkb⟩:=hp;have p0:am [m0] k<=am [m0,m1,m2,m4] k/\0<=am [m0] k:=bj (b:=[m1,m2,m4]) hk0;have p1:am [m0,m1] k<=am [m0,m1,m2,m4] k/\0<=am [m0,m1] k:=bj (b:=[m2,m4]) hk0;have p2:am [m0,m1,m2] k<=am [m0,m1,m2,m4] k/\0<=am [m0,m1,m2] k:=bj (b:=[m4]) hk0;have p3:am [m0,m1,m2,m4] k<=am [m0,m1,m2,m4] k/\0<=am [m0,m1,m2,m4] k:=bj (b:=[]) hk0;refine cb MKernel.B Tryz.func74 ?_
 intro O r F hO hr hF;cbv
 repeat' first|apply AT|(apply bi<;>intro hb<;>cbv)
 all_goals(subst hO hr hF;(try simp only[nc]at*);(try simp only[ah,SS,sa,az]at*);(try simp only[fk,We,V5]at*))
 all_goals first|trivial|(exfalso;omega)|(obtain⟨x,y1,y2,y3⟩:=e0;exact⟨x,y1,y2,y3,by omega,by omega⟩)|(obtain⟨x,y1,y2,y3⟩:=e1;exact⟨x,y1,y2,y3,by omega,by omega⟩)|(obtain⟨x,y1,y2,y3⟩:=e2;exact⟨x,y1,y2,y3,by omega,by omega⟩)|(obtain⟨x,y1,y2,y3⟩:=e3;exact⟨x,y1,y2,y3,by omega,by omega⟩)|(refine⟨by assumption,by omega,by omega⟩)|(refine⟨by assumption,by assumption,by omega,by omega⟩)|(refine⟨by assumption,by assumption,by assumption,by omega,by omega⟩)|(refine⟨by assumption,by assumption,by assumption,by assumption,by omega,by omega⟩)|trace_state
end Go.V