/- Contracts. -/
import Derived.Test.YtbedjnlfdopeeaaGreatXS14
set_option linter.all false
open Go
open And renaming intro->Zb
open Int renaming toNat_natCast->ZG,le_trans->Xy
open IntKind renaming i64->ZC,i64->Za
open List renaming length_replicate->Yj,nil_append->ZH,cons_append->ZJ
open List.cons renaming injEq->Yf
open Nat renaming zero_le->Zd,add_zero->Zh,zero_add->Zy,le_refl->Zf
open Value renaming int->Zn
open Value.bool renaming injEq->Yp
open Value.int renaming injEq->Yo
namespace Go.V
open Go Go.Proofs
set_option maxRecDepth 1000000
set_option maxHeartbeats 8000000
theorem ig {es:aa}{left:Int}(hp:Rw [tI] es/\0<=left/\left<=1048576):ap 94 [.one (.s 1 es),.j left] [.j (bN [es] left)]:=by
 obtain⟨hw,h0,h1⟩:=hp;have hc:ah es=es.length:=hw.cnt rfl;have hm:=hw.1;unfold maxLen at hm;have hs:bK .sub Za left es.length=left-es.length:=cN (by omega);have hn:bN [es] left=if left<es.length then-1 else left-es.length:=by unfold bN;rw[cZ,hc]
 refine cb nB Tryz.func94 ?_
 exact JC
theorem il {es:aa}(hp:Rw [tI] es/\ah es<=1048576):ap 108 [.one (.s 1 es)] [.one (.s 1 es)]:=by
 obtain⟨hw,hlim⟩:=hp;have hwf:Wf [.i 0] es:=hw.wf;have hlen:=cS hlim;refine cb nB Tryz.func108 ?_
 intro O r F hO hr hF;cbv
 have h0z:b9 es [.i 0] 0=O.rep (O.zi (O.ln es)) [.i 0]:=by
  subst hO;rw[cJ];rfl
 refine⟨?_,?_,[0,3,4],[3],Int×aa,fun s=>[.reg 4 (.j s.1),.leaf 3 0 ⟨0,0,none,.own (.s 1 s.2)⟩],fun s=>0<=s.1/\s.1.toNat<=es.length/\s.2=b9 es [.i 0] s.1.toNat,fun s=>es.length-s.1.toNat,⟨(0,O.rep (O.zi (O.ln es)) [.i 0]),?_,?_⟩,?_⟩
 ·subst hO;exact jO (b:=8) (show es.length*_<=_ by omega) (show es.length<=_ by omega)
 ·subst hO;exact⟨rfl,rfl⟩
 ·exact⟨by omega,Zd _,h0z.symm⟩
 ·cbv
 ·rintro⟨i,m⟩ hi;replace hi:0<=i/\i.toNat<=es.length/\m=b9 es [.i 0] i.toNat:=hi;obtain⟨g0,g1,hm⟩:=hi;cbv
  repeat' first|apply Zb|(apply bu<;>intro hb<;>cbv)|(refine ab (O.ar .add Za i 1,O.up (.s 1 m) [(O.ad 0 i,0)] [.i (O.gi es i 0)]) ?_ ?_ ?_;focus (cbv;done))
  all_goals(subst hO hr hF;(try simp only[nc]at*);(try simp only[ak,SS,sa,az]at*);(try simp only[jq,Yj,ZG]at*);(try have hlt:i<es.length:=by assumption);(try have he:es.getD i.toNat []=[.i (ag es i 0)]:=(ao hwf g0 hlt).symm))
  all_goals exact JB
theorem ie {es:aa}{d:DV}(hp:d=.one (.s 1 es)/\Rw [tI] es/\ah es<=1099511627776):ap 142 [.one (.s 1 es),d] [.k true]:=by
 obtain⟨rfl,hw,hlim⟩:=hp;have hwf:Wf [.i 0] es:=hw.wf;have hlen:=cS hlim;refine cb nB Tryz.func142 ?_
 intro O r F hO hr hF;cbv
 apply bu<;>intro hb<;>cbv
 ·(subst hO hr hF;(try simp only[nc]at*);(try simp only[ak,SS,sa,az]at*));exact absurd rfl hb
 ·clear hb;refine⟨[0,1,5],[],Int,fun i=>[.reg 5 (.j i)],fun i=>0<=i/\i.toNat<=es.length,fun i=>es.length-i.toNat,⟨0,?_,?_⟩,?_⟩;exact⟨by omega,Zd _⟩
  ·cbv
  ·rintro i hi;replace hi:0<=i/\i.toNat<=es.length:=hi;obtain⟨g0,g1⟩:=hi;cbv
   repeat' first|apply Zb|(apply bu<;>intro hb<;>cbv)|(refine ab (O.ar .add Za i 1) ?_ ?_ ?_;focus (cbv;done))
   all_goals(subst hO hr hF;(try simp only[nc]at*);(try simp only[ak,SS,sa,az]at*);(try have hlt:i<es.length:=by assumption);(try have he:es.getD i.toNat []=[.i (ag es i 0)]:=(ao hwf g0 hlt).symm))
   all_goals exact Ln
theorem fT {es:aa}{k:Int}(hp:Rw [tI] es/\ah es<=1099511627776/\0<=k/\au [es] k<=1152921504606846976):eb 153 [.one (.s 1 es),.j k] [.s 1 (aU es k)] [.j (au [es] k)]:=by
 obtain⟨hw,hlim,hk0,hkb⟩:=hp;have hwf:Wf [.i 0] es:=hw.wf;have hlen:=cS hlim;refine mb nB [(0,0)] Tryz.func153 ?_
 intro O r os F hO hr hos hF;cbv
 refine⟨[0,1,5],[0],Int×Int×aa,fun s=>match s with|(i,k',cur)=>[.reg 5 (.j i),.reg 1 (.j k'),.leaf 0 0 ⟨0,0,some 0,.own (.s 1 cur)⟩],fun s=>0<=s.1/\s.1.toNat<=es.length/\s.2.1=dH es k s.1.toNat/\s.2.2=dT es k s.1.toNat,fun s=>es.length-s.1.toNat,⟨(0,k,es),?_,?_⟩,?_⟩;exact⟨by omega,Zd _,bJ.symm,db.symm⟩
 ·cbv
 ·rintro⟨i,k',cur⟩ hi;replace hi:0<=i/\i.toNat<=es.length/\k'=dH es k i.toNat/\cur=dT es k i.toNat:=hi;obtain⟨g0,g1,hk',hc⟩:=hi;cbv
  repeat' first|apply Zb|(apply bu<;>intro hb<;>cbv)|(refine ab (O.ar .add Za i 1,O.ar .add Za (k') 1,O.up (.s 1 (cur)) [(O.ad 0 i,0)] [.i (k')]) ?_ ?_ ?_;focus (cbv;done))
  all_goals((try subst hos);subst hO hr hF;(try simp only[nc]at*);(try simp only[ak,SS,sa,az]at*);(try have hlt:i<es.length:=by assumption);(try have he:es.getD i.toNat []=[.i (ag es i 0)]:=(ao hwf g0 hlt).symm);(try have hcg:cur.getD i.toNat []=[.i (ag es i 0)]:=by rw[hc,da g1];exact he))
  all_goals exact Ll
theorem fS {ms:aa}{k:Int}(hp:∃ es,ms=aU es k/\Rw [tI] es/\ah es<=1099511627776/\0<=k/\au [ms] k<=1152921504606846976):ap 159 [.one (.s 1 ms),.j k] [.j (au [ms] k)]:=by
 obtain⟨es,hms,hw,hlim,hk0,hkb⟩:=hp;have hlen:=cS hlim;have hml:ms.length=es.length:=by rw[hms];exact ca
 have hkk:au [ms] k=au [es] k:=by rw[hms];exact jM
 have hwm:Wf [.i 0] ms:=by rw[hms];exact cI hw
 have hwf:Wf [.i 0] es:=hw.wf;have hat:∀ n,n<es.length->ms.getD n []=(eh (es.getD n []) (dH es k n)).1:=fun n hn=>by rw[hms];exact fX hn
 refine cb nB Tryz.func159 ?_
 intro O r F hO hr hF;cbv
 refine⟨[0,1,5],[],Int×Int,fun s=>match s with|(i,k')=>[.reg 5 (.j i),.reg 1 (.j k')],fun s=>0<=s.1/\s.1.toNat<=es.length/\s.2=dH es k s.1.toNat,fun s=>es.length-s.1.toNat,⟨(0,k),?_,?_⟩,?_⟩;exact⟨by omega,Zd _,bJ.symm⟩
 ·cbv
 ·rintro⟨i,k'⟩ hi;replace hi:0<=i/\i.toNat<=es.length/\k'=dH es k i.toNat:=hi;obtain⟨g0,g1,hk'⟩:=hi;cbv
  repeat' first|apply Zb|(apply bu<;>intro hb<;>cbv)|(refine ab (O.ar .add Za i 1,O.ar .add Za (k') 1) ?_ ?_ ?_;focus (cbv;done))
  all_goals(subst hO hr hF;(try simp only[nc]at*);(try simp only[ak,SS,sa,az]at*);(try have hltm:i<ms.length:=by assumption);(try have hlt:i<es.length:=by omega);(try rw[de (n:=es.length) g0 hlt (by omega)]);(try have hlt':i.toNat<es.length:=by omega);(try have he:es.getD i.toNat []=[.i (ag es i 0)]:=(ao hwf g0 hlt).symm);(try have hct:=cu (es:=es) (n:=i.toNat) (by omega);rw[he]at hct;simp only[cP,eA,Zh,Zy]at hct);(try have hks:=cK (es:=es) (k:=k) hlt';rw[he]at hks;simp only[eh,eN]at hks);(try have hem:([.i (ag ms i 0)]:ay)=_:=(ao hwm g0 hltm).trans (hat i.toNat hlt');rw[he]at hem;simp only[eh,eN,Yf,L.v.injEq,Yo,Yp,L.s.injEq,true_and,and_true]at hem))
  all_goals have hle1:=bH (es:=es) (n:=i.toNat+1)
  all_goals have hcE:ah es=es.length+bG es:=rfl
  all_goals have hk1:=fb (es:=es) (k:=k) (n:=i.toNat)
  all_goals have hk2:=fb (es:=es) (k:=k) (n:=i.toNat+1)
  all_goals have hk3:=kT (es:=es) (k:=k)
  all_goals have hk4:=fb (es:=es) (k:=k) (n:=es.length)
  all_goals have hk5:=dF (es:=es) (m:=0) (n:=i.toNat) g1 (Zd _)
  all_goals((have hk6:=dF (es:=es) (m:=i.toNat) (n:=es.length) (Zf _) g1);(try have hk7:=dF (es:=es) (m:=i.toNat+1) (n:=es.length) (Zf _) hlt'))
  all_goals rw[bJ]at hk5
  all_goals((try have hk8:=gF (es:=es) (n:=i.toNat) hlt');(try rw[<-hk']at hem hks))
  all_goals have ha1:bK .add Za k' 1=k'+1:=bh (by omega)
  all_goals have ha2:bK .add Za (k'+1) 1=k'+1+1:=bh (by omega)
  all_goals have ha3:bK .add Za (k'+1+1) 1=k'+1+1+1:=bh (by omega)
  all_goals((have ha4:bK .add Za (k'+1+1+1) 1=k'+1+1+1+1:=bh (by omega));(try simp only[ha1,ha2,ha3,ha4]at*))
  all_goals first|exact iC hwm g0 hltm|omega|(rw[hk',show i.toNat=es.length from by omega,hk3,hkk];done)|(rw[show(i+1).toNat=i.toNat+1 from by omega,hks];done)|trace_state
namespace LIntSS
structure aP where
 szN:List aa->Int->Int
abbrev F0:aP:=⟨bN⟩
def ct (F:aP):CT:=fun f ds=>match f,ds with
 |94,[.one (.s 1 es),.one (.v (.int Za left))]=>some (fun _=>Rw [tI] es/\0<=left/\left<=1048576,[.j (F.szN [es] left)])
 |108,[.one (.s 1 es)]=>some (fun _=>Rw [tI] es/\ah es<=1048576,[.one (.s 1 es)])
 |142,[.one (.s 1 es),d]=>some (fun _=>d=.one (.s 1 es)/\Rw [tI] es/\ah es<=1099511627776,[.k true])
 |_,_=>none
theorem aj:aT (ct F0):=by
 intro f ds pre res h hp;unfold ct at h;split at h<;>cases h
 exact ig hp;exact il hp;exact ie hp
abbrev B:cF:=tb aj
end LIntSS
namespace MIntSS
structure aP where
 kN:List aa->Int->Int
 mkN:aa->Int->aa
abbrev F0:aP:=⟨au,aU⟩
def ct (F:aP):CT:=fun f ds=>match f,ds with
 |159,[.one (.s 1 ms),.one (.v (.int Za k))]=>some (fun _=>∃ es,ms=aU es k/\Rw [tI] es/\ah es<=1099511627776/\0<=k/\au [ms] k<=1152921504606846976,[.j (F.kN [ms] k)])
 |_,_=>none
theorem aj:aT (ct F0):=by
 intro f ds pre res h hp;unfold ct at h;split at h<;>cases h
 exact fS hp
def mt (F:aP):MT:=fun f=>match f with
 | 153=>some fun ds=>match ds with
   |[.one (.s 1 es),.one (.v (.int Za k))]=>some (fun _=>Rw [tI] es/\ah es<=1099511627776/\0<=k/\au [es] k<=1152921504606846976,[.s 1 (F.mkN es k)],[.j (F.kN [es] k)])
   |_=>none
 |_=>none
theorem dB:gY (mt F0):=by
 intro f mk h ds pre outs res hm hp;unfold mt at h;split at h
 ·cases h;dsimp only at hm;split at hm
  ·cases hm;exact fT hp
  ·cases hm
 ·cases h
abbrev B:cF:={Φ:=aP,F0:=F0,ct:=ct,hc:=aj,mt:=mt,hm:=dB}
end MIntSS
theorem gx {es:aa}{left:Int}(hp:Rw [.sl [tI]] es/\0<=left/\left<=1048576):ap 97 [.one (.s 1 es),.j left] [.j (bN [es] left)]:=by
 obtain⟨hw,h0,h1⟩:=hp;have hwf:Wf [.s 1 []] es:=hw.wf;have hm:=hw.1;unfold maxLen at hm;have hs:bK .sub Za left es.length=left-es.length:=cN (by omega);have hcE:ah es=es.length+bG es:=rfl;have hn:bN [es] left=if left<ah es then-1 else left-ah es:=by unfold bN;rw[cZ]
 refine cb LIntSS.B Tryz.func97 ?_
 intro O r F hO hr hF;cbv
 apply bu<;>intro hb<;>cbv
 ·repeat' first|apply Zb|(apply bu<;>intro hb<;>cbv)
  all_goals exact N4
 have hb0:0<=left-es.length:=by
  (subst hO hr hF;(try simp only[nc]at*);(try simp only[ak,SS,sa,az]at*))
  rw[hs]at hb;exact hb
 clear hb;refine⟨[0,1,5],[],Int×Int,fun s=>match s with|(i,l)=>[.reg 5 (.j i),.reg 1 (.j l)],fun s=>0<=s.1/\s.1.toNat<=es.length/\0<=s.2/\s.2=left-es.length-bG (es.take s.1.toNat),fun s=>es.length-s.1.toNat,⟨(0,O.ar .sub Za left (O.zi (O.ln es))),?_,?_⟩,?_⟩
 ·(subst hO hr hF;(try simp only[nc]at*);(try simp only[ak,SS,sa,az]at*))
  rw[hs];exact⟨by omega,Zd _,hb0,by simp[bG]⟩
 ·cbv
 ·rintro⟨i,l⟩ hi;replace hi:0<=i/\i.toNat<=es.length/\0<=l/\l=left-es.length-bG (es.take i.toNat):=hi;obtain⟨g0,g1,g2,g3⟩:=hi;cbv
  repeat' first|apply Zb|(apply bu<;>intro hb<;>cbv)|(refine ab (O.ar .add Za i 1,F.szN [O.gs es i 0] l) ?_ ?_ ?_;focus (cbv;done))
  all_goals(subst hO hr hF;(try simp only[nc]at*);(try simp only[ak,SS,sa,az]at*))
  all_goals have hle:=bH (es:=es) (n:=i.toNat)
  all_goals have hsz:=jv (a:=[aR es i 0]) (left:=l)
  all_goals((have hsz2:0<=bN [aR es i 0] l->bN [aR es i 0] l=l-av [aR es i 0]:=nW);(try have hlt:i<es.length:=by assumption);(try have he:es.getD i.toNat []=[.s 1 (aR es i 0)]:=(ao hwf g0 hlt).symm);(try rw[de (n:=es.length) g0 hlt (by omega)]);(try have hr0:Rw [tI] (aR es i 0):=Rw.sub (fs:=[.sl [tI]]) hw (by omega) rfl))
  all_goals exact N0
theorem gy {es:aa}(hp:Rw [.sl [tI]] es/\ah es<=1048576):ap 115 [.one (.s 1 es)] [.one (.s 1 es)]:=by
 obtain⟨hw,hlim⟩:=hp;have hwf:Wf [.s 1 []] es:=hw.wf;have hlen:=cS hlim;refine cb LIntSS.B Tryz.func115 ?_
 intro O r F hO hr hF;cbv
 have h0z:b9 es [.s 1 []] 0=O.rep (O.zi (O.ln es)) [.s 1 []]:=by
  subst hO;rw[cJ];rfl
 refine⟨?_,?_,[0,3,4],[3],Int×aa,fun s=>[.reg 4 (.j s.1),.leaf 3 0 ⟨0,0,none,.own (.s 1 s.2)⟩],fun s=>0<=s.1/\s.1.toNat<=es.length/\s.2=b9 es [.s 1 []] s.1.toNat,fun s=>es.length-s.1.toNat,⟨(0,O.rep (O.zi (O.ln es)) [.s 1 []]),?_,?_⟩,?_⟩
 ·subst hO;exact jO (b:=24) (show es.length*_<=_ by omega) (show es.length<=_ by omega)
 ·subst hO;exact⟨rfl,rfl⟩
 ·exact⟨by omega,Zd _,h0z.symm⟩
 ·cbv
 ·rintro⟨i,m⟩ hi;replace hi:0<=i/\i.toNat<=es.length/\m=b9 es [.s 1 []] i.toNat:=hi;obtain⟨g0,g1,hm⟩:=hi;cbv
  repeat' first|apply Zb|(apply bu<;>intro hb<;>cbv)|(refine ab (O.ar .add Za i 1,O.up (.s 1 m) [(O.ad 0 i,0)] [.s 1 (O.gs es i 0)]) ?_ ?_ ?_;focus (cbv;done))
  all_goals(subst hO hr hF;(try simp only[nc]at*);(try simp only[ak,SS,sa,az]at*);(try simp only[jq,Yj,ZG]at*);(try have hlt:i<es.length:=by assumption);(try have he:es.getD i.toNat []=[.s 1 (aR es i 0)]:=(ao hwf g0 hlt).symm);(try rw[de (n:=es.length) g0 hlt (by omega)]);(try have hr0:Rw [tI] (aR es i 0):=Rw.sub (fs:=[.sl [tI]]) hw (by omega) rfl))
  all_goals exact NZ
theorem gw {es:aa}{d:DV}(hp:d=.one (.s 1 es)/\Rw [.sl [tI]] es/\ah es<=1099511627776):ap 149 [.one (.s 1 es),d] [.k true]:=by
 obtain⟨rfl,hw,hlim⟩:=hp;have hwf:Wf [.s 1 []] es:=hw.wf;have hlen:=cS hlim;refine cb LIntSS.B Tryz.func149 ?_
 intro O r F hO hr hF;cbv
 apply bu<;>intro hb<;>cbv
 ·(subst hO hr hF;(try simp only[nc]at*);(try simp only[ak,SS,sa,az]at*));exact absurd rfl hb
 ·clear hb;refine⟨[0,1,5],[],Int,fun i=>[.reg 5 (.j i)],fun i=>0<=i/\i.toNat<=es.length,fun i=>es.length-i.toNat,⟨0,?_,?_⟩,?_⟩;exact⟨by omega,Zd _⟩
  ·cbv
  ·rintro i hi;replace hi:0<=i/\i.toNat<=es.length:=hi;obtain⟨g0,g1⟩:=hi;cbv
   repeat' first|apply Zb|(apply bu<;>intro hb<;>cbv)|(refine ab (O.ar .add Za i 1) ?_ ?_ ?_;focus (cbv;done))
   all_goals(subst hO hr hF;(try simp only[nc]at*);(try simp only[ak,SS,sa,az]at*);(try have hlt:i<es.length:=by assumption);(try have he:es.getD i.toNat []=[.s 1 (aR es i 0)]:=(ao hwf g0 hlt).symm);(try rw[de (n:=es.length) g0 hlt (by omega)]);(try have hr0:Rw [tI] (aR es i 0):=Rw.sub (fs:=[.sl [tI]]) hw (by omega) rfl))
   all_goals exact N1
theorem fj {es:aa}{k:Int}(hp:Rw [.sl [tI]] es/\ah es<=1099511627776/\0<=k/\au [es] k<=1152921504606846976):eb 154 [.one (.s 1 es),.j k] [.s 1 (aU es k)] [.j (au [es] k)]:=by
 obtain⟨hw,hlim,hk0,hkb⟩:=hp;have hwf:Wf [.s 1 []] es:=hw.wf;have hlen:=cS hlim;refine mb MIntSS.B [(0,0)] Tryz.func154 ?_
 intro O r os F hO hr hos hF;cbv
 refine⟨[0,1,5],[0],Int×Int×aa,fun s=>match s with|(i,k',cur)=>[.reg 5 (.j i),.reg 1 (.j k'),.leaf 0 0 ⟨0,0,some 0,.own (.s 1 cur)⟩],fun s=>0<=s.1/\s.1.toNat<=es.length/\s.2.1=dH es k s.1.toNat/\s.2.2=dT es k s.1.toNat,fun s=>es.length-s.1.toNat,⟨(0,k,es),?_,?_⟩,?_⟩;exact⟨by omega,Zd _,bJ.symm,db.symm⟩
 ·cbv
 ·rintro⟨i,k',cur⟩ hi;replace hi:0<=i/\i.toNat<=es.length/\k'=dH es k i.toNat/\cur=dT es k i.toNat:=hi;obtain⟨g0,g1,hk',hc⟩:=hi;cbv
  repeat' first|apply Zb|(apply bu<;>intro hb<;>cbv)|(refine ab (O.ar .add Za i 1,F.kN [O.ps (.s 1 (cur)) [(O.ad 0 i,0)]] (k'),O.up (.s 1 (cur)) [(O.ad 0 i,0)] [.s 1 (F.mkN (O.ps (.s 1 (cur)) [(O.ad 0 i,0)]) (k'))]) ?_ ?_ ?_;focus (cbv;done))
  all_goals((try subst hos);subst hO hr hF;(try simp only[nc]at*);(try simp only[ak,SS,sa,az]at*);(try have hlt:i<es.length:=by assumption);(try have he:es.getD i.toNat []=[.s 1 (aR es i 0)]:=(ao hwf g0 hlt).symm);(try have hcg:cur.getD i.toNat []=[.s 1 (aR es i 0)]:=by rw[hc,da g1];exact he);(try rw[de (n:=es.length) g0 hlt (by omega)]);(try have hlt':i.toNat<es.length:=by omega);(try have hr0:Rw [tI] (aR es i 0):=Rw.sub (fs:=[.sl [tI]]) hw (by omega) rfl))
  all_goals exact Vb
theorem fi {ms:aa}{k:Int}(hp:∃ es,ms=aU es k/\Rw [.sl [tI]] es/\ah es<=1099511627776/\0<=k/\au [ms] k<=1152921504606846976):ap 160 [.one (.s 1 ms),.j k] [.j (au [ms] k)]:=by
 obtain⟨es,hms,hw,hlim,hk0,hkb⟩:=hp;have hlen:=cS hlim;have hml:ms.length=es.length:=by rw[hms];exact ca
 have hkk:au [ms] k=au [es] k:=by rw[hms];exact jM
 have hwm:Wf [.s 1 []] ms:=by rw[hms];exact cI hw
 have hwf:Wf [.s 1 []] es:=hw.wf;have hat:∀ n,n<es.length->ms.getD n []=(eh (es.getD n []) (dH es k n)).1:=fun n hn=>by rw[hms];exact fX hn
 refine cb MIntSS.B Tryz.func160 ?_
 intro O r F hO hr hF;cbv
 refine⟨[0,1,5],[],Int×Int,fun s=>match s with|(i,k')=>[.reg 5 (.j i),.reg 1 (.j k')],fun s=>0<=s.1/\s.1.toNat<=es.length/\s.2=dH es k s.1.toNat,fun s=>es.length-s.1.toNat,⟨(0,k),?_,?_⟩,?_⟩;exact⟨by omega,Zd _,bJ.symm⟩
 ·cbv
 ·rintro⟨i,k'⟩ hi;replace hi:0<=i/\i.toNat<=es.length/\k'=dH es k i.toNat:=hi;obtain⟨g0,g1,hk'⟩:=hi;cbv
  repeat' first|apply Zb|(apply bu<;>intro hb<;>cbv)|(refine ab (O.ar .add Za i 1,F.kN [O.gs ms i 0] (k')) ?_ ?_ ?_;focus (cbv;done))
  all_goals(subst hO hr hF;(try simp only[nc]at*);(try simp only[ak,SS,sa,az]at*);(try have hltm:i<ms.length:=by assumption);(try have hlt:i<es.length:=by omega);(try have he:es.getD i.toNat []=[.s 1 (aR es i 0)]:=(ao hwf g0 hlt).symm);(try rw[de (n:=es.length) g0 hlt (by omega)]);(try have hlt':i.toNat<es.length:=by omega);(try have hr0:Rw [tI] (aR es i 0):=Rw.sub (fs:=[.sl [tI]]) hw (by omega) rfl);(try have hct:=cu (es:=es) (n:=i.toNat) (by omega);rw[he]at hct;simp only[cP,eA,Zh,Zy]at hct);(try have hks:=cK (es:=es) (k:=k) hlt';rw[he]at hks;simp only[eh,eN]at hks);(try have hem:([.s 1 (aR ms i 0)]:ay)=_:=(ao hwm g0 hltm).trans (hat i.toNat hlt');rw[he]at hem;simp only[eh,eN,Yf,L.v.injEq,Yo,Yp,L.s.injEq,true_and,and_true]at hem))
  all_goals exact Vd
theorem tc {es:aa}{left:Int}(hp:Rw [tB] es/\0<=left/\left<=1048576):ap 301 [.one (.s 1 es),.j left] [.j (bN [es] left)]:=by
 obtain⟨hw,h0,h1⟩:=hp;have hc:ah es=es.length:=hw.cnt rfl;have hm:=hw.1;unfold maxLen at hm;have hs:bK .sub Za left es.length=left-es.length:=cN (by omega);have hn:bN [es] left=if left<es.length then-1 else left-es.length:=by unfold bN;rw[cZ,hc]
 refine cb nB Tryz.func301 ?_
 exact JC
theorem tn {es:aa}(hp:Rw [tB] es/\ah es<=1048576):ap 307 [.one (.s 1 es)] [.one (.s 1 es)]:=by
 obtain⟨hw,hlim⟩:=hp;have hwf:Wf [.v (.bool false)] es:=hw.wf;have hlen:=cS hlim;refine cb nB Tryz.func307 ?_
 intro O r F hO hr hF;cbv
 have h0z:b9 es [.v (.bool false)] 0=O.rep (O.zi (O.ln es)) [.v (.bool false)]:=by
  subst hO;rw[cJ];rfl
 refine⟨?_,?_,[0,3,4],[3],Int×aa,fun s=>[.reg 4 (.j s.1),.leaf 3 0 ⟨0,0,none,.own (.s 1 s.2)⟩],fun s=>0<=s.1/\s.1.toNat<=es.length/\s.2=b9 es [.v (.bool false)] s.1.toNat,fun s=>es.length-s.1.toNat,⟨(0,O.rep (O.zi (O.ln es)) [.v (.bool false)]),?_,?_⟩,?_⟩
 ·subst hO;exact jO (b:=1) (show es.length*_<=_ by omega) (show es.length<=_ by omega)
 ·subst hO;exact⟨rfl,rfl⟩
 ·exact⟨by omega,Zd _,h0z.symm⟩
 ·cbv
 ·rintro⟨i,m⟩ hi;replace hi:0<=i/\i.toNat<=es.length/\m=b9 es [.v (.bool false)] i.toNat:=hi;obtain⟨g0,g1,hm⟩:=hi;cbv
  repeat' first|apply Zb|(apply bu<;>intro hb<;>cbv)|(refine ab (O.ar .add Za i 1,O.up (.s 1 m) [(O.ad 0 i,0)] [.v (.bool (O.gb es i 0))]) ?_ ?_ ?_;focus (cbv;done))
  all_goals(subst hO hr hF;(try simp only[nc]at*);(try simp only[ak,SS,sa,az]at*);(try simp only[jq,Yj,ZG]at*);(try have hlt:i<es.length:=by assumption);(try have he:es.getD i.toNat []=[.v (.bool (od es i 0))]:=(ao hwf g0 hlt).symm))
  all_goals exact JB
theorem sT {es:aa}{d:DV}(hp:d=.one (.s 1 es)/\Rw [tB] es/\ah es<=1099511627776):ap 322 [.one (.s 1 es),d] [.k true]:=by
 obtain⟨rfl,hw,hlim⟩:=hp;have hwf:Wf [.v (.bool false)] es:=hw.wf;have hlen:=cS hlim;refine cb nB Tryz.func322 ?_
 intro O r F hO hr hF;cbv
 apply bu<;>intro hb<;>cbv
 ·(subst hO hr hF;(try simp only[nc]at*);(try simp only[ak,SS,sa,az]at*));exact absurd rfl hb
 ·clear hb;refine⟨[0,1,5],[],Int,fun i=>[.reg 5 (.j i)],fun i=>0<=i/\i.toNat<=es.length,fun i=>es.length-i.toNat,⟨0,?_,?_⟩,?_⟩;exact⟨by omega,Zd _⟩
  ·cbv
  ·rintro i hi;replace hi:0<=i/\i.toNat<=es.length:=hi;obtain⟨g0,g1⟩:=hi;cbv
   repeat' first|apply Zb|(apply bu<;>intro hb<;>cbv)|(refine ab (O.ar .add Za i 1) ?_ ?_ ?_;focus (cbv;done))
   all_goals(subst hO hr hF;(try simp only[nc]at*);(try simp only[ak,SS,sa,az]at*);(try have hlt:i<es.length:=by assumption);(try rw[de (n:=es.length) g0 hlt (by omega)]);(try have he:es.getD i.toNat []=[.v (.bool (od es i 0))]:=(ao hwf g0 hlt).symm);(try have hct:=cu (es:=es) (n:=i.toNat) (by omega);rw[he]at hct;simp only[cP,eA,Zh,Zy]at hct))
   all_goals have hle1:=bH (es:=es) (n:=i.toNat+1)
   all_goals have hcE:ah es=es.length+bG es:=rfl
   all_goals first|omega|exact iC hwf g0 hlt|exact absurd rfl hb|trivial|trace_state
theorem oI {es:aa}{k:Int}(hp:Rw [tB] es/\ah es<=1099511627776/\0<=k/\au [es] k<=1152921504606846976):eb 325 [.one (.s 1 es),.j k] [.s 1 (aU es k)] [.j (au [es] k)]:=by
 obtain⟨hw,hlim,hk0,hkb⟩:=hp;have hwf:Wf [.v (.bool false)] es:=hw.wf;have hlen:=cS hlim;refine mb nB [(0,0)] Tryz.func325 ?_
 intro O r os F hO hr hos hF;cbv
 refine⟨[0,1,5],[0],Int×Int×aa,fun s=>match s with|(i,k',cur)=>[.reg 5 (.j i),.reg 1 (.j k'),.leaf 0 0 ⟨0,0,some 0,.own (.s 1 cur)⟩],fun s=>0<=s.1/\s.1.toNat<=es.length/\s.2.1=dH es k s.1.toNat/\s.2.2=dT es k s.1.toNat,fun s=>es.length-s.1.toNat,⟨(0,k,es),?_,?_⟩,?_⟩;exact⟨by omega,Zd _,bJ.symm,db.symm⟩
 ·cbv
 ·rintro⟨i,k',cur⟩ hi;replace hi:0<=i/\i.toNat<=es.length/\k'=dH es k i.toNat/\cur=dT es k i.toNat:=hi;obtain⟨g0,g1,hk',hc⟩:=hi;cbv
  repeat' first|apply Zb|(apply bu<;>intro hb<;>cbv)|(refine ab (O.ar .add Za i 1,O.ar .add Za (k') 1,O.up (.s 1 (cur)) [(O.ad 0 i,0)] [.v (.bool (O.cmp .eql (O.ar .rem Za (k') 3) 0))]) ?_ ?_ ?_;focus (cbv;done))
  all_goals((try subst hos);subst hO hr hF;(try simp only[nc]at*);(try simp only[ak,SS,sa,az]at*);(try have hlt:i<es.length:=by assumption);(try rw[de (n:=es.length) g0 hlt (by omega)]);(try have hlt':i.toNat<es.length:=by omega);(try have he:es.getD i.toNat []=[.v (.bool (od es i 0))]:=(ao hwf g0 hlt).symm);(try have hct:=cu (es:=es) (n:=i.toNat) (by omega);rw[he]at hct;simp only[cP,eA,Zh,Zy]at hct);(try have hks:=cK (es:=es) (k:=k) hlt';rw[he]at hks;simp only[eh,eN]at hks);(try have hms:=uQ (es:=es) (k:=k) hlt';rw[he]at hms;simp only[eh,eN]at hms))
  all_goals have hle1:=bH (es:=es) (n:=i.toNat+1)
  all_goals have hcE:ah es=es.length+bG es:=rfl
  all_goals have hk1:=fb (es:=es) (k:=k) (n:=i.toNat)
  all_goals have hk2:=fb (es:=es) (k:=k) (n:=i.toNat+1)
  all_goals have hk3:=kT (es:=es) (k:=k)
  all_goals have hk4:=fb (es:=es) (k:=k) (n:=es.length)
  all_goals have hk5:=dF (es:=es) (m:=0) (n:=i.toNat) g1 (Zd _)
  all_goals((have hk6:=dF (es:=es) (m:=i.toNat) (n:=es.length) (Zf _) g1);(try have hk7:=dF (es:=es) (m:=i.toNat+1) (n:=es.length) (Zf _) hlt'))
  all_goals rw[bJ]at hk5
  all_goals((try have hk8:=gF (es:=es) (n:=i.toNat) hlt');(try have hcl:i.toNat<cur.length:=by rw[hc,kw g1];exact hlt');(try have hcg:cur.getD i.toNat []=[.v (.bool (od es i 0))]:=by rw[hc,da g1];exact he))
  all_goals have ha1:bK .add Za k' 1=k'+1:=bh (by omega)
  all_goals have ha2:bK .add Za (k'+1) 1=k'+1+1:=bh (by omega)
  all_goals have ha3:bK .add Za (k'+1+1) 1=k'+1+1+1:=bh (by omega)
  all_goals((have ha4:bK .add Za (k'+1+1+1) 1=k'+1+1+1+1:=bh (by omega));(try simp only[ha1,ha2,ha3,ha4]);(try simp only[az]);(try simp only[vA,hcg,List.take,List.drop,List.length_cons,List.length_nil,ZH,ZJ,List.append_nil,Zy,Nat.reduceAdd,dk hcl,List.set_set,List.append_assoc]);(try simp only[so,hcg,dk hcl,List.getD_cons_zero,List.getD_cons_succ,EG]);(try simp only[sd hcl,nA hcl,yj hcl,ut hcl,hcg,List.getElem?_cons_zero,List.getElem?_cons_succ]))
  all_goals first|exact⟨g0,hlt⟩|(refine⟨_,_,rfl,?_⟩;simp;done)|omega|(rw[hk',show i.toNat=es.length from by omega,hk3];done)|(rw[hc,show i.toNat=es.length from by omega,uO];rfl)|(rw[show(i+1).toNat=i.toNat+1 from by omega,hks,hk'];done)|(rw[show(i+1).toNat=i.toNat+1 from by omega, <-hms,hc,hk'];rfl)|trace_state
theorem oE {ms:aa}{k:Int}(hp:∃ es,ms=aU es k/\Rw [tB] es/\ah es<=1099511627776/\0<=k/\au [ms] k<=1152921504606846976):ap 327 [.one (.s 1 ms),.j k] [.j (au [ms] k)]:=by
 obtain⟨es,hms,hw,hlim,hk0,hkb⟩:=hp;have hlen:=cS hlim;have hml:ms.length=es.length:=by rw[hms];exact ca
 have hkk:au [ms] k=au [es] k:=by rw[hms];exact jM
 have hwm:Wf [.v (.bool false)] ms:=by rw[hms];exact cI hw
 have hwf:Wf [.v (.bool false)] es:=hw.wf;have hat:∀ n,n<es.length->ms.getD n []=(eh (es.getD n []) (dH es k n)).1:=fun n hn=>by rw[hms];exact fX hn
 refine cb nB Tryz.func327 ?_
 intro O r F hO hr hF;cbv
 refine⟨[0,1,5],[],Int×Int,fun s=>match s with|(i,k')=>[.reg 5 (.j i),.reg 1 (.j k')],fun s=>0<=s.1/\s.1.toNat<=es.length/\s.2=dH es k s.1.toNat,fun s=>es.length-s.1.toNat,⟨(0,k),?_,?_⟩,?_⟩;exact⟨by omega,Zd _,bJ.symm⟩
 ·cbv
 ·rintro⟨i,k'⟩ hi;replace hi:0<=i/\i.toNat<=es.length/\k'=dH es k i.toNat:=hi;obtain⟨g0,g1,hk'⟩:=hi;cbv
  repeat' first|apply Zb|(apply bu<;>intro hb<;>cbv)|(refine ab (O.ar .add Za i 1,O.ar .add Za (k') 1) ?_ ?_ ?_;focus (cbv;done))
  all_goals(subst hO hr hF;(try simp only[nc]at*);(try simp only[ak,SS,sa,az]at*);(try have hltm:i<ms.length:=by assumption);(try have hlt:i<es.length:=by omega);(try have he:es.getD i.toNat []=[.v (.bool (od es i 0))]:=(ao hwf g0 hlt).symm);(try rw[de (n:=es.length) g0 hlt (by omega)]);(try have hlt':i.toNat<es.length:=by omega);(try have hct:=cu (es:=es) (n:=i.toNat) (by omega);rw[he]at hct;simp only[cP,eA,Zh,Zy]at hct);(try have hks:=cK (es:=es) (k:=k) hlt';rw[he]at hks;simp only[eh,eN]at hks);(try have hem:([.v (.bool (od ms i 0))]:ay)=_:=(ao hwm g0 hltm).trans (hat i.toNat hlt');rw[he]at hem;simp only[eh,eN,Yf,L.v.injEq,Yo,Yp,L.s.injEq,true_and,and_true]at hem))
  all_goals exact Lm
namespace LFrames
structure aP where
 szN:List aa->Int->Int
abbrev F0:aP:=⟨bN⟩
def ct (F:aP):CT:=fun f ds=>match f,ds with
 |97,[.one (.s 1 es),.one (.v (.int Za left))]=>some (fun _=>Rw [.sl [tI]] es/\0<=left/\left<=1048576,[.j (F.szN [es] left)])
 |115,[.one (.s 1 es)]=>some (fun _=>Rw [.sl [tI]] es/\ah es<=1048576,[.one (.s 1 es)])
 |149,[.one (.s 1 es),d]=>some (fun _=>d=.one (.s 1 es)/\Rw [.sl [tI]] es/\ah es<=1099511627776,[.k true])
 |301,[.one (.s 1 es),.one (.v (.int Za left))]=>some (fun _=>Rw [tB] es/\0<=left/\left<=1048576,[.j (F.szN [es] left)])
 |307,[.one (.s 1 es)]=>some (fun _=>Rw [tB] es/\ah es<=1048576,[.one (.s 1 es)])
 |322,[.one (.s 1 es),d]=>some (fun _=>d=.one (.s 1 es)/\Rw [tB] es/\ah es<=1099511627776,[.k true])
 |_,_=>none
theorem aj:aT (ct F0):=by
 intro f ds pre res h hp;unfold ct at h;split at h<;>cases h
 exact gx hp;exact gy hp;exact gw hp;exact tc hp;exact tn hp;exact sT hp
abbrev B:cF:=tb aj
end LFrames
namespace MFrames
structure aP where
 kN:List aa->Int->Int
 mkN:aa->Int->aa
abbrev F0:aP:=⟨au,aU⟩
def ct (F:aP):CT:=fun f ds=>match f,ds with
 |160,[.one (.s 1 ms),.one (.v (.int Za k))]=>some (fun _=>∃ es,ms=aU es k/\Rw [.sl [tI]] es/\ah es<=1099511627776/\0<=k/\au [ms] k<=1152921504606846976,[.j (F.kN [ms] k)])
 |327,[.one (.s 1 ms),.one (.v (.int Za k))]=>some (fun _=>∃ es,ms=aU es k/\Rw [tB] es/\ah es<=1099511627776/\0<=k/\au [ms] k<=1152921504606846976,[.j (F.kN [ms] k)])
 |_,_=>none
theorem aj:aT (ct F0):=by
 intro f ds pre res h hp;unfold ct at h;split at h<;>cases h
 exact fi hp;exact oE hp
def mt (F:aP):MT:=fun f=>match f with
 | 154=>some fun ds=>match ds with
   |[.one (.s 1 es),.one (.v (.int Za k))]=>some (fun _=>Rw [.sl [tI]] es/\ah es<=1099511627776/\0<=k/\au [es] k<=1152921504606846976,[.s 1 (F.mkN es k)],[.j (F.kN [es] k)])
   |_=>none
 | 325=>some fun ds=>match ds with
   |[.one (.s 1 es),.one (.v (.int Za k))]=>some (fun _=>Rw [tB] es/\ah es<=1099511627776/\0<=k/\au [es] k<=1152921504606846976,[.s 1 (F.mkN es k)],[.j (F.kN [es] k)])
   |_=>none
 |_=>none
theorem dB:gY (mt F0):=by
 intro f mk h ds pre outs res hm hp;unfold mt at h;split at h
 ·cases h;dsimp only at hm;split at hm
  ·cases hm;exact fj hp
  ·cases hm
 ·cases h;dsimp only at hm;split at hm
  ·cases hm;exact oI hp
  ·cases hm
 ·cases h
abbrev B:cF:={Φ:=aP,F0:=F0,ct:=ct,hc:=aj,mt:=mt,hm:=dB}
end MFrames
theorem qU {a0 a1:aa}{left:Int}(hp:Rw [.sl [tI]] a0/\Rw [tB] a1/\0<=left/\left<=1048576):ap 209 [.agg [.s 1 a0,.s 1 a1],.j left] [.j (bN [a0,a1] left)]:=by
 obtain⟨w0,w1,h0,h1⟩:=hp;refine cb LFrames.B Tryz.func209 ?_
 intro O r F hO hr hF;cbv
 repeat' first|apply Zb|(apply bu<;>intro hb<;>cbv)
 all_goals(subst hO hr hF;(try simp only[nc]at*);(try simp only[ak,SS,sa,az]at*);(try simp(disch:=assumption) only[ia,ZJ,ZH]at*))
 all_goals exact S9
theorem q9 {a0 a1:aa}(hp:Rw [.sl [tI]] a0/\Rw [tB] a1/\av [a0,a1]<=1048576):ap 217 [.agg [.s 1 a0,.s 1 a1]] [.agg [.s 1 a0,.s 1 a1]]:=by
 obtain⟨w0,w1,hlim⟩:=hp;simp only[av,Zh]at hlim;refine cb LFrames.B Tryz.func217 ?_
 exact S7
theorem qC {a0 a1:aa}{d:DV}(hp:d=.agg [.s 1 a0,.s 1 a1]/\Rw [.sl [tI]] a0/\Rw [tB] a1/\av [a0,a1]<=1099511627776):ap 247 [.agg [.s 1 a0,.s 1 a1],d] [.k true]:=by
 obtain⟨rfl,w0,w1,hlim⟩:=hp;simp only[av,Zh]at hlim;refine cb LFrames.B Tryz.func247 ?_
 exact SZ
theorem mT {a0 a1:aa}{k:Int}(hp:Rw [.sl [tI]] a0/\Rw [tB] a1/\av [a0,a1]<=1099511627776/\0<=k/\au [a0,a1] k<=1152921504606846976):eb 251 [.agg [.s 1 a0,.s 1 a1],.j k] [.s 1 (aU a0 k),.s 1 (aU a1 (au [a0] k))] [.j (au [a0,a1] k)]:=by
 obtain⟨w0,w1,hlim,hk0,hkb⟩:=hp;simp only[av,Zh]at hlim;have p0:au [a0] k<=au [a0,a1] k/\0<=au [a0] k:=bz (b:=[a1]) hk0;have p1:au [a0,a1] k<=au [a0,a1] k/\0<=au [a0,a1] k:=bz (b:=[]) hk0;refine mb MFrames.B [(2,0),(2,1)] Tryz.func251 ?_
 exact Jy
theorem mL {m0 m1:aa}{k:Int}(hp:(∃ a0,m0=aU a0 k/\Rw [.sl [tI]] a0/\ah a0<=1099511627776)/\(∃ a1,m1=aU a1 (au [m0] k)/\Rw [tB] a1/\ah a1<=1099511627776)/\0<=k/\au [m0,m1] k<=1152921504606846976):ap 254 [.agg [.s 1 m0,.s 1 m1],.j k] [.j (au [m0,m1] k)]:=by
 obtain⟨e0,e1,hk0,hkb⟩:=hp;have p0:au [m0] k<=au [m0,m1] k/\0<=au [m0] k:=bz (b:=[m1]) hk0;have p1:au [m0,m1] k<=au [m0,m1] k/\0<=au [m0,m1] k:=bz (b:=[]) hk0;refine cb MFrames.B Tryz.func254 ?_
 exact SF
theorem tq {a0 a1:Int}(hp:True):ap 359 [.agg [.i a0,.i a1]] [.agg [.i a0,.i a1]]:=by
 refine cb nB Tryz.func359 ?_
 exact rU
theorem sV {a0 a1:Int}{d:DV}(hp:d=.agg [.i a0,.i a1]):ap 363 [.agg [.i a0,.i a1],d] [.k true]:=by
 subst hp;refine cb nB Tryz.func363 ?_
 exact rU
namespace LEntryS
def ct (F:aP):CT:=fun f ds=>match f,ds with
 |359,[.agg [.v (.int Za a0),.v (.int Za a1)]]=>some (fun _=>True,[.agg [.i a0,.i a1]])
 |363,[.agg [.v (.int Za a0),.v (.int Za a1)],d]=>some (fun _=>d=.agg [.i a0,.i a1],[.k true])
 |_,_=>none
theorem aj:aT (ct F0):=by
 intro f ds pre res h hp;unfold ct at h;split at h<;>cases h
 exact tq hp;exact sV hp
abbrev B:cF:=tb aj
end LEntryS
theorem qT {es:aa}{left:Int}(hp:Rw [tI,tI] es/\0<=left/\left<=1048576):ap 302 [.one (.s 2 es),.j left] [.j (bN [es] left)]:=by
 obtain⟨hw,h0,h1⟩:=hp;have hc:ah es=es.length:=hw.cnt rfl;have hm:=hw.1;unfold maxLen at hm;have hs:bK .sub Za left es.length=left-es.length:=cN (by omega);have hn:bN [es] left=if left<es.length then-1 else left-es.length:=by unfold bN;rw[cZ,hc]
 refine cb LEntryS.B Tryz.func302 ?_
 exact JC
theorem q8 {es:aa}(hp:Rw [tI,tI] es/\ah es<=1048576):ap 308 [.one (.s 2 es)] [.one (.s 2 es)]:=by
 obtain⟨hw,hlim⟩:=hp;have hwf:Wf [.i 0,.i 0] es:=hw.wf;have hlen:=cS hlim;refine cb LEntryS.B Tryz.func308 ?_
 intro O r F hO hr hF;cbv
 have h0z:b9 es [.i 0,.i 0] 0=O.rep (O.zi (O.ln es)) [.i 0,.i 0]:=by
  subst hO;rw[cJ];rfl
 refine⟨?_,?_,[0,3,4],[3],Int×aa,fun s=>[.reg 4 (.j s.1),.leaf 3 0 ⟨0,0,none,.own (.s 2 s.2)⟩],fun s=>0<=s.1/\s.1.toNat<=es.length/\s.2=b9 es [.i 0,.i 0] s.1.toNat,fun s=>es.length-s.1.toNat,⟨(0,O.rep (O.zi (O.ln es)) [.i 0,.i 0]),?_,?_⟩,?_⟩
 ·subst hO;exact jO (b:=16) (show es.length*_<=_ by omega) (show es.length<=_ by omega)
 ·subst hO;exact⟨rfl,rfl⟩
 ·exact⟨by omega,Zd _,h0z.symm⟩
 ·cbv
 ·rintro⟨i,m⟩ hi;replace hi:0<=i/\i.toNat<=es.length/\m=b9 es [.i 0,.i 0] i.toNat:=hi;obtain⟨g0,g1,hm⟩:=hi;cbv
  repeat' first|apply Zb|(apply bu<;>intro hb<;>cbv)|(refine ab (O.ar .add Za i 1,O.up (.s 2 m) [(O.ad 0 i,0)] [.i (O.gi es i 0),.i (O.gi es i 1)]) ?_ ?_ ?_;focus (cbv;done))
  all_goals(subst hO hr hF;(try simp only[nc]at*);(try simp only[ak,SS,sa,az]at*);(try simp only[jq,Yj,ZG]at*);(try have hlt:i<es.length:=by assumption);(try have he:es.getD i.toNat []=[.i (ag es i 0),.i (ag es i 1)]:=(ao hwf g0 hlt).symm))
  all_goals exact JB
theorem qB {es:aa}{d:DV}(hp:d=.one (.s 2 es)/\Rw [tI,tI] es/\ah es<=1099511627776):ap 323 [.one (.s 2 es),d] [.k true]:=by
 obtain⟨rfl,hw,hlim⟩:=hp;have hwf:Wf [.i 0,.i 0] es:=hw.wf;have hlen:=cS hlim;refine cb LEntryS.B Tryz.func323 ?_
 intro O r F hO hr hF;cbv
 apply bu<;>intro hb<;>cbv
 ·(subst hO hr hF;(try simp only[nc]at*);(try simp only[ak,SS,sa,az]at*));exact absurd rfl hb
 ·clear hb;refine⟨[0,1,5],[],Int,fun i=>[.reg 5 (.j i)],fun i=>0<=i/\i.toNat<=es.length,fun i=>es.length-i.toNat,⟨0,?_,?_⟩,?_⟩;exact⟨by omega,Zd _⟩
  ·cbv
  ·rintro i hi;replace hi:0<=i/\i.toNat<=es.length:=hi;obtain⟨g0,g1⟩:=hi;cbv
   repeat' first|apply Zb|(apply bu<;>intro hb<;>cbv)|(refine ab (O.ar .add Za i 1) ?_ ?_ ?_;focus (cbv;done))
   all_goals(subst hO hr hF;(try simp only[nc]at*);(try simp only[ak,SS,sa,az]at*);(try have hlt:i<es.length:=by assumption);(try have he:es.getD i.toNat []=[.i (ag es i 0),.i (ag es i 1)]:=(ao hwf g0 hlt).symm))
   all_goals exact Ln
theorem mS {es:aa}{k:Int}(hp:Rw [tI,tI] es/\ah es<=1099511627776/\0<=k/\au [es] k<=1152921504606846976):eb 326 [.one (.s 2 es),.j k] [.s 2 (aU es k)] [.j (au [es] k)]:=by
 obtain⟨hw,hlim,hk0,hkb⟩:=hp;have hwf:Wf [.i 0,.i 0] es:=hw.wf;have hlen:=cS hlim;refine mb nB [(0,0)] Tryz.func326 ?_
 intro O r os F hO hr hos hF;cbv
 refine⟨[0,1,5],[0],Int×Int×aa,fun s=>match s with|(i,k',cur)=>[.reg 5 (.j i),.reg 1 (.j k'),.leaf 0 0 ⟨0,0,some 0,.own (.s 2 cur)⟩],fun s=>0<=s.1/\s.1.toNat<=es.length/\s.2.1=dH es k s.1.toNat/\s.2.2=dT es k s.1.toNat,fun s=>es.length-s.1.toNat,⟨(0,k,es),?_,?_⟩,?_⟩;exact⟨by omega,Zd _,bJ.symm,db.symm⟩
 ·cbv
 ·rintro⟨i,k',cur⟩ hi;replace hi:0<=i/\i.toNat<=es.length/\k'=dH es k i.toNat/\cur=dT es k i.toNat:=hi;obtain⟨g0,g1,hk',hc⟩:=hi;cbv
  repeat' first|apply Zb|(apply bu<;>intro hb<;>cbv)|(refine ab (O.ar .add Za i 1,O.ar .add Za (O.ar .add Za (k') 1) 1,O.up (.s 2 (O.up (.s 2 (cur)) [(O.ad 0 i,0)] [.i (k')])) [(O.ad 0 i,1)] [.i (O.ar .add Za (k') 1)]) ?_ ?_ ?_;focus (cbv;done))
  all_goals((try subst hos);subst hO hr hF;(try simp only[nc]at*);(try simp only[ak,SS,sa,az]at*);(try have hlt:i<es.length:=by assumption);(try have he:es.getD i.toNat []=[.i (ag es i 0),.i (ag es i 1)]:=(ao hwf g0 hlt).symm);(try have hcg:cur.getD i.toNat []=[.i (ag es i 0),.i (ag es i 1)]:=by rw[hc,da g1];exact he))
  all_goals exact Ll
theorem mK {ms:aa}{k:Int}(hp:∃ es,ms=aU es k/\Rw [tI,tI] es/\ah es<=1099511627776/\0<=k/\au [ms] k<=1152921504606846976):ap 328 [.one (.s 2 ms),.j k] [.j (au [ms] k)]:=by
 obtain⟨es,hms,hw,hlim,hk0,hkb⟩:=hp;have hlen:=cS hlim;have hml:ms.length=es.length:=by rw[hms];exact ca
 have hkk:au [ms] k=au [es] k:=by rw[hms];exact jM
 have hwm:Wf [.i 0,.i 0] ms:=by rw[hms];exact cI hw
 have hwf:Wf [.i 0,.i 0] es:=hw.wf;have hat:∀ n,n<es.length->ms.getD n []=(eh (es.getD n []) (dH es k n)).1:=fun n hn=>by rw[hms];exact fX hn
 refine cb nB Tryz.func328 ?_
 intro O r F hO hr hF;cbv
 refine⟨[0,1,5],[],Int×Int,fun s=>match s with|(i,k')=>[.reg 5 (.j i),.reg 1 (.j k')],fun s=>0<=s.1/\s.1.toNat<=es.length/\s.2=dH es k s.1.toNat,fun s=>es.length-s.1.toNat,⟨(0,k),?_,?_⟩,?_⟩;exact⟨by omega,Zd _,bJ.symm⟩
 ·cbv
 ·rintro⟨i,k'⟩ hi;replace hi:0<=i/\i.toNat<=es.length/\k'=dH es k i.toNat:=hi;obtain⟨g0,g1,hk'⟩:=hi;cbv
  repeat' first|apply Zb|(apply bu<;>intro hb<;>cbv)|(refine ab (O.ar .add Za i 1,O.ar .add Za (O.ar .add Za (k') 1) 1) ?_ ?_ ?_;focus (cbv;done))
  all_goals(subst hO hr hF;(try simp only[nc]at*);(try simp only[ak,SS,sa,az]at*);(try have hltm:i<ms.length:=by assumption);(try have hlt:i<es.length:=by omega);(try have he:es.getD i.toNat []=[.i (ag es i 0),.i (ag es i 1)]:=(ao hwf g0 hlt).symm);(try rw[de (n:=es.length) g0 hlt (by omega)]);(try have hlt':i.toNat<es.length:=by omega);(try have hct:=cu (es:=es) (n:=i.toNat) (by omega);rw[he]at hct;simp only[cP,eA,Zh,Zy]at hct);(try have hks:=cK (es:=es) (k:=k) hlt';rw[he]at hks;simp only[eh,eN]at hks);(try have hem:([.i (ag ms i 0),.i (ag ms i 1)]:ay)=_:=(ao hwm g0 hltm).trans (hat i.toNat hlt');rw[he]at hem;simp only[eh,eN,Yf,L.v.injEq,Yo,Yp,L.s.injEq,true_and,and_true]at hem))
  all_goals exact Lm
namespace LTable
structure aP where
 szN:List aa->Int->Int
abbrev F0:aP:=⟨bN⟩
def ct (F:aP):CT:=fun f ds=>match f,ds with
 |302,[.one (.s 2 es),.one (.v (.int Za left))]=>some (fun _=>Rw [tI,tI] es/\0<=left/\left<=1048576,[.j (F.szN [es] left)])
 |308,[.one (.s 2 es)]=>some (fun _=>Rw [tI,tI] es/\ah es<=1048576,[.one (.s 2 es)])
 |323,[.one (.s 2 es),d]=>some (fun _=>d=.one (.s 2 es)/\Rw [tI,tI] es/\ah es<=1099511627776,[.k true])
 |_,_=>none
theorem aj:aT (ct F0):=by
 intro f ds pre res h hp;unfold ct at h;split at h<;>cases h
 exact qT hp;exact q8 hp;exact qB hp
abbrev B:cF:=tb aj
end LTable
namespace MTable
structure aP where
 kN:List aa->Int->Int
 mkN:aa->Int->aa
abbrev F0:aP:=⟨au,aU⟩
def ct (F:aP):CT:=fun f ds=>match f,ds with
 |328,[.one (.s 2 ms),.one (.v (.int Za k))]=>some (fun _=>∃ es,ms=aU es k/\Rw [tI,tI] es/\ah es<=1099511627776/\0<=k/\au [ms] k<=1152921504606846976,[.j (F.kN [ms] k)])
 |_,_=>none
theorem aj:aT (ct F0):=by
 intro f ds pre res h hp;unfold ct at h;split at h<;>cases h
 exact mK hp
def mt (F:aP):MT:=fun f=>match f with
 | 326=>some fun ds=>match ds with
   |[.one (.s 2 es),.one (.v (.int Za k))]=>some (fun _=>Rw [tI,tI] es/\ah es<=1099511627776/\0<=k/\au [es] k<=1152921504606846976,[.s 2 (F.mkN es k)],[.j (F.kN [es] k)])
   |_=>none
 |_=>none
theorem dB:gY (mt F0):=by
 intro f mk h ds pre outs res hm hp;unfold mt at h;split at h
 ·cases h;dsimp only at hm;split at hm
  ·cases hm;exact mS hp
  ·cases hm
 ·cases h
abbrev B:cF:={Φ:=aP,F0:=F0,ct:=ct,hc:=aj,mt:=mt,hm:=dB}
end MTable
theorem tj {a0:aa}{left:Int}(hp:Rw [tI,tI] a0/\0<=left/\left<=1048576):ap 210 [.agg [.s 2 a0],.j left] [.j (bN [a0] left)]:=by
 obtain⟨w0,h0,h1⟩:=hp;refine cb LTable.B Tryz.func210 ?_
 intro O r F hO hr hF;cbv
 repeat' first|apply Zb|(apply bu<;>intro hb<;>cbv)
 all_goals(subst hO hr hF;(try simp only[nc]at*);(try simp only[ak,SS,sa,az]at*);(try simp(disch:=assumption) only[ia,ZJ,ZH]at*))
 all_goals first|trivial|(rw[gO (by assumption)])|trace_state
theorem tA {a0:aa}(hp:Rw [tI,tI] a0/\av [a0]<=1048576):ap 218 [.agg [.s 2 a0]] [.agg [.s 2 a0]]:=by
 obtain⟨w0,hlim⟩:=hp;simp only[av,Zh]at hlim;refine cb LTable.B Tryz.func218 ?_
 exact rU
theorem s8 {a0:aa}{d:DV}(hp:d=.agg [.s 2 a0]/\Rw [tI,tI] a0/\av [a0]<=1099511627776):ap 248 [.agg [.s 2 a0],d] [.k true]:=by
 obtain⟨rfl,w0,hlim⟩:=hp;simp only[av,Zh]at hlim;refine cb LTable.B Tryz.func248 ?_
 exact rU
theorem oL {a0:aa}{k:Int}(hp:Rw [tI,tI] a0/\av [a0]<=1099511627776/\0<=k/\au [a0] k<=1152921504606846976):eb 252 [.agg [.s 2 a0],.j k] [.s 2 (aU a0 k)] [.j (au [a0] k)]:=by
 obtain⟨w0,hlim,hk0,hkb⟩:=hp;simp only[av,Zh]at hlim;have p0:au [a0] k<=au [a0] k/\0<=au [a0] k:=bz (b:=[]) hk0;refine mb MTable.B [(2,0)] Tryz.func252 ?_
 exact JA
theorem oH {m0:aa}{k:Int}(hp:(∃ a0,m0=aU a0 k/\Rw [tI,tI] a0/\ah a0<=1099511627776)/\0<=k/\au [m0] k<=1152921504606846976):ap 255 [.agg [.s 2 m0],.j k] [.j (au [m0] k)]:=by
 obtain⟨e0,hk0,hkb⟩:=hp;have p0:au [m0] k<=au [m0] k/\0<=au [m0] k:=bz (b:=[]) hk0;refine cb MTable.B Tryz.func255 ?_
 exact Jz
namespace LMachine
structure aP where
 szN:List aa->Int->Int
abbrev F0:aP:=⟨bN⟩
def ct (F:aP):CT:=fun f ds=>match f,ds with
 |209,[.agg [.s 1 a0,.s 1 a1],.one (.v (.int Za left))]=>some (fun _=>Rw [.sl [tI]] a0/\Rw [tB] a1/\0<=left/\left<=1048576,[.j (F.szN [a0,a1] left)])
 |217,[.agg [.s 1 a0,.s 1 a1]]=>some (fun _=>Rw [.sl [tI]] a0/\Rw [tB] a1/\av [a0,a1]<=1048576,[.agg [.s 1 a0,.s 1 a1]])
 |247,[.agg [.s 1 a0,.s 1 a1],d]=>some (fun _=>d=.agg [.s 1 a0,.s 1 a1]/\Rw [.sl [tI]] a0/\Rw [tB] a1/\av [a0,a1]<=1099511627776,[.k true])
 |210,[.agg [.s 2 a0],.one (.v (.int Za left))]=>some (fun _=>Rw [tI,tI] a0/\0<=left/\left<=1048576,[.j (F.szN [a0] left)])
 |218,[.agg [.s 2 a0]]=>some (fun _=>Rw [tI,tI] a0/\av [a0]<=1048576,[.agg [.s 2 a0]])
 |248,[.agg [.s 2 a0],d]=>some (fun _=>d=.agg [.s 2 a0]/\Rw [tI,tI] a0/\av [a0]<=1099511627776,[.k true])
 |_,_=>none
theorem aj:aT (ct F0):=by
 intro f ds pre res h hp;unfold ct at h;split at h<;>cases h
 exact qU hp;exact q9 hp;exact qC hp;exact tj hp;exact tA hp;exact s8 hp
abbrev B:cF:=tb aj
end LMachine
namespace MMachine
structure aP where
 kN:List aa->Int->Int
 mkN:aa->Int->aa
abbrev F0:aP:=⟨au,aU⟩
def ct (F:aP):CT:=fun f ds=>match f,ds with
 |254,[.agg [.s 1 m0,.s 1 m1],.one (.v (.int Za k))]=>some (fun _=>(∃ a0,m0=aU a0 k/\Rw [.sl [tI]] a0/\ah a0<=1099511627776)/\(∃ a1,m1=aU a1 (au [m0] k)/\Rw [tB] a1/\ah a1<=1099511627776)/\0<=k/\au [m0,m1] k<=1152921504606846976,[.j (F.kN [m0,m1] k)])
 |255,[.agg [.s 2 m0],.one (.v (.int Za k))]=>some (fun _=>(∃ a0,m0=aU a0 k/\Rw [tI,tI] a0/\ah a0<=1099511627776)/\0<=k/\au [m0] k<=1152921504606846976,[.j (F.kN [m0] k)])
 |_,_=>none
theorem aj:aT (ct F0):=by
 intro f ds pre res h hp;unfold ct at h;split at h<;>cases h
 exact mL hp;exact oH hp
def mt (F:aP):MT:=fun f=>match f with
 | 251=>some fun ds=>match ds with
   |[.agg [.s 1 a0,.s 1 a1],.one (.v (.int Za k))]=>some (fun _=>Rw [.sl [tI]] a0/\Rw [tB] a1/\av [a0,a1]<=1099511627776/\0<=k/\au [a0,a1] k<=1152921504606846976,[.s 1 (F.mkN a0 k),.s 1 (F.mkN a1 (F.kN [a0] k))],[.j (F.kN [a0,a1] k)])
   |_=>none
 | 252=>some fun ds=>match ds with
   |[.agg [.s 2 a0],.one (.v (.int Za k))]=>some (fun _=>Rw [tI,tI] a0/\av [a0]<=1099511627776/\0<=k/\au [a0] k<=1152921504606846976,[.s 2 (F.mkN a0 k)],[.j (F.kN [a0] k)])
   |_=>none
 |_=>none
theorem dB:gY (mt F0):=by
 intro f mk h ds pre outs res hm hp;unfold mt at h;split at h
 ·cases h;dsimp only at hm;split at hm
  ·cases hm;exact mT hp
  ·cases hm
 ·cases h;dsimp only at hm;split at hm
  ·cases hm;exact oL hp
  ·cases hm
 ·cases h
abbrev B:cF:={Φ:=aP,F0:=F0,ct:=ct,hc:=aj,mt:=mt,hm:=dB}
end MMachine
theorem oM {a0 a1 a2:aa}{left:Int}(hp:Rw [.sl [tI]] a0/\Rw [tB] a1/\Rw [tI,tI] a2/\0<=left/\left<=1048576):ap 93 [.agg [.s 1 a0,.s 1 a1,.s 2 a2],.j left] [.j (bN [a0,a1,a2] left)]:=by
 obtain⟨w0,w1,w2,h0,h1⟩:=hp;refine cb LMachine.B Tryz.func93 ?_
 intro O r F hO hr hF;cbv
 repeat' first|apply Zb|(apply bu<;>intro hb<;>cbv)
 all_goals(subst hO hr hF;(try simp only[nc]at*);(try simp only[ak,SS,sa,az]at*);(try simp(disch:=assumption) only[ia,ZJ,ZH]at*))
 all_goals first|trivial|(refine⟨by assumption,by omega,by first|omega|exact Xy (vq (by assumption)) h1⟩)|(rw[gO (by assumption)])|exact congrArg (fun x=>[DV.one (L.v (Zn ZC x))]) (dX (a:=[a0,a1]) (b:=[a2]) (by assumption)).symm|trace_state
theorem oN {a0 a1 a2:aa}(hp:Rw [.sl [tI]] a0/\Rw [tB] a1/\Rw [tI,tI] a2/\av [a0,a1,a2]<=1048576):ap 107 [.agg [.s 1 a0,.s 1 a1,.s 2 a2]] [.agg [.s 1 a0,.s 1 a1,.s 2 a2]]:=by
 obtain⟨w0,w1,w2,hlim⟩:=hp;simp only[av,Zh]at hlim;refine cb LMachine.B Tryz.func107 ?_
 intro O r F hO hr hF;cbv
 repeat' first|apply Zb|(apply bu<;>intro hb<;>cbv)
 all_goals(subst hO hr hF;(try simp only[nc]at*);(try simp only[ak,SS,sa,az]at*))
 all_goals first|trivial|(refine⟨by assumption,?_⟩;(try simp only[av,Zh]);omega)|(refine⟨by assumption,by assumption,?_⟩;(try simp only[av,Zh]);omega)|trace_state
theorem oD {a0 a1 a2:aa}{d:DV}(hp:d=.agg [.s 1 a0,.s 1 a1,.s 2 a2]/\Rw [.sl [tI]] a0/\Rw [tB] a1/\Rw [tI,tI] a2/\av [a0,a1,a2]<=1099511627776):ap 141 [.agg [.s 1 a0,.s 1 a1,.s 2 a2],d] [.k true]:=by
 obtain⟨rfl,w0,w1,w2,hlim⟩:=hp;simp only[av,Zh]at hlim;refine cb LMachine.B Tryz.func141 ?_
 intro O r F hO hr hF;cbv
 repeat' first|apply Zb|(apply bu<;>intro hb<;>cbv)
 all_goals(subst hO hr hF;(try simp only[nc]at*);(try simp only[ak,SS,sa,az]at*))
 all_goals first|trivial|(refine⟨trivial,by assumption,?_⟩;(try simp only[av,Zh]);omega)|(refine⟨trivial,by assumption,by assumption,?_⟩;(try simp only[av,Zh]);omega)|trace_state
theorem lV {a0 a1 a2:aa}{k:Int}(hp:Rw [.sl [tI]] a0/\Rw [tB] a1/\Rw [tI,tI] a2/\av [a0,a1,a2]<=1099511627776/\0<=k/\au [a0,a1,a2] k<=1152921504606846976):eb 152 [.agg [.s 1 a0,.s 1 a1,.s 2 a2],.j k] [.s 1 (aU a0 k),.s 1 (aU a1 (au [a0] k)),.s 2 (aU a2 (au [a0,a1] k))] [.j (au [a0,a1,a2] k)]:=by
 obtain⟨w0,w1,w2,hlim,hk0,hkb⟩:=hp;simp only[av,Zh]at hlim;have p0:au [a0] k<=au [a0,a1,a2] k/\0<=au [a0] k:=bz (b:=[a1,a2]) hk0;have p1:au [a0,a1] k<=au [a0,a1,a2] k/\0<=au [a0,a1] k:=bz (b:=[a2]) hk0;have p2:au [a0,a1,a2] k<=au [a0,a1,a2] k/\0<=au [a0,a1,a2] k:=bz (b:=[]) hk0;refine mb MMachine.B [(2,0),(2,1),(2,2)] Tryz.func152 ?_
 exact Jy
theorem lU {m0 m1 m2:aa}{k:Int}(hp:(∃ a0,m0=aU a0 k/\Rw [.sl [tI]] a0/\ah a0<=1099511627776)/\(∃ a1,m1=aU a1 (au [m0] k)/\Rw [tB] a1/\ah a1<=1099511627776)/\(∃ a2,m2=aU a2 (au [m0,m1] k)/\Rw [tI,tI] a2/\ah a2<=1099511627776)/\0<=k/\au [m0,m1,m2] k<=1152921504606846976):ap 158 [.agg [.s 1 m0,.s 1 m1,.s 2 m2],.j k] [.j (au [m0,m1,m2] k)]:=by
 obtain⟨e0,e1,e2,hk0,hkb⟩:=hp;have p0:au [m0] k<=au [m0,m1,m2] k/\0<=au [m0] k:=bz (b:=[m1,m2]) hk0;have p1:au [m0,m1] k<=au [m0,m1,m2] k/\0<=au [m0,m1] k:=bz (b:=[m2]) hk0;have p2:au [m0,m1,m2] k<=au [m0,m1,m2] k/\0<=au [m0,m1,m2] k:=bz (b:=[]) hk0;refine cb MMachine.B Tryz.func158 ?_
 intro O r F hO hr hF;cbv
 repeat' first|apply Zb|(apply bu<;>intro hb<;>cbv)
 all_goals(subst hO hr hF;(try simp only[nc]at*);(try simp only[ak,SS,sa,az]at*);(try simp only[fo,ZJ,ZH]at*))
 all_goals first|trivial|(exfalso;omega)|(obtain⟨x,y1,y2,y3⟩:=e0;exact⟨x,y1,y2,y3,by omega,by omega⟩)|(obtain⟨x,y1,y2,y3⟩:=e1;exact⟨x,y1,y2,y3,by omega,by omega⟩)|(obtain⟨x,y1,y2,y3⟩:=e2;exact⟨x,y1,y2,y3,by omega,by omega⟩)|(refine⟨by assumption,by omega,by omega⟩)|(refine⟨by assumption,by assumption,by omega,by omega⟩)|(refine⟨by assumption,by assumption,by assumption,by omega,by omega⟩)|trace_state
namespace LKernel
structure aP where
 szN:List aa->Int->Int
abbrev F0:aP:=⟨bN⟩
def ct (F:aP):CT:=fun f ds=>match f,ds with
 |93,[.agg [.s 1 a0,.s 1 a1,.s 2 a2],.one (.v (.int Za left))]=>some (fun _=>Rw [.sl [tI]] a0/\Rw [tB] a1/\Rw [tI,tI] a2/\0<=left/\left<=1048576,[.j (F.szN [a0,a1,a2] left)])
 |107,[.agg [.s 1 a0,.s 1 a1,.s 2 a2]]=>some (fun _=>Rw [.sl [tI]] a0/\Rw [tB] a1/\Rw [tI,tI] a2/\av [a0,a1,a2]<=1048576,[.agg [.s 1 a0,.s 1 a1,.s 2 a2]])
 |141,[.agg [.s 1 a0,.s 1 a1,.s 2 a2],d]=>some (fun _=>d=.agg [.s 1 a0,.s 1 a1,.s 2 a2]/\Rw [.sl [tI]] a0/\Rw [tB] a1/\Rw [tI,tI] a2/\av [a0,a1,a2]<=1099511627776,[.k true])
 |94,[.one (.s 1 es),.one (.v (.int Za left))]=>some (fun _=>Rw [tI] es/\0<=left/\left<=1048576,[.j (F.szN [es] left)])
 |108,[.one (.s 1 es)]=>some (fun _=>Rw [tI] es/\ah es<=1048576,[.one (.s 1 es)])
 |142,[.one (.s 1 es),d]=>some (fun _=>d=.one (.s 1 es)/\Rw [tI] es/\ah es<=1099511627776,[.k true])
 |_,_=>none
theorem aj:aT (ct F0):=by
 intro f ds pre res h hp;unfold ct at h;split at h<;>cases h
 exact oM hp;exact oN hp;exact oD hp;exact ig hp;exact il hp;exact ie hp
abbrev B:cF:=tb aj
end LKernel
namespace MKernel
structure aP where
 kN:List aa->Int->Int
 mkN:aa->Int->aa
abbrev F0:aP:=⟨au,aU⟩
def ct (F:aP):CT:=fun f ds=>match f,ds with
 |158,[.agg [.s 1 m0,.s 1 m1,.s 2 m2],.one (.v (.int Za k))]=>some (fun _=>(∃ a0,m0=aU a0 k/\Rw [.sl [tI]] a0/\ah a0<=1099511627776)/\(∃ a1,m1=aU a1 (au [m0] k)/\Rw [tB] a1/\ah a1<=1099511627776)/\(∃ a2,m2=aU a2 (au [m0,m1] k)/\Rw [tI,tI] a2/\ah a2<=1099511627776)/\0<=k/\au [m0,m1,m2] k<=1152921504606846976,[.j (F.kN [m0,m1,m2] k)])
 |159,[.one (.s 1 ms),.one (.v (.int Za k))]=>some (fun _=>∃ es,ms=aU es k/\Rw [tI] es/\ah es<=1099511627776/\0<=k/\au [ms] k<=1152921504606846976,[.j (F.kN [ms] k)])
 |_,_=>none
theorem aj:aT (ct F0):=by
 intro f ds pre res h hp;unfold ct at h;split at h<;>cases h
 exact lU hp;exact fS hp
def mt (F:aP):MT:=fun f=>match f with
 | 152=>some fun ds=>match ds with
   |[.agg [.s 1 a0,.s 1 a1,.s 2 a2],.one (.v (.int Za k))]=>some (fun _=>Rw [.sl [tI]] a0/\Rw [tB] a1/\Rw [tI,tI] a2/\av [a0,a1,a2]<=1099511627776/\0<=k/\au [a0,a1,a2] k<=1152921504606846976,[.s 1 (F.mkN a0 k),.s 1 (F.mkN a1 (F.kN [a0] k)),.s 2 (F.mkN a2 (F.kN [a0,a1] k))],[.j (F.kN [a0,a1,a2] k)])
   |_=>none
 | 153=>some fun ds=>match ds with
   |[.one (.s 1 es),.one (.v (.int Za k))]=>some (fun _=>Rw [tI] es/\ah es<=1099511627776/\0<=k/\au [es] k<=1152921504606846976,[.s 1 (F.mkN es k)],[.j (F.kN [es] k)])
   |_=>none
 |_=>none
theorem dB:gY (mt F0):=by
 intro f mk h ds pre outs res hm hp;unfold mt at h;split at h
 ·cases h;dsimp only at hm;split at hm
  ·cases hm;exact lV hp
  ·cases hm
 ·cases h;dsimp only at hm;split at hm
  ·cases hm;exact fT hp
  ·cases hm
 ·cases h
abbrev B:cF:={Φ:=aP,F0:=F0,ct:=ct,hc:=aj,mt:=mt,hm:=dB}
end MKernel
theorem qV {a0 a1 a2:aa}{a3:Int}{a4:aa}{left:Int}(hp:Rw [.sl [tI]] a0/\Rw [tB] a1/\Rw [tI,tI] a2/\Rw [tI] a4/\0<=left/\left<=1048576):ap 17 [.agg [.s 1 a0,.s 1 a1,.s 2 a2,.i a3,.s 1 a4],.j left] [.j (bN [a0,a1,a2,a4] left)]:=by
 obtain⟨w0,w1,w2,w3,h0,h1⟩:=hp;refine cb LKernel.B Tryz.func17 ?_
 intro O r F hO hr hF;cbv
 repeat' first|apply Zb|(apply bu<;>intro hb<;>cbv)
 all_goals(subst hO hr hF;(try simp only[nc]at*);(try simp only[ak,SS,sa,az]at*);(try simp(disch:=assumption) only[ia,ZJ,ZH]at*))
 all_goals first|trivial|(refine⟨by assumption,by omega,by first|omega|exact Xy (vq (by assumption)) h1⟩)|(rw[gO (by assumption)])|exact congrArg (fun x=>[DV.one (L.v (Zn ZC x))]) (dX (a:=[a0,a1,a2]) (b:=[a4]) (by assumption)).symm|trace_state
theorem ra {a0 a1 a2:aa}{a3:Int}{a4:aa}(hp:Rw [.sl [tI]] a0/\Rw [tB] a1/\Rw [tI,tI] a2/\Rw [tI] a4/\av [a0,a1,a2,a4]<=1048576):ap 30 [.agg [.s 1 a0,.s 1 a1,.s 2 a2,.i a3,.s 1 a4]] [.agg [.s 1 a0,.s 1 a1,.s 2 a2,.i a3,.s 1 a4]]:=by
 obtain⟨w0,w1,w2,w3,hlim⟩:=hp;simp only[av,Zh]at hlim;refine cb LKernel.B Tryz.func30 ?_
 intro O r F hO hr hF;cbv
 repeat' first|apply Zb|(apply bu<;>intro hb<;>cbv)
 all_goals(subst hO hr hF;(try simp only[nc]at*);(try simp only[ak,SS,sa,az]at*))
 all_goals first|trivial|(refine⟨by assumption,?_⟩;(try simp only[av,Zh]);omega)|(refine⟨by assumption,by assumption,by assumption,?_⟩;(try simp only[av,Zh]);omega)|trace_state
theorem qD {a0 a1 a2:aa}{a3:Int}{a4:aa}{d:DV}(hp:d=.agg [.s 1 a0,.s 1 a1,.s 2 a2,.i a3,.s 1 a4]/\Rw [.sl [tI]] a0/\Rw [tB] a1/\Rw [tI,tI] a2/\Rw [tI] a4/\av [a0,a1,a2,a4]<=1099511627776):ap 44 [.agg [.s 1 a0,.s 1 a1,.s 2 a2,.i a3,.s 1 a4],d] [.k true]:=by
 obtain⟨rfl,w0,w1,w2,w3,hlim⟩:=hp;simp only[av,Zh]at hlim;refine cb LKernel.B Tryz.func44 ?_
 intro O r F hO hr hF;cbv
 repeat' first|apply Zb|(apply bu<;>intro hb<;>cbv)
 all_goals(subst hO hr hF;(try simp only[nc]at*);(try simp only[ak,SS,sa,az]at*))
 all_goals first|trivial|(refine⟨trivial,by assumption,?_⟩;(try simp only[av,Zh]);omega)|(refine⟨trivial,by assumption,by assumption,by assumption,?_⟩;(try simp only[av,Zh]);omega)|trace_state
theorem mU {a0 a1 a2:aa}{a3:Int}{a4:aa}{k:Int}(hp:Rw [.sl [tI]] a0/\Rw [tB] a1/\Rw [tI,tI] a2/\Rw [tI] a4/\av [a0,a1,a2,a4]<=1099511627776/\0<=k/\au [a0,a1,a2,a4] k<=1152921504606846976):eb 53 [.agg [.s 1 a0,.s 1 a1,.s 2 a2,.i a3,.s 1 a4],.j k] [.s 1 (aU a0 k),.s 1 (aU a1 (au [a0] k)),.s 2 (aU a2 (au [a0,a1] k)),.s 1 (aU a4 (au [a0,a1,a2] k))] [.j (au [a0,a1,a2,a4] k)]:=by
 obtain⟨w0,w1,w2,w3,hlim,hk0,hkb⟩:=hp;simp only[av,Zh]at hlim;have p0:au [a0] k<=au [a0,a1,a2,a4] k/\0<=au [a0] k:=bz (b:=[a1,a2,a4]) hk0;have p1:au [a0,a1] k<=au [a0,a1,a2,a4] k/\0<=au [a0,a1] k:=bz (b:=[a2,a4]) hk0;have p2:au [a0,a1,a2] k<=au [a0,a1,a2,a4] k/\0<=au [a0,a1,a2] k:=bz (b:=[a4]) hk0;have p3:au [a0,a1,a2,a4] k<=au [a0,a1,a2,a4] k/\0<=au [a0,a1,a2,a4] k:=bz (b:=[]) hk0;refine mb MKernel.B [(2,0),(2,1),(2,2),(2,4)] Tryz.func53 ?_
 exact Jy
theorem mM {m0 m1 m2:aa}{m3:Int}{m4:aa}{k:Int}(hp:(∃ a0,m0=aU a0 k/\Rw [.sl [tI]] a0/\ah a0<=1099511627776)/\(∃ a1,m1=aU a1 (au [m0] k)/\Rw [tB] a1/\ah a1<=1099511627776)/\(∃ a2,m2=aU a2 (au [m0,m1] k)/\Rw [tI,tI] a2/\ah a2<=1099511627776)/\(∃ a4,m4=aU a4 (au [m0,m1,m2] k)/\Rw [tI] a4/\ah a4<=1099511627776)/\0<=k/\au [m0,m1,m2,m4] k<=1152921504606846976):ap 62 [.agg [.s 1 m0,.s 1 m1,.s 2 m2,.i m3,.s 1 m4],.j k] [.j (au [m0,m1,m2,m4] k)]:=by
 obtain⟨e0,e1,e2,e3,hk0,hkb⟩:=hp;have p0:au [m0] k<=au [m0,m1,m2,m4] k/\0<=au [m0] k:=bz (b:=[m1,m2,m4]) hk0;have p1:au [m0,m1] k<=au [m0,m1,m2,m4] k/\0<=au [m0,m1] k:=bz (b:=[m2,m4]) hk0;have p2:au [m0,m1,m2] k<=au [m0,m1,m2,m4] k/\0<=au [m0,m1,m2] k:=bz (b:=[m4]) hk0;have p3:au [m0,m1,m2,m4] k<=au [m0,m1,m2,m4] k/\0<=au [m0,m1,m2,m4] k:=bz (b:=[]) hk0;refine cb MKernel.B Tryz.func62 ?_
 intro O r F hO hr hF;cbv
 repeat' first|apply Zb|(apply bu<;>intro hb<;>cbv)
 all_goals(subst hO hr hF;(try simp only[nc]at*);(try simp only[ak,SS,sa,az]at*);(try simp only[fo,ZJ,ZH]at*))
 all_goals first|trivial|(exfalso;omega)|(obtain⟨x,y1,y2,y3⟩:=e0;exact⟨x,y1,y2,y3,by omega,by omega⟩)|(obtain⟨x,y1,y2,y3⟩:=e1;exact⟨x,y1,y2,y3,by omega,by omega⟩)|(obtain⟨x,y1,y2,y3⟩:=e2;exact⟨x,y1,y2,y3,by omega,by omega⟩)|(obtain⟨x,y1,y2,y3⟩:=e3;exact⟨x,y1,y2,y3,by omega,by omega⟩)|(refine⟨by assumption,by omega,by omega⟩)|(refine⟨by assumption,by assumption,by omega,by omega⟩)|(refine⟨by assumption,by assumption,by assumption,by omega,by omega⟩)|(refine⟨by assumption,by assumption,by assumption,by assumption,by omega,by omega⟩)|trace_state
end Go.V