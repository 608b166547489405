/- Contracts. -/
import Derived.Test.YtniaaknbbceigaaGreatS10
set_option linter.all false
namespace Go.V
open Go Go.Proofs
set_option maxRecDepth 1000000
set_option maxHeartbeats 8000000
theorem fk {es:aa}{left:Int}(hp:Rw [tI] es/\0<=left/\left<=1048576):ap 112 [.one (.s 1 es),.j left] [.j (bi [es] left)]:=by
 obtain⟨hw,h0,h1⟩:=hp;have hc:ak es=es.length:=hw.cnt rfl;have hm:=hw.1;unfold maxLen at hm;have hs:bu .sub .i64 left es.length=left-es.length:=cL (by omega);have hn:bi [es] left=if left<es.length then-1 else left-es.length:=by unfold bi;rw[cE,hc]
 refine cb nB Tryz.func112 ?_
 exact I7
theorem fm {es:aa}(hp:Rw [tI] es/\ak es<=1048576):ap 132 [.one (.s 1 es)] [.one (.s 1 es)]:=by
 obtain⟨hw,hlim⟩:=hp;have hwf:Wf [.i 0] es:=hw.wf;have hlen:=dA hlim;refine cb nB Tryz.func132 ?_
 intro O r F hO hr hF;cbv
 have h0z:bO es [.i 0] 0=O.rep (O.zi (O.ln es)) [.i 0]:=by
  subst hO;rw[cv];rfl
 refine⟨?_,?_,[0,3,4],[3],Int×aa,fun s=>[.reg 4 (.j s.1),.leaf 3 0 ⟨0,0,none,.own (.s 1 s.2)⟩],fun s=>0<=s.1/\s.1.toNat<=es.length/\s.2=bO es [.i 0] s.1.toNat,fun s=>es.length-s.1.toNat,⟨(0,O.rep (O.zi (O.ln es)) [.i 0]),?_,?_⟩,?_⟩
 ·subst hO;exact iE (b:=8) (show es.length*_<=_ by omega) (show es.length<=_ by omega)
 ·subst hO;exact⟨rfl,rfl⟩
 ·exact⟨by omega,Nat.zero_le _,h0z.symm⟩
 ·cbv
 ·rintro⟨i,m⟩ hi;replace hi:0<=i/\i.toNat<=es.length/\m=bO es [.i 0] i.toNat:=hi;obtain⟨g0,g1,hm⟩:=hi;cbv
  repeat' first|apply And.intro|(apply be<;>intro hb<;>cbv)|(refine ab (O.ar .add .i64 i 1,O.up (.s 1 m) [(O.ad 0 i,0)] [.i (O.gi es i 0)]) ?_ ?_ ?_;focus (cbv;done))
  all_goals(subst hO hr hF;(try simp only[nc]at*);(try simp only[ai,SS,sa,az]at*);(try simp only[l9,List.length_replicate,Int.toNat_natCast]at*);(try have hlt:i<es.length:=by assumption);(try have he:es.getD i.toNat []=[.i (af es i 0)]:=(aw hwf g0 hlt).symm))
  all_goals exact I5
theorem ed {es:aa}{d:DV}(hp:d=.one (.s 1 es)/\Rw [tI] es/\ak es<=1099511627776):ap 31 [.one (.s 1 es),d] [.k true]:=by
 obtain⟨rfl,hw,hlim⟩:=hp;have hwf:Wf [.i 0] es:=hw.wf;have hlen:=dA hlim;refine cb nB Tryz.func31 ?_
 intro O r F hO hr hF;cbv
 apply be<;>intro hb<;>cbv
 ·(subst hO hr hF;(try simp only[nc]at*);(try simp only[ai,SS,sa,az]at*));exact absurd rfl hb
 ·clear hb;refine⟨[0,1,5],[],Int,fun i=>[.reg 5 (.j i)],fun i=>0<=i/\i.toNat<=es.length,fun i=>es.length-i.toNat,⟨0,?_,?_⟩,?_⟩
  ·exact⟨by omega,Nat.zero_le _⟩
  ·cbv
  ·rintro i hi;replace hi:0<=i/\i.toNat<=es.length:=hi;obtain⟨g0,g1⟩:=hi;cbv
   repeat' first|apply And.intro|(apply be<;>intro hb<;>cbv)|(refine ab (O.ar .add .i64 i 1) ?_ ?_ ?_;focus (cbv;done))
   all_goals(subst hO hr hF;(try simp only[nc]at*);(try simp only[ai,SS,sa,az]at*);(try have hlt:i<es.length:=by assumption);(try have he:es.getD i.toNat []=[.i (af es i 0)]:=(aw hwf g0 hlt).symm))
   all_goals exact KU
theorem cY {es:aa}{k:Int}(hp:Rw [tI] es/\ak es<=1099511627776/\0<=k/\bc [es] k<=1152921504606846976):d5 33 [.one (.s 1 es),.j k] [.s 1 (bV es k)] [.j (bc [es] k)]:=by
 obtain⟨hw,hlim,hk0,hkb⟩:=hp;have hwf:Wf [.i 0] es:=hw.wf;have hlen:=dA hlim;refine mb nB [(0,0)] Tryz.func33 ?_
 intro O r os F hO hr hos hF;cbv
 refine⟨[0,1,5],[0],Int×Int×aa,fun s=>match s with|(i,k',cur)=>[.reg 5 (.j i),.reg 1 (.j k'),.leaf 0 0 ⟨0,0,some 0,.own (.s 1 cur)⟩],fun s=>0<=s.1/\s.1.toNat<=es.length/\s.2.1=gX es k s.1.toNat/\s.2.2=dM es k s.1.toNat,fun s=>es.length-s.1.toNat,⟨(0,k,es),?_,?_⟩,?_⟩
 ·exact⟨by omega,Nat.zero_le _,cC.symm,da.symm⟩
 ·cbv
 ·rintro⟨i,k',cur⟩ hi;replace hi:0<=i/\i.toNat<=es.length/\k'=gX es k i.toNat/\cur=dM es k i.toNat:=hi;obtain⟨g0,g1,hk',hc⟩:=hi;cbv
  repeat' first|apply And.intro|(apply be<;>intro hb<;>cbv)|(refine ab (O.ar .add .i64 i 1,O.ar .add .i64 (k') 1,O.up (.s 1 (cur)) [(O.ad 0 i,0)] [.i (k')]) ?_ ?_ ?_;focus (cbv;done))
  all_goals((try subst hos);subst hO hr hF;(try simp only[nc]at*);(try simp only[ai,SS,sa,az]at*);(try have hlt:i<es.length:=by assumption);(try have he:es.getD i.toNat []=[.i (af es i 0)]:=(aw hwf g0 hlt).symm);(try have hcg:cur.getD i.toNat []=[.i (af es i 0)]:=by rw[hc,cZ g1];exact he))
  all_goals exact KT
theorem cX {ms:aa}{k:Int}(hp:∃ es,ms=bV es k/\Rw [tI] es/\ak es<=1099511627776/\0<=k/\bc [ms] k<=1152921504606846976):ap 34 [.one (.s 1 ms),.j k] [.j (bc [ms] k)]:=by
 obtain⟨es,hms,hw,hlim,hk0,hkb⟩:=hp;have hlen:=dA hlim;have hml:ms.length=es.length:=by rw[hms];exact ff
 have hkk:bc [ms] k=bc [es] k:=by rw[hms];exact OV
 have hwm:Wf [.i 0] ms:=by rw[hms];exact Al hw
 have hwf:Wf [.i 0] es:=hw.wf;have hat:∀ n,n<es.length->ms.getD n []=(kD (es.getD n []) (gX es k n)).1:=fun n hn=>by rw[hms];exact Ms hn
 refine cb nB Tryz.func34 ?_
 intro O r F hO hr hF;cbv
 refine⟨[0,1,5],[],Int×Int,fun s=>match s with|(i,k')=>[.reg 5 (.j i),.reg 1 (.j k')],fun s=>0<=s.1/\s.1.toNat<=es.length/\s.2=gX es k s.1.toNat,fun s=>es.length-s.1.toNat,⟨(0,k),?_,?_⟩,?_⟩
 ·exact⟨by omega,Nat.zero_le _,cC.symm⟩
 ·cbv
 ·rintro⟨i,k'⟩ hi;replace hi:0<=i/\i.toNat<=es.length/\k'=gX es k i.toNat:=hi;obtain⟨g0,g1,hk'⟩:=hi;cbv
  repeat' first|apply And.intro|(apply be<;>intro hb<;>cbv)|(refine ab (O.ar .add .i64 i 1,O.ar .add .i64 (k') 1) ?_ ?_ ?_;focus (cbv;done))
  all_goals(subst hO hr hF;(try simp only[nc]at*);(try simp only[ai,SS,sa,az]at*);(try have hltm:i<ms.length:=by assumption);(try have hlt:i<es.length:=by omega);(try rw[ee (n:=es.length) g0 hlt (by omega)]);(try have hlt':i.toNat<es.length:=by omega);(try have he:es.getD i.toNat []=[.i (af es i 0)]:=(aw hwf g0 hlt).symm);(try have hct:=dT (es:=es) (n:=i.toNat) (by omega);rw[he]at hct;simp only[dV,gN,Nat.add_zero,Nat.zero_add]at hct);(try have hks:=kx (es:=es) (k:=k) hlt';rw[he]at hks;simp only[kD,jf]at hks);(try have hem:([.i (af ms i 0)]:ay)=_:=(aw hwm g0 hltm).trans (hat i.toNat hlt');rw[he]at hem;simp only[kD,jf,List.cons.injEq,L.v.injEq,Value.int.injEq,Value.bool.injEq,L.s.injEq,true_and,and_true]at hem))
  all_goals have hle1:=bF (es:=es) (n:=i.toNat+1)
  all_goals have hcE:ak es=es.length+bA es:=rfl
  all_goals have hk1:=jK (es:=es) (k:=k) (n:=i.toNat)
  all_goals have hk2:=jK (es:=es) (k:=k) (n:=i.toNat+1)
  all_goals have hk3:=rH (es:=es) (k:=k)
  all_goals have hk4:=jK (es:=es) (k:=k) (n:=es.length)
  all_goals have hk5:=eZ (es:=es) (m:=0) (n:=i.toNat) g1 (Nat.zero_le _)
  all_goals((have hk6:=eZ (es:=es) (m:=i.toNat) (n:=es.length) (Nat.le_refl _) g1);(try have hk7:=eZ (es:=es) (m:=i.toNat+1) (n:=es.length) (Nat.le_refl _) hlt'))
  all_goals rw[cC]at hk5
  all_goals((try have hk8:=kw (es:=es) (n:=i.toNat) hlt');(try rw[<-hk']at hem hks))
  all_goals have ha1:bu .add .i64 k' 1=k'+1:=bj (by omega)
  all_goals have ha2:bu .add .i64 (k'+1) 1=k'+1+1:=bj (by omega)
  all_goals have ha3:bu .add .i64 (k'+1+1) 1=k'+1+1+1:=bj (by omega)
  all_goals((have ha4:bu .add .i64 (k'+1+1+1) 1=k'+1+1+1+1:=bj (by omega));(try simp only[ha1,ha2,ha3,ha4]at*))
  all_goals first|exact gG hwm g0 hltm|omega|(rw[hk',show i.toNat=es.length from by omega,hk3,hkk];done)|(rw[show(i+1).toNat=i.toNat+1 from by omega,hks];done)|trace_state
namespace LIntSS
structure av where
 szN:List aa->Int->Int
abbrev F0 :av:=⟨bi⟩
def ct (F:av):CT:=fun f ds=>match f,ds with
 |112,[.one (.s 1 es),.one (.v (.int .i64 left))]=>some (fun _=>Rw [tI] es/\0<=left/\left<=1048576,[.j (F.szN [es] left)])
 |132,[.one (.s 1 es)]=>some (fun _=>Rw [tI] es/\ak es<=1048576,[.one (.s 1 es)])
 |31,[.one (.s 1 es),d]=>some (fun _=>d=.one (.s 1 es)/\Rw [tI] es/\ak es<=1099511627776,[.k true])
 |_,_=>none
theorem ah :aO (ct F0):=by
 intro f ds pre res h hp;unfold ct at h;split at h<;>cases h
 exact fk hp;exact fm hp;exact ed hp
abbrev B :ce:=tb ah
end LIntSS
namespace MIntSS
structure av where
 kN:List aa->Int->Int
 mkN:aa->Int->aa
abbrev F0 :av:=⟨bc,bV⟩
def ct (F:av):CT:=fun f ds=>match f,ds with
 |34,[.one (.s 1 ms),.one (.v (.int .i64 k))]=>some (fun _=>∃ es,ms=bV es k/\Rw [tI] es/\ak es<=1099511627776/\0<=k/\bc [ms] k<=1152921504606846976,[.j (F.kN [ms] k)])
 |_,_=>none
theorem ah :aO (ct F0):=by
 intro f ds pre res h hp;unfold ct at h;split at h<;>cases h
 exact cX hp
def mt (F:av):MT:=fun f=>match f with
 | 33=>some fun ds=>match ds with
   |[.one (.s 1 es),.one (.v (.int .i64 k))]=>some (fun _=>Rw [tI] es/\ak es<=1099511627776/\0<=k/\bc [es] k<=1152921504606846976,[.s 1 (F.mkN es k)],[.j (F.kN [es] k)])
   |_=>none
 |_=>none
theorem cQ :fQ (mt F0):=by
 intro f mk h ds pre outs res hm hp;unfold mt at h;split at h
 ·cases h;dsimp only at hm;split at hm
  ·cases hm;exact cY hp
  ·cases hm
 ·cases h
abbrev B :ce:={Φ:=av,F0:=F0,ct:=ct,hc:=ah,mt:=mt,hm:=cQ}
end MIntSS
theorem gq {es:aa}{left:Int}(hp:Rw [.sl [tI]] es/\0<=left/\left<=1048576):ap 115 [.one (.s 1 es),.j left] [.j (bi [es] left)]:=by
 obtain⟨hw,h0,h1⟩:=hp;have hwf:Wf [.s 1 []] es:=hw.wf;have hm:=hw.1;unfold maxLen at hm;have hs:bu .sub .i64 left es.length=left-es.length:=cL (by omega);have hcE:ak es=es.length+bA es:=rfl;have hn:bi [es] left=if left<ak es then-1 else left-ak es:=by unfold bi;rw[cE]
 refine cb LIntSS.B Tryz.func115 ?_
 intro O r F hO hr hF;cbv
 apply be<;>intro hb<;>cbv
 ·repeat' first|apply And.intro|(apply be<;>intro hb<;>cbv)
  all_goals exact I6
 have hb0:0<=left-es.length:=by
  (subst hO hr hF;(try simp only[nc]at*);(try simp only[ai,SS,sa,az]at*))
  rw[hs]at hb;exact hb
 clear hb;refine⟨[0,1,5],[],Int×Int,fun s=>match s with|(i,l)=>[.reg 5 (.j i),.reg 1 (.j l)],fun s=>0<=s.1/\s.1.toNat<=es.length/\0<=s.2/\s.2=left-es.length-bA (es.take s.1.toNat),fun s=>es.length-s.1.toNat,⟨(0,O.ar .sub .i64 left (O.zi (O.ln es))),?_,?_⟩,?_⟩
 ·(subst hO hr hF;(try simp only[nc]at*);(try simp only[ai,SS,sa,az]at*))
  rw[hs];exact⟨by omega,Nat.zero_le _,hb0,by simp[bA]⟩
 ·cbv
 ·rintro⟨i,l⟩ hi;replace hi:0<=i/\i.toNat<=es.length/\0<=l/\l=left-es.length-bA (es.take i.toNat):=hi;obtain⟨g0,g1,g2,g3⟩:=hi;cbv
  repeat' first|apply And.intro|(apply be<;>intro hb<;>cbv)|(refine ab (O.ar .add .i64 i 1,F.szN [O.gs es i 0] l) ?_ ?_ ?_;focus (cbv;done))
  all_goals(subst hO hr hF;(try simp only[nc]at*);(try simp only[ai,SS,sa,az]at*))
  all_goals have hsz:=dB (a:=[ax es i 0]) (left:=l)
  all_goals((have hsz2:0<=bi [ax es i 0] l->bi [ax es i 0] l=l-ao [ax es i 0]:=lq);(try have hlt:i<es.length:=by assumption);(try have he:es.getD i.toNat []=[.s 1 (ax es i 0)]:=(aw hwf g0 hlt).symm);(try rw[ee (n:=es.length) g0 hlt (by omega)]);(try have hr0:Rw [tI] (ax es i 0):=Rw.sub (fs:=[.sl [tI]]) hw (by omega) rfl))
  all_goals exact TL
theorem gr {es:aa}(hp:Rw [.sl [tI]] es/\ak es<=1048576):ap 139 [.one (.s 1 es)] [.one (.s 1 es)]:=by
 obtain⟨hw,hlim⟩:=hp;have hwf:Wf [.s 1 []] es:=hw.wf;have hlen:=dA hlim;refine cb LIntSS.B Tryz.func139 ?_
 intro O r F hO hr hF;cbv
 have h0z:bO es [.s 1 []] 0=O.rep (O.zi (O.ln es)) [.s 1 []]:=by
  subst hO;rw[cv];rfl
 refine⟨?_,?_,[0,3,4],[3],Int×aa,fun s=>[.reg 4 (.j s.1),.leaf 3 0 ⟨0,0,none,.own (.s 1 s.2)⟩],fun s=>0<=s.1/\s.1.toNat<=es.length/\s.2=bO es [.s 1 []] s.1.toNat,fun s=>es.length-s.1.toNat,⟨(0,O.rep (O.zi (O.ln es)) [.s 1 []]),?_,?_⟩,?_⟩
 ·subst hO;exact iE (b:=24) (show es.length*_<=_ by omega) (show es.length<=_ by omega)
 ·subst hO;exact⟨rfl,rfl⟩
 ·exact⟨by omega,Nat.zero_le _,h0z.symm⟩
 ·cbv
 ·rintro⟨i,m⟩ hi;replace hi:0<=i/\i.toNat<=es.length/\m=bO es [.s 1 []] i.toNat:=hi;obtain⟨g0,g1,hm⟩:=hi;cbv
  repeat' first|apply And.intro|(apply be<;>intro hb<;>cbv)|(refine ab (O.ar .add .i64 i 1,O.up (.s 1 m) [(O.ad 0 i,0)] [.s 1 (O.gs es i 0)]) ?_ ?_ ?_;focus (cbv;done))
  all_goals(subst hO hr hF;(try simp only[nc]at*);(try simp only[ai,SS,sa,az]at*);(try simp only[l9,List.length_replicate,Int.toNat_natCast]at*);(try have hlt:i<es.length:=by assumption);(try have he:es.getD i.toNat []=[.s 1 (ax es i 0)]:=(aw hwf g0 hlt).symm);(try rw[ee (n:=es.length) g0 hlt (by omega)]);(try have hr0:Rw [tI] (ax es i 0):=Rw.sub (fs:=[.sl [tI]]) hw (by omega) rfl))
  all_goals exact TK
theorem gp {es:aa}{d:DV}(hp:d=.one (.s 1 es)/\Rw [.sl [tI]] es/\ak es<=1099511627776):ap 163 [.one (.s 1 es),d] [.k true]:=by
 obtain⟨rfl,hw,hlim⟩:=hp;have hwf:Wf [.s 1 []] es:=hw.wf;have hlen:=dA hlim;refine cb LIntSS.B Tryz.func163 ?_
 intro O r F hO hr hF;cbv
 apply be<;>intro hb<;>cbv
 ·(subst hO hr hF;(try simp only[nc]at*);(try simp only[ai,SS,sa,az]at*));exact absurd rfl hb
 ·clear hb;refine⟨[0,1,5],[],Int,fun i=>[.reg 5 (.j i)],fun i=>0<=i/\i.toNat<=es.length,fun i=>es.length-i.toNat,⟨0,?_,?_⟩,?_⟩
  ·exact⟨by omega,Nat.zero_le _⟩
  ·cbv
  ·rintro i hi;replace hi:0<=i/\i.toNat<=es.length:=hi;obtain⟨g0,g1⟩:=hi;cbv
   repeat' first|apply And.intro|(apply be<;>intro hb<;>cbv)|(refine ab (O.ar .add .i64 i 1) ?_ ?_ ?_;focus (cbv;done))
   all_goals(subst hO hr hF;(try simp only[nc]at*);(try simp only[ai,SS,sa,az]at*);(try have hlt:i<es.length:=by assumption);(try have he:es.getD i.toNat []=[.s 1 (ax es i 0)]:=(aw hwf g0 hlt).symm);(try rw[ee (n:=es.length) g0 hlt (by omega)]);(try have hr0:Rw [tI] (ax es i 0):=Rw.sub (fs:=[.sl [tI]]) hw (by omega) rfl))
   all_goals exact Nq
theorem eX {es:aa}{k:Int}(hp:Rw [.sl [tI]] es/\ak es<=1099511627776/\0<=k/\bc [es] k<=1152921504606846976):d5 192 [.one (.s 1 es),.j k] [.s 1 (bV es k)] [.j (bc [es] k)]:=by
 obtain⟨hw,hlim,hk0,hkb⟩:=hp;have hwf:Wf [.s 1 []] es:=hw.wf;have hlen:=dA hlim;refine mb MIntSS.B [(0,0)] Tryz.func192 ?_
 intro O r os F hO hr hos hF;cbv
 refine⟨[0,1,5],[0],Int×Int×aa,fun s=>match s with|(i,k',cur)=>[.reg 5 (.j i),.reg 1 (.j k'),.leaf 0 0 ⟨0,0,some 0,.own (.s 1 cur)⟩],fun s=>0<=s.1/\s.1.toNat<=es.length/\s.2.1=gX es k s.1.toNat/\s.2.2=dM es k s.1.toNat,fun s=>es.length-s.1.toNat,⟨(0,k,es),?_,?_⟩,?_⟩
 ·exact⟨by omega,Nat.zero_le _,cC.symm,da.symm⟩
 ·cbv
 ·rintro⟨i,k',cur⟩ hi;replace hi:0<=i/\i.toNat<=es.length/\k'=gX es k i.toNat/\cur=dM es k i.toNat:=hi;obtain⟨g0,g1,hk',hc⟩:=hi;cbv
  repeat' first|apply And.intro|(apply be<;>intro hb<;>cbv)|(refine ab (O.ar .add .i64 i 1,F.kN [O.ps (.s 1 (cur)) [(O.ad 0 i,0)]] (k'),O.up (.s 1 (cur)) [(O.ad 0 i,0)] [.s 1 (F.mkN (O.ps (.s 1 (cur)) [(O.ad 0 i,0)]) (k'))]) ?_ ?_ ?_;focus (cbv;done))
  all_goals((try subst hos);subst hO hr hF;(try simp only[nc]at*);(try simp only[ai,SS,sa,az]at*);(try have hlt:i<es.length:=by assumption);(try have he:es.getD i.toNat []=[.s 1 (ax es i 0)]:=(aw hwf g0 hlt).symm);(try have hcg:cur.getD i.toNat []=[.s 1 (ax es i 0)]:=by rw[hc,cZ g1];exact he);(try rw[ee (n:=es.length) g0 hlt (by omega)]);(try have hlt':i.toNat<es.length:=by omega);(try have hr0:Rw [tI] (ax es i 0):=Rw.sub (fs:=[.sl [tI]]) hw (by omega) rfl))
  all_goals exact TH
theorem sE {es:aa}{left:Int}(hp:Rw [tB] es/\0<=left/\left<=1048576):ap 242 [.one (.s 1 es),.j left] [.j (bi [es] left)]:=by
 obtain⟨hw,h0,h1⟩:=hp;have hc:ak es=es.length:=hw.cnt rfl;have hm:=hw.1;unfold maxLen at hm;have hs:bu .sub .i64 left es.length=left-es.length:=cL (by omega);have hn:bi [es] left=if left<es.length then-1 else left-es.length:=by unfold bi;rw[cE,hc]
 refine cb nB Tryz.func242 ?_
 exact I7
theorem sJ {es:aa}(hp:Rw [tB] es/\ak es<=1048576):ap 247 [.one (.s 1 es)] [.one (.s 1 es)]:=by
 obtain⟨hw,hlim⟩:=hp;have hwf:Wf [.v (.bool false)] es:=hw.wf;have hlen:=dA hlim;refine cb nB Tryz.func247 ?_
 intro O r F hO hr hF;cbv
 have h0z:bO es [.v (.bool false)] 0=O.rep (O.zi (O.ln es)) [.v (.bool false)]:=by
  subst hO;rw[cv];rfl
 refine⟨?_,?_,[0,3,4],[3],Int×aa,fun s=>[.reg 4 (.j s.1),.leaf 3 0 ⟨0,0,none,.own (.s 1 s.2)⟩],fun s=>0<=s.1/\s.1.toNat<=es.length/\s.2=bO es [.v (.bool false)] s.1.toNat,fun s=>es.length-s.1.toNat,⟨(0,O.rep (O.zi (O.ln es)) [.v (.bool false)]),?_,?_⟩,?_⟩
 ·subst hO;exact iE (b:=1) (show es.length*_<=_ by omega) (show es.length<=_ by omega)
 ·subst hO;exact⟨rfl,rfl⟩
 ·exact⟨by omega,Nat.zero_le _,h0z.symm⟩
 ·cbv
 ·rintro⟨i,m⟩ hi;replace hi:0<=i/\i.toNat<=es.length/\m=bO es [.v (.bool false)] i.toNat:=hi;obtain⟨g0,g1,hm⟩:=hi;cbv
  repeat' first|apply And.intro|(apply be<;>intro hb<;>cbv)|(refine ab (O.ar .add .i64 i 1,O.up (.s 1 m) [(O.ad 0 i,0)] [.v (.bool (O.gb es i 0))]) ?_ ?_ ?_;focus (cbv;done))
  all_goals(subst hO hr hF;(try simp only[nc]at*);(try simp only[ai,SS,sa,az]at*);(try simp only[l9,List.length_replicate,Int.toNat_natCast]at*);(try have hlt:i<es.length:=by assumption);(try have he:es.getD i.toNat []=[.v (.bool (jS es i 0))]:=(aw hwf g0 hlt).symm))
  all_goals exact I5
theorem sn {es:aa}{d:DV}(hp:d=.one (.s 1 es)/\Rw [tB] es/\ak es<=1099511627776):ap 259 [.one (.s 1 es),d] [.k true]:=by
 obtain⟨rfl,hw,hlim⟩:=hp;have hwf:Wf [.v (.bool false)] es:=hw.wf;have hlen:=dA hlim;refine cb nB Tryz.func259 ?_
 intro O r F hO hr hF;cbv
 apply be<;>intro hb<;>cbv
 ·(subst hO hr hF;(try simp only[nc]at*);(try simp only[ai,SS,sa,az]at*));exact absurd rfl hb
 ·clear hb;refine⟨[0,1,5],[],Int,fun i=>[.reg 5 (.j i)],fun i=>0<=i/\i.toNat<=es.length,fun i=>es.length-i.toNat,⟨0,?_,?_⟩,?_⟩
  ·exact⟨by omega,Nat.zero_le _⟩
  ·cbv
  ·rintro i hi;replace hi:0<=i/\i.toNat<=es.length:=hi;obtain⟨g0,g1⟩:=hi;cbv
   repeat' first|apply And.intro|(apply be<;>intro hb<;>cbv)|(refine ab (O.ar .add .i64 i 1) ?_ ?_ ?_;focus (cbv;done))
   all_goals(subst hO hr hF;(try simp only[nc]at*);(try simp only[ai,SS,sa,az]at*);(try have hlt:i<es.length:=by assumption);(try rw[ee (n:=es.length) g0 hlt (by omega)]);(try have he:es.getD i.toNat []=[.v (.bool (jS es i 0))]:=(aw hwf g0 hlt).symm);(try have hct:=dT (es:=es) (n:=i.toNat) (by omega);rw[he]at hct;simp only[dV,gN,Nat.add_zero,Nat.zero_add]at hct))
   all_goals have hle1:=bF (es:=es) (n:=i.toNat+1)
   all_goals have hcE:ak es=es.length+bA es:=rfl
   all_goals first|omega|exact gG hwf g0 hlt|exact absurd rfl hb|trivial|trace_state
theorem oc {es:aa}{k:Int}(hp:Rw [tB] es/\ak es<=1099511627776/\0<=k/\bc [es] k<=1152921504606846976):d5 262 [.one (.s 1 es),.j k] [.s 1 (bV es k)] [.j (bc [es] k)]:=by
 obtain⟨hw,hlim,hk0,hkb⟩:=hp;have hwf:Wf [.v (.bool false)] es:=hw.wf;have hlen:=dA hlim;refine mb nB [(0,0)] Tryz.func262 ?_
 intro O r os F hO hr hos hF;cbv
 refine⟨[0,1,5],[0],Int×Int×aa,fun s=>match s with|(i,k',cur)=>[.reg 5 (.j i),.reg 1 (.j k'),.leaf 0 0 ⟨0,0,some 0,.own (.s 1 cur)⟩],fun s=>0<=s.1/\s.1.toNat<=es.length/\s.2.1=gX es k s.1.toNat/\s.2.2=dM es k s.1.toNat,fun s=>es.length-s.1.toNat,⟨(0,k,es),?_,?_⟩,?_⟩
 ·exact⟨by omega,Nat.zero_le _,cC.symm,da.symm⟩
 ·cbv
 ·rintro⟨i,k',cur⟩ hi;replace hi:0<=i/\i.toNat<=es.length/\k'=gX es k i.toNat/\cur=dM es k i.toNat:=hi;obtain⟨g0,g1,hk',hc⟩:=hi;cbv
  repeat' first|apply And.intro|(apply be<;>intro hb<;>cbv)|(refine ab (O.ar .add .i64 i 1,O.ar .add .i64 (k') 1,O.up (.s 1 (cur)) [(O.ad 0 i,0)] [.v (.bool (O.cmp .eql (O.ar .rem .i64 (k') 3) 0))]) ?_ ?_ ?_;focus (cbv;done))
  all_goals((try subst hos);subst hO hr hF;(try simp only[nc]at*);(try simp only[ai,SS,sa,az]at*);(try have hlt:i<es.length:=by assumption);(try rw[ee (n:=es.length) g0 hlt (by omega)]);(try have hlt':i.toNat<es.length:=by omega);(try have he:es.getD i.toNat []=[.v (.bool (jS es i 0))]:=(aw hwf g0 hlt).symm);(try have hct:=dT (es:=es) (n:=i.toNat) (by omega);rw[he]at hct;simp only[dV,gN,Nat.add_zero,Nat.zero_add]at hct);(try have hks:=kx (es:=es) (k:=k) hlt';rw[he]at hks;simp only[kD,jf]at hks);(try have hms:=tW (es:=es) (k:=k) hlt';rw[he]at hms;simp only[kD,jf]at hms))
  all_goals have hle1:=bF (es:=es) (n:=i.toNat+1)
  all_goals have hcE:ak es=es.length+bA es:=rfl
  all_goals have hk1:=jK (es:=es) (k:=k) (n:=i.toNat)
  all_goals have hk2:=jK (es:=es) (k:=k) (n:=i.toNat+1)
  all_goals have hk3:=rH (es:=es) (k:=k)
  all_goals have hk4:=jK (es:=es) (k:=k) (n:=es.length)
  all_goals have hk5:=eZ (es:=es) (m:=0) (n:=i.toNat) g1 (Nat.zero_le _)
  all_goals((have hk6:=eZ (es:=es) (m:=i.toNat) (n:=es.length) (Nat.le_refl _) g1);(try have hk7:=eZ (es:=es) (m:=i.toNat+1) (n:=es.length) (Nat.le_refl _) hlt'))
  all_goals rw[cC]at hk5
  all_goals((try have hk8:=kw (es:=es) (n:=i.toNat) hlt');(try have hcl:i.toNat<cur.length:=by rw[hc,kB g1];exact hlt');(try have hcg:cur.getD i.toNat []=[.v (.bool (jS es i 0))]:=by rw[hc,cZ g1];exact he))
  all_goals have ha1:bu .add .i64 k' 1=k'+1:=bj (by omega)
  all_goals have ha2:bu .add .i64 (k'+1) 1=k'+1+1:=bj (by omega)
  all_goals have ha3:bu .add .i64 (k'+1+1) 1=k'+1+1+1:=bj (by omega)
  all_goals((have ha4:bu .add .i64 (k'+1+1+1) 1=k'+1+1+1+1:=bj (by omega));(try simp only[ha1,ha2,ha3,ha4]);(try simp only[az]);(try simp only[uu,hcg,List.take,List.drop,List.length_cons,List.length_nil,List.nil_append,List.cons_append,List.append_nil,Nat.zero_add,Nat.reduceAdd,dm hcl,List.set_set,List.append_assoc]);(try simp only[rO,hcg,dm hcl,List.getD_cons_zero,List.getD_cons_succ,Fg]);(try simp only[rD hcl,mU hcl,wU hcl,tu hcl,hcg,List.getElem?_cons_zero,List.getElem?_cons_succ]))
  all_goals first|exact⟨g0,hlt⟩|(refine⟨_,_,rfl,?_⟩;simp;done)|omega|(rw[hk',show i.toNat=es.length from by omega,hk3];done)|(rw[hc,show i.toNat=es.length from by omega,tV];rfl)|(rw[show(i+1).toNat=i.toNat+1 from by omega,hks,hk'];done)|(rw[show(i+1).toNat=i.toNat+1 from by omega, <-hms,hc,hk'];rfl)|trace_state
namespace LFrames
structure av where
 szN:List aa->Int->Int
abbrev F0 :av:=⟨bi⟩
def ct (F:av):CT:=fun f ds=>match f,ds with
 |115,[.one (.s 1 es),.one (.v (.int .i64 left))]=>some (fun _=>Rw [.sl [tI]] es/\0<=left/\left<=1048576,[.j (F.szN [es] left)])
 |139,[.one (.s 1 es)]=>some (fun _=>Rw [.sl [tI]] es/\ak es<=1048576,[.one (.s 1 es)])
 |163,[.one (.s 1 es),d]=>some (fun _=>d=.one (.s 1 es)/\Rw [.sl [tI]] es/\ak es<=1099511627776,[.k true])
 |242,[.one (.s 1 es),.one (.v (.int .i64 left))]=>some (fun _=>Rw [tB] es/\0<=left/\left<=1048576,[.j (F.szN [es] left)])
 |247,[.one (.s 1 es)]=>some (fun _=>Rw [tB] es/\ak es<=1048576,[.one (.s 1 es)])
 |259,[.one (.s 1 es),d]=>some (fun _=>d=.one (.s 1 es)/\Rw [tB] es/\ak es<=1099511627776,[.k true])
 |_,_=>none
theorem ah :aO (ct F0):=by
 intro f ds pre res h hp;unfold ct at h;split at h<;>cases h
 exact gq hp;exact gr hp;exact gp hp;exact sE hp;exact sJ hp;exact sn hp
abbrev B :ce:=tb ah
end LFrames
namespace MFrames
structure av where
 kN:List aa->Int->Int
 mkN:aa->Int->aa
abbrev F0 :av:=⟨bc,bV⟩
def mt (F:av):MT:=fun f=>match f with
 | 192=>some fun ds=>match ds with
   |[.one (.s 1 es),.one (.v (.int .i64 k))]=>some (fun _=>Rw [.sl [tI]] es/\ak es<=1099511627776/\0<=k/\bc [es] k<=1152921504606846976,[.s 1 (F.mkN es k)],[.j (F.kN [es] k)])
   |_=>none
 | 262=>some fun ds=>match ds with
   |[.one (.s 1 es),.one (.v (.int .i64 k))]=>some (fun _=>Rw [tB] es/\ak es<=1099511627776/\0<=k/\bc [es] k<=1152921504606846976,[.s 1 (F.mkN es k)],[.j (F.kN [es] k)])
   |_=>none
 |_=>none
theorem cQ :fQ (mt F0):=by
 intro f mk h ds pre outs res hm hp;unfold mt at h;split at h
 ·cases h;dsimp only at hm;split at hm
  ·cases hm;exact eX hp
  ·cases hm
 ·cases h;dsimp only at hm;split at hm
  ·cases hm;exact oc hp
  ·cases hm
 ·cases h
abbrev B :ce:={Φ:=av,F0:=F0,mt:=mt,hm:=cQ}
end MFrames
theorem qB {a0 a1:aa}{left:Int}(hp:Rw [.sl [tI]] a0/\Rw [tB] a1/\0<=left/\left<=1048576):ap 196 [.agg [.s 1 a0,.s 1 a1],.j left] [.j (bi [a0,a1] left)]:=by
 obtain⟨w0,w1,h0,h1⟩:=hp;refine cb LFrames.B Tryz.func196 ?_
 intro O r F hO hr hF;cbv
 repeat' first|apply And.intro|(apply be<;>intro hb<;>cbv)
 all_goals(subst hO hr hF;(try simp only[nc]at*);(try simp only[ai,SS,sa,az]at*);(try simp(disch:=assumption) only[hJ,List.cons_append,List.nil_append]at*))
 all_goals exact Ry
theorem qK {a0 a1:aa}(hp:Rw [.sl [tI]] a0/\Rw [tB] a1/\ao [a0,a1]<=1048576):ap 210 [.agg [.s 1 a0,.s 1 a1]] [.agg [.s 1 a0,.s 1 a1]]:=by
 obtain⟨w0,w1,hlim⟩:=hp;simp only[ao,Nat.add_zero]at hlim;refine cb LFrames.B Tryz.func210 ?_
 exact Rv
theorem qh {a0 a1:aa}{d:DV}(hp:d=.agg [.s 1 a0,.s 1 a1]/\Rw [.sl [tI]] a0/\Rw [tB] a1/\ao [a0,a1]<=1099511627776):ap 229 [.agg [.s 1 a0,.s 1 a1],d] [.k true]:=by
 obtain⟨rfl,w0,w1,hlim⟩:=hp;simp only[ao,Nat.add_zero]at hlim;refine cb LFrames.B Tryz.func229 ?_
 exact Ru
theorem mE {a0 a1:aa}{k:Int}(hp:Rw [.sl [tI]] a0/\Rw [tB] a1/\ao [a0,a1]<=1099511627776/\0<=k/\bc [a0,a1] k<=1152921504606846976):d5 239 [.agg [.s 1 a0,.s 1 a1],.j k] [.s 1 (bV a0 k),.s 1 (bV a1 (bc [a0] k))] [.j (bc [a0,a1] k)]:=by
 obtain⟨w0,w1,hlim,hk0,hkb⟩:=hp;simp only[ao,Nat.add_zero]at hlim;have p0:bc [a0] k<=bc [a0,a1] k/\0<=bc [a0] k:=cn (b:=[a1]) hk0;have p1:bc [a0,a1] k<=bc [a0,a1] k/\0<=bc [a0,a1] k:=cn (b:=[]) hk0;refine mb MFrames.B [(2,0),(2,1)] Tryz.func239 ?_
 exact RL
theorem sL {a0 a1:Int}(hp:True):ap 264 [.agg [.i a0,.i a1]] [.agg [.i a0,.i a1]]:=by
 refine cb nB Tryz.func264 ?_
 exact mh
theorem sq {a0 a1:Int}{d:DV}(hp:d=.agg [.i a0,.i a1]):ap 270 [.agg [.i a0,.i a1],d] [.k true]:=by
 subst hp;refine cb nB Tryz.func270 ?_
 exact mh
namespace LEntryS
def ct (F:av):CT:=fun f ds=>match f,ds with
 |264,[.agg [.v (.int .i64 a0),.v (.int .i64 a1)]]=>some (fun _=>True,[.agg [.i a0,.i a1]])
 |270,[.agg [.v (.int .i64 a0),.v (.int .i64 a1)],d]=>some (fun _=>d=.agg [.i a0,.i a1],[.k true])
 |_,_=>none
theorem ah :aO (ct F0):=by
 intro f ds pre res h hp;unfold ct at h;split at h<;>cases h
 exact sL hp;exact sq hp
abbrev B :ce:=tb ah
end LEntryS
theorem qz {es:aa}{left:Int}(hp:Rw [tI,tI] es/\0<=left/\left<=1048576):ap 243 [.one (.s 2 es),.j left] [.j (bi [es] left)]:=by
 obtain⟨hw,h0,h1⟩:=hp;have hc:ak es=es.length:=hw.cnt rfl;have hm:=hw.1;unfold maxLen at hm;have hs:bu .sub .i64 left es.length=left-es.length:=cL (by omega);have hn:bi [es] left=if left<es.length then-1 else left-es.length:=by unfold bi;rw[cE,hc]
 refine cb LEntryS.B Tryz.func243 ?_
 exact I7
theorem qJ {es:aa}(hp:Rw [tI,tI] es/\ak es<=1048576):ap 248 [.one (.s 2 es)] [.one (.s 2 es)]:=by
 obtain⟨hw,hlim⟩:=hp;have hwf:Wf [.i 0,.i 0] es:=hw.wf;have hlen:=dA hlim;refine cb LEntryS.B Tryz.func248 ?_
 intro O r F hO hr hF;cbv
 have h0z:bO es [.i 0,.i 0] 0=O.rep (O.zi (O.ln es)) [.i 0,.i 0]:=by
  subst hO;rw[cv];rfl
 refine⟨?_,?_,[0,3,4],[3],Int×aa,fun s=>[.reg 4 (.j s.1),.leaf 3 0 ⟨0,0,none,.own (.s 2 s.2)⟩],fun s=>0<=s.1/\s.1.toNat<=es.length/\s.2=bO es [.i 0,.i 0] s.1.toNat,fun s=>es.length-s.1.toNat,⟨(0,O.rep (O.zi (O.ln es)) [.i 0,.i 0]),?_,?_⟩,?_⟩
 ·subst hO;exact iE (b:=16) (show es.length*_<=_ by omega) (show es.length<=_ by omega)
 ·subst hO;exact⟨rfl,rfl⟩
 ·exact⟨by omega,Nat.zero_le _,h0z.symm⟩
 ·cbv
 ·rintro⟨i,m⟩ hi;replace hi:0<=i/\i.toNat<=es.length/\m=bO es [.i 0,.i 0] i.toNat:=hi;obtain⟨g0,g1,hm⟩:=hi;cbv
  repeat' first|apply And.intro|(apply be<;>intro hb<;>cbv)|(refine ab (O.ar .add .i64 i 1,O.up (.s 2 m) [(O.ad 0 i,0)] [.i (O.gi es i 0),.i (O.gi es i 1)]) ?_ ?_ ?_;focus (cbv;done))
  all_goals(subst hO hr hF;(try simp only[nc]at*);(try simp only[ai,SS,sa,az]at*);(try simp only[l9,List.length_replicate,Int.toNat_natCast]at*);(try have hlt:i<es.length:=by assumption);(try have he:es.getD i.toNat []=[.i (af es i 0),.i (af es i 1)]:=(aw hwf g0 hlt).symm))
  all_goals exact I5
theorem qg {es:aa}{d:DV}(hp:d=.one (.s 2 es)/\Rw [tI,tI] es/\ak es<=1099511627776):ap 260 [.one (.s 2 es),d] [.k true]:=by
 obtain⟨rfl,hw,hlim⟩:=hp;have hwf:Wf [.i 0,.i 0] es:=hw.wf;have hlen:=dA hlim;refine cb LEntryS.B Tryz.func260 ?_
 intro O r F hO hr hF;cbv
 apply be<;>intro hb<;>cbv
 ·(subst hO hr hF;(try simp only[nc]at*);(try simp only[ai,SS,sa,az]at*));exact absurd rfl hb
 ·clear hb;refine⟨[0,1,5],[],Int,fun i=>[.reg 5 (.j i)],fun i=>0<=i/\i.toNat<=es.length,fun i=>es.length-i.toNat,⟨0,?_,?_⟩,?_⟩
  ·exact⟨by omega,Nat.zero_le _⟩
  ·cbv
  ·rintro i hi;replace hi:0<=i/\i.toNat<=es.length:=hi;obtain⟨g0,g1⟩:=hi;cbv
   repeat' first|apply And.intro|(apply be<;>intro hb<;>cbv)|(refine ab (O.ar .add .i64 i 1) ?_ ?_ ?_;focus (cbv;done))
   all_goals(subst hO hr hF;(try simp only[nc]at*);(try simp only[ai,SS,sa,az]at*);(try have hlt:i<es.length:=by assumption);(try have he:es.getD i.toNat []=[.i (af es i 0),.i (af es i 1)]:=(aw hwf g0 hlt).symm))
   all_goals exact KU
theorem mD {es:aa}{k:Int}(hp:Rw [tI,tI] es/\ak es<=1099511627776/\0<=k/\bc [es] k<=1152921504606846976):d5 263 [.one (.s 2 es),.j k] [.s 2 (bV es k)] [.j (bc [es] k)]:=by
 obtain⟨hw,hlim,hk0,hkb⟩:=hp;have hwf:Wf [.i 0,.i 0] es:=hw.wf;have hlen:=dA hlim;refine mb nB [(0,0)] Tryz.func263 ?_
 intro O r os F hO hr hos hF;cbv
 refine⟨[0,1,5],[0],Int×Int×aa,fun s=>match s with|(i,k',cur)=>[.reg 5 (.j i),.reg 1 (.j k'),.leaf 0 0 ⟨0,0,some 0,.own (.s 2 cur)⟩],fun s=>0<=s.1/\s.1.toNat<=es.length/\s.2.1=gX es k s.1.toNat/\s.2.2=dM es k s.1.toNat,fun s=>es.length-s.1.toNat,⟨(0,k,es),?_,?_⟩,?_⟩
 ·exact⟨by omega,Nat.zero_le _,cC.symm,da.symm⟩
 ·cbv
 ·rintro⟨i,k',cur⟩ hi;replace hi:0<=i/\i.toNat<=es.length/\k'=gX es k i.toNat/\cur=dM es k i.toNat:=hi;obtain⟨g0,g1,hk',hc⟩:=hi;cbv
  repeat' first|apply And.intro|(apply be<;>intro hb<;>cbv)|(refine ab (O.ar .add .i64 i 1,O.ar .add .i64 (O.ar .add .i64 (k') 1) 1,O.up (.s 2 (O.up (.s 2 (cur)) [(O.ad 0 i,0)] [.i (k')])) [(O.ad 0 i,1)] [.i (O.ar .add .i64 (k') 1)]) ?_ ?_ ?_;focus (cbv;done))
  all_goals((try subst hos);subst hO hr hF;(try simp only[nc]at*);(try simp only[ai,SS,sa,az]at*);(try have hlt:i<es.length:=by assumption);(try have he:es.getD i.toNat []=[.i (af es i 0),.i (af es i 1)]:=(aw hwf g0 hlt).symm);(try have hcg:cur.getD i.toNat []=[.i (af es i 0),.i (af es i 1)]:=by rw[hc,cZ g1];exact he))
  all_goals exact KT
namespace LTable
structure av where
 szN:List aa->Int->Int
abbrev F0 :av:=⟨bi⟩
def ct (F:av):CT:=fun f ds=>match f,ds with
 |243,[.one (.s 2 es),.one (.v (.int .i64 left))]=>some (fun _=>Rw [tI,tI] es/\0<=left/\left<=1048576,[.j (F.szN [es] left)])
 |248,[.one (.s 2 es)]=>some (fun _=>Rw [tI,tI] es/\ak es<=1048576,[.one (.s 2 es)])
 |260,[.one (.s 2 es),d]=>some (fun _=>d=.one (.s 2 es)/\Rw [tI,tI] es/\ak es<=1099511627776,[.k true])
 |_,_=>none
theorem ah :aO (ct F0):=by
 intro f ds pre res h hp;unfold ct at h;split at h<;>cases h
 exact qz hp;exact qJ hp;exact qg hp
abbrev B :ce:=tb ah
end LTable
namespace MTable
structure av where
 kN:List aa->Int->Int
 mkN:aa->Int->aa
abbrev F0 :av:=⟨bc,bV⟩
def mt (F:av):MT:=fun f=>match f with
 | 263=>some fun ds=>match ds with
   |[.one (.s 2 es),.one (.v (.int .i64 k))]=>some (fun _=>Rw [tI,tI] es/\ak es<=1099511627776/\0<=k/\bc [es] k<=1152921504606846976,[.s 2 (F.mkN es k)],[.j (F.kN [es] k)])
   |_=>none
 |_=>none
theorem cQ :fQ (mt F0):=by
 intro f mk h ds pre outs res hm hp;unfold mt at h;split at h
 ·cases h;dsimp only at hm;split at hm
  ·cases hm;exact mD hp
  ·cases hm
 ·cases h
abbrev B :ce:={Φ:=av,F0:=F0,mt:=mt,hm:=cQ}
end MTable
theorem sI {a0:aa}{left:Int}(hp:Rw [tI,tI] a0/\0<=left/\left<=1048576):ap 197 [.agg [.s 2 a0],.j left] [.j (bi [a0] left)]:=by
 obtain⟨w0,h0,h1⟩:=hp;refine cb LTable.B Tryz.func197 ?_
 intro O r F hO hr hF;cbv
 repeat' first|apply And.intro|(apply be<;>intro hb<;>cbv)
 all_goals(subst hO hr hF;(try simp only[nc]at*);(try simp only[ai,SS,sa,az]at*);(try simp(disch:=assumption) only[hJ,List.cons_append,List.nil_append]at*))
 all_goals first|trivial|(rw[gI (by assumption)])|trace_state
theorem sR {a0:aa}(hp:Rw [tI,tI] a0/\ao [a0]<=1048576):ap 211 [.agg [.s 2 a0]] [.agg [.s 2 a0]]:=by
 obtain⟨w0,hlim⟩:=hp;simp only[ao,Nat.add_zero]at hlim;refine cb LTable.B Tryz.func211 ?_
 exact mh
theorem sC {a0:aa}{d:DV}(hp:d=.agg [.s 2 a0]/\Rw [tI,tI] a0/\ao [a0]<=1099511627776):ap 230 [.agg [.s 2 a0],d] [.k true]:=by
 obtain⟨rfl,w0,hlim⟩:=hp;simp only[ao,Nat.add_zero]at hlim;refine cb LTable.B Tryz.func230 ?_
 exact mh
theorem oh {a0:aa}{k:Int}(hp:Rw [tI,tI] a0/\ao [a0]<=1099511627776/\0<=k/\bc [a0] k<=1152921504606846976):d5 240 [.agg [.s 2 a0],.j k] [.s 2 (bV a0 k)] [.j (bc [a0] k)]:=by
 obtain⟨w0,hlim,hk0,hkb⟩:=hp;simp only[ao,Nat.add_zero]at hlim;have p0:bc [a0] k<=bc [a0] k/\0<=bc [a0] k:=cn (b:=[]) hk0;refine mb MTable.B [(2,0)] Tryz.func240 ?_
 exact I4
namespace LMachine
structure av where
 szN:List aa->Int->Int
abbrev F0 :av:=⟨bi⟩
def ct (F:av):CT:=fun f ds=>match f,ds with
 |196,[.agg [.s 1 a0,.s 1 a1],.one (.v (.int .i64 left))]=>some (fun _=>Rw [.sl [tI]] a0/\Rw [tB] a1/\0<=left/\left<=1048576,[.j (F.szN [a0,a1] left)])
 |210,[.agg [.s 1 a0,.s 1 a1]]=>some (fun _=>Rw [.sl [tI]] a0/\Rw [tB] a1/\ao [a0,a1]<=1048576,[.agg [.s 1 a0,.s 1 a1]])
 |229,[.agg [.s 1 a0,.s 1 a1],d]=>some (fun _=>d=.agg [.s 1 a0,.s 1 a1]/\Rw [.sl [tI]] a0/\Rw [tB] a1/\ao [a0,a1]<=1099511627776,[.k true])
 |197,[.agg [.s 2 a0],.one (.v (.int .i64 left))]=>some (fun _=>Rw [tI,tI] a0/\0<=left/\left<=1048576,[.j (F.szN [a0] left)])
 |211,[.agg [.s 2 a0]]=>some (fun _=>Rw [tI,tI] a0/\ao [a0]<=1048576,[.agg [.s 2 a0]])
 |230,[.agg [.s 2 a0],d]=>some (fun _=>d=.agg [.s 2 a0]/\Rw [tI,tI] a0/\ao [a0]<=1099511627776,[.k true])
 |_,_=>none
theorem ah :aO (ct F0):=by
 intro f ds pre res h hp;unfold ct at h;split at h<;>cases h
 exact qB hp;exact qK hp;exact qh hp;exact sI hp;exact sR hp;exact sC hp
abbrev B :ce:=tb ah
end LMachine
namespace MMachine
structure av where
 kN:List aa->Int->Int
 mkN:aa->Int->aa
abbrev F0 :av:=⟨bc,bV⟩
def mt (F:av):MT:=fun f=>match f with
 | 239=>some fun ds=>match ds with
   |[.agg [.s 1 a0,.s 1 a1],.one (.v (.int .i64 k))]=>some (fun _=>Rw [.sl [tI]] a0/\Rw [tB] a1/\ao [a0,a1]<=1099511627776/\0<=k/\bc [a0,a1] k<=1152921504606846976,[.s 1 (F.mkN a0 k),.s 1 (F.mkN a1 (F.kN [a0] k))],[.j (F.kN [a0,a1] k)])
   |_=>none
 | 240=>some fun ds=>match ds with
   |[.agg [.s 2 a0],.one (.v (.int .i64 k))]=>some (fun _=>Rw [tI,tI] a0/\ao [a0]<=1099511627776/\0<=k/\bc [a0] k<=1152921504606846976,[.s 2 (F.mkN a0 k)],[.j (F.kN [a0] k)])
   |_=>none
 |_=>none
theorem cQ :fQ (mt F0):=by
 intro f mk h ds pre outs res hm hp;unfold mt at h;split at h
 ·cases h;dsimp only at hm;split at hm
  ·cases hm;exact mE hp
  ·cases hm
 ·cases h;dsimp only at hm;split at hm
  ·cases hm;exact oh hp
  ·cases hm
 ·cases h
abbrev B :ce:={Φ:=av,F0:=F0,mt:=mt,hm:=cQ}
end MMachine
theorem oi {a0 a1 a2:aa}{left:Int}(hp:Rw [.sl [tI]] a0/\Rw [tB] a1/\Rw [tI,tI] a2/\0<=left/\left<=1048576):ap 111 [.agg [.s 1 a0,.s 1 a1,.s 2 a2],.j left] [.j (bi [a0,a1,a2] left)]:=by
 obtain⟨w0,w1,w2,h0,h1⟩:=hp;refine cb LMachine.B Tryz.func111 ?_
 intro O r F hO hr hF;cbv
 repeat' first|apply And.intro|(apply be<;>intro hb<;>cbv)
 all_goals(subst hO hr hF;(try simp only[nc]at*);(try simp only[ai,SS,sa,az]at*);(try simp(disch:=assumption) only[hJ,List.cons_append,List.nil_append]at*))
 all_goals first|trivial|(refine⟨by assumption,by omega,by first|omega|exact Int.le_trans (o8 (by assumption)) h1⟩)|(rw[gI (by assumption)])|exact congrArg (fun x=>[DV.one (L.v (Value.int IntKind.i64 x))]) (dP (a:=[a0,a1]) (b:=[a2]) (by assumption)).symm|trace_state
theorem oq {a0 a1 a2:aa}(hp:Rw [.sl [tI]] a0/\Rw [tB] a1/\Rw [tI,tI] a2/\ao [a0,a1,a2]<=1048576):ap 131 [.agg [.s 1 a0,.s 1 a1,.s 2 a2]] [.agg [.s 1 a0,.s 1 a1,.s 2 a2]]:=by
 obtain⟨w0,w1,w2,hlim⟩:=hp;simp only[ao,Nat.add_zero]at hlim;refine cb LMachine.B Tryz.func131 ?_
 intro O r F hO hr hF;cbv
 repeat' first|apply And.intro|(apply be<;>intro hb<;>cbv)
 all_goals(subst hO hr hF;(try simp only[nc]at*);(try simp only[ai,SS,sa,az]at*))
 all_goals first|trivial|(refine⟨by assumption,?_⟩;(try simp only[ao,Nat.add_zero]);omega)|(refine⟨by assumption,by assumption,?_⟩;(try simp only[ao,Nat.add_zero]);omega)|trace_state
theorem nY {a0 a1 a2:aa}{d:DV}(hp:d=.agg [.s 1 a0,.s 1 a1,.s 2 a2]/\Rw [.sl [tI]] a0/\Rw [tB] a1/\Rw [tI,tI] a2/\ao [a0,a1,a2]<=1099511627776):ap 156 [.agg [.s 1 a0,.s 1 a1,.s 2 a2],d] [.k true]:=by
 obtain⟨rfl,w0,w1,w2,hlim⟩:=hp;simp only[ao,Nat.add_zero]at hlim;refine cb LMachine.B Tryz.func156 ?_
 intro O r F hO hr hF;cbv
 repeat' first|apply And.intro|(apply be<;>intro hb<;>cbv)
 all_goals(subst hO hr hF;(try simp only[nc]at*);(try simp only[ai,SS,sa,az]at*))
 all_goals first|trivial|(refine⟨trivial,by assumption,?_⟩;(try simp only[ao,Nat.add_zero]);omega)|(refine⟨trivial,by assumption,by assumption,?_⟩;(try simp only[ao,Nat.add_zero]);omega)|trace_state
theorem lO {a0 a1 a2:aa}{k:Int}(hp:Rw [.sl [tI]] a0/\Rw [tB] a1/\Rw [tI,tI] a2/\ao [a0,a1,a2]<=1099511627776/\0<=k/\bc [a0,a1,a2] k<=1152921504606846976):d5 191 [.agg [.s 1 a0,.s 1 a1,.s 2 a2],.j k] [.s 1 (bV a0 k),.s 1 (bV a1 (bc [a0] k)),.s 2 (bV a2 (bc [a0,a1] k))] [.j (bc [a0,a1,a2] k)]:=by
 obtain⟨w0,w1,w2,hlim,hk0,hkb⟩:=hp;simp only[ao,Nat.add_zero]at hlim;have p0:bc [a0] k<=bc [a0,a1,a2] k/\0<=bc [a0] k:=cn (b:=[a1,a2]) hk0;have p1:bc [a0,a1] k<=bc [a0,a1,a2] k/\0<=bc [a0,a1] k:=cn (b:=[a2]) hk0;have p2:bc [a0,a1,a2] k<=bc [a0,a1,a2] k/\0<=bc [a0,a1,a2] k:=cn (b:=[]) hk0;refine mb MMachine.B [(2,0),(2,1),(2,2)] Tryz.func191 ?_
 exact RL
namespace LKernel
structure av where
 szN:List aa->Int->Int
abbrev F0 :av:=⟨bi⟩
def ct (F:av):CT:=fun f ds=>match f,ds with
 |111,[.agg [.s 1 a0,.s 1 a1,.s 2 a2],.one (.v (.int .i64 left))]=>some (fun _=>Rw [.sl [tI]] a0/\Rw [tB] a1/\Rw [tI,tI] a2/\0<=left/\left<=1048576,[.j (F.szN [a0,a1,a2] left)])
 |131,[.agg [.s 1 a0,.s 1 a1,.s 2 a2]]=>some (fun _=>Rw [.sl [tI]] a0/\Rw [tB] a1/\Rw [tI,tI] a2/\ao [a0,a1,a2]<=1048576,[.agg [.s 1 a0,.s 1 a1,.s 2 a2]])
 |156,[.agg [.s 1 a0,.s 1 a1,.s 2 a2],d]=>some (fun _=>d=.agg [.s 1 a0,.s 1 a1,.s 2 a2]/\Rw [.sl [tI]] a0/\Rw [tB] a1/\Rw [tI,tI] a2/\ao [a0,a1,a2]<=1099511627776,[.k true])
 |112,[.one (.s 1 es),.one (.v (.int .i64 left))]=>some (fun _=>Rw [tI] es/\0<=left/\left<=1048576,[.j (F.szN [es] left)])
 |132,[.one (.s 1 es)]=>some (fun _=>Rw [tI] es/\ak es<=1048576,[.one (.s 1 es)])
 |31,[.one (.s 1 es),d]=>some (fun _=>d=.one (.s 1 es)/\Rw [tI] es/\ak es<=1099511627776,[.k true])
 |_,_=>none
theorem ah :aO (ct F0):=by
 intro f ds pre res h hp;unfold ct at h;split at h<;>cases h
 exact oi hp;exact oq hp;exact nY hp;exact fk hp;exact fm hp;exact ed hp
abbrev B :ce:=tb ah
end LKernel
namespace MKernel
structure av where
 kN:List aa->Int->Int
 mkN:aa->Int->aa
abbrev F0 :av:=⟨bc,bV⟩
def ct (F:av):CT:=fun f ds=>match f,ds with
 |34,[.one (.s 1 ms),.one (.v (.int .i64 k))]=>some (fun _=>∃ es,ms=bV es k/\Rw [tI] es/\ak es<=1099511627776/\0<=k/\bc [ms] k<=1152921504606846976,[.j (F.kN [ms] k)])
 |_,_=>none
theorem ah :aO (ct F0):=by
 intro f ds pre res h hp;unfold ct at h;split at h<;>cases h
 exact cX hp
def mt (F:av):MT:=fun f=>match f with
 | 191=>some fun ds=>match ds with
   |[.agg [.s 1 a0,.s 1 a1,.s 2 a2],.one (.v (.int .i64 k))]=>some (fun _=>Rw [.sl [tI]] a0/\Rw [tB] a1/\Rw [tI,tI] a2/\ao [a0,a1,a2]<=1099511627776/\0<=k/\bc [a0,a1,a2] k<=1152921504606846976,[.s 1 (F.mkN a0 k),.s 1 (F.mkN a1 (F.kN [a0] k)),.s 2 (F.mkN a2 (F.kN [a0,a1] k))],[.j (F.kN [a0,a1,a2] k)])
   |_=>none
 | 33=>some fun ds=>match ds with
   |[.one (.s 1 es),.one (.v (.int .i64 k))]=>some (fun _=>Rw [tI] es/\ak es<=1099511627776/\0<=k/\bc [es] k<=1152921504606846976,[.s 1 (F.mkN es k)],[.j (F.kN [es] k)])
   |_=>none
 |_=>none
theorem cQ :fQ (mt F0):=by
 intro f mk h ds pre outs res hm hp;unfold mt at h;split at h
 ·cases h;dsimp only at hm;split at hm
  ·cases hm;exact lO hp
  ·cases hm
 ·cases h;dsimp only at hm;split at hm
  ·cases hm;exact cY hp
  ·cases hm
 ·cases h
abbrev B :ce:={Φ:=av,F0:=F0,ct:=ct,hc:=ah,mt:=mt,hm:=cQ}
end MKernel
theorem qC {a0 a1 a2:aa}{a3:Int}{a4:aa}{left:Int}(hp:Rw [.sl [tI]] a0/\Rw [tB] a1/\Rw [tI,tI] a2/\Rw [tI] a4/\0<=left/\left<=1048576):ap 35 [.agg [.s 1 a0,.s 1 a1,.s 2 a2,.i a3,.s 1 a4],.j left] [.j (bi [a0,a1,a2,a4] left)]:=by
 obtain⟨w0,w1,w2,w3,h0,h1⟩:=hp;refine cb LKernel.B Tryz.func35 ?_
 intro O r F hO hr hF;cbv
 repeat' first|apply And.intro|(apply be<;>intro hb<;>cbv)
 all_goals(subst hO hr hF;(try simp only[nc]at*);(try simp only[ai,SS,sa,az]at*);(try simp(disch:=assumption) only[hJ,List.cons_append,List.nil_append]at*))
 all_goals first|trivial|(refine⟨by assumption,by omega,by first|omega|exact Int.le_trans (o8 (by assumption)) h1⟩)|(rw[gI (by assumption)])|exact congrArg (fun x=>[DV.one (L.v (Value.int IntKind.i64 x))]) (dP (a:=[a0,a1,a2]) (b:=[a4]) (by assumption)).symm|trace_state
theorem qL {a0 a1 a2:aa}{a3:Int}{a4:aa}(hp:Rw [.sl [tI]] a0/\Rw [tB] a1/\Rw [tI,tI] a2/\Rw [tI] a4/\ao [a0,a1,a2,a4]<=1048576):ap 46 [.agg [.s 1 a0,.s 1 a1,.s 2 a2,.i a3,.s 1 a4]] [.agg [.s 1 a0,.s 1 a1,.s 2 a2,.i a3,.s 1 a4]]:=by
 obtain⟨w0,w1,w2,w3,hlim⟩:=hp;simp only[ao,Nat.add_zero]at hlim;refine cb LKernel.B Tryz.func46 ?_
 intro O r F hO hr hF;cbv
 repeat' first|apply And.intro|(apply be<;>intro hb<;>cbv)
 all_goals(subst hO hr hF;(try simp only[nc]at*);(try simp only[ai,SS,sa,az]at*))
 all_goals first|trivial|(refine⟨by assumption,?_⟩;(try simp only[ao,Nat.add_zero]);omega)|(refine⟨by assumption,by assumption,by assumption,?_⟩;(try simp only[ao,Nat.add_zero]);omega)|trace_state
theorem qi {a0 a1 a2:aa}{a3:Int}{a4:aa}{d:DV}(hp:d=.agg [.s 1 a0,.s 1 a1,.s 2 a2,.i a3,.s 1 a4]/\Rw [.sl [tI]] a0/\Rw [tB] a1/\Rw [tI,tI] a2/\Rw [tI] a4/\ao [a0,a1,a2,a4]<=1099511627776):ap 57 [.agg [.s 1 a0,.s 1 a1,.s 2 a2,.i a3,.s 1 a4],d] [.k true]:=by
 obtain⟨rfl,w0,w1,w2,w3,hlim⟩:=hp;simp only[ao,Nat.add_zero]at hlim;refine cb LKernel.B Tryz.func57 ?_
 intro O r F hO hr hF;cbv
 repeat' first|apply And.intro|(apply be<;>intro hb<;>cbv)
 all_goals(subst hO hr hF;(try simp only[nc]at*);(try simp only[ai,SS,sa,az]at*))
 all_goals first|trivial|(refine⟨trivial,by assumption,?_⟩;(try simp only[ao,Nat.add_zero]);omega)|(refine⟨trivial,by assumption,by assumption,by assumption,?_⟩;(try simp only[ao,Nat.add_zero]);omega)|trace_state
theorem mF {a0 a1 a2:aa}{a3:Int}{a4:aa}{k:Int}(hp:Rw [.sl [tI]] a0/\Rw [tB] a1/\Rw [tI,tI] a2/\Rw [tI] a4/\ao [a0,a1,a2,a4]<=1099511627776/\0<=k/\bc [a0,a1,a2,a4] k<=1152921504606846976):d5 102 [.agg [.s 1 a0,.s 1 a1,.s 2 a2,.i a3,.s 1 a4],.j k] [.s 1 (bV a0 k),.s 1 (bV a1 (bc [a0] k)),.s 2 (bV a2 (bc [a0,a1] k)),.s 1 (bV a4 (bc [a0,a1,a2] k))] [.j (bc [a0,a1,a2,a4] k)]:=by
 obtain⟨w0,w1,w2,w3,hlim,hk0,hkb⟩:=hp;simp only[ao,Nat.add_zero]at hlim;have p0:bc [a0] k<=bc [a0,a1,a2,a4] k/\0<=bc [a0] k:=cn (b:=[a1,a2,a4]) hk0;have p1:bc [a0,a1] k<=bc [a0,a1,a2,a4] k/\0<=bc [a0,a1] k:=cn (b:=[a2,a4]) hk0;have p2:bc [a0,a1,a2] k<=bc [a0,a1,a2,a4] k/\0<=bc [a0,a1,a2] k:=cn (b:=[a4]) hk0;have p3:bc [a0,a1,a2,a4] k<=bc [a0,a1,a2,a4] k/\0<=bc [a0,a1,a2,a4] k:=cn (b:=[]) hk0;refine mb MKernel.B [(2,0),(2,1),(2,2),(2,4)] Tryz.func102 ?_
 exact RL
end Go.V