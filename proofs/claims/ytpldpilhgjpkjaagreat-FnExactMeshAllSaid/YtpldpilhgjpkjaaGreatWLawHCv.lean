/- Contracts. -/
import Derived.Test.YtpldpilhgjpkjaaGreatWLawHAv
import Derived.Test.YtpldpilhgjpkjaaGreatWLawHEv
set_option linter.all false
open Go
open And renaming intro->Zb
open Int renaming toNat_natCast->ZA
open IntKind renaming i64->Za
open List renaming length_replicate->Z9
open List.cons renaming injEq->Yg
open Nat renaming add_zero->Zi,zero_le->Ze,zero_add->Zx
open Value.bool renaming injEq->Yl
open Value.int renaming injEq->Yk
namespace Go.V
open Go Go.Proofs
set_option maxRecDepth 1000000
set_option maxHeartbeats 8000000
abbrev HT:cT:=dG (fun F f=>match f with|193=>gn F|224=>gq F|235=>gj F|_=>fun _=>none) (by
 intro f;dsimp only;split;exact lQ;exact lR;exact lP;exact cX)
def mw:EC:=fun F=>fun
 |[.agg [.s 1 a0],.one (.v (.int Za left))]=>some (fun _=>Rw [.sl [tI]] a0/\0<=left/\left<=1048576,[.j (F.szN [a0] left)])
 |_=>none
def Am:ec 191 mw:=by
 intro _ _ _ h hp;dsimp only[mw,F0]at h;split at h<;>cases h
 rename_i a0 left;obtain⟨w0,h0,h1⟩:=hp;refine cb HT Tryz.func191 ?_
 exact agL
def mA:EC:=fun F=>fun
 |[.agg [.s 1 a0]]=>some (fun _=>Rw [.sl [tI]] a0/\aP [a0]<=1048576,[.agg [.s 1 a0]])
 |_=>none
def Ar:ec 222 mA:=by
 intro _ _ _ h hp;dsimp only[mA,F0]at h;split at h<;>cases h
 rename_i a0;obtain⟨w0,hlim⟩:=hp;simp only[aP,Zi]at hlim;refine cb HT Tryz.func222 ?_
 exact y8
def mg:EC:=fun F=>fun
 |[.agg [.s 1 a0],d]=>some (fun _=>d=.agg [.s 1 a0]/\Rw [.sl [tI]] a0/\aP [a0]<=1099511627776,[.k true])
 |_=>none
def Ab:ec 233 mg:=by
 intro _ _ _ h hp;dsimp only[mg,F0]at h;split at h<;>cases h
 rename_i a0 d;obtain⟨rfl,w0,hlim⟩:=hp;simp only[aP,Zi]at hlim;refine cb HT Tryz.func233 ?_
 exact y8
abbrev Ee:cT:=dG (fun F f=>match f with|191=>mw F|222=>mA F|233=>mg F|_=>fun _=>none) (by
 intro f;dsimp only;split;exact Am;exact Ar;exact Ab;exact cX)
abbrev Jo:cT:={
 Φ:=sF
 F0:=F0
 ct:=fun F f=>match f with|246=>fv F|_=>fun _=>none
 hc:=(by
  intro f;dsimp only;split;exact jr;exact cX)
 mt:=fun F f=>match f with|240=>some (fw F)|_=>none
 hm:=(by
  intro f mk h;dsimp only at h;split at h<;>cases h
  exact js)}
def kL:EC:=fun F=>fun
 |[.one (.s 1 es),.one (.v (.int Za left))]=>some (fun _=>Rw [.sl [.sl [tI]]] es/\0<=left/\left<=1048576,[.j (F.szN [es] left)])
 |_=>none
def yj:ec 86 kL:=by
 intro _ _ _ h hp;dsimp only[kL,F0]at h;split at h<;>cases h
 rename_i es left;obtain⟨hw,h0,h1⟩:=hp;have hwf:Wf [.s 1 []] es:=hw.wf;have hm:=hw.1;unfold maxLen at hm;have hs:bK .sub Za left es.length=left-es.length:=dp Uc;have hcE:au es=es.length+bO es:=rfl;have hn:dF [es] left=if left<au es then-1 else left-au es:=by unfold dF;rw[eA]
 refine cb Ee Tryz.func86 ?_
 intro O r F hO hr hF;cbv
 apply bC<;>intro hb<;>cbv
 ·repeat' first|apply Zb|(apply bC<;>intro hb<;>cbv)
  all_goals exact acA
 have hb0:0<=left-es.length:=by
  (subst hO hr hF;(try simp only[nc]at*);(try simp only[ah,SS,sa,az]at*))
  rw[hs]at hb;exact hb
 clear hb;refine⟨[0,1,5],[],Int×Int,fun s=>match s with|(i,l)=>[.reg 5 (.j i),.reg 1 (.j l)],fun s=>0<=s.1/\s.1.toNat<=es.length/\0<=s.2/\s.2=left-es.length-bO (es.take s.1.toNat),fun s=>es.length-s.1.toNat,⟨(0,O.ar .sub Za left (O.zi (O.ln es))),?_,?_⟩,?_⟩
 ·(subst hO hr hF;(try simp only[nc]at*);(try simp only[ah,SS,sa,az]at*))
  rw[hs];exact⟨Uc,Ze _,hb0,by simp[bO]⟩
 ·cbv
 ·rintro⟨i,l⟩ hi;replace hi:0<=i/\i.toNat<=es.length/\0<=l/\l=left-es.length-bO (es.take i.toNat):=hi;obtain⟨g0,g1,g2,g3⟩:=hi;cbv
  repeat' first|apply Zb|(apply bC<;>intro hb<;>cbv)|(refine af (O.ar .add Za i 1,F.szN [O.gs es i 0] l) ?_ ?_ ?_;focus (cbv;done))
  all_goals(subst hO hr hF;(try simp only[nc]at*);(try simp only[ah,SS,sa,az]at*))
  all_goals have hle:=bR (es:=es) (n:=i.toNat)
  all_goals have hsz:=qh (a:=[aw es i 0]) (left:=l)
  all_goals((have hsz2:0<=dF [aw es i 0] l->dF [aw es i 0] l=l-aP [aw es i 0]:=vj);(try have hlt:i<es.length:=by assumption);(try have he:es.getD i.toNat []=[.s 1 (aw es i 0)]:=(am hwf g0 hlt).symm);(try rw[eT (n:=es.length) g0 hlt Uc]);(try have hr0:Rw [.sl [tI]] (aw es i 0):=Rw.sub (fs:=[.sl [.sl [tI]]]) hw Uc rfl))
  all_goals exact acy
def kR:EC:=fun F=>fun
 |[.one (.s 1 es)]=>some (fun _=>Rw [.sl [.sl [tI]]] es/\au es<=1048576,[.one (.s 1 es)])
 |_=>none
def yr:ec 99 kR:=by
 intro _ _ _ h hp;dsimp only[kR,F0]at h;split at h<;>cases h
 rename_i es;obtain⟨hw,hlim⟩:=hp;have hwf:Wf [.s 1 []] es:=hw.wf;have hlen:=d8 hlim;refine cb Ee Tryz.func99 ?_
 intro O r F hO hr hF;cbv
 have h0z:cE es [.s 1 []] 0=O.rep (O.zi (O.ln es)) [.s 1 []]:=by
  subst hO;rw[dE];rfl
 refine⟨?_,?_,[0,3,4],[3],Int×ab,fun s=>[.reg 4 (.j s.1),.leaf 3 0 ⟨0,0,none,.own (.s 1 s.2)⟩],fun s=>0<=s.1/\s.1.toNat<=es.length/\s.2=cE es [.s 1 []] s.1.toNat,fun s=>es.length-s.1.toNat,⟨(0,O.rep (O.zi (O.ln es)) [.s 1 []]),?_,?_⟩,?_⟩
 ·subst hO;exact qJ (b:=24) (show es.length*_<=_ by omega) (show es.length<=_ by omega)
 ·subst hO;exact⟨rfl,rfl⟩
 ·exact⟨Uc,Ze _,h0z.symm⟩
 ·cbv
 ·rintro⟨i,m⟩ hi;replace hi:0<=i/\i.toNat<=es.length/\m=cE es [.s 1 []] i.toNat:=hi;obtain⟨g0,g1,hm⟩:=hi;cbv
  repeat' first|apply Zb|(apply bC<;>intro hb<;>cbv)|(refine af (O.ar .add Za i 1,O.up (.s 1 m) [(O.ad 0 i,0)] [.s 1 (O.gs es i 0)]) ?_ ?_ ?_;focus (cbv;done))
  all_goals(subst hO hr hF;(try simp only[nc]at*);(try simp only[ah,SS,sa,az]at*);(try simp only[oJ,Z9,ZA]at*);(try have hlt:i<es.length:=by assumption);(try have he:es.getD i.toNat []=[.s 1 (aw es i 0)]:=(am hwf g0 hlt).symm);(try rw[eT (n:=es.length) g0 hlt Uc]);(try have hr0:Rw [.sl [tI]] (aw es i 0):=Rw.sub (fs:=[.sl [.sl [tI]]]) hw Uc rfl))
  all_goals exact acx
def kv:EC:=fun F=>fun
 |[.one (.s 1 es),d]=>some (fun _=>d=.one (.s 1 es)/\Rw [.sl [.sl [tI]]] es/\au es<=1099511627776,[.k true])
 |_=>none
def xW:ec 108 kv:=by
 intro _ _ _ h hp;dsimp only[kv,F0]at h;split at h<;>cases h
 rename_i es d;obtain⟨rfl,hw,hlim⟩:=hp;have hwf:Wf [.s 1 []] es:=hw.wf;have hlen:=d8 hlim;refine cb Ee Tryz.func108 ?_
 intro O r F hO hr hF;cbv
 apply bC<;>intro hb<;>cbv
 ·(subst hO hr hF;(try simp only[nc]at*);(try simp only[ah,SS,sa,az]at*));exact absurd rfl hb
 ·clear hb;refine⟨[0,1,5],[],Int,fun i=>[.reg 5 (.j i)],fun i=>0<=i/\i.toNat<=es.length,fun i=>es.length-i.toNat,⟨0,?_,?_⟩,?_⟩;exact⟨Uc,Ze _⟩
  ·cbv
  ·rintro i hi;replace hi:0<=i/\i.toNat<=es.length:=hi;obtain⟨g0,g1⟩:=hi;cbv
   repeat' first|apply Zb|(apply bC<;>intro hb<;>cbv)|(refine af (O.ar .add Za i 1) ?_ ?_ ?_;focus (cbv;done))
   all_goals(subst hO hr hF;(try simp only[nc]at*);(try simp only[ah,SS,sa,az]at*);(try have hlt:i<es.length:=by assumption);(try have he:es.getD i.toNat []=[.s 1 (aw es i 0)]:=(am hwf g0 hlt).symm);(try rw[eT (n:=es.length) g0 hlt Uc]);(try have hr0:Rw [.sl [tI]] (aw es i 0):=Rw.sub (fs:=[.sl [.sl [tI]]]) hw Uc rfl))
   all_goals exact acz
def iT:EM:=fun F=>fun
 |[.one (.s 1 es),.one (.v (.int Za k))]=>some (fun _=>Rw [.sl [.sl [tI]]] es/\au es<=1099511627776/\0<=k/\bj [es] k<=1152921504606846976,[.s 1 (F.mkN es k)],[.j (F.kN [es] k)])
 |_=>none
def t9:em 117 iT:=by
 intro _ _ _ _ h hp;dsimp only[iT,F0]at h;split at h<;>cases h
 rename_i es k;obtain⟨hw,hlim,hk0,hkb⟩:=hp;have hwf:Wf [.s 1 []] es:=hw.wf;have hlen:=d8 hlim;refine mb Jo [(0,0)] Tryz.func117 ?_
 intro O r os F hO hr hos hF;cbv
 refine⟨[0,1,5],[0],Int×Int×ab,fun s=>match s with|(i,k',cur)=>[.reg 5 (.j i),.reg 1 (.j k'),.leaf 0 0 ⟨0,0,some 0,.own (.s 1 cur)⟩],fun s=>0<=s.1/\s.1.toNat<=es.length/\s.2.1=fL es k s.1.toNat/\s.2.2=gA es k s.1.toNat,fun s=>es.length-s.1.toNat,⟨(0,k,es),?_,?_⟩,?_⟩;exact⟨Uc,Ze _,bS.symm,eO.symm⟩
 ·cbv
 ·rintro⟨i,k',cur⟩ hi;replace hi:0<=i/\i.toNat<=es.length/\k'=fL es k i.toNat/\cur=gA es k i.toNat:=hi;obtain⟨g0,g1,hk',hc⟩:=hi;cbv
  repeat' first|apply Zb|(apply bC<;>intro hb<;>cbv)|(refine af (O.ar .add Za i 1,F.kN [O.ps (.s 1 (cur)) [(O.ad 0 i,0)]] (k'),O.up (.s 1 (cur)) [(O.ad 0 i,0)] [.s 1 (F.mkN (O.ps (.s 1 (cur)) [(O.ad 0 i,0)]) (k'))]) ?_ ?_ ?_;focus (cbv;done))
  all_goals((try subst hos);subst hO hr hF;(try simp only[nc]at*);(try simp only[ah,SS,sa,az]at*);(try have hlt:i<es.length:=by assumption);(try have he:es.getD i.toNat []=[.s 1 (aw es i 0)]:=(am hwf g0 hlt).symm);(try have hcg:cur.getD i.toNat []=[.s 1 (aw es i 0)]:=by rw[hc,eN g1];exact he);(try rw[eT (n:=es.length) g0 hlt Uc]);(try have hlt':i.toNat<es.length:=by omega);(try have hr0:Rw [.sl [tI]] (aw es i 0):=Rw.sub (fs:=[.sl [.sl [tI]]]) hw Uc rfl))
  all_goals exact zq3
def iO:EC:=fun F=>fun
 |[.one (.s 1 ms),.one (.v (.int Za k))]=>some (fun _=>∃ es,ms=dL es k/\Rw [.sl [.sl [tI]]] es/\au es<=1099511627776/\0<=k/\bj [ms] k<=1152921504606846976,[.j (F.kN [ms] k)])
 |_=>none
def tV:ec 126 iO:=by
 intro _ _ _ h hp;dsimp only[iO,F0]at h;split at h<;>cases h
 rename_i ms k;obtain⟨es,hms,hw,hlim,hk0,hkb⟩:=hp;have hlen:=d8 hlim;have hml:ms.length=es.length:=by rw[hms];exact cF
 have hkk:bj [ms] k=bj [es] k:=by rw[hms];exact qH
 have hwm:Wf [.s 1 []] ms:=by rw[hms];exact dC hw
 have hwf:Wf [.s 1 []] es:=hw.wf;have hat:∀ n,n<es.length->ms.getD n []=(gQ (es.getD n []) (fL es k n)).1:=fun n hn=>by rw[hms];exact kZ hn
 refine cb Jo Tryz.func126 ?_
 intro O r F hO hr hF;cbv
 refine⟨[0,1,5],[],Int×Int,fun s=>match s with|(i,k')=>[.reg 5 (.j i),.reg 1 (.j k')],fun s=>0<=s.1/\s.1.toNat<=es.length/\s.2=fL es k s.1.toNat,fun s=>es.length-s.1.toNat,⟨(0,k),?_,?_⟩,?_⟩;exact⟨Uc,Ze _,bS.symm⟩
 ·cbv
 ·rintro⟨i,k'⟩ hi;replace hi:0<=i/\i.toNat<=es.length/\k'=fL es k i.toNat:=hi;obtain⟨g0,g1,hk'⟩:=hi;cbv
  repeat' first|apply Zb|(apply bC<;>intro hb<;>cbv)|(refine af (O.ar .add Za i 1,F.kN [O.gs ms i 0] (k')) ?_ ?_ ?_;focus (cbv;done))
  all_goals(subst hO hr hF;(try simp only[nc]at*);(try simp only[ah,SS,sa,az]at*);(try have hltm:i<ms.length:=by assumption);(try have hlt:i<es.length:=by omega);(try have he:es.getD i.toNat []=[.s 1 (aw es i 0)]:=(am hwf g0 hlt).symm);(try rw[eT (n:=es.length) g0 hlt Uc]);(try have hlt':i.toNat<es.length:=by omega);(try have hr0:Rw [.sl [tI]] (aw es i 0):=Rw.sub (fs:=[.sl [.sl [tI]]]) hw Uc rfl);(try have hct:=dk (es:=es) (n:=i.toNat) Uc;rw[he]at hct;simp only[dO,gW,Zi,Zx]at hct);(try have hks:=dJ (es:=es) (k:=k) hlt';rw[he]at hks;simp only[gQ,iy]at hks);(try have hem:([.s 1 (aw ms i 0)]:ax)=_:=(am hwm g0 hltm).trans (hat i.toNat hlt');rw[he]at hem;simp only[gQ,iy,Yg,L.v.injEq,Yk,Yl,L.s.injEq,true_and,and_true]at hem))
  all_goals exact zq5
abbrev Ej:cT:=dG (fun F f=>match f with|292=>fx F|316=>fy F|320=>fu F|_=>fun _=>none) (by
 intro f;dsimp only;split;exact An;exact Av;exact Ae;exact cX)
abbrev Jr:cT:={
 Φ:=sF
 F0:=F0
 ct:=fun F f=>match f with|327=>d6 F|_=>fun _=>none
 hc:=(by
  intro f;dsimp only;split;exact vO;exact cX)
 mt:=fun F f=>match f with|324=>some (d7 F)|_=>none
 hm:=(by
  intro f mk h;dsimp only at h;split at h<;>cases h
  exact vS)}
def kQ:EC:=fun F=>fun
 |[.one (.s 1 es),.one (.v (.int Za left))]=>some (fun _=>Rw [.sl [tI,tI]] es/\0<=left/\left<=1048576,[.j (F.szN [es] left)])
 |_=>none
def yo:ec 192 kQ:=by
 intro _ _ _ h hp;dsimp only[kQ,F0]at h;split at h<;>cases h
 rename_i es left;obtain⟨hw,h0,h1⟩:=hp;have hwf:Wf [.s 2 []] es:=hw.wf;have hm:=hw.1;unfold maxLen at hm;have hs:bK .sub Za left es.length=left-es.length:=dp Uc;have hcE:au es=es.length+bO es:=rfl;have hn:dF [es] left=if left<au es then-1 else left-au es:=by unfold dF;rw[eA]
 refine cb Ej Tryz.func192 ?_
 intro O r F hO hr hF;cbv
 apply bC<;>intro hb<;>cbv
 ·repeat' first|apply Zb|(apply bC<;>intro hb<;>cbv)
  all_goals exact acA
 have hb0:0<=left-es.length:=by
  (subst hO hr hF;(try simp only[nc]at*);(try simp only[ah,SS,sa,az]at*))
  rw[hs]at hb;exact hb
 clear hb;refine⟨[0,1,5],[],Int×Int,fun s=>match s with|(i,l)=>[.reg 5 (.j i),.reg 1 (.j l)],fun s=>0<=s.1/\s.1.toNat<=es.length/\0<=s.2/\s.2=left-es.length-bO (es.take s.1.toNat),fun s=>es.length-s.1.toNat,⟨(0,O.ar .sub Za left (O.zi (O.ln es))),?_,?_⟩,?_⟩
 ·(subst hO hr hF;(try simp only[nc]at*);(try simp only[ah,SS,sa,az]at*))
  rw[hs];exact⟨Uc,Ze _,hb0,by simp[bO]⟩
 ·cbv
 ·rintro⟨i,l⟩ hi;replace hi:0<=i/\i.toNat<=es.length/\0<=l/\l=left-es.length-bO (es.take i.toNat):=hi;obtain⟨g0,g1,g2,g3⟩:=hi;cbv
  repeat' first|apply Zb|(apply bC<;>intro hb<;>cbv)|(refine af (O.ar .add Za i 1,F.szN [O.gs es i 0] l) ?_ ?_ ?_;focus (cbv;done))
  all_goals(subst hO hr hF;(try simp only[nc]at*);(try simp only[ah,SS,sa,az]at*))
  all_goals have hle:=bR (es:=es) (n:=i.toNat)
  all_goals have hsz:=qh (a:=[aw es i 0]) (left:=l)
  all_goals((have hsz2:0<=dF [aw es i 0] l->dF [aw es i 0] l=l-aP [aw es i 0]:=vj);(try have hlt:i<es.length:=by assumption);(try have he:es.getD i.toNat []=[.s 2 (aw es i 0)]:=(am hwf g0 hlt).symm);(try rw[eT (n:=es.length) g0 hlt Uc]);(try have hr0:Rw [tI,tI] (aw es i 0):=Rw.sub (fs:=[.sl [tI,tI]]) hw Uc rfl))
  all_goals exact acy
def kV:EC:=fun F=>fun
 |[.one (.s 1 es)]=>some (fun _=>Rw [.sl [tI,tI]] es/\au es<=1048576,[.one (.s 1 es)])
 |_=>none
def yx:ec 223 kV:=by
 intro _ _ _ h hp;dsimp only[kV,F0]at h;split at h<;>cases h
 rename_i es;obtain⟨hw,hlim⟩:=hp;have hwf:Wf [.s 2 []] es:=hw.wf;have hlen:=d8 hlim;refine cb Ej Tryz.func223 ?_
 intro O r F hO hr hF;cbv
 have h0z:cE es [.s 2 []] 0=O.rep (O.zi (O.ln es)) [.s 2 []]:=by
  subst hO;rw[dE];rfl
 refine⟨?_,?_,[0,3,4],[3],Int×ab,fun s=>[.reg 4 (.j s.1),.leaf 3 0 ⟨0,0,none,.own (.s 1 s.2)⟩],fun s=>0<=s.1/\s.1.toNat<=es.length/\s.2=cE es [.s 2 []] s.1.toNat,fun s=>es.length-s.1.toNat,⟨(0,O.rep (O.zi (O.ln es)) [.s 2 []]),?_,?_⟩,?_⟩
 ·subst hO;exact qJ (b:=24) (show es.length*_<=_ by omega) (show es.length<=_ by omega)
 ·subst hO;exact⟨rfl,rfl⟩
 ·exact⟨Uc,Ze _,h0z.symm⟩
 ·cbv
 ·rintro⟨i,m⟩ hi;replace hi:0<=i/\i.toNat<=es.length/\m=cE es [.s 2 []] i.toNat:=hi;obtain⟨g0,g1,hm⟩:=hi;cbv
  repeat' first|apply Zb|(apply bC<;>intro hb<;>cbv)|(refine af (O.ar .add Za i 1,O.up (.s 1 m) [(O.ad 0 i,0)] [.s 2 (O.gs es i 0)]) ?_ ?_ ?_;focus (cbv;done))
  all_goals(subst hO hr hF;(try simp only[nc]at*);(try simp only[ah,SS,sa,az]at*);(try simp only[oJ,Z9,ZA]at*);(try have hlt:i<es.length:=by assumption);(try have he:es.getD i.toNat []=[.s 2 (aw es i 0)]:=(am hwf g0 hlt).symm);(try rw[eT (n:=es.length) g0 hlt Uc]);(try have hr0:Rw [tI,tI] (aw es i 0):=Rw.sub (fs:=[.sl [tI,tI]]) hw Uc rfl))
  all_goals exact acx
def kz:EC:=fun F=>fun
 |[.one (.s 1 es),d]=>some (fun _=>d=.one (.s 1 es)/\Rw [.sl [tI,tI]] es/\au es<=1099511627776,[.k true])
 |_=>none
def x6:ec 234 kz:=by
 intro _ _ _ h hp;dsimp only[kz,F0]at h;split at h<;>cases h
 rename_i es d;obtain⟨rfl,hw,hlim⟩:=hp;have hwf:Wf [.s 2 []] es:=hw.wf;have hlen:=d8 hlim;refine cb Ej Tryz.func234 ?_
 intro O r F hO hr hF;cbv
 apply bC<;>intro hb<;>cbv
 ·(subst hO hr hF;(try simp only[nc]at*);(try simp only[ah,SS,sa,az]at*));exact absurd rfl hb
 ·clear hb;refine⟨[0,1,5],[],Int,fun i=>[.reg 5 (.j i)],fun i=>0<=i/\i.toNat<=es.length,fun i=>es.length-i.toNat,⟨0,?_,?_⟩,?_⟩;exact⟨Uc,Ze _⟩
  ·cbv
  ·rintro i hi;replace hi:0<=i/\i.toNat<=es.length:=hi;obtain⟨g0,g1⟩:=hi;cbv
   repeat' first|apply Zb|(apply bC<;>intro hb<;>cbv)|(refine af (O.ar .add Za i 1) ?_ ?_ ?_;focus (cbv;done))
   all_goals(subst hO hr hF;(try simp only[nc]at*);(try simp only[ah,SS,sa,az]at*);(try have hlt:i<es.length:=by assumption);(try have he:es.getD i.toNat []=[.s 2 (aw es i 0)]:=(am hwf g0 hlt).symm);(try rw[eT (n:=es.length) g0 hlt Uc]);(try have hr0:Rw [tI,tI] (aw es i 0):=Rw.sub (fs:=[.sl [tI,tI]]) hw Uc rfl))
   all_goals exact acz
def iX:EM:=fun F=>fun
 |[.one (.s 1 es),.one (.v (.int Za k))]=>some (fun _=>Rw [.sl [tI,tI]] es/\au es<=1099511627776/\0<=k/\bj [es] k<=1152921504606846976,[.s 1 (F.mkN es k)],[.j (F.kN [es] k)])
 |_=>none
def uh:em 241 iX:=by
 intro _ _ _ _ h hp;dsimp only[iX,F0]at h;split at h<;>cases h
 rename_i es k;obtain⟨hw,hlim,hk0,hkb⟩:=hp;have hwf:Wf [.s 2 []] es:=hw.wf;have hlen:=d8 hlim;refine mb Jr [(0,0)] Tryz.func241 ?_
 intro O r os F hO hr hos hF;cbv
 refine⟨[0,1,5],[0],Int×Int×ab,fun s=>match s with|(i,k',cur)=>[.reg 5 (.j i),.reg 1 (.j k'),.leaf 0 0 ⟨0,0,some 0,.own (.s 1 cur)⟩],fun s=>0<=s.1/\s.1.toNat<=es.length/\s.2.1=fL es k s.1.toNat/\s.2.2=gA es k s.1.toNat,fun s=>es.length-s.1.toNat,⟨(0,k,es),?_,?_⟩,?_⟩;exact⟨Uc,Ze _,bS.symm,eO.symm⟩
 ·cbv
 ·rintro⟨i,k',cur⟩ hi;replace hi:0<=i/\i.toNat<=es.length/\k'=fL es k i.toNat/\cur=gA es k i.toNat:=hi;obtain⟨g0,g1,hk',hc⟩:=hi;cbv
  repeat' first|apply Zb|(apply bC<;>intro hb<;>cbv)|(refine af (O.ar .add Za i 1,F.kN [O.ps (.s 1 (cur)) [(O.ad 0 i,0)]] (k'),O.up (.s 1 (cur)) [(O.ad 0 i,0)] [.s 2 (F.mkN (O.ps (.s 1 (cur)) [(O.ad 0 i,0)]) (k'))]) ?_ ?_ ?_;focus (cbv;done))
  all_goals((try subst hos);subst hO hr hF;(try simp only[nc]at*);(try simp only[ah,SS,sa,az]at*);(try have hlt:i<es.length:=by assumption);(try have he:es.getD i.toNat []=[.s 2 (aw es i 0)]:=(am hwf g0 hlt).symm);(try have hcg:cur.getD i.toNat []=[.s 2 (aw es i 0)]:=by rw[hc,eN g1];exact he);(try rw[eT (n:=es.length) g0 hlt Uc]);(try have hlt':i.toNat<es.length:=by omega);(try have hr0:Rw [tI,tI] (aw es i 0):=Rw.sub (fs:=[.sl [tI,tI]]) hw Uc rfl))
  all_goals exact zq3
def iS:EC:=fun F=>fun
 |[.one (.s 1 ms),.one (.v (.int Za k))]=>some (fun _=>∃ es,ms=dL es k/\Rw [.sl [tI,tI]] es/\au es<=1099511627776/\0<=k/\bj [ms] k<=1152921504606846976,[.j (F.kN [ms] k)])
 |_=>none
def t6:ec 247 iS:=by
 intro _ _ _ h hp;dsimp only[iS,F0]at h;split at h<;>cases h
 rename_i ms k;obtain⟨es,hms,hw,hlim,hk0,hkb⟩:=hp;have hlen:=d8 hlim;have hml:ms.length=es.length:=by rw[hms];exact cF
 have hkk:bj [ms] k=bj [es] k:=by rw[hms];exact qH
 have hwm:Wf [.s 2 []] ms:=by rw[hms];exact dC hw
 have hwf:Wf [.s 2 []] es:=hw.wf;have hat:∀ n,n<es.length->ms.getD n []=(gQ (es.getD n []) (fL es k n)).1:=fun n hn=>by rw[hms];exact kZ hn
 refine cb Jr Tryz.func247 ?_
 intro O r F hO hr hF;cbv
 refine⟨[0,1,5],[],Int×Int,fun s=>match s with|(i,k')=>[.reg 5 (.j i),.reg 1 (.j k')],fun s=>0<=s.1/\s.1.toNat<=es.length/\s.2=fL es k s.1.toNat,fun s=>es.length-s.1.toNat,⟨(0,k),?_,?_⟩,?_⟩;exact⟨Uc,Ze _,bS.symm⟩
 ·cbv
 ·rintro⟨i,k'⟩ hi;replace hi:0<=i/\i.toNat<=es.length/\k'=fL es k i.toNat:=hi;obtain⟨g0,g1,hk'⟩:=hi;cbv
  repeat' first|apply Zb|(apply bC<;>intro hb<;>cbv)|(refine af (O.ar .add Za i 1,F.kN [O.gs ms i 0] (k')) ?_ ?_ ?_;focus (cbv;done))
  all_goals(subst hO hr hF;(try simp only[nc]at*);(try simp only[ah,SS,sa,az]at*);(try have hltm:i<ms.length:=by assumption);(try have hlt:i<es.length:=by omega);(try have he:es.getD i.toNat []=[.s 2 (aw es i 0)]:=(am hwf g0 hlt).symm);(try rw[eT (n:=es.length) g0 hlt Uc]);(try have hlt':i.toNat<es.length:=by omega);(try have hr0:Rw [tI,tI] (aw es i 0):=Rw.sub (fs:=[.sl [tI,tI]]) hw Uc rfl);(try have hct:=dk (es:=es) (n:=i.toNat) Uc;rw[he]at hct;simp only[dO,gW,Zi,Zx]at hct);(try have hks:=dJ (es:=es) (k:=k) hlt';rw[he]at hks;simp only[gQ,iy]at hks);(try have hem:([.s 2 (aw ms i 0)]:ax)=_:=(am hwm g0 hltm).trans (hat i.toNat hlt');rw[he]at hem;simp only[gQ,iy,Yg,L.v.injEq,Yk,Yl,L.s.injEq,true_and,and_true]at hem))
  all_goals exact zq5
abbrev LK:cT:=dG (fun F f=>match f with|192=>kQ F|223=>kV F|234=>kz F|193=>gn F|224=>gq F|235=>gj F|_=>fun _=>none) (by
 intro f;dsimp only;split;exact yo;exact yx;exact x6;exact lQ;exact lR;exact lP;exact cX)
abbrev Ry:cT:={
 Φ:=sF
 F0:=F0
 ct:=fun F f=>match f with|247=>iS F|246=>fv F|_=>fun _=>none
 hc:=(by
  intro f;dsimp only;split;exact t6;exact jr;exact cX)
 mt:=fun F f=>match f with|241=>some (iX F)|240=>some (fw F)|_=>none
 hm:=(by
  intro f mk h;dsimp only at h;split at h<;>cases h
  exact uh;exact js)}
def nY:EC:=fun F=>fun
 |[.agg [.s 1 a0,.s 1 a1],.one (.v (.int Za left))]=>some (fun _=>Rw [.sl [tI,tI]] a0/\Rw [.sl [tI]] a1/\0<=left/\left<=1048576,[.j (F.szN [a0,a1] left)])
 |_=>none
def CB:ec 87 nY:=by
 intro _ _ _ h hp;dsimp only[nY,F0]at h;split at h<;>cases h
 rename_i a0 a1 left;obtain⟨w0,w1,h0,h1⟩:=hp;refine cb LK Tryz.func87 ?_
 intro O r F hO hr hF;cbv
 repeat' first|apply Zb|(apply bC<;>intro hb<;>cbv)
 all_goals(subst hO hr hF;(try simp only[nc]at*);(try simp only[ah,SS,sa,az]at*))
 all_goals iterate 1 (try simp(disch:=assumption) only[nH,List.cons_append,List.nil_append]at*)
 all_goals exact agU
def oh:EC:=fun F=>fun
 |[.agg [.s 1 a0,.s 1 a1]]=>some (fun _=>Rw [.sl [tI,tI]] a0/\Rw [.sl [tI]] a1/\aP [a0,a1]<=1048576,[.agg [.s 1 a0,.s 1 a1]])
 |_=>none
def CH:ec 100 oh:=by
 intro _ _ _ h hp;dsimp only[oh,F0]at h;split at h<;>cases h
 rename_i a0 a1;obtain⟨w0,w1,hlim⟩:=hp;simp only[aP,Zi]at hlim;refine cb LK Tryz.func100 ?_
 exact agS
def nT:EC:=fun F=>fun
 |[.agg [.s 1 a0,.s 1 a1],d]=>some (fun _=>d=.agg [.s 1 a0,.s 1 a1]/\Rw [.sl [tI,tI]] a0/\Rw [.sl [tI]] a1/\aP [a0,a1]<=1099511627776,[.k true])
 |_=>none
def Cs:ec 109 nT:=by
 intro _ _ _ h hp;dsimp only[nT,F0]at h;split at h<;>cases h
 rename_i a0 a1 d;obtain⟨rfl,w0,w1,hlim⟩:=hp;simp only[aP,Zi]at hlim;refine cb LK Tryz.func109 ?_
 exact agR
def kH:EM:=fun F=>fun
 |[.agg [.s 1 a0,.s 1 a1],.one (.v (.int Za k))]=>some (fun _=>Rw [.sl [tI,tI]] a0/\Rw [.sl [tI]] a1/\aP [a0,a1]<=1099511627776/\0<=k/\bj [a0,a1] k<=1152921504606846976,[.s 1 (F.mkN a0 k),.s 1 (F.mkN a1 (F.kN [a0] k))],[.j (F.kN [a0,a1] k)])
 |_=>none
def yf:em 118 kH:=by
 intro _ _ _ _ h hp;dsimp only[kH,F0]at h;split at h<;>cases h
 rename_i a0 a1 k;obtain⟨w0,w1,hlim,hk0,hkb⟩:=hp;simp only[aP,Zi]at hlim;have p0:bj [a0] k<=bj [a0,a1] k/\0<=bj [a0] k:=bG (b:=[a1]) hk0;have p1:bj [a0,a1] k<=bj [a0,a1] k/\0<=bj [a0,a1] k:=bG (b:=[]) hk0;refine mb Ry [(2,0),(2,1)] Tryz.func118 ?_
 exact Rl
def kC:EC:=fun F=>fun
 |[.agg [.s 1 m0,.s 1 m1],.one (.v (.int Za k))]=>some (fun _=>(∃ a0,m0=dL a0 k/\Rw [.sl [tI,tI]] a0/\au a0<=1099511627776)/\(∃ a1,m1=dL a1 (bj [m0] k)/\Rw [.sl [tI]] a1/\au a1<=1099511627776)/\0<=k/\bj [m0,m1] k<=1152921504606846976,[.j (F.kN [m0,m1] k)])
 |_=>none
def ya:ec 127 kC:=by
 intro _ _ _ h hp;dsimp only[kC,F0]at h;split at h<;>cases h
 rename_i m0 m1 k;obtain⟨e0,e1,hk0,hkb⟩:=hp;have p0:bj [m0] k<=bj [m0,m1] k/\0<=bj [m0] k:=bG (b:=[m1]) hk0;have p1:bj [m0,m1] k<=bj [m0,m1] k/\0<=bj [m0,m1] k:=bG (b:=[]) hk0;refine cb Ry Tryz.func127 ?_
 exact agA
abbrev LN:cT:=dG (fun F f=>match f with|194=>cQ F|225=>cR F|236=>cP F|_=>fun _=>none) (by
 intro f;dsimp only;split;exact yq;exact yz;exact x8;exact cX)
abbrev RA:cT:={
 Φ:=sF
 F0:=F0
 ct:=fun F f=>match f with|248=>cA F|_=>fun _=>none
 hc:=(by
  intro f;dsimp only;split;exact t8;exact cX)
 mt:=fun F f=>match f with|242=>some (cB F)|_=>none
 hm:=(by
  intro f mk h;dsimp only at h;split at h<;>cases h
  exact uj)}
def oc:EC:=fun F=>fun
 |[.agg [.v (.int Za a0),.s 3 a1],.one (.v (.int Za left))]=>some (fun _=>Rw [tI,tI,tI] a1/\0<=left/\left<=1048576,[.j (F.szN [a1] left)])
 |_=>none
def CF:ec 88 oc:=by
 intro _ _ _ h hp;dsimp only[oc,F0]at h;split at h<;>cases h
 rename_i a0 a1 left;obtain⟨w0,h0,h1⟩:=hp;refine cb LN Tryz.func88 ?_
 exact agL
def oq:EC:=fun F=>fun
 |[.agg [.v (.int Za a0),.s 3 a1]]=>some (fun _=>Rw [tI,tI,tI] a1/\aP [a1]<=1048576,[.agg [.i a0,.s 3 a1]])
 |_=>none
def CL:ec 101 oq:=by
 intro _ _ _ h hp;dsimp only[oq,F0]at h;split at h<;>cases h
 rename_i a0 a1;obtain⟨w0,hlim⟩:=hp;simp only[aP,Zi]at hlim;refine cb LN Tryz.func101 ?_
 exact y8
def nW:EC:=fun F=>fun
 |[.agg [.v (.int Za a0),.s 3 a1],d]=>some (fun _=>d=.agg [.i a0,.s 3 a1]/\Rw [tI,tI,tI] a1/\aP [a1]<=1099511627776,[.k true])
 |_=>none
def Cw:ec 110 nW:=by
 intro _ _ _ h hp;dsimp only[nW,F0]at h;split at h<;>cases h
 rename_i a0 a1 d;obtain⟨rfl,w0,hlim⟩:=hp;simp only[aP,Zi]at hlim;refine cb LN Tryz.func110 ?_
 exact y8
def kK:EM:=fun F=>fun
 |[.agg [.v (.int Za a0),.s 3 a1],.one (.v (.int Za k))]=>some (fun _=>Rw [tI,tI,tI] a1/\aP [a1]<=1099511627776/\0<=k/\bj [a1] k<=1152921504606846976,[.s 3 (F.mkN a1 k)],[.j (F.kN [a1] k)])
 |_=>none
def yi:em 119 kK:=by
 intro _ _ _ _ h hp;dsimp only[kK,F0]at h;split at h<;>cases h
 rename_i a0 a1 k;obtain⟨w0,hlim,hk0,hkb⟩:=hp;simp only[aP,Zi]at hlim;have p0:bj [a1] k<=bj [a1] k/\0<=bj [a1] k:=bG (b:=[]) hk0;refine mb RA [(2,1)] Tryz.func119 ?_
 exact Rn
def kF:EC:=fun F=>fun
 |[.agg [.v (.int Za m0),.s 3 m1],.one (.v (.int Za k))]=>some (fun _=>(∃ a1,m1=dL a1 k/\Rw [tI,tI,tI] a1/\au a1<=1099511627776)/\0<=k/\bj [m1] k<=1152921504606846976,[.j (F.kN [m1] k)])
 |_=>none
def yd:ec 128 kF:=by
 intro _ _ _ h hp;dsimp only[kF,F0]at h;split at h<;>cases h
 rename_i m0 m1 k;obtain⟨e0,hk0,hkb⟩:=hp;have p0:bj [m1] k<=bj [m1] k/\0<=bj [m1] k:=bG (b:=[]) hk0;refine cb RA Tryz.func128 ?_
 exact Rm
abbrev LM:cT:=dG (fun F f=>match f with|190=>gY F|217=>gZ F|228=>gX F|_=>fun _=>none) (by
 intro f;dsimp only;split;exact nN;exact nO;exact nM;exact cX)
abbrev Rz:cT:={
 Φ:=sF
 F0:=F0
 ct:=fun F f=>match f with|245=>fI F|_=>fun _=>none
 hc:=(by
  intro f;dsimp only;split;exact kf;exact cX)
 mt:=fun F f=>match f with|239=>some (fJ F)|_=>none
 hm:=(by
  intro f mk h;dsimp only at h;split at h<;>cases h
  exact kg)}
def oa:EC:=fun F=>fun
 |[.agg [.v (.int Za a0),.v (.int Za a1),.s 1 a2],.one (.v (.int Za left))]=>some (fun _=>Rw [tI] a2/\0<=left/\left<=1048576,[.j (F.szN [a2] left)])
 |_=>none
def CE:ec 195 oa:=by
 intro _ _ _ h hp;dsimp only[oa,F0]at h;split at h<;>cases h
 rename_i a0 a1 a2 left;obtain⟨w0,h0,h1⟩:=hp;refine cb LM Tryz.func195 ?_
 exact agM
def om:EC:=fun F=>fun
 |[.agg [.v (.int Za a0),.v (.int Za a1),.s 1 a2]]=>some (fun _=>Rw [tI] a2/\aP [a2]<=1048576,[.agg [.i a0,.i a1,.s 1 a2]])
 |_=>none
def CJ:ec 226 om:=by
 intro _ _ _ h hp;dsimp only[om,F0]at h;split at h<;>cases h
 rename_i a0 a1 a2;obtain⟨w0,hlim⟩:=hp;simp only[aP,Zi]at hlim;refine cb LM Tryz.func226 ?_
 exact y8
def nV:EC:=fun F=>fun
 |[.agg [.v (.int Za a0),.v (.int Za a1),.s 1 a2],d]=>some (fun _=>d=.agg [.i a0,.i a1,.s 1 a2]/\Rw [tI] a2/\aP [a2]<=1099511627776,[.k true])
 |_=>none
def Cu:ec 237 nV:=by
 intro _ _ _ h hp;dsimp only[nV,F0]at h;split at h<;>cases h
 rename_i a0 a1 a2 d;obtain⟨rfl,w0,hlim⟩:=hp;simp only[aP,Zi]at hlim;refine cb LM Tryz.func237 ?_
 exact y8
def kJ:EM:=fun F=>fun
 |[.agg [.v (.int Za a0),.v (.int Za a1),.s 1 a2],.one (.v (.int Za k))]=>some (fun _=>Rw [tI] a2/\aP [a2]<=1099511627776/\0<=k/\bj [a2] k<=1152921504606846976,[.s 1 (F.mkN a2 k)],[.j (F.kN [a2] k)])
 |_=>none
def yh:em 243 kJ:=by
 intro _ _ _ _ h hp;dsimp only[kJ,F0]at h;split at h<;>cases h
 rename_i a0 a1 a2 k;obtain⟨w0,hlim,hk0,hkb⟩:=hp;simp only[aP,Zi]at hlim;have p0:bj [a2] k<=bj [a2] k/\0<=bj [a2] k:=bG (b:=[]) hk0;refine mb Rz [(2,2)] Tryz.func243 ?_
 exact Rn
def kE:EC:=fun F=>fun
 |[.agg [.v (.int Za m0),.v (.int Za m1),.s 1 m2],.one (.v (.int Za k))]=>some (fun _=>(∃ a2,m2=dL a2 k/\Rw [tI] a2/\au a2<=1099511627776)/\0<=k/\bj [m2] k<=1152921504606846976,[.j (F.kN [m2] k)])
 |_=>none
def yc:ec 249 kE:=by
 intro _ _ _ h hp;dsimp only[kE,F0]at h;split at h<;>cases h
 rename_i m0 m1 m2 k;obtain⟨e0,hk0,hkb⟩:=hp;have p0:bj [m2] k<=bj [m2] k/\0<=bj [m2] k:=bG (b:=[]) hk0;refine cb Rz Tryz.func249 ?_
 exact Rm
abbrev aad:cT:=dG (fun F f=>match f with|195=>oa F|226=>om F|237=>nV F|_=>fun _=>none) (by
 intro f;dsimp only;split;exact CE;exact CJ;exact Cu;exact cX)
abbrev acE:cT:={
 Φ:=sF
 F0:=F0
 ct:=fun F f=>match f with|249=>kE F|_=>fun _=>none
 hc:=(by
  intro f;dsimp only;split;exact yc;exact cX)
 mt:=fun F f=>match f with|243=>some (kJ F)|_=>none
 hm:=(by
  intro f mk h;dsimp only at h;split at h<;>cases h
  exact yh)}
def pI:EC:=fun F=>fun
 |[.agg [.v (.int Za a0),.v (.int Za a1),.s 1 a2,.v (.int Za a3),.v (.int Za a4)],.one (.v (.int Za left))]=>some (fun _=>Rw [tI] a2/\0<=left/\left<=1048576,[.j (F.szN [a2] left)])
 |_=>none
def EA:ec 89 pI:=by
 intro _ _ _ h hp;dsimp only[pI,F0]at h;split at h<;>cases h
 rename_i a0 a1 a2 a3 a4 left;obtain⟨w0,h0,h1⟩:=hp;refine cb aad Tryz.func89 ?_
 exact agM
def pJ:EC:=fun F=>fun
 |[.agg [.v (.int Za a0),.v (.int Za a1),.s 1 a2,.v (.int Za a3),.v (.int Za a4)]]=>some (fun _=>Rw [tI] a2/\aP [a2]<=1048576,[.agg [.i a0,.i a1,.s 1 a2,.i a3,.i a4]])
 |_=>none
def EB:ec 102 pJ:=by
 intro _ _ _ h hp;dsimp only[pJ,F0]at h;split at h<;>cases h
 rename_i a0 a1 a2 a3 a4;obtain⟨w0,hlim⟩:=hp;simp only[aP,Zi]at hlim;refine cb aad Tryz.func102 ?_
 exact y8
def pG:EC:=fun F=>fun
 |[.agg [.v (.int Za a0),.v (.int Za a1),.s 1 a2,.v (.int Za a3),.v (.int Za a4)],d]=>some (fun _=>d=.agg [.i a0,.i a1,.s 1 a2,.i a3,.i a4]/\Rw [tI] a2/\aP [a2]<=1099511627776,[.k true])
 |_=>none
def Ey:ec 111 pG:=by
 intro _ _ _ h hp;dsimp only[pG,F0]at h;split at h<;>cases h
 rename_i a0 a1 a2 a3 a4 d;obtain⟨rfl,w0,hlim⟩:=hp;simp only[aP,Zi]at hlim;refine cb aad Tryz.func111 ?_
 exact y8
def mn:EM:=fun F=>fun
 |[.agg [.v (.int Za a0),.v (.int Za a1),.s 1 a2,.v (.int Za a3),.v (.int Za a4)],.one (.v (.int Za k))]=>some (fun _=>Rw [tI] a2/\aP [a2]<=1099511627776/\0<=k/\bj [a2] k<=1152921504606846976,[.s 1 (F.mkN a2 k)],[.j (F.kN [a2] k)])
 |_=>none
def Ak:em 120 mn:=by
 intro _ _ _ _ h hp;dsimp only[mn,F0]at h;split at h<;>cases h
 rename_i a0 a1 a2 a3 a4 k;obtain⟨w0,hlim,hk0,hkb⟩:=hp;simp only[aP,Zi]at hlim;have p0:bj [a2] k<=bj [a2] k/\0<=bj [a2] k:=bG (b:=[]) hk0;refine mb acE [(2,2)] Tryz.func120 ?_
 exact Rn
def mj:EC:=fun F=>fun
 |[.agg [.v (.int Za m0),.v (.int Za m1),.s 1 m2,.v (.int Za m3),.v (.int Za m4)],.one (.v (.int Za k))]=>some (fun _=>(∃ a2,m2=dL a2 k/\Rw [tI] a2/\au a2<=1099511627776)/\0<=k/\bj [m2] k<=1152921504606846976,[.j (F.kN [m2] k)])
 |_=>none
def Aj:ec 129 mj:=by
 intro _ _ _ h hp;dsimp only[mj,F0]at h;split at h<;>cases h
 rename_i m0 m1 m2 m3 m4 k;obtain⟨e0,hk0,hkb⟩:=hp;have p0:bj [m2] k<=bj [m2] k/\0<=bj [m2] k:=bG (b:=[]) hk0;refine cb acE Tryz.func129 ?_
 exact Rm
end Go.V