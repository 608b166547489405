/- Contracts. -/
import Derived.Test.YtpldpilhgjpkjaaGreatM0
import Derived.Test.YtpldpilhgjpkjaaGreatW3
set_option linter.all false
open Go
open And renaming intro->Zb
open IntKind renaming i64->Za
open List renaming length_nil->Zt,replicate->Zl,length_replicate->YV,length_cons->Zr,length_take->Zh
open True renaming intro->Zd
namespace Go.V
open Go Go.Proofs
set_option maxRecDepth 1000000
set_option maxHeartbeats 8000000
abbrev KA1:dB:=eg (fun F f=>match f with|33=>ai F|92=>ai F|_=>fun _=>none) (by
 intro f;dsimp only;split;exact aP;exact bc;exact dI)
def cO:EC:=fun F=>fun
 |[.agg [.s 1 cs,.s 1 us]]=>some (fun _=>Rw [.sl [tI]] cs/\Rw [tB] us,[.k (F.framesOk cs us)])
 |_=>none
theorem iZ:ec 188 cO:=by
 intro _ _ _ h hp;dsimp only[cO,F0]at h;split at h<;>cases h
 rename_i cs us;obtain⟨hc,hu⟩:=hp;have hcw:=hc.wf;have huw:=hu.wf;have hlen:=hc.1;unfold maxLen at hlen;refine cb KA1 Tryz.func188 ?_
 intro O r F hO hr hF;cbv
 repeat' first|apply Zb|(apply b8<;>intro hb<;>cbv)|(refine⟨[1,22,23,24],[1],Int,fun i=>[.reg 24 (.j i)],fun i=>0<=i/\i<=((cs.length:Nat):Int)/\upto (gu cs us) i,fun i=>(cs.length)-i.toNat,⟨0,?_,?_⟩,?_⟩;rotate_left;(focus (cbv;done));intro i hi;replace hi:0<=i/\i<=((cs.length:Nat):Int)/\upto (gu cs us) i:=hi;obtain⟨i0,i1,i2⟩:=hi;cbv)|(refine ah (O.ar .add Za i 1) ?_ ?_ ?_;focus (cbv;done))|(refine⟨[1,3,22,23,24,32,33,34],[1],Int,fun k=>[.reg 34 (.j k)],fun k=>0<=k/\k<=(((O.gs cs i 0).length:Nat):Int)/\upto (kP cs us i) k,fun k=>((O.gs cs i 0).length)-k.toNat,⟨0,?_,?_⟩,?_⟩;rotate_left;(focus (cbv;done));intro k hk;replace hk:0<=k/\k<=(((O.gs cs i 0).length:Nat):Int)/\upto (kP cs us i) k:=hk;obtain⟨k0,k1,k2⟩:=hk;cbv)|(refine ah (O.ar .add Za k 1) ?_ ?_ ?_;focus (cbv;done))
 all_goals exact zq7
theorem mL:ec 353 cO:=by
 intro _ _ _ h hp;dsimp only[cO,F0]at h;split at h<;>cases h
 rename_i cs us;obtain⟨hc,hu⟩:=hp;have hlen:=hc.1;unfold maxLen at hlen;refine cb KA1 Tryz.func353 ?_
 intro O r F hO hr hF;cbv
 repeat' first|apply Zb|(apply b8<;>intro hb<;>cbv)|(refine⟨[1,3],[1],Int,fun i=>[.reg 3 (.j i)],fun i=>0<=i/\i<=((cs.length:Nat):Int)/\upto (gu cs us) i,fun i=>(cs.length)-i.toNat,⟨0,?_,?_⟩,?_⟩;rotate_left;(focus (cbv;done));intro i hi;replace hi:0<=i/\i<=((cs.length:Nat):Int)/\upto (gu cs us) i:=hi;obtain⟨i0,i1,i2⟩:=hi;cbv)|(refine ah (O.ar .add Za i 1) ?_ ?_ ?_;focus (cbv;done))|(refine⟨[1,3,4],[1],Int,fun k=>[.reg 4 (.j k)],fun k=>0<=k/\k<=((16:Nat):Int)/\upto (kP cs us i) k,fun k=>(16)-k.toNat,⟨0,?_,?_⟩,?_⟩;rotate_left;(focus (cbv;done));intro k hk;replace hk:0<=k/\k<=((16:Nat):Int)/\upto (kP cs us i) k:=hk;obtain⟨k0,k1,k2⟩:=hk;cbv)|(refine ah (O.ar .add Za k 1) ?_ ?_ ?_;focus (cbv;done))
 all_goals exact zq7
def eH:EC:=fun F=>fun
 |[.agg [.s 2 es],.one (.v (.int Za n))]=>some (fun _=>Rw [tI,tI] es,[.k (F.tableOk es n)])
 |_=>none
theorem uI:ec 276 eH:=by
 intro _ _ _ h hp;dsimp only[eH,F0]at h;split at h<;>cases h
 rename_i es n;have hlen:=hp.1;unfold maxLen at hlen;refine cb KA1 Tryz.func276 ?_
 intro O r F hO hr hF;cbv
 repeat' first|apply Zb|(apply b8<;>intro hb<;>cbv)|(refine⟨[1,2,8,9,10],[2],Int,fun i=>[.reg 10 (.j i)],fun i=>0<=i/\i<=((es.length:Nat):Int)/\upto (nA es n) i,fun i=>(es.length)-i.toNat,⟨0,?_,?_⟩,?_⟩;rotate_left;(focus (cbv;done));intro i hi;replace hi:0<=i/\i<=((es.length:Nat):Int)/\upto (nA es n) i:=hi;obtain⟨i0,i1,i2⟩:=hi;cbv)|(refine ah (O.ar .add Za i 1) ?_ ?_ ?_;focus (cbv;done))
 all_goals exact abV
theorem uU:ec 354 eH:=by
 intro _ _ _ h hp;dsimp only[eH,F0]at h;split at h<;>cases h
 rename_i es n;have hlen:=hp.1;unfold maxLen at hlen;refine cb KA1 Tryz.func354 ?_
 intro O r F hO hr hF;cbv
 repeat' first|apply Zb|(apply b8<;>intro hb<;>cbv)|(refine⟨[1,2,5],[2],Int,fun i=>[.reg 5 (.j i)],fun i=>0<=i/\i<=((es.length:Nat):Int)/\upto (nA es n) i,fun i=>(es.length)-i.toNat,⟨0,?_,?_⟩,?_⟩;rotate_left;(focus (cbv;done));intro i hi;replace hi:0<=i/\i<=((es.length:Nat):Int)/\upto (nA es n) i:=hi;obtain⟨i0,i1,i2⟩:=hi;cbv)|(refine ah (O.ar .add Za i 1) ?_ ?_ ?_;focus (cbv;done))
 all_goals exact abV
def d8:EC:=fun F=>fun
 |[.one (.s 1 es)]=>some (fun _=>Rw [tI] es/\es.length<=1099511627776,[.one (.s 1 es)])
 |_=>none
theorem gh:ec 132 d8:=by
 intro _ _ _ h hp;dsimp only[d8,F0]at h;split at h<;>cases h
 rename_i es;obtain⟨hw,hl⟩:=hp;have hs:=hw.scal rfl;refine cb nB Tryz.func132 ?_
 intro O r F hO hr hF;cbv
 repeat' first|apply Zb|(apply b8<;>intro hb<;>cbv)
 all_goals(subst hO hr hF;(try simp only[nc]at*);(try simp only[am,SS,sa,az]at*))
 all_goals first|exact hs|trivial|(simp only[Zt];omega)|trace_state
abbrev KD4:dB:=eg (fun F f=>match f with|188=>cO F|276=>eH F|277=>cN F|_=>fun _=>none) (by
 intro f;dsimp only;split;exact iZ;exact uI;exact jE;exact dI)
def dj:EC:=fun F=>fun
 |[.agg [.s 1 cs,.s 1 us,.s 2 es]]=>some (fun _=>Rw [.sl [tI]] cs/\Rw [tB] us/\Rw [tI,tI] es,[.k (F.machOk cs us es)])
 |_=>none
theorem lx:ec 164 dj:=by
 intro _ _ _ h hp;dsimp only[dj,F0]at h;split at h<;>cases h
 rename_i cs us es;obtain⟨hc,hu,ht⟩:=hp;have hm:=hu.1;unfold maxLen at hm;refine cb KD4 Tryz.func164 ?_
 intro O r F hO hr hF;cbv
 repeat' first|apply Zb|(apply b8<;>intro hb<;>cbv)|(refine⟨[1,21,22,23],[1],Int,fun i=>[.reg 23 (.j i)],fun i=>0<=i/\i<=((us.length:Nat):Int)/\upto (k8 us es) i,fun i=>(us.length)-i.toNat,⟨0,?_,?_⟩,?_⟩;rotate_left;(focus (cbv;done));intro i hi;replace hi:0<=i/\i<=((us.length:Nat):Int)/\upto (k8 us es) i:=hi;obtain⟨i0,i1,i2⟩:=hi;cbv)|(refine ah (O.ar .add Za i 1) ?_ ?_ ?_;focus (cbv;done))
 all_goals(subst hO hr hF;(try simp only[nc]at*);(try simp only[am,SS,sa,az]at*);(try simp only[Ee]at*);(try rw[cJ (by omega) (by omega)]);(try(have hfl:=pE (cs:=cs) (us:=us) (by assumption)));(try(have htl:=wB (es:=es) (n:=(us.length:Int)) (by assumption)));(try(have htl:=wB (es:=es) (n:=(cs.length:Int)) (by assumption))))
 all_goals first|omega|exact fg|exact bD|exact⟨hc,hu⟩|exact⟨ht,by omega⟩|exact aj (Ek (.inl (by assumption))).symm|exact aj (O5 (by assumption) (by assumption)).symm|exact aj (H7 i0 (by omega) (by assumption)).symm|exact aU i2 (Ej (by assumption))|exact aj (y7 (by assumption) (by assumption) i2 (by omega)).symm|trace_state
abbrev KD5:dB:=eg (fun F f=>match f with|353=>cO F|354=>eH F|355=>cN F|_=>fun _=>none) (by
 intro f;dsimp only;split;exact mL;exact uU;exact jJ;exact dI)
theorem rD:ec 294 dj:=by
 intro _ _ _ h hp;dsimp only[dj,F0]at h;split at h<;>cases h
 rename_i cs us es;obtain⟨hc,hu,ht⟩:=hp;have hm:=hu.1;unfold maxLen at hm;refine cb KD5 Tryz.func294 ?_
 intro O r F hO hr hF;cbv
 repeat' first|apply Zb|(apply b8<;>intro hb<;>cbv)|(refine⟨[1,3],[1],Int,fun i=>[.reg 3 (.j i)],fun i=>0<=i/\i<=((us.length:Nat):Int)/\upto (k8 us es) i,fun i=>(us.length)-i.toNat,⟨0,?_,?_⟩,?_⟩;rotate_left;(focus (cbv;done));intro i hi;replace hi:0<=i/\i<=((us.length:Nat):Int)/\upto (k8 us es) i:=hi;obtain⟨i0,i1,i2⟩:=hi;cbv)|(refine ah (O.ar .add Za i 1) ?_ ?_ ?_;focus (cbv;done))
 all_goals(subst hO hr hF;(try simp only[nc]at*);(try simp only[am,SS,sa,az]at*);(try simp only[Ee]at*);(try rw[cJ (by omega) (by omega)]);(try(have hfl:=pE (cs:=cs) (us:=us) (by assumption)));(try(have htl:=wB (es:=es) (n:=(us.length:Int)) (by assumption)));(try(have htl:=wB (es:=es) (n:=(cs.length:Int)) (by assumption))))
 all_goals first|omega|exact fg|(show aw _ _=true;kernel_rfl)|exact bD|exact⟨hc,hu⟩|exact⟨ht,by omega⟩|exact aj (Ek (.inl (by assumption))).symm|exact aj (Ek (.inr (by assumption))).symm|exact aj (H7 i0 (by omega) (by assumption)).symm|exact aU i2 (Ej (by assumption))|(refine aj (y7 (by assumption) ?_ i2 (by omega)).symm;rw[hfl.1];assumption)|trace_state
abbrev N1:dB:=eg (fun F f=>match f with|33=>ai F|92=>ai F|_=>fun _=>none) (by
 intro f;dsimp only;split;exact aP;exact bc;exact dI)
def iu:EC:=fun F=>fun
 |[.one (.v (.int Za n))]=>some (fun _=>True,[.agg [.s 1 (F.fnC n),.s 1 (F.fnU n)],.k (F.inR n 1 32)])
 |_=>none
theorem q8:ec 250 iu:=by
 intro _ _ _ h hp;dsimp only[iu,F0]at h;split at h<;>cases h
 rename_i n;refine cb N1 Tryz.func250 ?_
 intro O r F hO hr hF;cbv
 repeat' first|apply Zb|(apply b8<;>intro hb<;>cbv)|(refine⟨[0,2,4,5],[2,4],Int×af,fun s_=>match s_ with|(i,out)=>[.reg 5 (.j i),.leaf 4 0 ⟨0,0,none,.own (.s 1 out)⟩],fun s_=>match s_ with|(i,out)=>0<=i/\i<=n/\out=Zl i.toNat [.s 1 xH],fun s_=>match s_ with|(i,out)=>(n-i).toNat,⟨(0,[]),?_,?_⟩,?_⟩;rotate_left;(focus (cbv;done));intro s_ hi;obtain⟨i,out⟩:=s_;replace hi:0<=i/\i<=n/\out=Zl i.toNat [.s 1 xH]:=hi;obtain⟨i0,i1,i2⟩:=hi;cbv)|(refine ah (O.ar .add Za i 1,O.cat out [[.s 1 (O.rep 16 [.i 0])]]) ?_ ?_ ?_;focus (cbv;done))
 all_goals(subst hO hr hF;(try simp only[nc]at*);(try simp only[am,SS,sa,az]at*);(try(have hn:=bz.1 (‹inR n 1 32=true›)));(try rw[cJ (by omega) (by omega)]))
 all_goals first
  | (show(_:List DV)=_
     first
      |(have q:=Me (‹inR n 1 32=false›);exact EJ q.1.symm q.2.1.symm (by symm;assumption))
      |(have q:=nE (‹inR n 1 32=true›);exact EJ (by rw[q.1,i2];congr 1;omega) q.2.1.symm (by symm;assumption))
      |done)
  | (show(_:af)=_
     first
      |(rw[i2];exact IM i0)
      |exact rfl
      |done)
  |omega
  |(show aw _ _=true;kernel_rfl)
  |(rw[i2,YV];exact⟨by simp only[Zr,Zt];omega,by simp only[Zr,Zt];omega⟩)
  |exact⟨Zd,Zd⟩
  |trivial
  |trace_state
def jk:EC:=fun F=>fun
 |[.one (.v (.int Za n))]=>some (fun _=>True,[.agg [.s 2 (F.tnE n)],.k (F.inR n 1 32)])
 |_=>none
theorem tx:ec 251 jk:=by
 intro _ _ _ h hp;dsimp only[jk,F0]at h;split at h<;>cases h
 rename_i n;refine cb N1 Tryz.func251 ?_
 intro O r F hO hr hF;cbv
 repeat' first|apply Zb|(apply b8<;>intro hb<;>cbv)
 all_goals(subst hO hr hF;(try simp only[nc]at*);(try simp only[am,SS,sa,az]at*);(try(have hn:=bz.1 (‹inR n 1 32=true›))))
 all_goals first
  | (show(_:List DV)=_
     first
      |(have q:=Me (‹inR n 1 32=false›);exact MZ q.2.2.symm (by symm;assumption))
      |(have q:=nE (‹inR n 1 32=true›);exact MZ q.2.2.symm (by symm;assumption))
      |done)
  |omega
  |(show aw _ _=true;kernel_rfl)
  |exact⟨Zd,Zd⟩
  |trivial
  |trace_state
abbrev N2:dB:=eg (fun F f=>match f with|250=>iu F|251=>jk F|_=>fun _=>none) (by
 intro f;dsimp only;split;exact q8;exact tx;exact dI)
def gL:EC:=fun F=>fun
 |[.one (.v (.int Za p)),.one (.v (.int Za f))]=>some (fun _=>True,[.agg [.s 1 (F.mnC p f),.s 1 (F.mnU p f),.s 2 (F.mnE p f)],.k (F.mnB p f)])
 |_=>none
theorem pW:ec 131 gL:=by
 intro _ _ _ h hp;dsimp only[gL,F0]at h;split at h<;>cases h
 rename_i p f;refine cb N2 Tryz.func131 ?_
 intro O r F hO hr hF;cbv
 repeat' first|apply Zb|(apply b8<;>intro hb<;>cbv)
 all_goals(subst hO hr hF;(try simp only[nc]at*);(try simp only[am,SS,sa,az]at*))
 all_goals first
  | (show(_:List DV)=_
     first
      |(have q:=nM (‹inR f 1 32=true›) (‹inR p 1 32=true›);exact IR q.1.symm q.2.1.symm q.2.2.1.symm q.2.2.2.symm)
      |(have q:=A4 (Pf (‹inR f 1 32=false›):mnB p f=false);exact IR q.1.symm q.2.1.symm q.2.2.1.symm q.2.2.2.symm)
      |(have q:=A4 (Pg (‹inR p 1 32=false›):mnB p f=false);exact IR q.1.symm q.2.1.symm q.2.2.1.symm q.2.2.2.symm)
      |done)
  |omega
  |(show aw _ _=true;kernel_rfl)
  |exact⟨Zd,Zd⟩
  |trivial
  |trace_state
abbrev N3:dB:=eg (fun F f=>match f with|33=>ai F|92=>ai F|164=>dj F|294=>dj F|_=>fun _=>none) (by
 intro f;dsimp only;split;exact aP;exact bc;exact lx;exact rD;exact dI)
def cG:EC:=fun F=>fun
 |[.agg [.s 1 cs,.s 1 us,.s 2 es,.v (.int Za c),.s 1 rs]]=>some (fun _=>Rw [.sl [tI]] cs/\Rw [tB] us/\Rw [tI,tI] es/\Rw [tI] rs,[.k (F.kerOk cs us es c rs)])
 |_=>none
theorem ja:ec 60 cG:=by
 intro _ _ _ h hp;dsimp only[cG,F0]at h;split at h<;>cases h
 rename_i cs us es c rs;obtain⟨hc,hu,ht,hr⟩:=hp;have hm:=hr.1;unfold maxLen at hm;refine cb N3 Tryz.func60 ?_
 intro O r F hO hr hF;cbv
 repeat' first|apply Zb|(apply b8<;>intro hb<;>cbv)|(refine⟨[1,6,7,8],[1],Int,fun i=>[.reg 8 (.j i)],fun i=>0<=i/\i<=((rs.length:Nat):Int)/\upto (A8 rs) i,fun i=>(rs.length)-i.toNat,⟨0,?_,?_⟩,?_⟩;rotate_left;(focus (cbv;done));intro i hi;replace hi:0<=i/\i<=((rs.length:Nat):Int)/\upto (A8 rs) i:=hi;obtain⟨i0,i1,i2⟩:=hi;cbv)|(refine ah (O.ar .add Za i 1) ?_ ?_ ?_;focus (cbv;done))
 all_goals(subst hO hr hF;(try simp only[nc]at*);(try simp only[am,SS,sa,az]at*);(try rw[cJ (by omega) (by omega)]))
 all_goals first
  | (show(_:List DV)=_
     first
      |exact aj (IL i0 (by assumption) (by assumption)).symm
      |exact aj (D2 (by assumption)).symm
      |exact aj (Kz (K5 (by omega))).symm
      |(refine aj ?_;unfold kerOk;rw[show inR c 0 100000=true from by assumption,K6 i2 (by omega) (by omega)];simp)
      |done)
  |omega
  |exact fg
  |exact bD
  |exact aU i2 (IK (by omega))
  |exact⟨hc,hu,ht⟩
  |trace_state
theorem jd:ec 201 cG:=by
 intro _ _ _ h hp;dsimp only[cG,F0]at h;split at h<;>cases h
 rename_i cs us es c rs;obtain⟨hc,hu,ht,hr⟩:=hp;have hm:=hr.1;unfold maxLen at hm;refine cb N3 Tryz.func201 ?_
 intro O r F hO hr hF;cbv
 repeat' first|apply Zb|(apply b8<;>intro hb<;>cbv)|(refine⟨[1,3],[1],Int,fun i=>[.reg 3 (.j i)],fun i=>0<=i/\i<=((rs.length:Nat):Int)/\upto (A8 rs) i,fun i=>(rs.length)-i.toNat,⟨0,?_,?_⟩,?_⟩;rotate_left;(focus (cbv;done));intro i hi;replace hi:0<=i/\i<=((rs.length:Nat):Int)/\upto (A8 rs) i:=hi;obtain⟨i0,i1,i2⟩:=hi;cbv)|(refine ah (O.ar .add Za i 1) ?_ ?_ ?_;focus (cbv;done))
 all_goals(subst hO hr hF;(try simp only[nc]at*);(try simp only[am,SS,sa,az]at*);(try rw[cJ (by omega) (by omega)]))
 all_goals first
  | (show(_:List DV)=_
     first
      |exact aj (IL i0 (by assumption) (by assumption)).symm
      |exact aj (Ky (by assumption)).symm
      |exact aj (D2 (by assumption)).symm
      |(refine aj ?_;unfold kerOk kH;rw[show machOk cs us es=true from by assumption,show inR c 0 100000=true from by assumption,bJ i2 (by omega)];refine fU ?_;simp only[SS,Bool.true_and,VM];omega)
      |done)
  |omega
  |exact fg
  |exact bD
  |exact aU i2 (IK (by omega))
  |exact⟨hc,hu,ht⟩
  |trace_state
abbrev N4:dB:=eg (fun F f=>match f with|131=>gL F|60=>cG F|201=>cG F|132=>d8 F|_=>fun _=>none) (by
 intro f;dsimp only;split;exact pW;exact ja;exact jd;exact gh;exact dI)
def iz:EC:=fun F=>fun
 |[.one (.v (.int Za p)),.one (.v (.int Za f)),.one (.s 1 rs)]=>some (fun _=>Rw [tI] rs/\rs.length<=1099511627776,[.agg [.s 1 (F.knC p f rs),.s 1 (F.knU p f rs),.s 2 (F.knE p f rs),.i 0,.s 1 (F.knR p f rs)],.k (F.knB p f rs)])
 |_=>none
theorem ri:ec 31 iz:=by
 intro _ _ _ h hp;dsimp only[iz,F0]at h;split at h<;>cases h
 rename_i p f rs;obtain⟨hr,hl⟩:=hp;have hs:=hr.scal rfl;refine cb N4 Tryz.func31 ?_
 intro O r F hO hr hF;cbv
 repeat' first|apply Zb|(apply b8<;>intro hb<;>cbv)
 all_goals(subst hO hr hF;(try simp only[nc]at*);(try simp only[am,SS,sa,az]at*))
 all_goals first
  | (show(_:List DV)=_
     first
      |(have q:=KB (rs:=rs) (‹mnB p f=false›);have w:=Mv q;exact IQ w.1.symm w.2.1.symm w.2.2.1.symm w.2.2.2.symm q.symm)
      |(have q:=SQ (rs:=rs) (‹mnB p f=true›) (by assumption);have w:=HK q;have u:=Ph (ac7 q);have z:=nM u.1 u.2;exact IQ (z.1.trans w.1.symm) (z.2.1.trans w.2.1.symm) (z.2.2.1.trans w.2.2.1.symm) w.2.2.2.symm q.symm)
      |(have q:=OL (rs:=rs) (‹mnB p f=true›) (by assumption);have w:=Mv q;exact IQ w.1.symm w.2.1.symm w.2.2.1.symm w.2.2.2.symm q.symm)
      |done)
  |exact hs
  |exact⟨hr,by omega⟩
  |exact⟨CK.1,CK.2.1,CK.2.2,hr⟩
  |omega
  |(show aw _ _=true;kernel_rfl)
  |(simp only[Zt];omega)
  |exact⟨Zd,Zd⟩
  |trivial
  |trace_state
def jN:EC:=fun F=>fun
 |[.one (.v (.int Za t))]=>some (fun _=>True,[.agg [.s 1 (F.mwB t),.s 1 (F.mwI t)],.k (F.inR t 1 4)])
 |_=>none
theorem uF:ec 32 jN:=by
 intro _ _ _ h hp;dsimp only[jN,F0]at h;split at h<;>cases h
 rename_i t;refine cb N1 Tryz.func32 ?_
 intro O r F hO hr hF;cbv
 repeat' first|apply Zb|(apply b8<;>intro hb<;>cbv)
 all_goals(subst hO hr hF;(try simp only[nc]at*);(try simp only[am,SS,sa,az]at*);(try(have hn:=bz.1 (‹inR t 1 4=true›))))
 all_goals first
  | (show(_:List DV)=_
     first
      |(have q:=TH (‹inR t 1 4=false›);exact EJ q.1.symm q.2.symm (by symm;assumption))
      |(have q:=Pm (‹inR t 1 4=true›);exact EJ q.1.symm q.2.symm (by symm;assumption))
      |done)
  |omega
  |(show aw _ _=true;kernel_rfl)
  |exact⟨Zd,Zd⟩
  |trivial
  |trace_state
def jP:EC:=fun F=>fun
 |[.one (.v (.int Za q))]=>some (fun _=>True,[.agg [.i (F.qnR q),.s 3 []],.k (F.inR q 0 500)])
 |_=>none
theorem uH:ec 34 jP:=by
 intro _ _ _ h hp;dsimp only[jP,F0]at h;split at h<;>cases h
 rename_i q;refine cb N1 Tryz.func34 ?_
 intro O r F hO hr hF;cbv
 repeat' first|apply Zb|(apply b8<;>intro hb<;>cbv)
 all_goals(subst hO hr hF;(try simp only[nc]at*);(try simp only[am,SS,sa,az]at*))
 all_goals first
  | (show(_:List DV)=_
     first
      |(have w:=aax (‹inR q 0 500=false›);exact M1 w.symm (by symm;assumption))
      |(have w:=PI (‹inR q 0 500=true›);exact M1 w.symm (by symm;assumption))
      |done)
  |(show aw _ _=true;kernel_rfl)
  |exact⟨Zd,Zd⟩
  |trivial
  |trace_state
def jg:EC:=fun F=>fun
 |[]=>some (fun _=>True,[.agg [.s 1 (F.cnL)]])
 |_=>none
theorem te:ec 35 jg:=by
 intro _ _ _ h hp;dsimp only[jg,F0]at h;split at h<;>cases h
 refine cb nB Tryz.func35 ?_
 intro O r F hO hr hF;cbv
 repeat' first|apply Zb|(apply b8<;>intro hb<;>cbv)
 all_goals(subst hO hr hF;(try simp only[nc]at*);(try simp only[am,SS,sa,az]at*))
 all_goals first|exact Zd|exact⟨Zd,Zd⟩|omega|(show aw _ _=true;kernel_rfl)|exact rfl|trace_state
abbrev LE:dB:=eg (fun F f=>match f with|132=>d8 F|_=>fun _=>none) (by
 intro f;dsimp only;split;exact gh;exact dI)
def dP:EC:=fun F=>fun
 |[.agg [.s 2 es]]=>some (fun _=>Rw [tI,tI] es/\es.length<=1099511627776,[.agg [.s 2 es]])
 |_=>none
theorem rq:ec 268 dP:=by
 intro _ _ _ h hp;dsimp only[dP,F0]at h;split at h<;>cases h
 rename_i es;obtain⟨hw,hl⟩:=hp;have hs:=hw.scal rfl;refine cb LE Tryz.func268 ?_
 exact Nk
theorem uX:ec 352 dP:=by
 intro _ _ _ h hp;dsimp only[dP,F0]at h;split at h<;>cases h
 rename_i es;obtain⟨hw,hl⟩:=hp;have hs:=hw.scal rfl;refine cb LE Tryz.func352 ?_
 exact Nk
def fv:EC:=fun F=>fun
 |[.one (.s 2 es)]=>some (fun _=>Rw [tI,tI] es/\es.length<=1099511627776,[.one (.s 2 es)])
 |_=>none
theorem kB:ec 134 fv:=by
 intro _ _ _ h hp;dsimp only[fv,F0]at h;split at h<;>cases h
 rename_i es;obtain⟨hw,hl⟩:=hp;have hs:=hw.scal rfl;refine cb LE Tryz.func134 ?_
 exact Nk
def ea:EC:=fun F=>fun
 |[.agg [.v (.int Za r),.s 3 qs]]=>some (fun _=>Rw [tI,tI,tI] qs/\qs.length<=1099511627776,[.agg [.i r,.s 3 qs]])
 |_=>none
theorem tC:ec 137 ea:=by
 intro _ _ _ h hp;dsimp only[ea,F0]at h;split at h<;>cases h
 rename_i r qs;obtain⟨hw,hl⟩:=hp;have hs:=hw.scal rfl;refine cb LE Tryz.func137 ?_
 exact Nk
theorem vg:ec 199 ea:=by
 intro _ _ _ h hp;dsimp only[ea,F0]at h;split at h<;>cases h
 rename_i r qs;obtain⟨hw,hl⟩:=hp;have hs:=hw.scal rfl;refine cb LE Tryz.func199 ?_
 exact Nk
def Tryz.laysC15_ren:Go.Shelf.Ren:=⟨fun|15=>328|n=>n,fun|22=>24|3=>3|4=>4|n=>n,fun|n=>n⟩
theorem Tryz.laysC15:Lays2.n15 Tryz.prog Tryz.laysC15_ren:=⟨by kernel_rfl,Tryz.func328.trans (congrArg some (by kernel_rfl)),Tryz.underlying3,Tryz.isAgg3,Tryz.sizeOf3,Tryz.zeroValue3,Tryz.underlying4,Tryz.isAgg4,Tryz.sizeOf4,Tryz.zeroValue4,Tryz.underlying24,Tryz.isAgg24,Tryz.sizeOf24,Tryz.zeroValue24,by kernel_rfl⟩
def eQ:EC:=fun F=>fun
 |[.one (.s 1 l)]=>some (fun _=>Rw [tI] l/\l.length<=1099511627776,[.one (.s 1 l)])
 |_=>none
theorem lS:ec 328 eQ:=by
 intro _ _ _ h hp;dsimp only[eQ,F0]at h;split at h<;>cases h
 rename_i l;exact Fl (Any.slices_Clone_int_nil Tryz.laysC15) (Any.slices_Clone_int_zero Tryz.laysC15) (Any.slices_Clone_int Tryz.laysC15) l hp
def eJ:EC:=fun F=>fun
 |[.agg [.v (.int Za k),.v (.int Za m),.s 1 cs,.v (.int Za p),.v (.int Za n)]]=>some (fun _=>Rw [tI] cs/\cs.length<=1099511627776,[.agg [.i k,.i m,.s 1 cs,.i p,.i n]])
 |_=>none
theorem ve:ec 200 eJ:=by
 intro _ _ _ h hp;dsimp only[eJ,F0]at h;split at h<;>cases h
 rename_i k m cs p n;obtain⟨hw,hl⟩:=hp;have hs:=hw.scal rfl;refine cb LE Tryz.func200 ?_
 exact Nk
def cW:EC:=fun F=>fun
 |[.agg [.s 1 cs,.s 1 us]]=>some (fun _=>Rw [.sl [tI]] cs/\Rw [tB] us/\bj cs<=1099511627776/\bj us<=1099511627776,[.agg [.s 1 cs,.s 1 us]])
 |_=>none
theorem kz:ec 267 cW:=by
 intro _ _ _ h hp;dsimp only[cW,F0]at h;split at h<;>cases h
 rename_i cs us;obtain⟨hc,hu,hn,hm⟩:=hp;have hs:=hu.scal rfl;have hl1:=av (es:=cs);have hl2:=av (es:=us);refine cb LE Tryz.func267 ?_
 intro O r F hO hr hF;cbv
 repeat' first|apply Zb|(apply b8<;>intro hb<;>cbv)|(refine⟨[2,3,12,13,14],[2,3],Int×af,fun s_=>match s_ with|(i,out)=>[.reg 14 (.j i),.leaf 3 0 ⟨0,0,none,.own (.s 1 out)⟩],fun s_=>match s_ with|(i,out)=>0<=i/\i<=(cs.length:Int)/\out=cs.take i.toNat,fun s_=>match s_ with|(i,out)=>cs.length-i.toNat,⟨(0,[]),?_,?_⟩,?_⟩;rotate_left;(focus (cbv;done));intro s_ hi;obtain⟨i,out⟩:=s_;replace hi:0<=i/\i<=(cs.length:Int)/\out=cs.take i.toNat:=hi;obtain⟨i0,i1,i2⟩:=hi;cbv)|(refine ah (O.ar .add Za i 1,O.cat out [[.s 1 (O.gs cs i 0)]]) ?_ ?_ ?_;focus (cbv;done))
 all_goals(subst hO hr hF;(try simp only[nc]at*);(try simp only[am,SS,sa,az]at*);(try rw[cJ (by omega) (by omega)]);(try(have hol:out.length=i.toNat:=(by rw[i2,Zh];omega)));(try(have hsc:=oO hc i0 (by assumption);have hsl:=av (es:=ax cs i 0))))
 all_goals first|exact hs|omega|exact fg|(show aw _ _=true;kernel_rfl)|exact⟨by(first|assumption|exact Rw.sub (by first|assumption|exact Rw.sub (by assumption) (by omega) rfl) (by omega) rfl),by omega⟩|(simp only[Zt,Zr];omega)|(rw[i2];exact(ia hc i0 (by assumption)).symm)|(rw[i2,hZ (by omega)];rfl)|exact⟨trivial,trivial⟩|trivial|exact rfl|trace_state
theorem uW:ec 351 cW:=by
 intro _ _ _ h hp;dsimp only[cW,F0]at h;split at h<;>cases h
 rename_i cs us;obtain⟨hc,hu,hn,hm⟩:=hp;have hs:=hu.scal rfl;have hl1:=av (es:=cs);have hl2:=av (es:=us);refine cb LE Tryz.func351 ?_
 intro O r F hO hr hF;cbv
 repeat' first|apply Zb|(apply b8<;>intro hb<;>cbv)|(refine⟨[1,2,3,4],[1,2,3],Int×af,fun s_=>match s_ with|(i,out)=>[.reg 4 (.j i),.leaf 3 0 ⟨0,0,none,.own (.s 1 out)⟩],fun s_=>match s_ with|(i,out)=>0<=i/\i<=(cs.length:Int)/\out=cs.take i.toNat,fun s_=>match s_ with|(i,out)=>cs.length-i.toNat,⟨(0,[]),?_,?_⟩,?_⟩;rotate_left;(focus (cbv;done));intro s_ hi;obtain⟨i,out⟩:=s_;replace hi:0<=i/\i<=(cs.length:Int)/\out=cs.take i.toNat:=hi;obtain⟨i0,i1,i2⟩:=hi;cbv)|(refine ah (O.ar .add Za i 1,O.cat out [[.s 1 (O.gs cs i 0)]]) ?_ ?_ ?_;focus (cbv;done))|(refine ah (O.ar .add Za i 1,O.cat out [[.s 1 (O.cat [] (O.gs cs i 0))]]) ?_ ?_ ?_;focus (cbv;done))
 all_goals(subst hO hr hF;(try simp only[nc]at*);(try simp only[am,SS,sa,az]at*);(try rw[cJ (by omega) (by omega)]);(try(have hol:out.length=i.toNat:=(by rw[i2,Zh];omega)));(try(have hsc:=oO hc i0 (by assumption);have hsl:=av (es:=ax cs i 0))))
 all_goals first|exact hs|exact Rw.scal (fs:=[tI]) (by(first|assumption|exact Rw.sub (by first|assumption|exact Rw.sub (by assumption) (by omega) rfl) (by omega) rfl)) rfl|omega|exact fg|(show aw _ _=true;kernel_rfl)|exact⟨by(first|assumption|exact Rw.sub (by first|assumption|exact Rw.sub (by assumption) (by omega) rfl) (by omega) rfl),by omega⟩|(simp only[Zt,Zr];omega)|(rw[i2];exact(ia hc i0 (by assumption)).symm)|(rw[i2,List.nil_append];exact(ia hc i0 (by assumption)).symm)|(rw[i2,hZ (by omega)];rfl)|exact⟨trivial,trivial⟩|trivial|exact rfl|trace_state
abbrev Ia1:dB:=eg (fun F f=>match f with|267=>cW F|268=>dP F|351=>cW F|352=>dP F|328=>eQ F|_=>fun _=>none) (by
 intro f;dsimp only;split;exact kz;exact rq;exact uW;exact uX;exact lS;exact dI)
def cQ:EC:=fun F=>fun
 |[.agg [.s 1 cs,.s 1 us,.s 2 es]]=>some (fun _=>Rw [.sl [tI]] cs/\Rw [tB] us/\Rw [tI,tI] es/\bj cs<=1099511627776/\bj us<=1099511627776/\bj es<=1099511627776,[.agg [.s 1 cs,.s 1 us,.s 2 es]])
 |_=>none
theorem jF:ec 150 cQ:=by
 intro _ _ _ h hp;dsimp only[cQ,F0]at h;split at h<;>cases h
 rename_i cs us es;obtain⟨hc,hu,he,hn,hm,hk⟩:=hp;have hl:=av (es:=es);refine cb Ia1 Tryz.func150 ?_
 exact ab4
theorem uY:ec 293 cQ:=by
 intro _ _ _ h hp;dsimp only[cQ,F0]at h;split at h<;>cases h
 rename_i cs us es;obtain⟨hc,hu,he,hn,hm,hk⟩:=hp;have hl:=av (es:=es);refine cb Ia1 Tryz.func293 ?_
 exact ab4
def jm:EC:=fun F=>fun
 |[.agg [.v (.int Za k),.v (.int Za m),.s 1 cs]]=>some (fun _=>Rw [tI] cs/\cs.length<=1099511627776,[.agg [.i k,.i m,.s 1 cs]])
 |_=>none
theorem tA:ec 252 jm:=by
 intro _ _ _ h hp;dsimp only[jm,F0]at h;split at h<;>cases h
 rename_i k m cs;obtain⟨hw,hl⟩:=hp;have hs:=hw.scal rfl;refine cb Ia1 Tryz.func252 ?_
 exact Nk
abbrev Ia2:dB:=eg (fun F f=>match f with|150=>cQ F|293=>cQ F|132=>d8 F|252=>jm F|_=>fun _=>none) (by
 intro f;dsimp only;split;exact jF;exact uY;exact gh;exact tA;exact dI)
def cB:EC:=fun F=>fun
 |[.agg [.s 1 cs,.s 1 us,.s 2 es,.v (.int Za c),.s 1 rs]]=>some (fun _=>Rw [.sl [tI]] cs/\Rw [tB] us/\Rw [tI,tI] es/\Rw [tI] rs/\bj cs<=1099511627776/\bj us<=1099511627776/\bj es<=1099511627776/\bj rs<=1099511627776,[.agg [.s 1 cs,.s 1 us,.s 2 es,.i c,.s 1 rs]])
 |_=>none
theorem ft:ec 133 cB:=by
 intro _ _ _ h hp;dsimp only[cB,F0]at h;split at h<;>cases h
 rename_i cs us es c rs;obtain⟨hc,hu,he,hr,hn,hm,hk,hl⟩:=hp;have l1:=av (es:=rs);have hs:=hr.scal rfl;refine cb Ia2 Tryz.func133 ?_
 exact ab2
theorem u9:ec 196 cB:=by
 intro _ _ _ h hp;dsimp only[cB,F0]at h;split at h<;>cases h
 rename_i cs us es c rs;obtain⟨hc,hu,he,hr,hn,hm,hk,hl⟩:=hp;have l1:=av (es:=rs);have hs:=hr.scal rfl;refine cb Ia2 Tryz.func196 ?_
 exact ab2
theorem uJ:ec 138 eJ:=by
 intro _ _ _ h hp;dsimp only[eJ,F0]at h;split at h<;>cases h
 rename_i k m cs p n;obtain⟨hw,hl⟩:=hp;have hs:=hw.scal rfl;refine cb Ia2 Tryz.func138 ?_
 exact Nk
abbrev Ia3:dB:=eg (fun F f=>match f with|132=>d8 F|_=>fun _=>none) (by
 intro f;dsimp only;split;exact gh;exact dI)
def cS:EC:=fun F=>fun
 |[.agg [.s 1 ls]]=>some (fun _=>Rw [.sl [tI]] ls/\bj ls<=1099511627776,[.agg [.s 1 ls]])
 |_=>none
theorem lz:ec 135 cS:=by
 intro _ _ _ h hp;dsimp only[cS,F0]at h;split at h<;>cases h
 rename_i ls;obtain⟨hc,hn⟩:=hp;have hl1:=av (es:=ls);refine cb Ia3 Tryz.func135 ?_
 intro O r F hO hr hF;cbv
 repeat' first|apply Zb|(apply b8<;>intro hb<;>cbv)|(refine⟨[2,3,8,9,10],[2,3],Int×af,fun s_=>match s_ with|(i,out)=>[.reg 10 (.j i),.leaf 3 0 ⟨0,0,none,.own (.s 1 out)⟩],fun s_=>match s_ with|(i,out)=>0<=i/\i<=(ls.length:Int)/\out=ls.take i.toNat,fun s_=>match s_ with|(i,out)=>ls.length-i.toNat,⟨(0,[]),?_,?_⟩,?_⟩;rotate_left;(focus (cbv;done));intro s_ hi;obtain⟨i,out⟩:=s_;replace hi:0<=i/\i<=(ls.length:Int)/\out=ls.take i.toNat:=hi;obtain⟨i0,i1,i2⟩:=hi;cbv)|(refine ah (O.ar .add Za i 1,O.cat out [[.s 1 (O.gs ls i 0)]]) ?_ ?_ ?_;focus (cbv;done))|(refine ah (O.ar .add Za i 1,O.cat out [[.s 1 (O.cat [] (O.gs ls i 0))]]) ?_ ?_ ?_;focus (cbv;done))
 all_goals exact zq2
theorem no:ec 197 cS:=by
 intro _ _ _ h hp;dsimp only[cS,F0]at h;split at h<;>cases h
 rename_i ls;obtain⟨hc,hn⟩:=hp;have hl1:=av (es:=ls);refine cb Ia3 Tryz.func197 ?_
 intro O r F hO hr hF;cbv
 repeat' first|apply Zb|(apply b8<;>intro hb<;>cbv)|(refine⟨[1,2,3,4],[1,2,3],Int×af,fun s_=>match s_ with|(i,out)=>[.reg 4 (.j i),.leaf 3 0 ⟨0,0,none,.own (.s 1 out)⟩],fun s_=>match s_ with|(i,out)=>0<=i/\i<=(ls.length:Int)/\out=ls.take i.toNat,fun s_=>match s_ with|(i,out)=>ls.length-i.toNat,⟨(0,[]),?_,?_⟩,?_⟩;rotate_left;(focus (cbv;done));intro s_ hi;obtain⟨i,out⟩:=s_;replace hi:0<=i/\i<=(ls.length:Int)/\out=ls.take i.toNat:=hi;obtain⟨i0,i1,i2⟩:=hi;cbv)|(refine ah (O.ar .add Za i 1,O.cat out [[.s 1 (O.gs ls i 0)]]) ?_ ?_ ?_;focus (cbv;done))|(refine ah (O.ar .add Za i 1,O.cat out [[.s 1 (O.cat [] (O.gs ls i 0))]]) ?_ ?_ ?_;focus (cbv;done))
 all_goals exact zq2
def d9:EC:=fun F=>fun
 |[.agg [.s 1 b,.s 1 x]]=>some (fun _=>Rw [.sl [tI,tI]] b/\Rw [.sl [tI]] x/\bj b<=1099511627776/\bj x<=1099511627776,[.agg [.s 1 b,.s 1 x]])
 |_=>none
theorem tz:ec 136 d9:=by
 intro _ _ _ h hp;dsimp only[d9,F0]at h;split at h<;>cases h
 rename_i b x;obtain⟨wb,wx,nb,nx⟩:=hp;have hl1:=av (es:=b);have hl2:=av (es:=x);refine cb Ia3 Tryz.func136 ?_
 intro O r F hO hr hF;cbv
 repeat' first|apply Zb|(apply b8<;>intro hb<;>cbv)|(refine⟨[1,2,3,10,11,12],[1,2,3],Int×af,fun s_=>match s_ with|(i,out)=>[.reg 12 (.j i),.leaf 3 0 ⟨0,0,none,.own (.s 1 out)⟩],fun s_=>match s_ with|(i,out)=>0<=i/\i<=(b.length:Int)/\out=b.take i.toNat,fun s_=>match s_ with|(i,out)=>b.length-i.toNat,⟨(0,[]),?_,?_⟩,?_⟩;rotate_left;(focus (cbv;done));intro s_ hi;obtain⟨i,out⟩:=s_;replace hi:0<=i/\i<=(b.length:Int)/\out=b.take i.toNat:=hi;obtain⟨i0,i1,i2⟩:=hi;cbv)|(refine⟨[2,3,26,27,28],[2,3],Int×af,fun s_=>match s_ with|(k,ou2)=>[.reg 28 (.j k),.leaf 3 1 ⟨0,0,none,.own (.s 1 ou2)⟩],fun s_=>match s_ with|(k,ou2)=>0<=k/\k<=(x.length:Int)/\ou2=x.take k.toNat,fun s_=>match s_ with|(k,ou2)=>x.length-k.toNat,⟨(0,[]),?_,?_⟩,?_⟩;rotate_left;(focus (cbv;done));intro s_ hk;obtain⟨k,ou2⟩:=s_;replace hk:0<=k/\k<=(x.length:Int)/\ou2=x.take k.toNat:=hk;obtain⟨k0,k1,k2⟩:=hk;cbv)|(refine ah (O.ar .add Za i 1,O.cat out [[.s 2 (O.cat [] (O.gs b i 0))]]) ?_ ?_ ?_;focus (cbv;done))|(refine ah (O.ar .add Za k 1,O.cat ou2 [[.s 1 (O.gs x k 0)]]) ?_ ?_ ?_;focus (cbv;done))|(refine ah (O.ar .add Za k 1,O.cat ou2 [[.s 1 (O.cat [] (O.gs x k 0))]]) ?_ ?_ ?_;focus (cbv;done))
 all_goals exact zq1
theorem vf:ec 198 d9:=by
 intro _ _ _ h hp;dsimp only[d9,F0]at h;split at h<;>cases h
 rename_i b x;obtain⟨wb,wx,nb,nx⟩:=hp;have hl1:=av (es:=b);have hl2:=av (es:=x);refine cb Ia3 Tryz.func198 ?_
 intro O r F hO hr hF;cbv
 repeat' first|apply Zb|(apply b8<;>intro hb<;>cbv)|(refine⟨[1,2,3,4],[1,2,3],Int×af,fun s_=>match s_ with|(i,out)=>[.reg 4 (.j i),.leaf 3 0 ⟨0,0,none,.own (.s 1 out)⟩],fun s_=>match s_ with|(i,out)=>0<=i/\i<=(b.length:Int)/\out=b.take i.toNat,fun s_=>match s_ with|(i,out)=>b.length-i.toNat,⟨(0,[]),?_,?_⟩,?_⟩;rotate_left;(focus (cbv;done));intro s_ hi;obtain⟨i,out⟩:=s_;replace hi:0<=i/\i<=(b.length:Int)/\out=b.take i.toNat:=hi;obtain⟨i0,i1,i2⟩:=hi;cbv)|(refine⟨[1,2,3,5],[1,2,3],Int×af,fun s_=>match s_ with|(k,ou2)=>[.reg 5 (.j k),.leaf 3 1 ⟨0,0,none,.own (.s 1 ou2)⟩],fun s_=>match s_ with|(k,ou2)=>0<=k/\k<=(x.length:Int)/\ou2=x.take k.toNat,fun s_=>match s_ with|(k,ou2)=>x.length-k.toNat,⟨(0,[]),?_,?_⟩,?_⟩;rotate_left;(focus (cbv;done));intro s_ hk;obtain⟨k,ou2⟩:=s_;replace hk:0<=k/\k<=(x.length:Int)/\ou2=x.take k.toNat:=hk;obtain⟨k0,k1,k2⟩:=hk;cbv)|(refine ah (O.ar .add Za i 1,O.cat out [[.s 2 (O.cat [] (O.gs b i 0))]]) ?_ ?_ ?_;focus (cbv;done))|(refine ah (O.ar .add Za k 1,O.cat ou2 [[.s 1 (O.gs x k 0)]]) ?_ ?_ ?_;focus (cbv;done))|(refine ah (O.ar .add Za k 1,O.cat ou2 [[.s 1 (O.cat [] (O.gs x k 0))]]) ?_ ?_ ?_;focus (cbv;done))
 all_goals exact zq1
abbrev Ia4:dB:=eg (fun F f=>match f with|133=>cB F|134=>fv F|135=>cS F|136=>d9 F|137=>ea F|138=>eJ F|196=>cB F|197=>cS F|198=>d9 F|199=>ea F|200=>eJ F|_=>fun _=>none) (by
 intro f;dsimp only;split;exact ft;exact kB;exact lz;exact tz;exact tC;exact uJ;exact u9;exact no;exact vf;exact vg;exact ve;exact dI)
def dD:EC:=fun F=>fun
 |[.agg hl_]=>hL hl_ fun a0 a1 a2 a3 a4 a5 a6 a7 a8 a9 aA aB aC aD aE aF aG aH aI aJ aK aL aM aN=>(fun _=>Al a0 a1 a2 a4 a5 a6 a7 a8 a9 aA aB aD aL,[.agg (QG a0 a1 a2 a3 a4 a5 a6 a7 a8 a9 aA aB aC aD aE aF aG aH aI aJ aK aL aM aN)])
 |_=>none
theorem mI:ec 36 dD:=by
 intro _ _ _ h hp;dsimp only[dD,F0,hL]at h;split at h;rotate_left;cases h;split at h<;>cases h
 rename_i a0 a1 a2 a3 a4 a5 a6 a7 a8 a9 aA aB aC aD aE aF aG aH aI aJ aK aL aM aN;have hr0:=hp.r0;have hc0:=hp.c0;have hl0:=av (es:=a0);have hr1:=hp.r1;have hc1:=hp.c1;have hl1:=av (es:=a1);have hr2:=hp.r2;have hc2:=hp.c2;have hl2:=av (es:=a2);have hr4:=hp.r4;have hc4:=hp.c4;have hl4:=av (es:=a4);have hr5:=hp.r5;have hc5:=hp.c5;have hl5:=av (es:=a5);have hr6:=hp.r6;have hc6:=hp.c6;have hl6:=av (es:=a6);have hr7:=hp.r7;have hc7:=hp.c7;have hl7:=av (es:=a7);have hr8:=hp.r8;have hc8:=hp.c8;have hl8:=av (es:=a8);have hr9:=hp.r9;have hc9:=hp.c9;have hl9:=av (es:=a9);have hr10:=hp.r10;have hc10:=hp.c10;have hl10:=av (es:=aA);have hr11:=hp.r11;have hc11:=hp.c11;have hl11:=av (es:=aB);have hr13:=hp.r13;have hc13:=hp.c13;have hl13:=av (es:=aD);have hr21:=hp.r21;have hc21:=hp.c21;have hl21:=av (es:=aL);have hs5:=hr5.scal rfl;have hs6:=hr6.scal rfl;have hs7:=hr7.scal rfl;have hs8:=hr8.scal rfl;refine cb Ia4 Tryz.func36 ?_
 intro O r F hO hr hF;cbv
 repeat' first|apply Zb|(apply b8<;>intro hb<;>cbv)|(refine⟨[1,2,3,32,33,34],[1,2,3],Int×af,fun s_=>match s_ with|(i,out)=>[.reg 34 (.j i),.leaf 3 9 ⟨0,0,none,.own (.s 1 out)⟩],fun s_=>match s_ with|(i,out)=>0<=i/\i<=(a9.length:Int)/\out=a9.take i.toNat,fun s_=>match s_ with|(i,out)=>a9.length-i.toNat,⟨(0,[]),?_,?_⟩,?_⟩;rotate_left;(focus (cbv;done));intro s_ hi;obtain⟨i,out⟩:=s_;replace hi:0<=i/\i<=(a9.length:Int)/\out=a9.take i.toNat:=hi;obtain⟨i0,i1,i2⟩:=hi;cbv)|(refine ah (O.ar .add Za i 1,O.cat out [[.s 1 (O.gs a9 i 0)]]) ?_ ?_ ?_;focus (cbv;done))
 all_goals exact zq3
theorem vh:ec 90 dD:=by
 intro _ _ _ h hp;dsimp only[dD,F0,hL]at h;split at h;rotate_left;cases h;split at h<;>cases h
 rename_i a0 a1 a2 a3 a4 a5 a6 a7 a8 a9 aA aB aC aD aE aF aG aH aI aJ aK aL aM aN;have hr0:=hp.r0;have hc0:=hp.c0;have hl0:=av (es:=a0);have hr1:=hp.r1;have hc1:=hp.c1;have hl1:=av (es:=a1);have hr2:=hp.r2;have hc2:=hp.c2;have hl2:=av (es:=a2);have hr4:=hp.r4;have hc4:=hp.c4;have hl4:=av (es:=a4);have hr5:=hp.r5;have hc5:=hp.c5;have hl5:=av (es:=a5);have hr6:=hp.r6;have hc6:=hp.c6;have hl6:=av (es:=a6);have hr7:=hp.r7;have hc7:=hp.c7;have hl7:=av (es:=a7);have hr8:=hp.r8;have hc8:=hp.c8;have hl8:=av (es:=a8);have hr9:=hp.r9;have hc9:=hp.c9;have hl9:=av (es:=a9);have hr10:=hp.r10;have hc10:=hp.c10;have hl10:=av (es:=aA);have hr11:=hp.r11;have hc11:=hp.c11;have hl11:=av (es:=aB);have hr13:=hp.r13;have hc13:=hp.c13;have hl13:=av (es:=aD);have hr21:=hp.r21;have hc21:=hp.c21;have hl21:=av (es:=aL);have hs5:=hr5.scal rfl;have hs6:=hr6.scal rfl;have hs7:=hr7.scal rfl;have hs8:=hr8.scal rfl;refine cb Ia4 Tryz.func90 ?_
 intro O r F hO hr hF;cbv
 repeat' first|apply Zb|(apply b8<;>intro hb<;>cbv)|(refine⟨[1,2,3,4],[1,2,3],Int×af,fun s_=>match s_ with|(i,out)=>[.reg 4 (.j i),.reg 3 (.one (.vw 3 0 0 0 (O.ln out))),.leaf 3 0 ⟨0,0,none,.own (.s 1 out)⟩],fun s_=>match s_ with|(i,out)=>0<=i/\i<=(a9.length:Int)/\out=a9.take i.toNat,fun s_=>match s_ with|(i,out)=>a9.length-i.toNat,⟨(0,[]),?_,?_⟩,?_⟩;rotate_left;(focus (cbv;done));intro s_ hi;obtain⟨i,out⟩:=s_;replace hi:0<=i/\i<=(a9.length:Int)/\out=a9.take i.toNat:=hi;obtain⟨i0,i1,i2⟩:=hi;cbv)|(refine ah (O.ar .add Za i 1,O.cat out [[.s 1 (O.gs a9 i 0)]]) ?_ ?_ ?_;focus (cbv;done))
 all_goals exact zq3
abbrev N5:dB:=eg (fun F f=>match f with|31=>iz F|32=>jN F|33=>ai F|34=>jP F|35=>jg F|_=>fun _=>none) (by
 intro f;dsimp only;split;exact ri;exact uF;exact aP;exact uH;exact te;exact dI)
def jL:EC:=fun F=>fun
 |[.one (.v (.int Za p)),.one (.v (.int Za f)),.one (.v (.int Za t)),.one (.v (.int Za l)),.one (.s 1 rs)]=>some (fun _=>Rw [tI] rs/\rs.length<=1099511627776,[.agg (QG (F.hnC p f t l rs) (F.hnU p f t l rs) (F.hnE p f t l rs) 0 (F.hnR p f t l rs) (F.hnF p f t l rs) [] [] [] (F.hnK p f t l rs) (F.hnM p f t l rs) (F.hnI p f t l rs) (F.hnQ p f t l rs) [] 0 0 (F.hnL p f t l rs) (F.hnN p f t l rs) false 0 0 [] 0 0),.k (F.hnB p f t l rs)])
 |_=>none
theorem uD:ec 10 jL:=by
 intro _ _ _ h hp;dsimp only[jL,F0]at h;split at h<;>cases h
 rename_i p f t l rs;obtain⟨hr,hl⟩:=hp;refine cb N5 Tryz.func10 ?_
 intro O r F hO hr hF;cbv
 repeat' first|apply Zb|(apply b8<;>intro hb<;>cbv)|(refine⟨[2,10,18,19],[10,18],Int×af,fun s_=>match s_ with|(i,out)=>[.reg 19 (.j i),.leaf 18 9 ⟨0,0,none,.own (.s 1 out)⟩],fun s_=>match s_ with|(i,out)=>0<=i/\i<=t/\out=Zl i.toNat [.s 1 cnL],fun s_=>match s_ with|(i,out)=>(t-i).toNat,⟨(0,[]),?_,?_⟩,?_⟩;rotate_left;(focus (cbv;done));intro s_ hi;obtain⟨i,out⟩:=s_;replace hi:0<=i/\i<=t/\out=Zl i.toNat [.s 1 cnL]:=hi;obtain⟨i0,i1,i2⟩:=hi;cbv)|(refine ah (O.ar .add Za i 1,O.cat out [[.s 1 F.cnL]]) ?_ ?_ ?_;focus (cbv;done))
 all_goals(subst hO hr hF;(try simp only[nc]at*);(try simp only[am,SS,sa,az]at*);(try(have hn:=bz.1 (‹inR t 1 4=true›)));(try rw[cJ (by omega) (by omega)]))
 all_goals first
  | (show(_:List DV)=_
     first
      | (have q:hnB p f t l rs=true:=Od.2 ⟨by assumption,by assumption,by assumption⟩
         have w:=Oe q;have u:=HK (Od.1 q).1;exact Mo (u.1.trans w.1.symm) (u.2.1.trans w.2.1.symm) (u.2.2.1.trans w.2.2.1.symm) (u.2.2.2.trans w.2.2.2.1.symm) w.2.2.2.2.1.symm (by rw[w.2.2.2.2.2.1,i2];congr 1;omega) w.2.2.2.2.2.2.1.symm w.2.2.2.2.2.2.2.1.symm w.2.2.2.2.2.2.2.2.1.symm w.2.2.2.2.2.2.2.2.2.1.symm w.2.2.2.2.2.2.2.2.2.2.symm q.symm)
      | (have q:hnB p f t l rs=false:=acG (by rintro⟨z1,z2,z3⟩;simp_all)
         have w:=R5 q;exact Mo w.1.symm w.2.1.symm w.2.2.1.symm w.2.2.2.1.symm w.2.2.2.2.1.symm w.2.2.2.2.2.1.symm w.2.2.2.2.2.2.1.symm w.2.2.2.2.2.2.2.1.symm w.2.2.2.2.2.2.2.2.1.symm w.2.2.2.2.2.2.2.2.2.1.symm w.2.2.2.2.2.2.2.2.2.2.symm q.symm)
      |done)
  | (show(_:af)=_
     first
      |(rw[i2];exact IM i0)
      |exact rfl
      |done)
  |exact⟨hr,by omega⟩
  |omega
  |(show aw _ _=true;kernel_rfl)
  |(rw[i2,YV];exact⟨by simp only[Zr,Zt];omega,by simp only[Zr,Zt];omega⟩)
  |exact⟨Zd,Zd⟩
  |trivial
  |trace_state
end Go.V