/- Contracts. -/
import Derived.Test.YtpldpilhgjpkjaaGreatXM0
import Derived.Test.YtpldpilhgjpkjaaGreatXW3
set_option linter.all false
open Go
open And renaming intro->Zd
open IntKind renaming i64->Za
open List renaming length_nil->Zk,replicate->Zt,length_replicate->Xv,length_cons->Zj,length_take->Zh,nil_append->Z0
open True renaming intro->Zb
namespace Go.V
open Go Go.Proofs
set_option maxRecDepth 1000000
set_option maxHeartbeats 8000000
abbrev KA1:dp:=d4 (fun F f=>match f with|33=>ay F|_=>fun _=>none) (by
 intro f;dsimp only;split;exact aS;exact dB)
def gE:EC:=fun F=>fun
 |[.agg [.s 1 cs,.s 1 us]]=>some (fun _=>Rw [.sl [tI]] cs/\Rw [tB] us,[.k (F.framesOk cs us)])
 |_=>none
theorem nF:ec 188 gE:=by
 intro _ _ _ h hp;dsimp only[gE,F0]at h;split at h<;>cases h
 rename_i cs us;obtain⟨hc,hu⟩:=hp;have hcw:=hc.wf;have huw:=hu.wf;have hlen:=hc.1;unfold maxLen at hlen;refine cb KA1 Tryz.func188 ?_
 intro O r F hO hr hF;cbv
 repeat' first|apply Zd|(apply cP<;>intro hb<;>cbv)|(refine⟨[1,22,23,24],[1],Int,fun i=>[.reg 24 (.j i)],fun i=>0<=i/\i<=((cs.length:Nat):Int)/\upto (jn cs us) i,fun i=>(cs.length)-i.toNat,⟨0,?_,?_⟩,?_⟩;rotate_left;(focus (cbv;done));intro i hi;replace hi:0<=i/\i<=((cs.length:Nat):Int)/\upto (jn cs us) i:=hi;obtain⟨i0,i1,i2⟩:=hi;cbv)|(refine ah (O.ar .add Za i 1) ?_ ?_ ?_;focus (cbv;done))|(refine⟨[1,3,22,23,24,32,33,34],[1],Int,fun k=>[.reg 34 (.j k)],fun k=>0<=k/\k<=(((O.gs cs i 0).length:Nat):Int)/\upto (oy cs us i) k,fun k=>((O.gs cs i 0).length)-k.toNat,⟨0,?_,?_⟩,?_⟩;rotate_left;(focus (cbv;done));intro k hk;replace hk:0<=k/\k<=(((O.gs cs i 0).length:Nat):Int)/\upto (oy cs us i) k:=hk;obtain⟨k0,k1,k2⟩:=hk;cbv)|(refine ah (O.ar .add Za k 1) ?_ ?_ ?_;focus (cbv;done))
 all_goals(subst hO hr hF;(try simp only[nc]at*);(try simp only[aj,SS,sa,az]at*);(try rw[dx (by omega) (by omega)]))
 all_goals first|omega|exact fK|exact cg|contradiction|exact av (PU (by assumption)).symm|exact av (PV (by omega)).symm|exact av (PW i0 (by omega) (by omega)).symm|exact av (H0 i0 (by omega) k0 (by omega) (.inl (by assumption))).symm|exact av (H0 i0 (by omega) k0 (by omega) (.inr ⟨by assumption,by assumption⟩)).symm|exact av (C4 (by assumption) (by omega) i2 (by omega)).symm|exact bN i2 (HZ (by omega) k2 (by omega))|exact bN k2 (Hq (by assumption) (by first|exact .inl (by assumption)|exact .inr (by assumption)))|trace_state
def kH:EC:=fun F=>fun
 |[.agg [.s 2 es],.one (.v (.int Za n))]=>some (fun _=>Rw [tI,tI] es,[.k (F.tableOk es n)])
 |_=>none
theorem vy:ec 276 kH:=by
 intro _ _ _ h hp;dsimp only[kH,F0]at h;split at h<;>cases h
 rename_i es n;have hlen:=hp.1;unfold maxLen at hlen;refine cb KA1 Tryz.func276 ?_
 intro O r F hO hr hF;cbv
 repeat' first|apply Zd|(apply cP<;>intro hb<;>cbv)|(refine⟨[1,2,8,9,10],[2],Int,fun i=>[.reg 10 (.j i)],fun i=>0<=i/\i<=((es.length:Nat):Int)/\upto (qK es n) i,fun i=>(es.length)-i.toNat,⟨0,?_,?_⟩,?_⟩;rotate_left;(focus (cbv;done));intro i hi;replace hi:0<=i/\i<=((es.length:Nat):Int)/\upto (qK es n) i:=hi;obtain⟨i0,i1,i2⟩:=hi;cbv)|(refine ah (O.ar .add Za i 1) ?_ ?_ ?_;focus (cbv;done))
 all_goals(subst hO hr hF;(try simp only[nc]at*);(try simp only[aj,SS,sa,az]at*);(try rw[dx (by omega) (by omega)]))
 all_goals first|omega|exact fK|exact cg|contradiction|exact av (Ee i2 (by omega)).symm|(simp only[be,ym]at*;first|exact av (acZ i0 (by omega) (by omega)).symm|exact bN i2 (JM (by omega)))|trace_state
def du:EC:=fun F=>fun
 |[.one (.s 1 es)]=>some (fun _=>Rw [tI] es/\es.length<=1099511627776,[.one (.s 1 es)])
 |_=>none
theorem eH:ec 132 du:=by
 intro _ _ _ h hp;dsimp only[du,F0]at h;split at h<;>cases h
 rename_i es;obtain⟨hw,hl⟩:=hp;have hs:=hw.scal rfl;refine cb nB Tryz.func132 ?_
 intro O r F hO hr hF;cbv
 repeat' first|apply Zd|(apply cP<;>intro hb<;>cbv)
 all_goals(subst hO hr hF;(try simp only[nc]at*);(try simp only[aj,SS,sa,az]at*))
 all_goals first|exact hs|trivial|(simp only[Zk];omega)|trace_state
abbrev KD4:dp:=d4 (fun F f=>match f with|188=>gE F|276=>kH F|277=>fA F|_=>fun _=>none) (by
 intro f;dsimp only;split;exact nF;exact vy;exact ku;exact dB)
def iT:EC:=fun F=>fun
 |[.agg [.s 1 cs,.s 1 us,.s 2 es]]=>some (fun _=>Rw [.sl [tI]] cs/\Rw [tB] us/\Rw [tI,tI] es,[.k (F.machOk cs us es)])
 |_=>none
theorem rZ:ec 164 iT:=by
 intro _ _ _ h hp;dsimp only[iT,F0]at h;split at h<;>cases h
 rename_i cs us es;obtain⟨hc,hu,ht⟩:=hp;have hm:=hu.1;unfold maxLen at hm;refine cb KD4 Tryz.func164 ?_
 intro O r F hO hr hF;cbv
 repeat' first|apply Zd|(apply cP<;>intro hb<;>cbv)|(refine⟨[1,21,22,23],[1],Int,fun i=>[.reg 23 (.j i)],fun i=>0<=i/\i<=((us.length:Nat):Int)/\upto (oG us es) i,fun i=>(us.length)-i.toNat,⟨0,?_,?_⟩,?_⟩;rotate_left;(focus (cbv;done));intro i hi;replace hi:0<=i/\i<=((us.length:Nat):Int)/\upto (oG us es) i:=hi;obtain⟨i0,i1,i2⟩:=hi;cbv)|(refine ah (O.ar .add Za i 1) ?_ ?_ ?_;focus (cbv;done))
 all_goals(subst hO hr hF;(try simp only[nc]at*);(try simp only[aj,SS,sa,az]at*);(try simp only[Lw]at*);(try rw[dx (by omega) (by omega)]);(try(have hfl:=su (cs:=cs) (us:=us) (by assumption)));(try(have htl:=Ed (es:=es) (n:=(us.length:Int)) (by assumption)));(try(have htl:=Ed (es:=es) (n:=(cs.length:Int)) (by assumption))))
 all_goals first|omega|exact fK|exact cg|exact⟨hc,hu⟩|exact⟨ht,by omega⟩|exact av (NA (.inl (by assumption))).symm|exact av (QI (by assumption) (by assumption)).symm|exact av (QJ i0 (by omega) (by assumption)).symm|exact bN i2 (IG (by assumption))|exact av (Dy (by assumption) (by assumption) i2 (by omega)).symm|trace_state
abbrev N1:dp:=d4 (fun F f=>match f with|33=>ay F|_=>fun _=>none) (by
 intro f;dsimp only;split;exact aS;exact dB)
def iO:EC:=fun F=>fun
 |[.one (.v (.int Za n))]=>some (fun _=>True,[.agg [.s 1 (F.fnC n),.s 1 (F.fnU n)],.k (F.inR n 1 32)])
 |_=>none
theorem rT:ec 250 iO:=by
 intro _ _ _ h hp;dsimp only[iO,F0]at h;split at h<;>cases h
 rename_i n;refine cb N1 Tryz.func250 ?_
 intro O r F hO hr hF;cbv
 repeat' first|apply Zd|(apply cP<;>intro hb<;>cbv)|(refine⟨[0,2,4,5],[2,4],Int×af,fun s_=>match s_ with|(i,out)=>[.reg 5 (.j i),.leaf 4 0 ⟨0,0,none,.own (.s 1 out)⟩],fun s_=>match s_ with|(i,out)=>0<=i/\i<=n/\out=Zt i.toNat [.s 1 xS],fun s_=>match s_ with|(i,out)=>(n-i).toNat,⟨(0,[]),?_,?_⟩,?_⟩;rotate_left;(focus (cbv;done));intro s_ hi;obtain⟨i,out⟩:=s_;replace hi:0<=i/\i<=n/\out=Zt i.toNat [.s 1 xS]:=hi;obtain⟨i0,i1,i2⟩:=hi;cbv)|(refine ah (O.ar .add Za i 1,O.cat out [[.s 1 (O.rep 16 [.i 0])]]) ?_ ?_ ?_;focus (cbv;done))
 all_goals(subst hO hr hF;(try simp only[nc]at*);(try simp only[aj,SS,sa,az]at*);(try(have hn:=be.1 (‹inR n 1 32=true›)));(try rw[dx (by omega) (by omega)]))
 all_goals first
  | (show(_:List DV)=_
     first
      |(have q:=M7 (‹inR n 1 32=false›);exact FB q.1.symm q.2.1.symm (by symm;assumption))
      |(have q:=oC (‹inR n 1 32=true›);exact FB (by rw[q.1,i2];congr 1;omega) q.2.1.symm (by symm;assumption))
      |done)
  | (show(_:af)=_
     first
      |(rw[i2];exact Ji i0)
      |exact rfl
      |done)
  |omega
  |(show ax _ _=true;kernel_rfl)
  |(rw[i2,Xv];exact⟨by simp only[Zj,Zk];omega,by simp only[Zj,Zk];omega⟩)
  |exact⟨Zb,Zb⟩
  |trivial
  |trace_state
def jU:EC:=fun F=>fun
 |[.one (.v (.int Za n))]=>some (fun _=>True,[.agg [.s 2 (F.tnE n)],.k (F.inR n 1 32)])
 |_=>none
theorem uh:ec 251 jU:=by
 intro _ _ _ h hp;dsimp only[jU,F0]at h;split at h<;>cases h
 rename_i n;refine cb N1 Tryz.func251 ?_
 intro O r F hO hr hF;cbv
 repeat' first|apply Zd|(apply cP<;>intro hb<;>cbv)
 all_goals(subst hO hr hF;(try simp only[nc]at*);(try simp only[aj,SS,sa,az]at*);(try(have hn:=be.1 (‹inR n 1 32=true›))))
 all_goals first
  | (show(_:List DV)=_
     first
      |(have q:=M7 (‹inR n 1 32=false›);exact NO q.2.2.symm (by symm;assumption))
      |(have q:=oC (‹inR n 1 32=true›);exact NO q.2.2.symm (by symm;assumption))
      |done)
  |omega
  |(show ax _ _=true;kernel_rfl)
  |exact⟨Zb,Zb⟩
  |trivial
  |trace_state
abbrev N2:dp:=d4 (fun F f=>match f with|250=>iO F|251=>jU F|_=>fun _=>none) (by
 intro f;dsimp only;split;exact rT;exact uh;exact dB)
def hY:EC:=fun F=>fun
 |[.one (.v (.int Za p)),.one (.v (.int Za f))]=>some (fun _=>True,[.agg [.s 1 (F.mnC p f),.s 1 (F.mnU p f),.s 2 (F.mnE p f)],.k (F.mnB p f)])
 |_=>none
theorem qt:ec 131 hY:=by
 intro _ _ _ h hp;dsimp only[hY,F0]at h;split at h<;>cases h
 rename_i p f;refine cb N2 Tryz.func131 ?_
 intro O r F hO hr hF;cbv
 repeat' first|apply Zd|(apply cP<;>intro hb<;>cbv)
 all_goals(subst hO hr hF;(try simp only[nc]at*);(try simp only[aj,SS,sa,az]at*))
 all_goals first
  | (show(_:List DV)=_
     first
      |(have q:=oJ (‹inR f 1 32=true›) (‹inR p 1 32=true›);exact Jn q.1.symm q.2.1.symm q.2.2.1.symm q.2.2.2.symm)
      |(have q:=BA (QQ (‹inR f 1 32=false›):mnB p f=false);exact Jn q.1.symm q.2.1.symm q.2.2.1.symm q.2.2.2.symm)
      |(have q:=BA (QR (‹inR p 1 32=false›):mnB p f=false);exact Jn q.1.symm q.2.1.symm q.2.2.1.symm q.2.2.2.symm)
      |done)
  |omega
  |(show ax _ _=true;kernel_rfl)
  |exact⟨Zb,Zb⟩
  |trivial
  |trace_state
abbrev N3:dp:=d4 (fun F f=>match f with|33=>ay F|164=>iT F|_=>fun _=>none) (by
 intro f;dsimp only;split;exact aS;exact rZ;exact dB)
def eI:EC:=fun F=>fun
 |[.agg [.s 1 cs,.s 1 us,.s 2 es,.v (.int Za c),.s 1 rs]]=>some (fun _=>Rw [.sl [tI]] cs/\Rw [tB] us/\Rw [tI,tI] es/\Rw [tI] rs,[.k (F.kerOk cs us es c rs)])
 |_=>none
theorem jD:ec 60 eI:=by
 intro _ _ _ h hp;dsimp only[eI,F0]at h;split at h<;>cases h
 rename_i cs us es c rs;obtain⟨hc,hu,ht,hr⟩:=hp;have hm:=hr.1;unfold maxLen at hm;refine cb N3 Tryz.func60 ?_
 intro O r F hO hr hF;cbv
 repeat' first|apply Zd|(apply cP<;>intro hb<;>cbv)|(refine⟨[1,6,7,8],[1],Int,fun i=>[.reg 8 (.j i)],fun i=>0<=i/\i<=((rs.length:Nat):Int)/\upto (Gt rs) i,fun i=>(rs.length)-i.toNat,⟨0,?_,?_⟩,?_⟩;rotate_left;(focus (cbv;done));intro i hi;replace hi:0<=i/\i<=((rs.length:Nat):Int)/\upto (Gt rs) i:=hi;obtain⟨i0,i1,i2⟩:=hi;cbv)|(refine ah (O.ar .add Za i 1) ?_ ?_ ?_;focus (cbv;done))
 all_goals(subst hO hr hF;(try simp only[nc]at*);(try simp only[aj,SS,sa,az]at*);(try rw[dx (by omega) (by omega)]))
 all_goals first
  | (show(_:List DV)=_
     first
      |exact av (Rn i0 (by assumption) (by assumption)).symm
      |exact av (Lj (by assumption)).symm
      |exact av (Lk (L4 (by omega))).symm
      |(refine av ?_;unfold kerOk;rw[show inR c 0 100000=true from by assumption,L5 i2 (by omega) (by omega)];simp)
      |done)
  |omega
  |exact fK
  |exact cg
  |exact bN i2 (Rm (by omega))
  |exact⟨hc,hu,ht⟩
  |trace_state
abbrev N4:dp:=d4 (fun F f=>match f with|131=>hY F|60=>eI F|132=>du F|_=>fun _=>none) (by
 intro f;dsimp only;split;exact qt;exact jD;exact eH;exact dB)
def iQ:EC:=fun F=>fun
 |[.one (.v (.int Za p)),.one (.v (.int Za f)),.one (.s 1 rs)]=>some (fun _=>Rw [tI] rs/\rs.length<=1099511627776,[.agg [.s 1 (F.knC p f rs),.s 1 (F.knU p f rs),.s 2 (F.knE p f rs),.i 0,.s 1 (F.knR p f rs)],.k (F.knB p f rs)])
 |_=>none
theorem rW:ec 31 iQ:=by
 intro _ _ _ h hp;dsimp only[iQ,F0]at h;split at h<;>cases h
 rename_i p f rs;obtain⟨hr,hl⟩:=hp;have hs:=hr.scal rfl;refine cb N4 Tryz.func31 ?_
 intro O r F hO hr hF;cbv
 repeat' first|apply Zd|(apply cP<;>intro hb<;>cbv)
 all_goals(subst hO hr hF;(try simp only[nc]at*);(try simp only[aj,SS,sa,az]at*))
 all_goals first
  | (show(_:List DV)=_
     first
      |(have q:=Lm (rs:=rs) (‹mnB p f=false›);have w:=Nr q;exact Jm w.1.symm w.2.1.symm w.2.2.1.symm w.2.2.2.symm q.symm)
      |(have q:=abr (rs:=rs) (‹mnB p f=true›) (by assumption);have w:=Ix q;have u:=QS (afd q);have z:=oJ u.1 u.2;exact Jm (z.1.trans w.1.symm) (z.2.1.trans w.2.1.symm) (z.2.2.1.trans w.2.2.1.symm) w.2.2.2.symm q.symm)
      |(have q:=Qs (rs:=rs) (‹mnB p f=true›) (by assumption);have w:=Nr q;exact Jm w.1.symm w.2.1.symm w.2.2.1.symm w.2.2.2.symm q.symm)
      |done)
  |exact hs
  |exact⟨hr,by omega⟩
  |exact⟨Dz.1,Dz.2.1,Dz.2.2,hr⟩
  |omega
  |(show ax _ _=true;kernel_rfl)
  |(simp only[Zk];omega)
  |exact⟨Zb,Zb⟩
  |trivial
  |trace_state
def kD:EC:=fun F=>fun
 |[.one (.v (.int Za t))]=>some (fun _=>True,[.agg [.s 1 (F.mwB t),.s 1 (F.mwI t)],.k (F.inR t 1 4)])
 |_=>none
theorem vp:ec 32 kD:=by
 intro _ _ _ h hp;dsimp only[kD,F0]at h;split at h<;>cases h
 rename_i t;refine cb N1 Tryz.func32 ?_
 intro O r F hO hr hF;cbv
 repeat' first|apply Zd|(apply cP<;>intro hb<;>cbv)
 all_goals(subst hO hr hF;(try simp only[nc]at*);(try simp only[aj,SS,sa,az]at*);(try(have hn:=be.1 (‹inR t 1 4=true›))))
 all_goals first
  | (show(_:List DV)=_
     first
      |(have q:=abL (‹inR t 1 4=false›);exact FB q.1.symm q.2.symm (by symm;assumption))
      |(have q:=QV (‹inR t 1 4=true›);exact FB q.1.symm q.2.symm (by symm;assumption))
      |done)
  |omega
  |(show ax _ _=true;kernel_rfl)
  |exact⟨Zb,Zb⟩
  |trivial
  |trace_state
def kG:EC:=fun F=>fun
 |[.one (.v (.int Za q))]=>some (fun _=>True,[.agg [.i (F.qnR q),.s 3 []],.k (F.inR q 0 500)])
 |_=>none
theorem vu:ec 34 kG:=by
 intro _ _ _ h hp;dsimp only[kG,F0]at h;split at h<;>cases h
 rename_i q;refine cb N1 Tryz.func34 ?_
 intro O r F hO hr hF;cbv
 repeat' first|apply Zd|(apply cP<;>intro hb<;>cbv)
 all_goals(subst hO hr hF;(try simp only[nc]at*);(try simp only[aj,SS,sa,az]at*))
 all_goals first
  | (show(_:List DV)=_
     first
      |(have w:=acx (‹inR q 0 500=false›);exact NZ w.symm (by symm;assumption))
      |(have w:=Ri (‹inR q 0 500=true›);exact NZ w.symm (by symm;assumption))
      |done)
  |(show ax _ _=true;kernel_rfl)
  |exact⟨Zb,Zb⟩
  |trivial
  |trace_state
def jJ:EC:=fun F=>fun
 |[]=>some (fun _=>True,[.agg [.s 1 (F.cnL)]])
 |_=>none
theorem tX:ec 35 jJ:=by
 intro _ _ _ h hp;dsimp only[jJ,F0]at h;split at h<;>cases h
 refine cb nB Tryz.func35 ?_
 intro O r F hO hr hF;cbv
 repeat' first|apply Zd|(apply cP<;>intro hb<;>cbv)
 all_goals(subst hO hr hF;(try simp only[nc]at*);(try simp only[aj,SS,sa,az]at*))
 all_goals first|exact Zb|exact⟨Zb,Zb⟩|omega|(show ax _ _=true;kernel_rfl)|exact rfl|trace_state
abbrev Ia0:dp:=d4 (fun F f=>match f with|132=>du F|_=>fun _=>none) (by
 intro f;dsimp only;split;exact eH;exact dB)
def iV:EC:=fun F=>fun
 |[.agg [.s 2 es]]=>some (fun _=>Rw [tI,tI] es/\es.length<=1099511627776,[.agg [.s 2 es]])
 |_=>none
theorem sg:ec 268 iV:=by
 intro _ _ _ h hp;dsimp only[iV,F0]at h;split at h<;>cases h
 rename_i es;obtain⟨hw,hl⟩:=hp;have hs:=hw.scal rfl;refine cb Ia0 Tryz.func268 ?_
 exact zq0
def dQ:EC:=fun F=>fun
 |[.one (.s 2 es)]=>some (fun _=>Rw [tI,tI] es/\es.length<=1099511627776,[.one (.s 2 es)])
 |_=>none
theorem hC:ec 134 dQ:=by
 intro _ _ _ h hp;dsimp only[dQ,F0]at h;split at h<;>cases h
 rename_i es;obtain⟨hw,hl⟩:=hp;have hs:=hw.scal rfl;refine cb Ia0 Tryz.func134 ?_
 exact zq0
def gJ:EC:=fun F=>fun
 |[.agg [.v (.int Za r),.s 3 qs]]=>some (fun _=>Rw [tI,tI,tI] qs/\qs.length<=1099511627776,[.agg [.i r,.s 3 qs]])
 |_=>none
theorem nK:ec 137 gJ:=by
 intro _ _ _ h hp;dsimp only[gJ,F0]at h;split at h<;>cases h
 rename_i r qs;obtain⟨hw,hl⟩:=hp;have hs:=hw.scal rfl;refine cb Ia0 Tryz.func137 ?_
 exact zq0
def Tryz.laysC15_ren:Go.Shelf.Ren:=⟨fun|15=>328|n=>n,fun|22=>24|3=>3|4=>4|n=>n,fun|n=>n⟩
theorem Tryz.laysC15:Lays2.n15 Tryz.prog Tryz.laysC15_ren:=⟨by kernel_rfl,Tryz.func328.trans (congrArg some (by kernel_rfl)),Tryz.underlying3,Tryz.isAgg3,Tryz.sizeOf3,Tryz.zeroValue3,Tryz.underlying4,Tryz.isAgg4,Tryz.sizeOf4,Tryz.zeroValue4,Tryz.underlying24,Tryz.isAgg24,Tryz.sizeOf24,Tryz.zeroValue24,by kernel_rfl⟩
def eB:EC:=fun F=>fun
 |[.one (.s 1 l)]=>some (fun _=>Rw [tI] l/\l.length<=1099511627776,[.one (.s 1 l)])
 |_=>none
theorem mT:ec 328 eB:=by
 intro _ _ _ h hp;dsimp only[eB,F0]at h;split at h<;>cases h
 rename_i l;exact F8 (Any.slices_Clone_int_nil Tryz.laysC15) (Any.slices_Clone_int_zero Tryz.laysC15) (Any.slices_Clone_int Tryz.laysC15) l hp
def fg:EC:=fun F=>fun
 |[.agg [.s 1 cs,.s 1 us]]=>some (fun _=>Rw [.sl [tI]] cs/\Rw [tB] us/\ap cs<=1099511627776/\ap us<=1099511627776,[.agg [.s 1 cs,.s 1 us]])
 |_=>none
theorem lD:ec 267 fg:=by
 intro _ _ _ h hp;dsimp only[fg,F0]at h;split at h<;>cases h
 rename_i cs us;obtain⟨hc,hu,hn,hm⟩:=hp;have hs:=hu.scal rfl;have hl1:=aO (es:=cs);have hl2:=aO (es:=us);refine cb Ia0 Tryz.func267 ?_
 intro O r F hO hr hF;cbv
 repeat' first|apply Zd|(apply cP<;>intro hb<;>cbv)|(refine⟨[2,3,12,13,14],[2,3],Int×af,fun s_=>match s_ with|(i,out)=>[.reg 14 (.j i),.leaf 3 0 ⟨0,0,none,.own (.s 1 out)⟩],fun s_=>match s_ with|(i,out)=>0<=i/\i<=(cs.length:Int)/\out=cs.take i.toNat,fun s_=>match s_ with|(i,out)=>cs.length-i.toNat,⟨(0,[]),?_,?_⟩,?_⟩;rotate_left;(focus (cbv;done));intro s_ hi;obtain⟨i,out⟩:=s_;replace hi:0<=i/\i<=(cs.length:Int)/\out=cs.take i.toNat:=hi;obtain⟨i0,i1,i2⟩:=hi;cbv)|(refine ah (O.ar .add Za i 1,O.cat out [[.s 1 (O.gs cs i 0)]]) ?_ ?_ ?_;focus (cbv;done))
 all_goals(subst hO hr hF;(try simp only[nc]at*);(try simp only[aj,SS,sa,az]at*);(try rw[dx (by omega) (by omega)]);(try(have hol:out.length=i.toNat:=(by rw[i2,Zh];omega)));(try(have hsc:=rA hc i0 (by assumption);have hsl:=aO (es:=aw cs i 0))))
 all_goals first|exact hs|omega|exact fK|(show ax _ _=true;kernel_rfl)|exact⟨by(first|assumption|exact Rw.sub (by first|assumption|exact Rw.sub (by assumption) (by omega) rfl) (by omega) rfl),by omega⟩|(simp only[Zk,Zj];omega)|(rw[i2];exact(kW hc i0 (by assumption)).symm)|(rw[i2,jy (by omega)];rfl)|exact⟨trivial,trivial⟩|trivial|exact rfl|trace_state
abbrev Ia1:dp:=d4 (fun F f=>match f with|267=>fg F|268=>iV F|328=>eB F|_=>fun _=>none) (by
 intro f;dsimp only;split;exact lD;exact sg;exact mT;exact dB)
def gN:EC:=fun F=>fun
 |[.agg [.s 1 cs,.s 1 us,.s 2 es]]=>some (fun _=>Rw [.sl [tI]] cs/\Rw [tB] us/\Rw [tI,tI] es/\ap cs<=1099511627776/\ap us<=1099511627776/\ap es<=1099511627776,[.agg [.s 1 cs,.s 1 us,.s 2 es]])
 |_=>none
theorem pO:ec 150 gN:=by
 intro _ _ _ h hp;dsimp only[gN,F0]at h;split at h<;>cases h
 rename_i cs us es;obtain⟨hc,hu,he,hn,hm,hk⟩:=hp;have hl:=aO (es:=es);refine cb Ia1 Tryz.func150 ?_
 intro O r F hO hr hF;cbv
 repeat' first|apply Zd|(apply cP<;>intro hb<;>cbv)
 all_goals(subst hO hr hF;(try simp only[nc]at*);(try simp only[aj,SS,sa,az]at*))
 all_goals first|(show ax _ _=true;kernel_rfl)|exact⟨hc,hu,hn,hm⟩|exact⟨he,by omega⟩|exact⟨trivial,trivial⟩|trivial|exact rfl|trace_state
def jV:EC:=fun F=>fun
 |[.agg [.v (.int Za k),.v (.int Za m),.s 1 cs]]=>some (fun _=>Rw [tI] cs/\cs.length<=1099511627776,[.agg [.i k,.i m,.s 1 cs]])
 |_=>none
theorem ui:ec 252 jV:=by
 intro _ _ _ h hp;dsimp only[jV,F0]at h;split at h<;>cases h
 rename_i k m cs;obtain⟨hw,hl⟩:=hp;have hs:=hw.scal rfl;refine cb Ia1 Tryz.func252 ?_
 exact zq0
abbrev Ia2:dp:=d4 (fun F f=>match f with|150=>gN F|132=>du F|252=>jV F|_=>fun _=>none) (by
 intro f;dsimp only;split;exact pO;exact eH;exact ui;exact dB)
def dr:EC:=fun F=>fun
 |[.agg [.s 1 cs,.s 1 us,.s 2 es,.v (.int Za c),.s 1 rs]]=>some (fun _=>Rw [.sl [tI]] cs/\Rw [tB] us/\Rw [tI,tI] es/\Rw [tI] rs/\ap cs<=1099511627776/\ap us<=1099511627776/\ap es<=1099511627776/\ap rs<=1099511627776,[.agg [.s 1 cs,.s 1 us,.s 2 es,.i c,.s 1 rs]])
 |_=>none
theorem fc:ec 133 dr:=by
 intro _ _ _ h hp;dsimp only[dr,F0]at h;split at h<;>cases h
 rename_i cs us es c rs;obtain⟨hc,hu,he,hr,hn,hm,hk,hl⟩:=hp;have l1:=aO (es:=rs);have hs:=hr.scal rfl;refine cb Ia2 Tryz.func133 ?_
 intro O r F hO hr hF;cbv
 repeat' first|apply Zd|(apply cP<;>intro hb<;>cbv)
 all_goals(subst hO hr hF;(try simp only[nc]at*);(try simp only[aj,SS,sa,az]at*))
 all_goals first|(show ax _ _=true;kernel_rfl)|exact hs|exact⟨hc,hu,he,hn,hm,hk⟩|exact⟨hr,by omega⟩|exact⟨trivial,trivial⟩|trivial|(simp only[Zk];omega)|exact rfl|done
def kJ:EC:=fun F=>fun
 |[.agg [.v (.int Za k),.v (.int Za m),.s 1 cs,.v (.int Za p),.v (.int Za n)]]=>some (fun _=>Rw [tI] cs/\cs.length<=1099511627776,[.agg [.i k,.i m,.s 1 cs,.i p,.i n]])
 |_=>none
theorem vA:ec 138 kJ:=by
 intro _ _ _ h hp;dsimp only[kJ,F0]at h;split at h<;>cases h
 rename_i k m cs p n;obtain⟨hw,hl⟩:=hp;have hs:=hw.scal rfl;refine cb Ia2 Tryz.func138 ?_
 exact zq0
abbrev Ia3:dp:=d4 (fun F f=>match f with|132=>du F|_=>fun _=>none) (by
 intro f;dsimp only;split;exact eH;exact dB)
def ed:EC:=fun F=>fun
 |[.agg [.s 1 ls]]=>some (fun _=>Rw [.sl [tI]] ls/\ap ls<=1099511627776,[.agg [.s 1 ls]])
 |_=>none
theorem iL:ec 135 ed:=by
 intro _ _ _ h hp;dsimp only[ed,F0]at h;split at h<;>cases h
 rename_i ls;obtain⟨hc,hn⟩:=hp;have hl1:=aO (es:=ls);refine cb Ia3 Tryz.func135 ?_
 intro O r F hO hr hF;cbv
 repeat' first|apply Zd|(apply cP<;>intro hb<;>cbv)|(refine⟨[2,3,8,9,10],[2,3],Int×af,fun s_=>match s_ with|(i,out)=>[.reg 10 (.j i),.leaf 3 0 ⟨0,0,none,.own (.s 1 out)⟩],fun s_=>match s_ with|(i,out)=>0<=i/\i<=(ls.length:Int)/\out=ls.take i.toNat,fun s_=>match s_ with|(i,out)=>ls.length-i.toNat,⟨(0,[]),?_,?_⟩,?_⟩;rotate_left;(focus (cbv;done));intro s_ hi;obtain⟨i,out⟩:=s_;replace hi:0<=i/\i<=(ls.length:Int)/\out=ls.take i.toNat:=hi;obtain⟨i0,i1,i2⟩:=hi;cbv)|(refine ah (O.ar .add Za i 1,O.cat out [[.s 1 (O.gs ls i 0)]]) ?_ ?_ ?_;focus (cbv;done))|(refine ah (O.ar .add Za i 1,O.cat out [[.s 1 (O.cat [] (O.gs ls i 0))]]) ?_ ?_ ?_;focus (cbv;done))
 all_goals(subst hO hr hF;(try simp only[nc]at*);(try simp only[aj,SS,sa,az]at*);(try rw[dx (by omega) (by omega)]);(try(have hol:out.length=i.toNat:=(by rw[i2,Zh];omega)));(try(have hsc:=rA hc i0 (by assumption);have hsl:=aO (es:=aw ls i 0))))
 all_goals first
  | (show(_:List DV)=_
     first
      |exact rfl
      |(rw[i2,jy (by omega)];rfl)
      |(rw[i2,k2,jy (by omega),jy (by omega)];rfl)
      |done)
  |omega
  |exact fK
  |(show ax _ _=true;kernel_rfl)
  |exact Rw.scal (fs:=[tI]) (by(first|assumption|exact Rw.sub (by first|assumption|exact Rw.sub (by assumption) (by omega) rfl) (by omega) rfl)) rfl
  |exact Rw.scal (fs:=[tI,tI]) (by(first|assumption|exact Rw.sub (by first|assumption|exact Rw.sub (by assumption) (by omega) rfl) (by omega) rfl)) rfl
  |exact⟨by(first|assumption|exact Rw.sub (by first|assumption|exact Rw.sub (by assumption) (by omega) rfl) (by omega) rfl),by omega⟩
  |(simp only[Zk,Zj];omega)
  |(rw[i2];exact(kW hc i0 (by assumption)).symm)
  |(rw[i2,Z0];exact(kW hc i0 (by assumption)).symm)
  |exact⟨trivial,trivial⟩
  |trivial
  |exact rfl
  |done
def eM:EC:=fun F=>fun
 |[.agg [.s 1 b,.s 1 x]]=>some (fun _=>Rw [.sl [tI,tI]] b/\Rw [.sl [tI]] x/\ap b<=1099511627776/\ap x<=1099511627776,[.agg [.s 1 b,.s 1 x]])
 |_=>none
theorem jH:ec 136 eM:=by
 intro _ _ _ h hp;dsimp only[eM,F0]at h;split at h<;>cases h
 rename_i b x;obtain⟨wb,wx,nb,nx⟩:=hp;have hl1:=aO (es:=b);have hl2:=aO (es:=x);refine cb Ia3 Tryz.func136 ?_
 intro O r F hO hr hF;cbv
 repeat' first|apply Zd|(apply cP<;>intro hb<;>cbv)|(refine⟨[1,2,3,10,11,12],[1,2,3],Int×af,fun s_=>match s_ with|(i,out)=>[.reg 12 (.j i),.leaf 3 0 ⟨0,0,none,.own (.s 1 out)⟩],fun s_=>match s_ with|(i,out)=>0<=i/\i<=(b.length:Int)/\out=b.take i.toNat,fun s_=>match s_ with|(i,out)=>b.length-i.toNat,⟨(0,[]),?_,?_⟩,?_⟩;rotate_left;(focus (cbv;done));intro s_ hi;obtain⟨i,out⟩:=s_;replace hi:0<=i/\i<=(b.length:Int)/\out=b.take i.toNat:=hi;obtain⟨i0,i1,i2⟩:=hi;cbv)|(refine⟨[2,3,26,27,28],[2,3],Int×af,fun s_=>match s_ with|(k,ou2)=>[.reg 28 (.j k),.leaf 3 1 ⟨0,0,none,.own (.s 1 ou2)⟩],fun s_=>match s_ with|(k,ou2)=>0<=k/\k<=(x.length:Int)/\ou2=x.take k.toNat,fun s_=>match s_ with|(k,ou2)=>x.length-k.toNat,⟨(0,[]),?_,?_⟩,?_⟩;rotate_left;(focus (cbv;done));intro s_ hk;obtain⟨k,ou2⟩:=s_;replace hk:0<=k/\k<=(x.length:Int)/\ou2=x.take k.toNat:=hk;obtain⟨k0,k1,k2⟩:=hk;cbv)|(refine ah (O.ar .add Za i 1,O.cat out [[.s 2 (O.cat [] (O.gs b i 0))]]) ?_ ?_ ?_;focus (cbv;done))|(refine ah (O.ar .add Za k 1,O.cat ou2 [[.s 1 (O.gs x k 0)]]) ?_ ?_ ?_;focus (cbv;done))|(refine ah (O.ar .add Za k 1,O.cat ou2 [[.s 1 (O.cat [] (O.gs x k 0))]]) ?_ ?_ ?_;focus (cbv;done))
 all_goals(subst hO hr hF;(try simp only[nc]at*);(try simp only[aj,SS,sa,az]at*);(try rw[dx (by omega) (by omega)]);(try(have hol:out.length=i.toNat:=(by rw[i2,Zh];omega)));(try(have hok:ou2.length=k.toNat:=(by rw[k2,Zh];omega)));(try(have hsc:=rA wb i0 (by assumption);have hsl:=aO (es:=aw b i 0)));(try(have hsd:=rA wx k0 (by assumption);have hsm:=aO (es:=aw x k 0))))
 all_goals first
  | (show(_:List DV)=_
     first
      |exact rfl
      |(rw[i2,jy (by omega)];rfl)
      |(rw[i2,k2,jy (by omega),jy (by omega)];rfl)
      |done)
  |omega
  |exact fK
  |(show ax _ _=true;kernel_rfl)
  |exact Rw.scal (fs:=[tI]) (by(first|assumption|exact Rw.sub (by first|assumption|exact Rw.sub (by assumption) (by omega) rfl) (by omega) rfl)) rfl
  |exact Rw.scal (fs:=[tI,tI]) (by(first|assumption|exact Rw.sub (by first|assumption|exact Rw.sub (by assumption) (by omega) rfl) (by omega) rfl)) rfl
  |exact⟨by(first|assumption|exact Rw.sub (by first|assumption|exact Rw.sub (by assumption) (by omega) rfl) (by omega) rfl),by omega⟩
  |(simp only[Zk,Zj];omega)
  |(rw[i2,Z0];exact(kW wb i0 (by assumption)).symm)
  |(rw[k2];exact(kW wx k0 (by assumption)).symm)
  |(rw[k2,Z0];exact(kW wx k0 (by assumption)).symm)
  |exact⟨trivial,trivial⟩
  |trivial
  |exact rfl
  |done
abbrev Ia4:dp:=d4 (fun F f=>match f with|133=>dr F|134=>dQ F|135=>ed F|136=>eM F|137=>gJ F|138=>kJ F|_=>fun _=>none) (by
 intro f;dsimp only;split;exact fc;exact hC;exact iL;exact jH;exact nK;exact vA;exact dB)
def dO:EC:=fun F=>fun
 |[.agg hl_]=>hL hl_ fun a0 a1 a2 a3 a4 a5 a6 a7 a8 a9 aA aB aC aD aE aF aG aH aI aJ aK aL aM aN=>(fun _=>lq a0 a1 a2 a4 a5 a6 a7 a8 a9 aA aB aD aL,[.agg (Lb a0 a1 a2 a3 a4 a5 a6 a7 a8 a9 aA aB aC aD aE aF aG aH aI aJ aK aL aM aN)])
 |_=>none
theorem gC:ec 36 dO:=by
 intro _ _ _ h hp;dsimp only[dO,F0,hL]at h;split at h;rotate_left;cases h;split at h<;>cases h
 rename_i a0 a1 a2 a3 a4 a5 a6 a7 a8 a9 aA aB aC aD aE aF aG aH aI aJ aK aL aM aN;have hr0:=hp.r0;have hc0:=hp.c0;have hl0:=aO (es:=a0);have hr1:=hp.r1;have hc1:=hp.c1;have hl1:=aO (es:=a1);have hr2:=hp.r2;have hc2:=hp.c2;have hl2:=aO (es:=a2);have hr4:=hp.r4;have hc4:=hp.c4;have hl4:=aO (es:=a4);have hr5:=hp.r5;have hc5:=hp.c5;have hl5:=aO (es:=a5);have hr6:=hp.r6;have hc6:=hp.c6;have hl6:=aO (es:=a6);have hr7:=hp.r7;have hc7:=hp.c7;have hl7:=aO (es:=a7);have hr8:=hp.r8;have hc8:=hp.c8;have hl8:=aO (es:=a8);have hr9:=hp.r9;have hc9:=hp.c9;have hl9:=aO (es:=a9);have hr10:=hp.r10;have hc10:=hp.c10;have hl10:=aO (es:=aA);have hr11:=hp.r11;have hc11:=hp.c11;have hl11:=aO (es:=aB);have hr13:=hp.r13;have hc13:=hp.c13;have hl13:=aO (es:=aD);have hr21:=hp.r21;have hc21:=hp.c21;have hl21:=aO (es:=aL);have hs5:=hr5.scal rfl;have hs6:=hr6.scal rfl;have hs7:=hr7.scal rfl;have hs8:=hr8.scal rfl;refine cb Ia4 Tryz.func36 ?_
 intro O r F hO hr hF;cbv
 repeat' first|apply Zd|(apply cP<;>intro hb<;>cbv)|(refine⟨[1,2,3,32,33,34],[1,2,3],Int×af,fun s_=>match s_ with|(i,out)=>[.reg 34 (.j i),.leaf 3 9 ⟨0,0,none,.own (.s 1 out)⟩],fun s_=>match s_ with|(i,out)=>0<=i/\i<=(a9.length:Int)/\out=a9.take i.toNat,fun s_=>match s_ with|(i,out)=>a9.length-i.toNat,⟨(0,[]),?_,?_⟩,?_⟩;rotate_left;(focus (cbv;done));intro s_ hi;obtain⟨i,out⟩:=s_;replace hi:0<=i/\i<=(a9.length:Int)/\out=a9.take i.toNat:=hi;obtain⟨i0,i1,i2⟩:=hi;cbv)|(refine ah (O.ar .add Za i 1,O.cat out [[.s 1 (O.gs a9 i 0)]]) ?_ ?_ ?_;focus (cbv;done))
 all_goals(subst hO hr hF;(try simp only[nc]at*);(try simp only[aj,SS,sa,az]at*);(try rw[dx (by omega) (by omega)]);(try(have hol:out.length=i.toNat:=(by rw[i2,Zh];omega)));(try(have hsc:=rA hr9 i0 (by assumption);have hsl:=aO (es:=aw a9 i 0))))
 all_goals first
  | (show(_:List DV)=_
     first
      |exact rfl
      |(rw[i2,jy (by omega)];rfl)
      |done)
  |omega
  |exact fK
  |(show ax _ _=true;kernel_rfl)
  |exact hs5
  |exact hs6
  |exact hs7
  |exact hs8
  |exact⟨hr0,hr1,hr2,hr4,by omega,by omega,by omega,by omega⟩
  |exact⟨hr5,by omega⟩
  |exact⟨hr10,hr11,by omega,by omega⟩
  |exact⟨hr13,by omega⟩
  |exact⟨hr21,by omega⟩
  |exact⟨kV hr9 i0 (by assumption),by omega⟩
  |(simp only[Zk,Zj];omega)
  |(rw[i2];exact(kW hr9 i0 (by assumption)).symm)
  |exact⟨trivial,trivial⟩
  |trivial
  |exact rfl
  |done
abbrev N5:dp:=d4 (fun F f=>match f with|31=>iQ F|32=>kD F|33=>ay F|34=>kG F|35=>jJ F|_=>fun _=>none) (by
 intro f;dsimp only;split;exact rW;exact vp;exact aS;exact vu;exact tX;exact dB)
def oz:EC:=fun F=>fun
 |[.one (.v (.int Za p)),.one (.v (.int Za f)),.one (.v (.int Za t)),.one (.v (.int Za l)),.one (.s 1 rs)]=>some (fun _=>Rw [tI] rs/\rs.length<=1099511627776,[.agg (Lb (F.hnC p f t l rs) (F.hnU p f t l rs) (F.hnE p f t l rs) 0 (F.hnR p f t l rs) (F.hnF p f t l rs) [] [] [] (F.hnK p f t l rs) (F.hnM p f t l rs) (F.hnI p f t l rs) (F.hnQ p f t l rs) [] 0 0 (F.hnL p f t l rs) (F.hnN p f t l rs) false 0 0 [] 0 0),.k (F.hnB p f t l rs)])
 |_=>none
theorem vk:ec 10 oz:=by
 intro _ _ _ h hp;dsimp only[oz,F0]at h;split at h<;>cases h
 rename_i p f t l rs;obtain⟨hr,hl⟩:=hp;refine cb N5 Tryz.func10 ?_
 intro O r F hO hr hF;cbv
 repeat' first|apply Zd|(apply cP<;>intro hb<;>cbv)|(refine⟨[2,10,18,19],[10,18],Int×af,fun s_=>match s_ with|(i,out)=>[.reg 19 (.j i),.leaf 18 9 ⟨0,0,none,.own (.s 1 out)⟩],fun s_=>match s_ with|(i,out)=>0<=i/\i<=t/\out=Zt i.toNat [.s 1 cnL],fun s_=>match s_ with|(i,out)=>(t-i).toNat,⟨(0,[]),?_,?_⟩,?_⟩;rotate_left;(focus (cbv;done));intro s_ hi;obtain⟨i,out⟩:=s_;replace hi:0<=i/\i<=t/\out=Zt i.toNat [.s 1 cnL]:=hi;obtain⟨i0,i1,i2⟩:=hi;cbv)|(refine ah (O.ar .add Za i 1,O.cat out [[.s 1 F.cnL]]) ?_ ?_ ?_;focus (cbv;done))
 all_goals(subst hO hr hF;(try simp only[nc]at*);(try simp only[aj,SS,sa,az]at*);(try(have hn:=be.1 (‹inR t 1 4=true›)));(try rw[dx (by omega) (by omega)]))
 all_goals first
  | (show(_:List DV)=_
     first
      | (have q:hnB p f t l rs=true:=P5.2 ⟨by assumption,by assumption,by assumption⟩
         have w:=P6 q;have u:=Ix (P5.1 q).1;exact Nl (u.1.trans w.1.symm) (u.2.1.trans w.2.1.symm) (u.2.2.1.trans w.2.2.1.symm) (u.2.2.2.trans w.2.2.2.1.symm) w.2.2.2.2.1.symm (by rw[w.2.2.2.2.2.1,i2];congr 1;omega) w.2.2.2.2.2.2.1.symm w.2.2.2.2.2.2.2.1.symm w.2.2.2.2.2.2.2.2.1.symm w.2.2.2.2.2.2.2.2.2.1.symm w.2.2.2.2.2.2.2.2.2.2.symm q.symm)
      | (have q:hnB p f t l rs=false:=aeB (by rintro⟨z1,z2,z3⟩;simp_all)
         have w:=aaU q;exact Nl w.1.symm w.2.1.symm w.2.2.1.symm w.2.2.2.1.symm w.2.2.2.2.1.symm w.2.2.2.2.2.1.symm w.2.2.2.2.2.2.1.symm w.2.2.2.2.2.2.2.1.symm w.2.2.2.2.2.2.2.2.1.symm w.2.2.2.2.2.2.2.2.2.1.symm w.2.2.2.2.2.2.2.2.2.2.symm q.symm)
      |done)
  | (show(_:af)=_
     first
      |(rw[i2];exact Ji i0)
      |exact rfl
      |done)
  |exact⟨hr,by omega⟩
  |omega
  |(show ax _ _=true;kernel_rfl)
  |(rw[i2,Xv];exact⟨by simp only[Zj,Zk];omega,by simp only[Zj,Zk];omega⟩)
  |exact⟨Zb,Zb⟩
  |trivial
  |trace_state
end Go.V