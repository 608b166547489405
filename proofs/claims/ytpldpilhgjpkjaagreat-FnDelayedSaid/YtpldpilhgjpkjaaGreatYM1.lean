/- Contracts. -/
import Derived.Test.YtpldpilhgjpkjaaGreatYM0
import Derived.Test.YtpldpilhgjpkjaaGreatYW3
set_option linter.all false
open Go
open And renaming intro->Zd
open IntKind renaming i64->Za
open List renaming length_nil->Zl,replicate->Zq,length_replicate->Xv,length_cons->Zj,length_take->Zg,nil_append->Z3
open True renaming intro->Zb
namespace Go.V
open Go Go.Proofs
set_option maxRecDepth 1000000
set_option maxHeartbeats 8000000
abbrev KA1:dr:=dW (fun F f=>match f with|33=>ax F|_=>fun _=>none) (by
 intro f;dsimp only;split;exact aT;exact dD)
def gd:EC:=fun F=>fun
 |[.agg [.s 1 cs,.s 1 us]]=>some (fun _=>Rw [.sl [tI]] cs/\Rw [tB] us,[.k (F.framesOk cs us)])
 |_=>none
theorem na:ec 188 gd:=by
 intro _ _ _ h hp;dsimp only[gd,F0]at h;split at h<;>cases h
 rename_i cs us;obtain⟨hc,hu⟩:=hp;have hcw:=hc.wf;have huw:=hu.wf;have hlen:=hc.1;unfold maxLen at hlen;refine cb KA1 Tryz.func188 ?_
 intro O r F hO hr hF;cbv
 repeat' first|apply Zd|(apply cS<;>intro hb<;>cbv)|(refine⟨[1,22,23,24],[1],Int,fun i=>[.reg 24 (.j i)],fun i=>0<=i/\i<=((cs.length:Nat):Int)/\upto (ja cs us) i,fun i=>(cs.length)-i.toNat,⟨0,?_,?_⟩,?_⟩;rotate_left;(focus (cbv;done));intro i hi;replace hi:0<=i/\i<=((cs.length:Nat):Int)/\upto (ja cs us) i:=hi;obtain⟨i0,i1,i2⟩:=hi;cbv)|(refine ah (O.ar .add Za i 1) ?_ ?_ ?_;focus (cbv;done))|(refine⟨[1,3,22,23,24,32,33,34],[1],Int,fun k=>[.reg 34 (.j k)],fun k=>0<=k/\k<=(((O.gs cs i 0).length:Nat):Int)/\upto (nU cs us i) k,fun k=>((O.gs cs i 0).length)-k.toNat,⟨0,?_,?_⟩,?_⟩;rotate_left;(focus (cbv;done));intro k hk;replace hk:0<=k/\k<=(((O.gs cs i 0).length:Nat):Int)/\upto (nU cs us i) k:=hk;obtain⟨k0,k1,k2⟩:=hk;cbv)|(refine ah (O.ar .add Za k 1) ?_ ?_ ?_;focus (cbv;done))
 all_goals(subst hO hr hF;(try simp only[nc]at*);(try simp only[am,SS,sa,az]at*);(try rw[dq (by omega) (by omega)]))
 all_goals first|omega|exact fQ|exact bV|contradiction|exact au (OC (by assumption)).symm|exact au (OD (by omega)).symm|exact au (OE i0 (by omega) (by omega)).symm|exact au (Hc i0 (by omega) k0 (by omega) (.inl (by assumption))).symm|exact au (Hc i0 (by omega) k0 (by omega) (.inr ⟨by assumption,by assumption⟩)).symm|exact au (Cw (by assumption) (by omega) i2 (by omega)).symm|exact bN i2 (Hb (by omega) k2 (by omega))|exact bN k2 (GI (by assumption) (by first|exact .inl (by assumption)|exact .inr (by assumption)))|trace_state
def kj:EC:=fun F=>fun
 |[.agg [.s 2 es],.one (.v (.int Za n))]=>some (fun _=>Rw [tI,tI] es,[.k (F.tableOk es n)])
 |_=>none
theorem uQ:ec 276 kj:=by
 intro _ _ _ h hp;dsimp only[kj,F0]at h;split at h<;>cases h
 rename_i es n;have hlen:=hp.1;unfold maxLen at hlen;refine cb KA1 Tryz.func276 ?_
 intro O r F hO hr hF;cbv
 repeat' first|apply Zd|(apply cS<;>intro hb<;>cbv)|(refine⟨[1,2,8,9,10],[2],Int,fun i=>[.reg 10 (.j i)],fun i=>0<=i/\i<=((es.length:Nat):Int)/\upto (qj es n) i,fun i=>(es.length)-i.toNat,⟨0,?_,?_⟩,?_⟩;rotate_left;(focus (cbv;done));intro i hi;replace hi:0<=i/\i<=((es.length:Nat):Int)/\upto (qj es n) i:=hi;obtain⟨i0,i1,i2⟩:=hi;cbv)|(refine ah (O.ar .add Za i 1) ?_ ?_ ?_;focus (cbv;done))
 all_goals(subst hO hr hF;(try simp only[nc]at*);(try simp only[am,SS,sa,az]at*);(try rw[dq (by omega) (by omega)]))
 all_goals first|omega|exact fQ|exact bV|contradiction|exact au (Dv i2 (by omega)).symm|(simp only[bi,xQ]at*;first|exact au (abI i0 (by omega) (by omega)).symm|exact bN i2 (IW (by omega)))|trace_state
def dp:EC:=fun F=>fun
 |[.one (.s 1 es)]=>some (fun _=>Rw [tI] es/\es.length<=1099511627776,[.one (.s 1 es)])
 |_=>none
theorem eD:ec 132 dp:=by
 intro _ _ _ h hp;dsimp only[dp,F0]at h;split at h<;>cases h
 rename_i es;obtain⟨hw,hl⟩:=hp;have hs:=hw.scal rfl;refine cb nB Tryz.func132 ?_
 intro O r F hO hr hF;cbv
 repeat' first|apply Zd|(apply cS<;>intro hb<;>cbv)
 all_goals(subst hO hr hF;(try simp only[nc]at*);(try simp only[am,SS,sa,az]at*))
 all_goals first|exact hs|trivial|(simp only[Zl];omega)|trace_state
abbrev KD4:dr:=dW (fun F f=>match f with|188=>gd F|276=>kj F|277=>fj F|_=>fun _=>none) (by
 intro f;dsimp only;split;exact na;exact uQ;exact j7;exact dD)
def iG:EC:=fun F=>fun
 |[.agg [.s 1 cs,.s 1 us,.s 2 es]]=>some (fun _=>Rw [.sl [tI]] cs/\Rw [tB] us/\Rw [tI,tI] es,[.k (F.machOk cs us es)])
 |_=>none
theorem rD:ec 164 iG:=by
 intro _ _ _ h hp;dsimp only[iG,F0]at h;split at h<;>cases h
 rename_i cs us es;obtain⟨hc,hu,ht⟩:=hp;have hm:=hu.1;unfold maxLen at hm;refine cb KD4 Tryz.func164 ?_
 intro O r F hO hr hF;cbv
 repeat' first|apply Zd|(apply cS<;>intro hb<;>cbv)|(refine⟨[1,21,22,23],[1],Int,fun i=>[.reg 23 (.j i)],fun i=>0<=i/\i<=((us.length:Nat):Int)/\upto (oe us es) i,fun i=>(us.length)-i.toNat,⟨0,?_,?_⟩,?_⟩;rotate_left;(focus (cbv;done));intro i hi;replace hi:0<=i/\i<=((us.length:Nat):Int)/\upto (oe us es) i:=hi;obtain⟨i0,i1,i2⟩:=hi;cbv)|(refine ah (O.ar .add Za i 1) ?_ ?_ ?_;focus (cbv;done))
 all_goals(subst hO hr hF;(try simp only[nc]at*);(try simp only[am,SS,sa,az]at*);(try simp only[KE]at*);(try rw[dq (by omega) (by omega)]);(try(have hfl:=rQ (cs:=cs) (us:=us) (by assumption)));(try(have htl:=Du (es:=es) (n:=(us.length:Int)) (by assumption)));(try(have htl:=Du (es:=es) (n:=(cs.length:Int)) (by assumption))))
 all_goals first|omega|exact fQ|exact bV|exact⟨hc,hu⟩|exact⟨ht,by omega⟩|exact au (MC (.inl (by assumption))).symm|exact au (Px (by assumption) (by assumption)).symm|exact au (Py i0 (by omega) (by assumption)).symm|exact bN i2 (HP (by assumption))|exact au (C0 (by assumption) (by assumption) i2 (by omega)).symm|trace_state
abbrev N1:dr:=dW (fun F f=>match f with|33=>ax F|_=>fun _=>none) (by
 intro f;dsimp only;split;exact aT;exact dD)
def iB:EC:=fun F=>fun
 |[.one (.v (.int Za n))]=>some (fun _=>True,[.agg [.s 1 (F.fnC n),.s 1 (F.fnU n)],.k (F.inR n 1 32)])
 |_=>none
theorem rr:ec 250 iB:=by
 intro _ _ _ h hp;dsimp only[iB,F0]at h;split at h<;>cases h
 rename_i n;refine cb N1 Tryz.func250 ?_
 intro O r F hO hr hF;cbv
 repeat' first|apply Zd|(apply cS<;>intro hb<;>cbv)|(refine⟨[0,2,4,5],[2,4],Int×af,fun s_=>match s_ with|(i,out)=>[.reg 5 (.j i),.leaf 4 0 ⟨0,0,none,.own (.s 1 out)⟩],fun s_=>match s_ with|(i,out)=>0<=i/\i<=n/\out=Zq i.toNat [.s 1 xu],fun s_=>match s_ with|(i,out)=>(n-i).toNat,⟨(0,[]),?_,?_⟩,?_⟩;rotate_left;(focus (cbv;done));intro s_ hi;obtain⟨i,out⟩:=s_;replace hi:0<=i/\i<=n/\out=Zq i.toNat [.s 1 xu]:=hi;obtain⟨i0,i1,i2⟩:=hi;cbv)|(refine ah (O.ar .add Za i 1,O.cat out [[.s 1 (O.rep 16 [.i 0])]]) ?_ ?_ ?_;focus (cbv;done))
 all_goals(subst hO hr hF;(try simp only[nc]at*);(try simp only[am,SS,sa,az]at*);(try(have hn:=bi.1 (‹inR n 1 32=true›)));(try rw[dq (by omega) (by omega)]))
 all_goals first
  | (show(_:List DV)=_
     first
      |(have q:=Me (‹inR n 1 32=false›);exact EQ q.1.symm q.2.1.symm (by symm;assumption))
      |(have q:=nY (‹inR n 1 32=true›);exact EQ (by rw[q.1,i2];congr 1;omega) q.2.1.symm (by symm;assumption))
      |done)
  | (show(_:af)=_
     first
      |(rw[i2];exact Is i0)
      |exact rfl
      |done)
  |omega
  |(show aw _ _=true;kernel_rfl)
  |(rw[i2,Xv];exact⟨by simp only[Zj,Zl];omega,by simp only[Zj,Zl];omega⟩)
  |exact⟨Zb,Zb⟩
  |trivial
  |trace_state
def jG:EC:=fun F=>fun
 |[.one (.v (.int Za n))]=>some (fun _=>True,[.agg [.s 2 (F.tnE n)],.k (F.inR n 1 32)])
 |_=>none
theorem tM:ec 251 jG:=by
 intro _ _ _ h hp;dsimp only[jG,F0]at h;split at h<;>cases h
 rename_i n;refine cb N1 Tryz.func251 ?_
 intro O r F hO hr hF;cbv
 repeat' first|apply Zd|(apply cS<;>intro hb<;>cbv)
 all_goals(subst hO hr hF;(try simp only[nc]at*);(try simp only[am,SS,sa,az]at*);(try(have hn:=bi.1 (‹inR n 1 32=true›))))
 all_goals first
  | (show(_:List DV)=_
     first
      |(have q:=Me (‹inR n 1 32=false›);exact MP q.2.2.symm (by symm;assumption))
      |(have q:=nY (‹inR n 1 32=true›);exact MP q.2.2.symm (by symm;assumption))
      |done)
  |omega
  |(show aw _ _=true;kernel_rfl)
  |exact⟨Zb,Zb⟩
  |trivial
  |trace_state
abbrev N2:dr:=dW (fun F f=>match f with|250=>iB F|251=>jG F|_=>fun _=>none) (by
 intro f;dsimp only;split;exact rr;exact tM;exact dD)
def gS:EC:=fun F=>fun
 |[.one (.v (.int Za p)),.one (.v (.int Za f))]=>some (fun _=>True,[.agg [.s 1 (F.mnC p f),.s 1 (F.mnU p f),.s 2 (F.mnE p f)],.k (F.mnB p f)])
 |_=>none
theorem pZ:ec 131 gS:=by
 intro _ _ _ h hp;dsimp only[gS,F0]at h;split at h<;>cases h
 rename_i p f;refine cb N2 Tryz.func131 ?_
 intro O r F hO hr hF;cbv
 repeat' first|apply Zd|(apply cS<;>intro hb<;>cbv)
 all_goals(subst hO hr hF;(try simp only[nc]at*);(try simp only[am,SS,sa,az]at*))
 all_goals first
  | (show(_:List DV)=_
     first
      |(have q:=oj (‹inR f 1 32=true›) (‹inR p 1 32=true›);exact Iy q.1.symm q.2.1.symm q.2.2.1.symm q.2.2.2.symm)
      |(have q:=A4 (PI (‹inR f 1 32=false›):mnB p f=false);exact Iy q.1.symm q.2.1.symm q.2.2.1.symm q.2.2.2.symm)
      |(have q:=A4 (PL (‹inR p 1 32=false›):mnB p f=false);exact Iy q.1.symm q.2.1.symm q.2.2.1.symm q.2.2.2.symm)
      |done)
  |omega
  |(show aw _ _=true;kernel_rfl)
  |exact⟨Zb,Zb⟩
  |trivial
  |trace_state
abbrev N3:dr:=dW (fun F f=>match f with|33=>ax F|164=>iG F|_=>fun _=>none) (by
 intro f;dsimp only;split;exact aT;exact rD;exact dD)
def eE:EC:=fun F=>fun
 |[.agg [.s 1 cs,.s 1 us,.s 2 es,.v (.int Za c),.s 1 rs]]=>some (fun _=>Rw [.sl [tI]] cs/\Rw [tB] us/\Rw [tI,tI] es/\Rw [tI] rs,[.k (F.kerOk cs us es c rs)])
 |_=>none
theorem jo:ec 60 eE:=by
 intro _ _ _ h hp;dsimp only[eE,F0]at h;split at h<;>cases h
 rename_i cs us es c rs;obtain⟨hc,hu,ht,hr⟩:=hp;have hm:=hr.1;unfold maxLen at hm;refine cb N3 Tryz.func60 ?_
 intro O r F hO hr hF;cbv
 repeat' first|apply Zd|(apply cS<;>intro hb<;>cbv)|(refine⟨[1,6,7,8],[1],Int,fun i=>[.reg 8 (.j i)],fun i=>0<=i/\i<=((rs.length:Nat):Int)/\upto (FD rs) i,fun i=>(rs.length)-i.toNat,⟨0,?_,?_⟩,?_⟩;rotate_left;(focus (cbv;done));intro i hi;replace hi:0<=i/\i<=((rs.length:Nat):Int)/\upto (FD rs) i:=hi;obtain⟨i0,i1,i2⟩:=hi;cbv)|(refine ah (O.ar .add Za i 1) ?_ ?_ ?_;focus (cbv;done))
 all_goals(subst hO hr hF;(try simp only[nc]at*);(try simp only[am,SS,sa,az]at*);(try rw[dq (by omega) (by omega)]))
 all_goals first
  | (show(_:List DV)=_
     first
      |exact au (Qg i0 (by assumption) (by assumption)).symm
      |exact au (Ks (by assumption)).symm
      |exact au (Kt (Lb (by omega))).symm
      |(refine au ?_;unfold kerOk;rw[show inR c 0 100000=true from by assumption,Lc i2 (by omega) (by omega)];simp)
      |done)
  |omega
  |exact fQ
  |exact bV
  |exact bN i2 (Qf (by omega))
  |exact⟨hc,hu,ht⟩
  |trace_state
abbrev N4:dr:=dW (fun F f=>match f with|131=>gS F|60=>eE F|132=>dp F|_=>fun _=>none) (by
 intro f;dsimp only;split;exact pZ;exact jo;exact eD;exact dD)
def iD:EC:=fun F=>fun
 |[.one (.v (.int Za p)),.one (.v (.int Za f)),.one (.s 1 rs)]=>some (fun _=>Rw [tI] rs/\rs.length<=1099511627776,[.agg [.s 1 (F.knC p f rs),.s 1 (F.knU p f rs),.s 2 (F.knE p f rs),.i 0,.s 1 (F.knR p f rs)],.k (F.knB p f rs)])
 |_=>none
theorem rA:ec 31 iD:=by
 intro _ _ _ h hp;dsimp only[iD,F0]at h;split at h<;>cases h
 rename_i p f rs;obtain⟨hr,hl⟩:=hp;have hs:=hr.scal rfl;refine cb N4 Tryz.func31 ?_
 intro O r F hO hr hF;cbv
 repeat' first|apply Zd|(apply cS<;>intro hb<;>cbv)
 all_goals(subst hO hr hF;(try simp only[nc]at*);(try simp only[am,SS,sa,az]at*))
 all_goals first
  | (show(_:List DV)=_
     first
      |(have q:=Kv (rs:=rs) (‹mnB p f=false›);have w:=Mt q;exact Ix w.1.symm w.2.1.symm w.2.2.1.symm w.2.2.2.symm q.symm)
      |(have q:=T0 (rs:=rs) (‹mnB p f=true›) (by assumption);have w:=HE q;have u:=PM (adU q);have z:=oj u.1 u.2;exact Ix (z.1.trans w.1.symm) (z.2.1.trans w.2.1.symm) (z.2.2.1.trans w.2.2.1.symm) w.2.2.2.symm q.symm)
      |(have q:=Pe (rs:=rs) (‹mnB p f=true›) (by assumption);have w:=Mt q;exact Ix w.1.symm w.2.1.symm w.2.2.1.symm w.2.2.2.symm q.symm)
      |done)
  |exact hs
  |exact⟨hr,by omega⟩
  |exact⟨C3.1,C3.2.1,C3.2.2,hr⟩
  |omega
  |(show aw _ _=true;kernel_rfl)
  |(simp only[Zl];omega)
  |exact⟨Zb,Zb⟩
  |trivial
  |trace_state
def kf:EC:=fun F=>fun
 |[.one (.v (.int Za t))]=>some (fun _=>True,[.agg [.s 1 (F.mwB t),.s 1 (F.mwI t)],.k (F.inR t 1 4)])
 |_=>none
theorem uL:ec 32 kf:=by
 intro _ _ _ h hp;dsimp only[kf,F0]at h;split at h<;>cases h
 rename_i t;refine cb N1 Tryz.func32 ?_
 intro O r F hO hr hF;cbv
 repeat' first|apply Zd|(apply cS<;>intro hb<;>cbv)
 all_goals(subst hO hr hF;(try simp only[nc]at*);(try simp only[am,SS,sa,az]at*);(try(have hn:=bi.1 (‹inR t 1 4=true›))))
 all_goals first
  | (show(_:List DV)=_
     first
      |(have q:=aao (‹inR t 1 4=false›);exact EQ q.1.symm q.2.symm (by symm;assumption))
      |(have q:=PO (‹inR t 1 4=true›);exact EQ q.1.symm q.2.symm (by symm;assumption))
      |done)
  |omega
  |(show aw _ _=true;kernel_rfl)
  |exact⟨Zb,Zb⟩
  |trivial
  |trace_state
def ki:EC:=fun F=>fun
 |[.one (.v (.int Za q))]=>some (fun _=>True,[.agg [.i (F.qnR q),.s 3 []],.k (F.inR q 0 500)])
 |_=>none
theorem uO:ec 34 ki:=by
 intro _ _ _ h hp;dsimp only[ki,F0]at h;split at h<;>cases h
 rename_i q;refine cb N1 Tryz.func34 ?_
 intro O r F hO hr hF;cbv
 repeat' first|apply Zd|(apply cS<;>intro hb<;>cbv)
 all_goals(subst hO hr hF;(try simp only[nc]at*);(try simp only[am,SS,sa,az]at*))
 all_goals first
  | (show(_:List DV)=_
     first
      |(have w:=aba (‹inR q 0 500=false›);exact MZ w.symm (by symm;assumption))
      |(have w:=Qa (‹inR q 0 500=true›);exact MZ w.symm (by symm;assumption))
      |done)
  |(show aw _ _=true;kernel_rfl)
  |exact⟨Zb,Zb⟩
  |trivial
  |trace_state
def jt:EC:=fun F=>fun
 |[]=>some (fun _=>True,[.agg [.s 1 (F.cnL)]])
 |_=>none
theorem tx:ec 35 jt:=by
 intro _ _ _ h hp;dsimp only[jt,F0]at h;split at h<;>cases h
 refine cb nB Tryz.func35 ?_
 intro O r F hO hr hF;cbv
 repeat' first|apply Zd|(apply cS<;>intro hb<;>cbv)
 all_goals(subst hO hr hF;(try simp only[nc]at*);(try simp only[am,SS,sa,az]at*))
 all_goals first|exact Zb|exact⟨Zb,Zb⟩|omega|(show aw _ _=true;kernel_rfl)|exact rfl|trace_state
abbrev Ia0:dr:=dW (fun F f=>match f with|132=>dp F|_=>fun _=>none) (by
 intro f;dsimp only;split;exact eD;exact dD)
def iI:EC:=fun F=>fun
 |[.agg [.s 2 es]]=>some (fun _=>Rw [tI,tI] es/\es.length<=1099511627776,[.agg [.s 2 es]])
 |_=>none
theorem rF:ec 268 iI:=by
 intro _ _ _ h hp;dsimp only[iI,F0]at h;split at h<;>cases h
 rename_i es;obtain⟨hw,hl⟩:=hp;have hs:=hw.scal rfl;refine cb Ia0 Tryz.func268 ?_
 exact zq0
def dM:EC:=fun F=>fun
 |[.one (.s 2 es)]=>some (fun _=>Rw [tI,tI] es/\es.length<=1099511627776,[.one (.s 2 es)])
 |_=>none
theorem gN:ec 134 dM:=by
 intro _ _ _ h hp;dsimp only[dM,F0]at h;split at h<;>cases h
 rename_i es;obtain⟨hw,hl⟩:=hp;have hs:=hw.scal rfl;refine cb Ia0 Tryz.func134 ?_
 exact zq0
def gu:EC:=fun F=>fun
 |[.agg [.v (.int Za r),.s 3 qs]]=>some (fun _=>Rw [tI,tI,tI] qs/\qs.length<=1099511627776,[.agg [.i r,.s 3 qs]])
 |_=>none
theorem np:ec 137 gu:=by
 intro _ _ _ h hp;dsimp only[gu,F0]at h;split at h<;>cases h
 rename_i r qs;obtain⟨hw,hl⟩:=hp;have hs:=hw.scal rfl;refine cb Ia0 Tryz.func137 ?_
 exact zq0
def Tryz.laysC15_ren:Go.Shelf.Ren:=⟨fun|15=>328|n=>n,fun|22=>24|3=>3|4=>4|n=>n,fun|n=>n⟩
theorem Tryz.laysC15:Lays2.n15 Tryz.prog Tryz.laysC15_ren:=⟨by kernel_rfl,Tryz.func328.trans (congrArg some (by kernel_rfl)),Tryz.underlying3,Tryz.isAgg3,Tryz.sizeOf3,Tryz.zeroValue3,Tryz.underlying4,Tryz.isAgg4,Tryz.sizeOf4,Tryz.zeroValue4,Tryz.underlying24,Tryz.isAgg24,Tryz.sizeOf24,Tryz.zeroValue24,by kernel_rfl⟩
def ez:EC:=fun F=>fun
 |[.one (.s 1 l)]=>some (fun _=>Rw [tI] l/\l.length<=1099511627776,[.one (.s 1 l)])
 |_=>none
theorem mB:ec 328 ez:=by
 intro _ _ _ h hp;dsimp only[ez,F0]at h;split at h<;>cases h
 rename_i l;exact Fg (Any.slices_Clone_int_nil Tryz.laysC15) (Any.slices_Clone_int_zero Tryz.laysC15) (Any.slices_Clone_int Tryz.laysC15) l hp
def eX:EC:=fun F=>fun
 |[.agg [.s 1 cs,.s 1 us]]=>some (fun _=>Rw [.sl [tI]] cs/\Rw [tB] us/\av cs<=1099511627776/\av us<=1099511627776,[.agg [.s 1 cs,.s 1 us]])
 |_=>none
theorem kU:ec 267 eX:=by
 intro _ _ _ h hp;dsimp only[eX,F0]at h;split at h<;>cases h
 rename_i cs us;obtain⟨hc,hu,hn,hm⟩:=hp;have hs:=hu.scal rfl;have hl1:=aS (es:=cs);have hl2:=aS (es:=us);refine cb Ia0 Tryz.func267 ?_
 intro O r F hO hr hF;cbv
 repeat' first|apply Zd|(apply cS<;>intro hb<;>cbv)|(refine⟨[2,3,12,13,14],[2,3],Int×af,fun s_=>match s_ with|(i,out)=>[.reg 14 (.j i),.leaf 3 0 ⟨0,0,none,.own (.s 1 out)⟩],fun s_=>match s_ with|(i,out)=>0<=i/\i<=(cs.length:Int)/\out=cs.take i.toNat,fun s_=>match s_ with|(i,out)=>cs.length-i.toNat,⟨(0,[]),?_,?_⟩,?_⟩;rotate_left;(focus (cbv;done));intro s_ hi;obtain⟨i,out⟩:=s_;replace hi:0<=i/\i<=(cs.length:Int)/\out=cs.take i.toNat:=hi;obtain⟨i0,i1,i2⟩:=hi;cbv)|(refine ah (O.ar .add Za i 1,O.cat out [[.s 1 (O.gs cs i 0)]]) ?_ ?_ ?_;focus (cbv;done))
 all_goals(subst hO hr hF;(try simp only[nc]at*);(try simp only[am,SS,sa,az]at*);(try rw[dq (by omega) (by omega)]);(try(have hol:out.length=i.toNat:=(by rw[i2,Zg];omega)));(try(have hsc:=qP hc i0 (by assumption);have hsl:=aS (es:=aO cs i 0))))
 all_goals first|exact hs|omega|exact fQ|(show aw _ _=true;kernel_rfl)|exact⟨by(first|assumption|exact Rw.sub (by first|assumption|exact Rw.sub (by assumption) (by omega) rfl) (by omega) rfl),by omega⟩|(simp only[Zl,Zj];omega)|(rw[i2];exact(kG hc i0 (by assumption)).symm)|(rw[i2,ji (by omega)];rfl)|exact⟨trivial,trivial⟩|trivial|exact rfl|trace_state
abbrev Ia1:dr:=dW (fun F f=>match f with|267=>eX F|268=>iI F|328=>ez F|_=>fun _=>none) (by
 intro f;dsimp only;split;exact kU;exact rF;exact mB;exact dD)
def gB:EC:=fun F=>fun
 |[.agg [.s 1 cs,.s 1 us,.s 2 es]]=>some (fun _=>Rw [.sl [tI]] cs/\Rw [tB] us/\Rw [tI,tI] es/\av cs<=1099511627776/\av us<=1099511627776/\av es<=1099511627776,[.agg [.s 1 cs,.s 1 us,.s 2 es]])
 |_=>none
theorem pv:ec 150 gB:=by
 intro _ _ _ h hp;dsimp only[gB,F0]at h;split at h<;>cases h
 rename_i cs us es;obtain⟨hc,hu,he,hn,hm,hk⟩:=hp;have hl:=aS (es:=es);refine cb Ia1 Tryz.func150 ?_
 intro O r F hO hr hF;cbv
 repeat' first|apply Zd|(apply cS<;>intro hb<;>cbv)
 all_goals(subst hO hr hF;(try simp only[nc]at*);(try simp only[am,SS,sa,az]at*))
 all_goals first|(show aw _ _=true;kernel_rfl)|exact⟨hc,hu,hn,hm⟩|exact⟨he,by omega⟩|exact⟨trivial,trivial⟩|trivial|exact rfl|trace_state
def jH:EC:=fun F=>fun
 |[.agg [.v (.int Za k),.v (.int Za m),.s 1 cs]]=>some (fun _=>Rw [tI] cs/\cs.length<=1099511627776,[.agg [.i k,.i m,.s 1 cs]])
 |_=>none
theorem tN:ec 252 jH:=by
 intro _ _ _ h hp;dsimp only[jH,F0]at h;split at h<;>cases h
 rename_i k m cs;obtain⟨hw,hl⟩:=hp;have hs:=hw.scal rfl;refine cb Ia1 Tryz.func252 ?_
 exact zq0
abbrev Ia2:dr:=dW (fun F f=>match f with|150=>gB F|132=>dp F|252=>jH F|_=>fun _=>none) (by
 intro f;dsimp only;split;exact pv;exact eD;exact tN;exact dD)
def dk:EC:=fun F=>fun
 |[.agg [.s 1 cs,.s 1 us,.s 2 es,.v (.int Za c),.s 1 rs]]=>some (fun _=>Rw [.sl [tI]] cs/\Rw [tB] us/\Rw [tI,tI] es/\Rw [tI] rs/\av cs<=1099511627776/\av us<=1099511627776/\av es<=1099511627776/\av rs<=1099511627776,[.agg [.s 1 cs,.s 1 us,.s 2 es,.i c,.s 1 rs]])
 |_=>none
theorem eU:ec 133 dk:=by
 intro _ _ _ h hp;dsimp only[dk,F0]at h;split at h<;>cases h
 rename_i cs us es c rs;obtain⟨hc,hu,he,hr,hn,hm,hk,hl⟩:=hp;have l1:=aS (es:=rs);have hs:=hr.scal rfl;refine cb Ia2 Tryz.func133 ?_
 intro O r F hO hr hF;cbv
 repeat' first|apply Zd|(apply cS<;>intro hb<;>cbv)
 all_goals(subst hO hr hF;(try simp only[nc]at*);(try simp only[am,SS,sa,az]at*))
 all_goals first|(show aw _ _=true;kernel_rfl)|exact hs|exact⟨hc,hu,he,hn,hm,hk⟩|exact⟨hr,by omega⟩|exact⟨trivial,trivial⟩|trivial|(simp only[Zl];omega)|exact rfl|done
def kn:EC:=fun F=>fun
 |[.agg [.v (.int Za k),.v (.int Za m),.s 1 cs,.v (.int Za p),.v (.int Za n)]]=>some (fun _=>Rw [tI] cs/\cs.length<=1099511627776,[.agg [.i k,.i m,.s 1 cs,.i p,.i n]])
 |_=>none
theorem uR:ec 138 kn:=by
 intro _ _ _ h hp;dsimp only[kn,F0]at h;split at h<;>cases h
 rename_i k m cs p n;obtain⟨hw,hl⟩:=hp;have hs:=hw.scal rfl;refine cb Ia2 Tryz.func138 ?_
 exact zq0
abbrev Ia3:dr:=dW (fun F f=>match f with|132=>dp F|_=>fun _=>none) (by
 intro f;dsimp only;split;exact eD;exact dD)
def d6:EC:=fun F=>fun
 |[.agg [.s 1 ls]]=>some (fun _=>Rw [.sl [tI]] ls/\av ls<=1099511627776,[.agg [.s 1 ls]])
 |_=>none
theorem iw:ec 135 d6:=by
 intro _ _ _ h hp;dsimp only[d6,F0]at h;split at h<;>cases h
 rename_i ls;obtain⟨hc,hn⟩:=hp;have hl1:=aS (es:=ls);refine cb Ia3 Tryz.func135 ?_
 intro O r F hO hr hF;cbv
 repeat' first|apply Zd|(apply cS<;>intro hb<;>cbv)|(refine⟨[2,3,8,9,10],[2,3],Int×af,fun s_=>match s_ with|(i,out)=>[.reg 10 (.j i),.leaf 3 0 ⟨0,0,none,.own (.s 1 out)⟩],fun s_=>match s_ with|(i,out)=>0<=i/\i<=(ls.length:Int)/\out=ls.take i.toNat,fun s_=>match s_ with|(i,out)=>ls.length-i.toNat,⟨(0,[]),?_,?_⟩,?_⟩;rotate_left;(focus (cbv;done));intro s_ hi;obtain⟨i,out⟩:=s_;replace hi:0<=i/\i<=(ls.length:Int)/\out=ls.take i.toNat:=hi;obtain⟨i0,i1,i2⟩:=hi;cbv)|(refine ah (O.ar .add Za i 1,O.cat out [[.s 1 (O.gs ls i 0)]]) ?_ ?_ ?_;focus (cbv;done))|(refine ah (O.ar .add Za i 1,O.cat out [[.s 1 (O.cat [] (O.gs ls i 0))]]) ?_ ?_ ?_;focus (cbv;done))
 all_goals(subst hO hr hF;(try simp only[nc]at*);(try simp only[am,SS,sa,az]at*);(try rw[dq (by omega) (by omega)]);(try(have hol:out.length=i.toNat:=(by rw[i2,Zg];omega)));(try(have hsc:=qP hc i0 (by assumption);have hsl:=aS (es:=aO ls i 0))))
 all_goals first
  | (show(_:List DV)=_
     first
      |exact rfl
      |(rw[i2,ji (by omega)];rfl)
      |(rw[i2,k2,ji (by omega),ji (by omega)];rfl)
      |done)
  |omega
  |exact fQ
  |(show aw _ _=true;kernel_rfl)
  |exact Rw.scal (fs:=[tI]) (by(first|assumption|exact Rw.sub (by first|assumption|exact Rw.sub (by assumption) (by omega) rfl) (by omega) rfl)) rfl
  |exact Rw.scal (fs:=[tI,tI]) (by(first|assumption|exact Rw.sub (by first|assumption|exact Rw.sub (by assumption) (by omega) rfl) (by omega) rfl)) rfl
  |exact⟨by(first|assumption|exact Rw.sub (by first|assumption|exact Rw.sub (by assumption) (by omega) rfl) (by omega) rfl),by omega⟩
  |(simp only[Zl,Zj];omega)
  |(rw[i2];exact(kG hc i0 (by assumption)).symm)
  |(rw[i2,Z3];exact(kG hc i0 (by assumption)).symm)
  |exact⟨trivial,trivial⟩
  |trivial
  |exact rfl
  |done
def gq:EC:=fun F=>fun
 |[.agg [.s 1 b,.s 1 x]]=>some (fun _=>Rw [.sl [tI,tI]] b/\Rw [.sl [tI]] x/\av b<=1099511627776/\av x<=1099511627776,[.agg [.s 1 b,.s 1 x]])
 |_=>none
theorem nm:ec 136 gq:=by
 intro _ _ _ h hp;dsimp only[gq,F0]at h;split at h<;>cases h
 rename_i b x;obtain⟨wb,wx,nb,nx⟩:=hp;have hl1:=aS (es:=b);have hl2:=aS (es:=x);refine cb Ia3 Tryz.func136 ?_
 intro O r F hO hr hF;cbv
 repeat' first|apply Zd|(apply cS<;>intro hb<;>cbv)|(refine⟨[1,2,3,10,11,12],[1,2,3],Int×af,fun s_=>match s_ with|(i,out)=>[.reg 12 (.j i),.leaf 3 0 ⟨0,0,none,.own (.s 1 out)⟩],fun s_=>match s_ with|(i,out)=>0<=i/\i<=(b.length:Int)/\out=b.take i.toNat,fun s_=>match s_ with|(i,out)=>b.length-i.toNat,⟨(0,[]),?_,?_⟩,?_⟩;rotate_left;(focus (cbv;done));intro s_ hi;obtain⟨i,out⟩:=s_;replace hi:0<=i/\i<=(b.length:Int)/\out=b.take i.toNat:=hi;obtain⟨i0,i1,i2⟩:=hi;cbv)|(refine⟨[2,3,26,27,28],[2,3],Int×af,fun s_=>match s_ with|(k,ou2)=>[.reg 28 (.j k),.leaf 3 1 ⟨0,0,none,.own (.s 1 ou2)⟩],fun s_=>match s_ with|(k,ou2)=>0<=k/\k<=(x.length:Int)/\ou2=x.take k.toNat,fun s_=>match s_ with|(k,ou2)=>x.length-k.toNat,⟨(0,[]),?_,?_⟩,?_⟩;rotate_left;(focus (cbv;done));intro s_ hk;obtain⟨k,ou2⟩:=s_;replace hk:0<=k/\k<=(x.length:Int)/\ou2=x.take k.toNat:=hk;obtain⟨k0,k1,k2⟩:=hk;cbv)|(refine ah (O.ar .add Za i 1,O.cat out [[.s 2 (O.cat [] (O.gs b i 0))]]) ?_ ?_ ?_;focus (cbv;done))|(refine ah (O.ar .add Za k 1,O.cat ou2 [[.s 1 (O.gs x k 0)]]) ?_ ?_ ?_;focus (cbv;done))|(refine ah (O.ar .add Za k 1,O.cat ou2 [[.s 1 (O.cat [] (O.gs x k 0))]]) ?_ ?_ ?_;focus (cbv;done))
 all_goals(subst hO hr hF;(try simp only[nc]at*);(try simp only[am,SS,sa,az]at*);(try rw[dq (by omega) (by omega)]);(try(have hol:out.length=i.toNat:=(by rw[i2,Zg];omega)));(try(have hok:ou2.length=k.toNat:=(by rw[k2,Zg];omega)));(try(have hsc:=qP wb i0 (by assumption);have hsl:=aS (es:=aO b i 0)));(try(have hsd:=qP wx k0 (by assumption);have hsm:=aS (es:=aO x k 0))))
 all_goals first
  | (show(_:List DV)=_
     first
      |exact rfl
      |(rw[i2,ji (by omega)];rfl)
      |(rw[i2,k2,ji (by omega),ji (by omega)];rfl)
      |done)
  |omega
  |exact fQ
  |(show aw _ _=true;kernel_rfl)
  |exact Rw.scal (fs:=[tI]) (by(first|assumption|exact Rw.sub (by first|assumption|exact Rw.sub (by assumption) (by omega) rfl) (by omega) rfl)) rfl
  |exact Rw.scal (fs:=[tI,tI]) (by(first|assumption|exact Rw.sub (by first|assumption|exact Rw.sub (by assumption) (by omega) rfl) (by omega) rfl)) rfl
  |exact⟨by(first|assumption|exact Rw.sub (by first|assumption|exact Rw.sub (by assumption) (by omega) rfl) (by omega) rfl),by omega⟩
  |(simp only[Zl,Zj];omega)
  |(rw[i2,Z3];exact(kG wb i0 (by assumption)).symm)
  |(rw[k2];exact(kG wx k0 (by assumption)).symm)
  |(rw[k2,Z3];exact(kG wx k0 (by assumption)).symm)
  |exact⟨trivial,trivial⟩
  |trivial
  |exact rfl
  |done
abbrev Ia4:dr:=dW (fun F f=>match f with|133=>dk F|134=>dM F|135=>d6 F|136=>gq F|137=>gu F|138=>kn F|_=>fun _=>none) (by
 intro f;dsimp only;split;exact eU;exact gN;exact iw;exact nm;exact np;exact uR;exact dD)
def gp:EC:=fun F=>fun
 |[.agg hl_]=>hL hl_ fun a0 a1 a2 a3 a4 a5 a6 a7 a8 a9 aA aB aC aD aE aF aG aH aI aJ aK aL aM aN=>(fun _=>mZ a0 a1 a2 a4 a5 a6 a7 a8 a9 aA aB aD aL,[.agg (OR a0 a1 a2 a3 a4 a5 a6 a7 a8 a9 aA aB aC aD aE aF aG aH aI aJ aK aL aM aN)])
 |_=>none
theorem nk:ec 36 gp:=by
 intro _ _ _ h hp;dsimp only[gp,F0,hL]at h;split at h;rotate_left;cases h;split at h<;>cases h
 rename_i a0 a1 a2 a3 a4 a5 a6 a7 a8 a9 aA aB aC aD aE aF aG aH aI aJ aK aL aM aN;have hr0:=hp.r0;have hc0:=hp.c0;have hl0:=aS (es:=a0);have hr1:=hp.r1;have hc1:=hp.c1;have hl1:=aS (es:=a1);have hr2:=hp.r2;have hc2:=hp.c2;have hl2:=aS (es:=a2);have hr4:=hp.r4;have hc4:=hp.c4;have hl4:=aS (es:=a4);have hr5:=hp.r5;have hc5:=hp.c5;have hl5:=aS (es:=a5);have hr6:=hp.r6;have hc6:=hp.c6;have hl6:=aS (es:=a6);have hr7:=hp.r7;have hc7:=hp.c7;have hl7:=aS (es:=a7);have hr8:=hp.r8;have hc8:=hp.c8;have hl8:=aS (es:=a8);have hr9:=hp.r9;have hc9:=hp.c9;have hl9:=aS (es:=a9);have hr10:=hp.r10;have hc10:=hp.c10;have hl10:=aS (es:=aA);have hr11:=hp.r11;have hc11:=hp.c11;have hl11:=aS (es:=aB);have hr13:=hp.r13;have hc13:=hp.c13;have hl13:=aS (es:=aD);have hr21:=hp.r21;have hc21:=hp.c21;have hl21:=aS (es:=aL);have hs5:=hr5.scal rfl;have hs6:=hr6.scal rfl;have hs7:=hr7.scal rfl;have hs8:=hr8.scal rfl;refine cb Ia4 Tryz.func36 ?_
 intro O r F hO hr hF;cbv
 repeat' first|apply Zd|(apply cS<;>intro hb<;>cbv)|(refine⟨[1,2,3,32,33,34],[1,2,3],Int×af,fun s_=>match s_ with|(i,out)=>[.reg 34 (.j i),.leaf 3 9 ⟨0,0,none,.own (.s 1 out)⟩],fun s_=>match s_ with|(i,out)=>0<=i/\i<=(a9.length:Int)/\out=a9.take i.toNat,fun s_=>match s_ with|(i,out)=>a9.length-i.toNat,⟨(0,[]),?_,?_⟩,?_⟩;rotate_left;(focus (cbv;done));intro s_ hi;obtain⟨i,out⟩:=s_;replace hi:0<=i/\i<=(a9.length:Int)/\out=a9.take i.toNat:=hi;obtain⟨i0,i1,i2⟩:=hi;cbv)|(refine ah (O.ar .add Za i 1,O.cat out [[.s 1 (O.gs a9 i 0)]]) ?_ ?_ ?_;focus (cbv;done))
 all_goals(subst hO hr hF;(try simp only[nc]at*);(try simp only[am,SS,sa,az]at*);(try rw[dq (by omega) (by omega)]);(try(have hol:out.length=i.toNat:=(by rw[i2,Zg];omega)));(try(have hsc:=qP hr9 i0 (by assumption);have hsl:=aS (es:=aO a9 i 0))))
 all_goals first
  | (show(_:List DV)=_
     first
      |exact rfl
      |(rw[i2,ji (by omega)];rfl)
      |done)
  |omega
  |exact fQ
  |(show aw _ _=true;kernel_rfl)
  |exact hs5
  |exact hs6
  |exact hs7
  |exact hs8
  |exact⟨hr0,hr1,hr2,hr4,by omega,by omega,by omega,by omega⟩
  |exact⟨hr5,by omega⟩
  |exact⟨hr10,hr11,by omega,by omega⟩
  |exact⟨hr13,by omega⟩
  |exact⟨hr21,by omega⟩
  |exact⟨sr hr9 i0 (by assumption),by omega⟩
  |(simp only[Zl,Zj];omega)
  |(rw[i2];exact(kG hr9 i0 (by assumption)).symm)
  |exact⟨trivial,trivial⟩
  |trivial
  |exact rfl
  |done
abbrev N5:dr:=dW (fun F f=>match f with|31=>iD F|32=>kf F|33=>ax F|34=>ki F|35=>jt F|_=>fun _=>none) (by
 intro f;dsimp only;split;exact rA;exact uL;exact aT;exact uO;exact tx;exact dD)
def nV:EC:=fun F=>fun
 |[.one (.v (.int Za p)),.one (.v (.int Za f)),.one (.v (.int Za t)),.one (.v (.int Za l)),.one (.s 1 rs)]=>some (fun _=>Rw [tI] rs/\rs.length<=1099511627776,[.agg (OR (F.hnC p f t l rs) (F.hnU p f t l rs) (F.hnE p f t l rs) 0 (F.hnR p f t l rs) (F.hnF p f t l rs) [] [] [] (F.hnK p f t l rs) (F.hnM p f t l rs) (F.hnI p f t l rs) (F.hnQ p f t l rs) [] 0 0 (F.hnL p f t l rs) (F.hnN p f t l rs) false 0 0 [] 0 0),.k (F.hnB p f t l rs)])
 |_=>none
theorem uJ:ec 10 nV:=by
 intro _ _ _ h hp;dsimp only[nV,F0]at h;split at h<;>cases h
 rename_i p f t l rs;obtain⟨hr,hl⟩:=hp;refine cb N5 Tryz.func10 ?_
 intro O r F hO hr hF;cbv
 repeat' first|apply Zd|(apply cS<;>intro hb<;>cbv)|(refine⟨[2,10,18,19],[10,18],Int×af,fun s_=>match s_ with|(i,out)=>[.reg 19 (.j i),.leaf 18 9 ⟨0,0,none,.own (.s 1 out)⟩],fun s_=>match s_ with|(i,out)=>0<=i/\i<=t/\out=Zq i.toNat [.s 1 cnL],fun s_=>match s_ with|(i,out)=>(t-i).toNat,⟨(0,[]),?_,?_⟩,?_⟩;rotate_left;(focus (cbv;done));intro s_ hi;obtain⟨i,out⟩:=s_;replace hi:0<=i/\i<=t/\out=Zq i.toNat [.s 1 cnL]:=hi;obtain⟨i0,i1,i2⟩:=hi;cbv)|(refine ah (O.ar .add Za i 1,O.cat out [[.s 1 F.cnL]]) ?_ ?_ ?_;focus (cbv;done))
 all_goals(subst hO hr hF;(try simp only[nc]at*);(try simp only[am,SS,sa,az]at*);(try(have hn:=bi.1 (‹inR t 1 4=true›)));(try rw[dq (by omega) (by omega)]))
 all_goals first
  | (show(_:List DV)=_
     first
      | (have q:hnB p f t l rs=true:=OM.2 ⟨by assumption,by assumption,by assumption⟩
         have w:=ON q;have u:=HE (OM.1 q).1;exact Mp (u.1.trans w.1.symm) (u.2.1.trans w.2.1.symm) (u.2.2.1.trans w.2.2.1.symm) (u.2.2.2.trans w.2.2.2.1.symm) w.2.2.2.2.1.symm (by rw[w.2.2.2.2.2.1,i2];congr 1;omega) w.2.2.2.2.2.2.1.symm w.2.2.2.2.2.2.2.1.symm w.2.2.2.2.2.2.2.2.1.symm w.2.2.2.2.2.2.2.2.2.1.symm w.2.2.2.2.2.2.2.2.2.2.symm q.symm)
      | (have q:hnB p f t l rs=false:=adh (by rintro⟨z1,z2,z3⟩;simp_all)
         have w:=Tu q;exact Mp w.1.symm w.2.1.symm w.2.2.1.symm w.2.2.2.1.symm w.2.2.2.2.1.symm w.2.2.2.2.2.1.symm w.2.2.2.2.2.2.1.symm w.2.2.2.2.2.2.2.1.symm w.2.2.2.2.2.2.2.2.1.symm w.2.2.2.2.2.2.2.2.2.1.symm w.2.2.2.2.2.2.2.2.2.2.symm q.symm)
      |done)
  | (show(_:af)=_
     first
      |(rw[i2];exact Is i0)
      |exact rfl
      |done)
  |exact⟨hr,by omega⟩
  |omega
  |(show aw _ _=true;kernel_rfl)
  |(rw[i2,Xv];exact⟨by simp only[Zj,Zl];omega,by simp only[Zj,Zl];omega⟩)
  |exact⟨Zb,Zb⟩
  |trivial
  |trace_state
end Go.V