/- Contracts. -/
import Derived.Test.YtcbcfelbafccpaaGreatXM0
import Derived.Test.YtcbcfelbafccpaaGreatXW3
set_option linter.all false
open Go
open And renaming intro->Zc
open IntKind renaming i64->Za
open List renaming length_nil->Zs,replicate->Zk,length_replicate->YX,length_cons->Zr,length_take->Zi,nil_append->ZS
open True renaming intro->Zd
namespace Go.V
open Go Go.Proofs
set_option maxRecDepth 1000000
set_option maxHeartbeats 8000000
abbrev KA1:dq:=dP (fun F f=>match f with|19=>ah F|52=>ah F|_=>fun _=>none) (by
 intro f;dsimp only;split;exact aw;exact be;exact dy)
def fO:EC:=fun F=>fun
 |[.agg [.s 1 cs,.s 1 us]]=>some (fun _=>Rw [.sl [tI]] cs/\Rw [tB] us,[.k (F.framesOk cs us)])
 |_=>none
def mI:ec 122 fO:=by
 intro _ _ _ h hp;dsimp only[fO,F0]at h;split at h<;>cases h
 rename_i cs us;obtain⟨hc,hu⟩:=hp;have hcw:=hc.wf;have huw:=hu.wf;have hlen:=hc.1;unfold maxLen at hlen;refine cb KA1 Tryz.func122 ?_
 intro O r F hO hr hF;cbv
 repeat' first|apply Zc|(apply cN<;>intro hb<;>cbv)|(refine⟨[1,22,23,24],[1],Int,fun i=>[.reg 24 (.j i)],fun i=>0<=i/\i<=((cs.length:Nat):Int)/\upto (iO cs us) i,fun i=>(cs.length)-i.toNat,⟨0,?_,?_⟩,?_⟩;rotate_left;(focus (cbv;done));intro i hi;replace hi:0<=i/\i<=((cs.length:Nat):Int)/\upto (iO cs us) i:=hi;obtain⟨i0,i1,i2⟩:=hi;cbv)|(refine ai (O.ar .add Za i 1) ?_ ?_ ?_;focus (cbv;done))|(refine⟨[1,3,22,23,24,32,33,34],[1],Int,fun k=>[.reg 34 (.j k)],fun k=>0<=k/\k<=(((O.gs cs i 0).length:Nat):Int)/\upto (nz cs us i) k,fun k=>((O.gs cs i 0).length)-k.toNat,⟨0,?_,?_⟩,?_⟩;rotate_left;(focus (cbv;done));intro k hk;replace hk:0<=k/\k<=(((O.gs cs i 0).length:Nat):Int)/\upto (nz cs us i) k:=hk;obtain⟨k0,k1,k2⟩:=hk;cbv)|(refine ai (O.ar .add Za k 1) ?_ ?_ ?_;focus (cbv;done))
 all_goals(subst hO hr hF;(try simp only[nc]at*);(try simp only[am,SS,sa,az]at*);(try rw[di Uc Uc]))
 all_goals first|omega|exact ga|exact bR|contradiction|exact au (NB Ud).symm|exact au (NC Uc).symm|exact au (ND i0 Uc Uc).symm|exact au (GG i0 Uc k0 Uc (.inl Ud)).symm|exact au (GG i0 Uc k0 Uc (.inr ⟨Ud,Ud⟩)).symm|exact au (B8 Ud Uc i2 Uc).symm|exact bL i2 (GF Uc k2 Uc)|exact bL k2 (Gc Ud (by first|exact .inl Ud|exact .inr Ud))|trace_state
def jY:EC:=fun F=>fun
 |[.agg [.s 2 es],.one (.v (.int Za n))]=>some (fun _=>Rw [tI,tI] es,[.k (F.tableOk es n)])
 |_=>none
def uK:ec 123 jY:=by
 intro _ _ _ h hp;dsimp only[jY,F0]at h;split at h<;>cases h
 rename_i es n;have hlen:=hp.1;unfold maxLen at hlen;refine cb KA1 Tryz.func123 ?_
 intro O r F hO hr hF;cbv
 repeat' first|apply Zc|(apply cN<;>intro hb<;>cbv)|(refine⟨[1,2,8,9,10],[2],Int,fun i=>[.reg 10 (.j i)],fun i=>0<=i/\i<=((es.length:Nat):Int)/\upto (qg es n) i,fun i=>(es.length)-i.toNat,⟨0,?_,?_⟩,?_⟩;rotate_left;(focus (cbv;done));intro i hi;replace hi:0<=i/\i<=((es.length:Nat):Int)/\upto (qg es n) i:=hi;obtain⟨i0,i1,i2⟩:=hi;cbv)|(refine ai (O.ar .add Za i 1) ?_ ?_ ?_;focus (cbv;done))
 all_goals(subst hO hr hF;(try simp only[nc]at*);(try simp only[am,SS,sa,az]at*);(try rw[di Uc Uc]))
 all_goals first|omega|exact ga|exact bR|contradiction|exact au (C0 i2 Uc).symm|(simp only[bB,sW]at*;first|exact au (aaJ i0 Uc Uc).symm|exact bL i2 (Ii Uc))|trace_state
def dJ:EC:=fun F=>fun
 |[.one (.s 1 es)]=>some (fun _=>Rw [tI] es/\es.length<=1099511627776,[.one (.s 1 es)])
 |_=>none
def fK:ec 55 dJ:=by
 intro _ _ _ h hp;dsimp only[dJ,F0]at h;split at h<;>cases h
 rename_i es;obtain⟨hw,hl⟩:=hp;have hs:=hw.scal rfl;refine cb nB Tryz.func55 ?_
 intro O r F hO hr hF;cbv
 repeat' first|apply Zc|(apply cN<;>intro hb<;>cbv)
 all_goals(subst hO hr hF;(try simp only[nc]at*);(try simp only[am,SS,sa,az]at*))
 all_goals first|exact hs|trivial|(simp only[Zs];omega)|trace_state
abbrev KD4:dq:=dP (fun F f=>match f with|122=>fO F|123=>jY F|124=>eW F|_=>fun _=>none) (by
 intro f;dsimp only;split;exact mI;exact uK;exact jR;exact dy)
def fj:EC:=fun F=>fun
 |[.agg [.s 1 cs,.s 1 us,.s 2 es]]=>some (fun _=>Rw [.sl [tI]] cs/\Rw [tB] us/\Rw [tI,tI] es,[.k (F.machOk cs us es)])
 |_=>none
def lh:ec 81 fj:=by
 intro _ _ _ h hp;dsimp only[fj,F0]at h;split at h<;>cases h
 rename_i cs us es;obtain⟨hc,hu,ht⟩:=hp;have hm:=hu.1;unfold maxLen at hm;refine cb KD4 Tryz.func81 ?_
 intro O r F hO hr hF;cbv
 repeat' first|apply Zc|(apply cN<;>intro hb<;>cbv)|(refine⟨[1,21,22,23],[1],Int,fun i=>[.reg 23 (.j i)],fun i=>0<=i/\i<=((us.length:Nat):Int)/\upto (nJ us es) i,fun i=>(us.length)-i.toNat,⟨0,?_,?_⟩,?_⟩;rotate_left;(focus (cbv;done));intro i hi;replace hi:0<=i/\i<=((us.length:Nat):Int)/\upto (nJ us es) i:=hi;obtain⟨i0,i1,i2⟩:=hi;cbv)|(refine ai (O.ar .add Za i 1) ?_ ?_ ?_;focus (cbv;done))
 all_goals(subst hO hr hF;(try simp only[nc]at*);(try simp only[am,SS,sa,az]at*);(try simp only[Kc]at*);(try rw[di Uc Uc]);(try(have hfl:=rS (cs:=cs) (us:=us) Ud));(try(have htl:=CZ (es:=es) (n:=(us.length:Int)) Ud));(try(have htl:=CZ (es:=es) (n:=(cs.length:Int)) Ud)))
 all_goals first|omega|exact ga|exact bR|exact⟨hc,hu⟩|exact⟨ht,Uc⟩|exact au (LU (.inl Ud)).symm|exact au (OB Ud Ud).symm|exact au (OD i0 Uc Ud).symm|exact bL i2 (Hi Ud)|exact au (Ct Ud Ud i2 Uc).symm|trace_state
abbrev N1:dq:=dP (fun F f=>match f with|19=>ah F|52=>ah F|_=>fun _=>none) (by
 intro f;dsimp only;split;exact aw;exact be;exact dy)
def ig:EC:=fun F=>fun
 |[.one (.v (.int Za n))]=>some (fun _=>True,[.agg [.s 1 (F.fnC n),.s 1 (F.fnU n)],.k (F.inR n 1 32)])
 |_=>none
def rt:ec 101 ig:=by
 intro _ _ _ h hp;dsimp only[ig,F0]at h;split at h<;>cases h
 rename_i n;refine cb N1 Tryz.func101 ?_
 intro O r F hO hr hF;cbv
 repeat' first|apply Zc|(apply cN<;>intro hb<;>cbv)|(refine⟨[0,2,4,5],[2,4],Int×af,fun s_=>match s_ with|(i,out)=>[.reg 5 (.j i),.leaf 4 0 ⟨0,0,none,.own (.s 1 out)⟩],fun s_=>match s_ with|(i,out)=>0<=i/\i<=n/\out=Zk i.toNat [.s 1 xc],fun s_=>match s_ with|(i,out)=>(n-i).toNat,⟨(0,[]),?_,?_⟩,?_⟩;rotate_left;(focus (cbv;done));intro s_ hi;obtain⟨i,out⟩:=s_;replace hi:0<=i/\i<=n/\out=Zk i.toNat [.s 1 xc]:=hi;obtain⟨i0,i1,i2⟩:=hi;cbv)|(refine ai (O.ar .add Za i 1,O.cat out [[.s 1 (O.rep 16 [.i 0])]]) ?_ ?_ ?_;focus (cbv;done))
 all_goals(subst hO hr hF;(try simp only[nc]at*);(try simp only[am,SS,sa,az]at*);(try(have hn:=bB.1 (‹inR n 1 32=true›)));(try rw[di Uc Uc]))
 all_goals first
  | (show(_:List DV)=_
     first
      |(have q:=Lx (‹inR n 1 32=false›);exact Ei q.1.symm q.2.1.symm (by symm;assumption))
      |(have q:=nF (‹inR n 1 32=true›);exact Ei (by rw[q.1,i2];congr 1;omega) q.2.1.symm (by symm;assumption))
      |done)
  | (show(_:af)=_
     first
      |(rw[i2];exact HQ i0)
      |exact rfl
      |done)
  |omega
  |(show ay _ _=true;kernel_rfl)
  |(rw[i2,YX];exact⟨by simp only[Zr,Zs];omega,by simp only[Zr,Zs];omega⟩)
  |exact⟨Zd,Zd⟩
  |trivial
  |trace_state
def ju:EC:=fun F=>fun
 |[.one (.v (.int Za n))]=>some (fun _=>True,[.agg [.s 2 (F.tnE n)],.k (F.inR n 1 32)])
 |_=>none
def tN:ec 102 ju:=by
 intro _ _ _ h hp;dsimp only[ju,F0]at h;split at h<;>cases h
 rename_i n;refine cb N1 Tryz.func102 ?_
 intro O r F hO hr hF;cbv
 repeat' first|apply Zc|(apply cN<;>intro hb<;>cbv)
 all_goals(subst hO hr hF;(try simp only[nc]at*);(try simp only[am,SS,sa,az]at*);(try(have hn:=bB.1 (‹inR n 1 32=true›))))
 all_goals first
  | (show(_:List DV)=_
     first
      |(have q:=Lx (‹inR n 1 32=false›);exact L8 q.2.2.symm (by symm;assumption))
      |(have q:=nF (‹inR n 1 32=true›);exact L8 q.2.2.symm (by symm;assumption))
      |done)
  |omega
  |(show ay _ _=true;kernel_rfl)
  |exact⟨Zd,Zd⟩
  |trivial
  |trace_state
abbrev N2:dq:=dP (fun F f=>match f with|101=>ig F|102=>ju F|_=>fun _=>none) (by
 intro f;dsimp only;split;exact rt;exact tN;exact dy)
def gF:EC:=fun F=>fun
 |[.one (.v (.int Za p)),.one (.v (.int Za f))]=>some (fun _=>True,[.agg [.s 1 (F.mnC p f),.s 1 (F.mnU p f),.s 2 (F.mnE p f)],.k (F.mnB p f)])
 |_=>none
def pV:ec 54 gF:=by
 intro _ _ _ h hp;dsimp only[gF,F0]at h;split at h<;>cases h
 rename_i p f;refine cb N2 Tryz.func54 ?_
 intro O r F hO hr hF;cbv
 repeat' first|apply Zc|(apply cN<;>intro hb<;>cbv)
 all_goals(subst hO hr hF;(try simp only[nc]at*);(try simp only[am,SS,sa,az]at*))
 all_goals first
  | (show(_:List DV)=_
     first
      |(have q:=nM (‹inR f 1 32=true›) (‹inR p 1 32=true›);exact HU q.1.symm q.2.1.symm q.2.2.1.symm q.2.2.2.symm)
      |(have q:=AM (OM (‹inR f 1 32=false›):mnB p f=false);exact HU q.1.symm q.2.1.symm q.2.2.1.symm q.2.2.2.symm)
      |(have q:=AM (ON (‹inR p 1 32=false›):mnB p f=false);exact HU q.1.symm q.2.1.symm q.2.2.1.symm q.2.2.2.symm)
      |done)
  |omega
  |(show ay _ _=true;kernel_rfl)
  |exact⟨Zd,Zd⟩
  |trivial
  |trace_state
abbrev N3:dq:=dP (fun F f=>match f with|19=>ah F|52=>ah F|81=>fj F|_=>fun _=>none) (by
 intro f;dsimp only;split;exact aw;exact be;exact lh;exact dy)
def eg:EC:=fun F=>fun
 |[.agg [.s 1 cs,.s 1 us,.s 2 es,.v (.int Za c),.s 1 rs]]=>some (fun _=>Rw [.sl [tI]] cs/\Rw [tB] us/\Rw [tI,tI] es/\Rw [tI] rs,[.k (F.kerOk cs us es c rs)])
 |_=>none
def jd:ec 40 eg:=by
 intro _ _ _ h hp;dsimp only[eg,F0]at h;split at h<;>cases h
 rename_i cs us es c rs;obtain⟨hc,hu,ht,hr⟩:=hp;have hm:=hr.1;unfold maxLen at hm;refine cb N3 Tryz.func40 ?_
 intro O r F hO hr hF;cbv
 repeat' first|apply Zc|(apply cN<;>intro hb<;>cbv)|(refine⟨[1,6,7,8],[1],Int,fun i=>[.reg 8 (.j i)],fun i=>0<=i/\i<=((rs.length:Nat):Int)/\upto (Fb rs) i,fun i=>(rs.length)-i.toNat,⟨0,?_,?_⟩,?_⟩;rotate_left;(focus (cbv;done));intro i hi;replace hi:0<=i/\i<=((rs.length:Nat):Int)/\upto (Fb rs) i:=hi;obtain⟨i0,i1,i2⟩:=hi;cbv)|(refine ai (O.ar .add Za i 1) ?_ ?_ ?_;focus (cbv;done))
 all_goals(subst hO hr hF;(try simp only[nc]at*);(try simp only[am,SS,sa,az]at*);(try rw[di Uc Uc]))
 all_goals first
  | (show(_:List DV)=_
     first
      |exact au (Ps i0 Ud Ud).symm
      |exact au (JY Ud).symm
      |exact au (JZ (KD Uc)).symm
      |(refine au ?_;unfold kerOk;rw[show inR c 0 100000=true from by assumption,KE i2 Uc Uc];simp)
      |done)
  |omega
  |exact ga
  |exact bR
  |exact bL i2 (Pq Uc)
  |exact⟨hc,hu,ht⟩
  |trace_state
abbrev N4:dq:=dP (fun F f=>match f with|54=>gF F|40=>eg F|55=>dJ F|_=>fun _=>none) (by
 intro f;dsimp only;split;exact pV;exact jd;exact fK;exact dy)
def im:EC:=fun F=>fun
 |[.one (.v (.int Za p)),.one (.v (.int Za f)),.one (.s 1 rs)]=>some (fun _=>Rw [tI] rs/\rs.length<=1099511627776,[.agg [.s 1 (F.knC p f rs),.s 1 (F.knU p f rs),.s 2 (F.knE p f rs),.i 0,.s 1 (F.knR p f rs)],.k (F.knB p f rs)])
 |_=>none
def rC:ec 17 im:=by
 intro _ _ _ h hp;dsimp only[im,F0]at h;split at h<;>cases h
 rename_i p f rs;obtain⟨hr,hl⟩:=hp;have hs:=hr.scal rfl;refine cb N4 Tryz.func17 ?_
 intro O r F hO hr hF;cbv
 repeat' first|apply Zc|(apply cN<;>intro hb<;>cbv)
 all_goals(subst hO hr hF;(try simp only[nc]at*);(try simp only[am,SS,sa,az]at*))
 all_goals first
  | (show(_:List DV)=_
     first
      |(have q:=J1 (rs:=rs) (‹mnB p f=false›);have w:=LL q;exact HT w.1.symm w.2.1.symm w.2.2.1.symm w.2.2.2.symm q.symm)
      |(have q:=SJ (rs:=rs) (‹mnB p f=true›) Ud;have w:=G6 q;have u:=OO (acG q);have z:=nM u.1 u.2;exact HT (z.1.trans w.1.symm) (z.2.1.trans w.2.1.symm) (z.2.2.1.trans w.2.2.1.symm) w.2.2.2.symm q.symm)
      |(have q:=Oe (rs:=rs) (‹mnB p f=true›) Ud;have w:=LL q;exact HT w.1.symm w.2.1.symm w.2.2.1.symm w.2.2.2.symm q.symm)
      |done)
  |exact hs
  |exact⟨hr,Uc⟩
  |exact⟨Cu.1,Cu.2.1,Cu.2.2,hr⟩
  |omega
  |(show ay _ _=true;kernel_rfl)
  |(simp only[Zs];omega)
  |exact⟨Zd,Zd⟩
  |trivial
  |trace_state
def jV:EC:=fun F=>fun
 |[.one (.v (.int Za t))]=>some (fun _=>True,[.agg [.s 1 (F.mwB t),.s 1 (F.mwI t)],.k (F.inR t 1 4)])
 |_=>none
def uH:ec 18 jV:=by
 intro _ _ _ h hp;dsimp only[jV,F0]at h;split at h<;>cases h
 rename_i t;refine cb N1 Tryz.func18 ?_
 intro O r F hO hr hF;cbv
 repeat' first|apply Zc|(apply cN<;>intro hb<;>cbv)
 all_goals(subst hO hr hF;(try simp only[nc]at*);(try simp only[am,SS,sa,az]at*);(try(have hn:=bB.1 (‹inR t 1 4=true›))))
 all_goals first
  | (show(_:List DV)=_
     first
      |(have q:=Tm (‹inR t 1 4=false›);exact Ei q.1.symm q.2.symm (by symm;assumption))
      |(have q:=OQ (‹inR t 1 4=true›);exact Ei q.1.symm q.2.symm (by symm;assumption))
      |done)
  |omega
  |(show ay _ _=true;kernel_rfl)
  |exact⟨Zd,Zd⟩
  |trivial
  |trace_state
def jX:EC:=fun F=>fun
 |[.one (.v (.int Za q))]=>some (fun _=>True,[.agg [.i (F.qnR q),.s 3 []],.k (F.inR q 0 500)])
 |_=>none
def uJ:ec 20 jX:=by
 intro _ _ _ h hp;dsimp only[jX,F0]at h;split at h<;>cases h
 rename_i q;refine cb N1 Tryz.func20 ?_
 intro O r F hO hr hF;cbv
 repeat' first|apply Zc|(apply cN<;>intro hb<;>cbv)
 all_goals(subst hO hr hF;(try simp only[nc]at*);(try simp only[am,SS,sa,az]at*))
 all_goals first
  | (show(_:List DV)=_
     first
      |(have w:=aag (‹inR q 0 500=false›);exact Mf w.symm (by symm;assumption))
      |(have w:=Po (‹inR q 0 500=true›);exact Mf w.symm (by symm;assumption))
      |done)
  |(show ay _ _=true;kernel_rfl)
  |exact⟨Zd,Zd⟩
  |trivial
  |trace_state
def jm:EC:=fun F=>fun
 |[]=>some (fun _=>True,[.agg [.s 1 (F.cnL)]])
 |_=>none
def tA:ec 21 jm:=by
 intro _ _ _ h hp;dsimp only[jm,F0]at h;split at h<;>cases h
 refine cb nB Tryz.func21 ?_
 intro O r F hO hr hF;cbv
 repeat' first|apply Zc|(apply cN<;>intro hb<;>cbv)
 all_goals(subst hO hr hF;(try simp only[nc]at*);(try simp only[am,SS,sa,az]at*))
 all_goals first|exact Zd|exact⟨Zd,Zd⟩|omega|(show ay _ _=true;kernel_rfl)|exact rfl|trace_state
abbrev Ia0:dq:=dP (fun F f=>match f with|55=>dJ F|_=>fun _=>none) (by
 intro f;dsimp only;split;exact fK;exact dy)
def iu:EC:=fun F=>fun
 |[.agg [.s 2 es]]=>some (fun _=>Rw [tI,tI] es/\es.length<=1099511627776,[.agg [.s 2 es]])
 |_=>none
def rH:ec 119 iu:=by
 intro _ _ _ h hp;dsimp only[iu,F0]at h;split at h<;>cases h
 rename_i es;obtain⟨hw,hl⟩:=hp;have hs:=hw.scal rfl;refine cb Ia0 Tryz.func119 ?_
 exact zq0
def dK:EC:=fun F=>fun
 |[.one (.s 2 es)]=>some (fun _=>Rw [tI,tI] es/\es.length<=1099511627776,[.one (.s 2 es)])
 |_=>none
def gx:ec 57 dK:=by
 intro _ _ _ h hp;dsimp only[dK,F0]at h;split at h<;>cases h
 rename_i es;obtain⟨hw,hl⟩:=hp;have hs:=hw.scal rfl;refine cb Ia0 Tryz.func57 ?_
 exact zq0
def jy:EC:=fun F=>fun
 |[.agg [.v (.int Za r),.s 3 qs]]=>some (fun _=>Rw [tI,tI,tI] qs/\qs.length<=1099511627776,[.agg [.i r,.s 3 qs]])
 |_=>none
def tQ:ec 60 jy:=by
 intro _ _ _ h hp;dsimp only[jy,F0]at h;split at h<;>cases h
 rename_i r qs;obtain⟨hw,hl⟩:=hp;have hs:=hw.scal rfl;refine cb Ia0 Tryz.func60 ?_
 exact zq0
def Tryz.laysC15_ren:Go.Shelf.Ren:=⟨fun|15=>135|n=>n,fun|22=>24|3=>3|4=>4|n=>n,fun|n=>n⟩
def Tryz.laysC15:Lays2.n15 Tryz.prog Tryz.laysC15_ren:=⟨by kernel_rfl,Tryz.func135.trans (congrArg some (by kernel_rfl)),Tryz.underlying3,Tryz.isAgg3,Tryz.sizeOf3,Tryz.zeroValue3,Tryz.underlying4,Tryz.isAgg4,Tryz.sizeOf4,Tryz.zeroValue4,Tryz.underlying24,Tryz.isAgg24,Tryz.sizeOf24,Tryz.zeroValue24,by kernel_rfl⟩
def d9:EC:=fun F=>fun
 |[.one (.s 1 l)]=>some (fun _=>Rw [tI] l/\l.length<=1099511627776,[.one (.s 1 l)])
 |_=>none
def lS:ec 135 d9:=by
 intro _ _ _ h hp;dsimp only[d9,F0]at h;split at h<;>cases h
 rename_i l;exact ER (Any.slices_Clone_int_nil Tryz.laysC15) (Any.slices_Clone_int_zero Tryz.laysC15) (Any.slices_Clone_int Tryz.laysC15) l hp
def eP:EC:=fun F=>fun
 |[.agg [.s 1 cs,.s 1 us]]=>some (fun _=>Rw [.sl [tI]] cs/\Rw [tB] us/\bC cs<=1099511627776/\bC us<=1099511627776,[.agg [.s 1 cs,.s 1 us]])
 |_=>none
def kE:ec 118 eP:=by
 intro _ _ _ h hp;dsimp only[eP,F0]at h;split at h<;>cases h
 rename_i cs us;obtain⟨hc,hu,hn,hm⟩:=hp;have hs:=hu.scal rfl;have hl1:=bj (es:=cs);have hl2:=bj (es:=us);refine cb Ia0 Tryz.func118 ?_
 intro O r F hO hr hF;cbv
 repeat' first|apply Zc|(apply cN<;>intro hb<;>cbv)|(refine⟨[2,3,12,13,14],[2,3],Int×af,fun s_=>match s_ with|(i,out)=>[.reg 14 (.j i),.leaf 3 0 ⟨0,0,none,.own (.s 1 out)⟩],fun s_=>match s_ with|(i,out)=>0<=i/\i<=(cs.length:Int)/\out=cs.take i.toNat,fun s_=>match s_ with|(i,out)=>cs.length-i.toNat,⟨(0,[]),?_,?_⟩,?_⟩;rotate_left;(focus (cbv;done));intro s_ hi;obtain⟨i,out⟩:=s_;replace hi:0<=i/\i<=(cs.length:Int)/\out=cs.take i.toNat:=hi;obtain⟨i0,i1,i2⟩:=hi;cbv)|(refine ai (O.ar .add Za i 1,O.cat out [[.s 1 (O.gs cs i 0)]]) ?_ ?_ ?_;focus (cbv;done))
 all_goals(subst hO hr hF;(try simp only[nc]at*);(try simp only[am,SS,sa,az]at*);(try rw[di Uc Uc]);(try(have hol:out.length=i.toNat:=(by rw[i2,Zi];omega)));(try(have hsc:=qP hc i0 Ud;have hsl:=bj (es:=aO cs i 0))))
 all_goals first|exact hs|omega|exact ga|(show ay _ _=true;kernel_rfl)|exact⟨by(first|assumption|exact Rw.sub (by first|assumption|exact Rw.sub Ud Uc rfl) Uc rfl),Uc⟩|(simp only[Zs,Zr];omega)|(rw[i2];exact(ko hc i0 Ud).symm)|(rw[i2,iZ Uc];rfl)|exact⟨trivial,trivial⟩|trivial|exact rfl|trace_state
abbrev Ia1:dq:=dP (fun F f=>match f with|118=>eP F|119=>iu F|135=>d9 F|_=>fun _=>none) (by
 intro f;dsimp only;split;exact kE;exact rH;exact lS;exact dy)
def d8:EC:=fun F=>fun
 |[.agg [.s 1 cs,.s 1 us,.s 2 es]]=>some (fun _=>Rw [.sl [tI]] cs/\Rw [tB] us/\Rw [tI,tI] es/\bC cs<=1099511627776/\bC us<=1099511627776/\bC es<=1099511627776,[.agg [.s 1 cs,.s 1 us,.s 2 es]])
 |_=>none
def jS:ec 73 d8:=by
 intro _ _ _ h hp;dsimp only[d8,F0]at h;split at h<;>cases h
 rename_i cs us es;obtain⟨hc,hu,he,hn,hm,hk⟩:=hp;have hl:=bj (es:=es);refine cb Ia1 Tryz.func73 ?_
 intro O r F hO hr hF;cbv
 repeat' first|apply Zc|(apply cN<;>intro hb<;>cbv)
 all_goals(subst hO hr hF;(try simp only[nc]at*);(try simp only[am,SS,sa,az]at*))
 all_goals first|(show ay _ _=true;kernel_rfl)|exact⟨hc,hu,hn,hm⟩|exact⟨he,Uc⟩|exact⟨trivial,trivial⟩|trivial|exact rfl|trace_state
def jx:EC:=fun F=>fun
 |[.agg [.v (.int Za k),.v (.int Za m),.s 1 cs]]=>some (fun _=>Rw [tI] cs/\cs.length<=1099511627776,[.agg [.i k,.i m,.s 1 cs]])
 |_=>none
def tP:ec 103 jx:=by
 intro _ _ _ h hp;dsimp only[jx,F0]at h;split at h<;>cases h
 rename_i k m cs;obtain⟨hw,hl⟩:=hp;have hs:=hw.scal rfl;refine cb Ia1 Tryz.func103 ?_
 exact zq0
abbrev Ia2:dq:=dP (fun F f=>match f with|73=>d8 F|55=>dJ F|103=>jx F|_=>fun _=>none) (by
 intro f;dsimp only;split;exact jS;exact fK;exact tP;exact dy)
def dn:EC:=fun F=>fun
 |[.agg [.s 1 cs,.s 1 us,.s 2 es,.v (.int Za c),.s 1 rs]]=>some (fun _=>Rw [.sl [tI]] cs/\Rw [tB] us/\Rw [tI,tI] es/\Rw [tI] rs/\bC cs<=1099511627776/\bC us<=1099511627776/\bC es<=1099511627776/\bC rs<=1099511627776,[.agg [.s 1 cs,.s 1 us,.s 2 es,.i c,.s 1 rs]])
 |_=>none
def eM:ec 56 dn:=by
 intro _ _ _ h hp;dsimp only[dn,F0]at h;split at h<;>cases h
 rename_i cs us es c rs;obtain⟨hc,hu,he,hr,hn,hm,hk,hl⟩:=hp;have l1:=bj (es:=rs);have hs:=hr.scal rfl;refine cb Ia2 Tryz.func56 ?_
 intro O r F hO hr hF;cbv
 repeat' first|apply Zc|(apply cN<;>intro hb<;>cbv)
 all_goals(subst hO hr hF;(try simp only[nc]at*);(try simp only[am,SS,sa,az]at*))
 all_goals first|(show ay _ _=true;kernel_rfl)|exact hs|exact⟨hc,hu,he,hn,hm,hk⟩|exact⟨hr,Uc⟩|exact⟨trivial,trivial⟩|trivial|(simp only[Zs];omega)|exact rfl|done
def j3:EC:=fun F=>fun
 |[.agg [.v (.int Za k),.v (.int Za m),.s 1 cs,.v (.int Za p),.v (.int Za n)]]=>some (fun _=>Rw [tI] cs/\cs.length<=1099511627776,[.agg [.i k,.i m,.s 1 cs,.i p,.i n]])
 |_=>none
def uM:ec 61 j3:=by
 intro _ _ _ h hp;dsimp only[j3,F0]at h;split at h<;>cases h
 rename_i k m cs p n;obtain⟨hw,hl⟩:=hp;have hs:=hw.scal rfl;refine cb Ia2 Tryz.func61 ?_
 exact zq0
abbrev Ia3:dq:=dP (fun F f=>match f with|55=>dJ F|_=>fun _=>none) (by
 intro f;dsimp only;split;exact fK;exact dy)
def fk:EC:=fun F=>fun
 |[.agg [.s 1 ls]]=>some (fun _=>Rw [.sl [tI]] ls/\bC ls<=1099511627776,[.agg [.s 1 ls]])
 |_=>none
def li:ec 58 fk:=by
 intro _ _ _ h hp;dsimp only[fk,F0]at h;split at h<;>cases h
 rename_i ls;obtain⟨hc,hn⟩:=hp;have hl1:=bj (es:=ls);refine cb Ia3 Tryz.func58 ?_
 intro O r F hO hr hF;cbv
 repeat' first|apply Zc|(apply cN<;>intro hb<;>cbv)|(refine⟨[2,3,8,9,10],[2,3],Int×af,fun s_=>match s_ with|(i,out)=>[.reg 10 (.j i),.leaf 3 0 ⟨0,0,none,.own (.s 1 out)⟩],fun s_=>match s_ with|(i,out)=>0<=i/\i<=(ls.length:Int)/\out=ls.take i.toNat,fun s_=>match s_ with|(i,out)=>ls.length-i.toNat,⟨(0,[]),?_,?_⟩,?_⟩;rotate_left;(focus (cbv;done));intro s_ hi;obtain⟨i,out⟩:=s_;replace hi:0<=i/\i<=(ls.length:Int)/\out=ls.take i.toNat:=hi;obtain⟨i0,i1,i2⟩:=hi;cbv)|(refine ai (O.ar .add Za i 1,O.cat out [[.s 1 (O.gs ls i 0)]]) ?_ ?_ ?_;focus (cbv;done))|(refine ai (O.ar .add Za i 1,O.cat out [[.s 1 (O.cat [] (O.gs ls i 0))]]) ?_ ?_ ?_;focus (cbv;done))
 all_goals(subst hO hr hF;(try simp only[nc]at*);(try simp only[am,SS,sa,az]at*);(try rw[di Uc Uc]);(try(have hol:out.length=i.toNat:=(by rw[i2,Zi];omega)));(try(have hsc:=qP hc i0 Ud;have hsl:=bj (es:=aO ls i 0))))
 all_goals first
  | (show(_:List DV)=_
     first
      |exact rfl
      |(rw[i2,iZ Uc];rfl)
      |(rw[i2,k2,iZ Uc,iZ Uc];rfl)
      |done)
  |omega
  |exact ga
  |(show ay _ _=true;kernel_rfl)
  |exact Rw.scal (fs:=[tI]) (by(first|assumption|exact Rw.sub (by first|assumption|exact Rw.sub Ud Uc rfl) Uc rfl)) rfl
  |exact Rw.scal (fs:=[tI,tI]) (by(first|assumption|exact Rw.sub (by first|assumption|exact Rw.sub Ud Uc rfl) Uc rfl)) rfl
  |exact⟨by(first|assumption|exact Rw.sub (by first|assumption|exact Rw.sub Ud Uc rfl) Uc rfl),Uc⟩
  |(simp only[Zs,Zr];omega)
  |(rw[i2];exact(ko hc i0 Ud).symm)
  |(rw[i2,ZS];exact(ko hc i0 Ud).symm)
  |exact⟨trivial,trivial⟩
  |trivial
  |exact rfl
  |done
def jv:EC:=fun F=>fun
 |[.agg [.s 1 b,.s 1 x]]=>some (fun _=>Rw [.sl [tI,tI]] b/\Rw [.sl [tI]] x/\bC b<=1099511627776/\bC x<=1099511627776,[.agg [.s 1 b,.s 1 x]])
 |_=>none
def tO:ec 59 jv:=by
 intro _ _ _ h hp;dsimp only[jv,F0]at h;split at h<;>cases h
 rename_i b x;obtain⟨wb,wx,nb,nx⟩:=hp;have hl1:=bj (es:=b);have hl2:=bj (es:=x);refine cb Ia3 Tryz.func59 ?_
 intro O r F hO hr hF;cbv
 repeat' first|apply Zc|(apply cN<;>intro hb<;>cbv)|(refine⟨[1,2,3,10,11,12],[1,2,3],Int×af,fun s_=>match s_ with|(i,out)=>[.reg 12 (.j i),.leaf 3 0 ⟨0,0,none,.own (.s 1 out)⟩],fun s_=>match s_ with|(i,out)=>0<=i/\i<=(b.length:Int)/\out=b.take i.toNat,fun s_=>match s_ with|(i,out)=>b.length-i.toNat,⟨(0,[]),?_,?_⟩,?_⟩;rotate_left;(focus (cbv;done));intro s_ hi;obtain⟨i,out⟩:=s_;replace hi:0<=i/\i<=(b.length:Int)/\out=b.take i.toNat:=hi;obtain⟨i0,i1,i2⟩:=hi;cbv)|(refine⟨[2,3,26,27,28],[2,3],Int×af,fun s_=>match s_ with|(k,ou2)=>[.reg 28 (.j k),.leaf 3 1 ⟨0,0,none,.own (.s 1 ou2)⟩],fun s_=>match s_ with|(k,ou2)=>0<=k/\k<=(x.length:Int)/\ou2=x.take k.toNat,fun s_=>match s_ with|(k,ou2)=>x.length-k.toNat,⟨(0,[]),?_,?_⟩,?_⟩;rotate_left;(focus (cbv;done));intro s_ hk;obtain⟨k,ou2⟩:=s_;replace hk:0<=k/\k<=(x.length:Int)/\ou2=x.take k.toNat:=hk;obtain⟨k0,k1,k2⟩:=hk;cbv)|(refine ai (O.ar .add Za i 1,O.cat out [[.s 2 (O.cat [] (O.gs b i 0))]]) ?_ ?_ ?_;focus (cbv;done))|(refine ai (O.ar .add Za k 1,O.cat ou2 [[.s 1 (O.gs x k 0)]]) ?_ ?_ ?_;focus (cbv;done))|(refine ai (O.ar .add Za k 1,O.cat ou2 [[.s 1 (O.cat [] (O.gs x k 0))]]) ?_ ?_ ?_;focus (cbv;done))
 all_goals(subst hO hr hF;(try simp only[nc]at*);(try simp only[am,SS,sa,az]at*);(try rw[di Uc Uc]);(try(have hol:out.length=i.toNat:=(by rw[i2,Zi];omega)));(try(have hok:ou2.length=k.toNat:=(by rw[k2,Zi];omega)));(try(have hsc:=qP wb i0 Ud;have hsl:=bj (es:=aO b i 0)));(try(have hsd:=qP wx k0 Ud;have hsm:=bj (es:=aO x k 0))))
 all_goals first
  | (show(_:List DV)=_
     first
      |exact rfl
      |(rw[i2,iZ Uc];rfl)
      |(rw[i2,k2,iZ Uc,iZ Uc];rfl)
      |done)
  |omega
  |exact ga
  |(show ay _ _=true;kernel_rfl)
  |exact Rw.scal (fs:=[tI]) (by(first|assumption|exact Rw.sub (by first|assumption|exact Rw.sub Ud Uc rfl) Uc rfl)) rfl
  |exact Rw.scal (fs:=[tI,tI]) (by(first|assumption|exact Rw.sub (by first|assumption|exact Rw.sub Ud Uc rfl) Uc rfl)) rfl
  |exact⟨by(first|assumption|exact Rw.sub (by first|assumption|exact Rw.sub Ud Uc rfl) Uc rfl),Uc⟩
  |(simp only[Zs,Zr];omega)
  |(rw[i2,ZS];exact(ko wb i0 Ud).symm)
  |(rw[k2];exact(ko wx k0 Ud).symm)
  |(rw[k2,ZS];exact(ko wx k0 Ud).symm)
  |exact⟨trivial,trivial⟩
  |trivial
  |exact rfl
  |done
abbrev Ia4:dq:=dP (fun F f=>match f with|56=>dn F|57=>dK F|58=>fk F|59=>jv F|60=>jy F|61=>j3 F|_=>fun _=>none) (by
 intro f;dsimp only;split;exact eM;exact gx;exact li;exact tO;exact tQ;exact uM;exact dy)
def ez:EC:=fun F=>fun
 |[.agg hl_]=>hL hl_ fun a0 a1 a2 a3 a4 a5 a6 a7 a8 a9 aA aB aC aD aE aF aG aH aI aJ aK aL aM aN=>(fun _=>tz a0 a1 a2 a4 a5 a6 a7 a8 a9 aA aB aD aL,[.agg (LH a0 a1 a2 a3 a4 a5 a6 a7 a8 a9 aA aB aC aD aE aF aG aH aI aJ aK aL aM aN)])
 |_=>none
def jh:ec 22 ez:=by
 intro _ _ _ h hp;dsimp only[ez,F0,hL]at h;split at h;rotate_left;cases h;split at h<;>cases h
 rename_i a0 a1 a2 a3 a4 a5 a6 a7 a8 a9 aA aB aC aD aE aF aG aH aI aJ aK aL aM aN;have hr0:=hp.r0;have hc0:=hp.c0;have hl0:=bj (es:=a0);have hr1:=hp.r1;have hc1:=hp.c1;have hl1:=bj (es:=a1);have hr2:=hp.r2;have hc2:=hp.c2;have hl2:=bj (es:=a2);have hr4:=hp.r4;have hc4:=hp.c4;have hl4:=bj (es:=a4);have hr5:=hp.r5;have hc5:=hp.c5;have hl5:=bj (es:=a5);have hr6:=hp.r6;have hc6:=hp.c6;have hl6:=bj (es:=a6);have hr7:=hp.r7;have hc7:=hp.c7;have hl7:=bj (es:=a7);have hr8:=hp.r8;have hc8:=hp.c8;have hl8:=bj (es:=a8);have hr9:=hp.r9;have hc9:=hp.c9;have hl9:=bj (es:=a9);have hr10:=hp.r10;have hc10:=hp.c10;have hl10:=bj (es:=aA);have hr11:=hp.r11;have hc11:=hp.c11;have hl11:=bj (es:=aB);have hr13:=hp.r13;have hc13:=hp.c13;have hl13:=bj (es:=aD);have hr21:=hp.r21;have hc21:=hp.c21;have hl21:=bj (es:=aL);have hs5:=hr5.scal rfl;have hs6:=hr6.scal rfl;have hs7:=hr7.scal rfl;have hs8:=hr8.scal rfl;refine cb Ia4 Tryz.func22 ?_
 intro O r F hO hr hF;cbv
 repeat' first|apply Zc|(apply cN<;>intro hb<;>cbv)|(refine⟨[1,2,3,32,33,34],[1,2,3],Int×af,fun s_=>match s_ with|(i,out)=>[.reg 34 (.j i),.leaf 3 9 ⟨0,0,none,.own (.s 1 out)⟩],fun s_=>match s_ with|(i,out)=>0<=i/\i<=(a9.length:Int)/\out=a9.take i.toNat,fun s_=>match s_ with|(i,out)=>a9.length-i.toNat,⟨(0,[]),?_,?_⟩,?_⟩;rotate_left;(focus (cbv;done));intro s_ hi;obtain⟨i,out⟩:=s_;replace hi:0<=i/\i<=(a9.length:Int)/\out=a9.take i.toNat:=hi;obtain⟨i0,i1,i2⟩:=hi;cbv)|(refine ai (O.ar .add Za i 1,O.cat out [[.s 1 (O.gs a9 i 0)]]) ?_ ?_ ?_;focus (cbv;done))
 all_goals(subst hO hr hF;(try simp only[nc]at*);(try simp only[am,SS,sa,az]at*);(try rw[di Uc Uc]);(try(have hol:out.length=i.toNat:=(by rw[i2,Zi];omega)));(try(have hsc:=qP hr9 i0 Ud;have hsl:=bj (es:=aO a9 i 0))))
 all_goals first
  | (show(_:List DV)=_
     first
      |exact rfl
      |(rw[i2,iZ Uc];rfl)
      |done)
  |omega
  |exact ga
  |(show ay _ _=true;kernel_rfl)
  |exact hs5
  |exact hs6
  |exact hs7
  |exact hs8
  |exact⟨hr0,hr1,hr2,hr4,Uc,Uc,Uc,Uc⟩
  |exact⟨hr5,Uc⟩
  |exact⟨hr10,hr11,Uc,Uc⟩
  |exact⟨hr13,Uc⟩
  |exact⟨hr21,Uc⟩
  |exact⟨CW hr9 i0 Ud,Uc⟩
  |(simp only[Zs,Zr];omega)
  |(rw[i2];exact(ko hr9 i0 Ud).symm)
  |exact⟨trivial,trivial⟩
  |trivial
  |exact rfl
  |done
abbrev N5:dq:=dP (fun F f=>match f with|17=>im F|18=>jV F|19=>ah F|20=>jX F|21=>jm F|_=>fun _=>none) (by
 intro f;dsimp only;split;exact rC;exact uH;exact aw;exact uJ;exact tA;exact dy)
def nA:EC:=fun F=>fun
 |[.one (.v (.int Za p)),.one (.v (.int Za f)),.one (.v (.int Za t)),.one (.v (.int Za l)),.one (.s 1 rs)]=>some (fun _=>Rw [tI] rs/\rs.length<=1099511627776,[.agg (LH (F.hnC p f t l rs) (F.hnU p f t l rs) (F.hnE p f t l rs) 0 (F.hnR p f t l rs) (F.hnF p f t l rs) [] [] [] (F.hnK p f t l rs) (F.hnM p f t l rs) (F.hnI p f t l rs) (F.hnQ p f t l rs) [] 0 0 (F.hnL p f t l rs) (F.hnN p f t l rs) false 0 0 [] 0 0),.k (F.hnB p f t l rs)])
 |_=>none
def uF:ec 6 nA:=by
 intro _ _ _ h hp;dsimp only[nA,F0]at h;split at h<;>cases h
 rename_i p f t l rs;obtain⟨hr,hl⟩:=hp;refine cb N5 Tryz.func6 ?_
 intro O r F hO hr hF;cbv
 repeat' first|apply Zc|(apply cN<;>intro hb<;>cbv)|(refine⟨[2,10,18,19],[10,18],Int×af,fun s_=>match s_ with|(i,out)=>[.reg 19 (.j i),.leaf 18 9 ⟨0,0,none,.own (.s 1 out)⟩],fun s_=>match s_ with|(i,out)=>0<=i/\i<=t/\out=Zk i.toNat [.s 1 cnL],fun s_=>match s_ with|(i,out)=>(t-i).toNat,⟨(0,[]),?_,?_⟩,?_⟩;rotate_left;(focus (cbv;done));intro s_ hi;obtain⟨i,out⟩:=s_;replace hi:0<=i/\i<=t/\out=Zk i.toNat [.s 1 cnL]:=hi;obtain⟨i0,i1,i2⟩:=hi;cbv)|(refine ai (O.ar .add Za i 1,O.cat out [[.s 1 F.cnL]]) ?_ ?_ ?_;focus (cbv;done))
 all_goals(subst hO hr hF;(try simp only[nc]at*);(try simp only[am,SS,sa,az]at*);(try(have hn:=bB.1 (‹inR t 1 4=true›)));(try rw[di Uc Uc]))
 all_goals first
  | (show(_:List DV)=_
     first
      | (have q:hnB p f t l rs=true:=NJ.2 ⟨Ud,Ud,Ud⟩
         have w:=NL q;have u:=G6 (NJ.1 q).1;exact LI (u.1.trans w.1.symm) (u.2.1.trans w.2.1.symm) (u.2.2.1.trans w.2.2.1.symm) (u.2.2.2.trans w.2.2.2.1.symm) w.2.2.2.2.1.symm (by rw[w.2.2.2.2.2.1,i2];congr 1;omega) w.2.2.2.2.2.2.1.symm w.2.2.2.2.2.2.2.1.symm w.2.2.2.2.2.2.2.2.1.symm w.2.2.2.2.2.2.2.2.2.1.symm w.2.2.2.2.2.2.2.2.2.2.symm q.symm)
      | (have q:hnB p f t l rs=false:=ab4 (by rintro⟨z1,z2,z3⟩;simp_all)
         have w:=R6 q;exact LI w.1.symm w.2.1.symm w.2.2.1.symm w.2.2.2.1.symm w.2.2.2.2.1.symm w.2.2.2.2.2.1.symm w.2.2.2.2.2.2.1.symm w.2.2.2.2.2.2.2.1.symm w.2.2.2.2.2.2.2.2.1.symm w.2.2.2.2.2.2.2.2.2.1.symm w.2.2.2.2.2.2.2.2.2.2.symm q.symm)
      |done)
  | (show(_:af)=_
     first
      |(rw[i2];exact HQ i0)
      |exact rfl
      |done)
  |exact⟨hr,Uc⟩
  |omega
  |(show ay _ _=true;kernel_rfl)
  |(rw[i2,YX];exact⟨by simp only[Zr,Zs];omega,by simp only[Zr,Zs];omega⟩)
  |exact⟨Zd,Zd⟩
  |trivial
  |trace_state
end Go.V