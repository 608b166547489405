/- Contracts. -/
import Derived.Test.YtpldpilhgjpkjaaGreatZM0
import Derived.Test.YtpldpilhgjpkjaaGreatZW3
set_option linter.all false
open Go
open And renaming intro->Zc
open IntKind renaming i64->Za
open List renaming length_nil->Zk,replicate->Zr,length_replicate->Xw,length_cons->Zi,length_take->Zg
open True renaming intro->Zd
noncomputable section
namespace Go.V
open Go Go.Proofs
set_option maxRecDepth 1000000
set_option maxHeartbeats 8000000
abbrev KA1:di:=dH (fun F f=>match f with|33=>ap F|_=>fun _=>none) (by
 intro f;dsimp only;split;exact aw;exact dp)
def ff:EC:=fun F=>fun
 |[.agg [.s 1 cs,.s 1 us]]=>some (fun _=>Rw [.sl [tI]] cs/\Rw [tB] us,[.k (F.framesOk cs us)])
 |_=>none
def j6:ec 188 ff:=by
 intro _ _ _ h hp;dsimp only[ff,F0]at h;split at h<;>cases h
 rename_i cs us;obtain⟨hc,hu⟩:=hp;have hcw:=hc.wf;have huw:=hu.wf;have hlen:=hc.1;unfold maxLen at hlen;refine cb KA1 Tryz.func188 ?_
 intro O r F hO hr hF;cbv
 repeat' first|apply Zc|(apply cN<;>intro hb<;>cbv)|(refine⟨[1,22,23,24],[1],Int,fun i=>[.reg 24 (.j i)],fun i=>0<=i/\i<=((cs.length:Nat):Int)/\upto (jR cs us) i,fun i=>(cs.length)-i.toNat,⟨0,?_,?_⟩,?_⟩;rotate_left;(focus (cbv;done));intro i hi;replace hi:0<=i/\i<=((cs.length:Nat):Int)/\upto (jR cs us) i:=hi;obtain⟨i0,i1,i2⟩:=hi;cbv)|(refine ah (O.ar .add Za i 1) ?_ ?_ ?_;focus (cbv;done))|(refine⟨[1,3,22,23,24,32,33,34],[1],Int,fun k=>[.reg 34 (.j k)],fun k=>0<=k/\k<=(((O.gs cs i 0).length:Nat):Int)/\upto (pv cs us i) k,fun k=>((O.gs cs i 0).length)-k.toNat,⟨0,?_,?_⟩,?_⟩;rotate_left;(focus (cbv;done));intro k hk;replace hk:0<=k/\k<=(((O.gs cs i 0).length:Nat):Int)/\upto (pv cs us i) k:=hk;obtain⟨k0,k1,k2⟩:=hk;cbv)|(refine ah (O.ar .add Za k 1) ?_ ?_ ?_;focus (cbv;done))
 all_goals(subst hO hr hF;(try simp only[nc]at*);(try simp only[aj,SS,sa,az]at*);(try rw[db Uc Uc]))
 all_goals first|omega|exact j4|exact cr|contradiction|exact ax (SX Ud).symm|exact ax (SY Uc).symm|exact ax (SZ i0 Uc Uc).symm|exact ax (J0 i0 Uc k0 Uc (.inl Ud)).symm|exact ax (J0 i0 Uc k0 Uc (.inr ⟨Ud,Ud⟩)).symm|exact ax (E0 Ud Uc i2 Uc).symm|exact bU i2 (JZ Uc k2 Uc)|exact bU k2 (JA Ud (by first|exact .inl Ud|exact .inr Ud))|trace_state
def lH:EC:=fun F=>fun
 |[.agg [.s 2 es],.one (.v (.int Za n))]=>some (fun _=>Rw [tI,tI] es,[.k (F.tableOk es n)])
 |_=>none
def xt:ec 276 lH:=by
 intro _ _ _ h hp;dsimp only[lH,F0]at h;split at h<;>cases h
 rename_i es n;have hlen:=hp.1;unfold maxLen at hlen;refine cb KA1 Tryz.func276 ?_
 intro O r F hO hr hF;cbv
 repeat' first|apply Zc|(apply cN<;>intro hb<;>cbv)|(refine⟨[1,2,8,9,10],[2],Int,fun i=>[.reg 10 (.j i)],fun i=>0<=i/\i<=((es.length:Nat):Int)/\upto (sH es n) i,fun i=>(es.length)-i.toNat,⟨0,?_,?_⟩,?_⟩;rotate_left;(focus (cbv;done));intro i hi;replace hi:0<=i/\i<=((es.length:Nat):Int)/\upto (sH es n) i:=hi;obtain⟨i0,i1,i2⟩:=hi;cbv)|(refine ah (O.ar .add Za i 1) ?_ ?_ ?_;focus (cbv;done))
 all_goals(subst hO hr hF;(try simp only[nc]at*);(try simp only[aj,SS,sa,az]at*);(try rw[db Uc Uc]))
 all_goals first|omega|exact j4|exact cr|contradiction|exact ax (Gb i2 Uc).symm|(simp only[ay,Au]at*;first|exact ax (agk i0 Uc Uc).symm|exact bU i2 (L1 Uc))|trace_state
def dG:EC:=fun F=>fun
 |[.one (.s 1 es)]=>some (fun _=>Rw [tI] es/\es.length<=1099511627776,[.one (.s 1 es)])
 |_=>none
def fe:ec 132 dG:=by
 intro _ _ _ h hp;dsimp only[dG,F0]at h;split at h<;>cases h
 rename_i es;obtain⟨hw,hl⟩:=hp;have hs:=hw.scal rfl;refine cb nB Tryz.func132 ?_
 intro O r F hO hr hF;cbv
 repeat' first|apply Zc|(apply cN<;>intro hb<;>cbv)
 all_goals(subst hO hr hF;(try simp only[nc]at*);(try simp only[aj,SS,sa,az]at*))
 all_goals first|exact hs|trivial|(simp only[Zk];omega)|trace_state
abbrev KD4:di:=dH (fun F f=>match f with|188=>ff F|276=>lH F|277=>fT F|_=>fun _=>none) (by
 intro f;dsimp only;split;exact j6;exact xt;exact k8;exact dp)
def gh:EC:=fun F=>fun
 |[.agg [.s 1 cs,.s 1 us,.s 2 es]]=>some (fun _=>Rw [.sl [tI]] cs/\Rw [tB] us/\Rw [tI,tI] es,[.k (F.machOk cs us es)])
 |_=>none
def m9:ec 164 gh:=by
 intro _ _ _ h hp;dsimp only[gh,F0]at h;split at h<;>cases h
 rename_i cs us es;obtain⟨hc,hu,ht⟩:=hp;have hm:=hu.1;unfold maxLen at hm;refine cb KD4 Tryz.func164 ?_
 intro O r F hO hr hF;cbv
 repeat' first|apply Zc|(apply cN<;>intro hb<;>cbv)|(refine⟨[1,21,22,23],[1],Int,fun i=>[.reg 23 (.j i)],fun i=>0<=i/\i<=((us.length:Nat):Int)/\upto (pG us es) i,fun i=>(us.length)-i.toNat,⟨0,?_,?_⟩,?_⟩;rotate_left;(focus (cbv;done));intro i hi;replace hi:0<=i/\i<=((us.length:Nat):Int)/\upto (pG us es) i:=hi;obtain⟨i0,i1,i2⟩:=hi;cbv)|(refine ah (O.ar .add Za i 1) ?_ ?_ ?_;focus (cbv;done))
 all_goals(subst hO hr hF;(try simp only[nc]at*);(try simp only[aj,SS,sa,az]at*);(try simp only[NU]at*);(try rw[db Uc Uc]);(try(have hfl:=uk (cs:=cs) (us:=us) Ud));(try(have htl:=Ga (es:=es) (n:=(us.length:Int)) Ud));(try(have htl:=Ga (es:=es) (n:=(cs.length:Int)) Ud)))
 all_goals first|omega|exact j4|exact cr|exact⟨hc,hu⟩|exact⟨ht,Uc⟩|exact ax (Qo (.inl Ud)).symm|exact ax (aah Ud Ud).symm|exact ax (aai i0 Uc Ud).symm|exact bU i2 (KF Ud)|exact ax (Fz Ud Ud i2 Uc).symm|trace_state
abbrev N1:di:=dH (fun F f=>match f with|33=>ap F|_=>fun _=>none) (by
 intro f;dsimp only;split;exact aw;exact dp)
def jq:EC:=fun F=>fun
 |[.one (.v (.int Za n))]=>some (fun _=>True,[.agg [.s 1 (F.fnC n),.s 1 (F.fnU n)],.k (F.inR n 1 32)])
 |_=>none
def tP:ec 250 jq:=by
 intro _ _ _ h hp;dsimp only[jq,F0]at h;split at h<;>cases h
 rename_i n;refine cb N1 Tryz.func250 ?_
 intro O r F hO hr hF;cbv
 repeat' first|apply Zc|(apply cN<;>intro hb<;>cbv)|(refine⟨[0,2,4,5],[2,4],Int×af,fun s_=>match s_ with|(i,out)=>[.reg 5 (.j i),.leaf 4 0 ⟨0,0,none,.own (.s 1 out)⟩],fun s_=>match s_ with|(i,out)=>0<=i/\i<=n/\out=Zr i.toNat [.s 1 zV],fun s_=>match s_ with|(i,out)=>(n-i).toNat,⟨(0,[]),?_,?_⟩,?_⟩;rotate_left;(focus (cbv;done));intro s_ hi;obtain⟨i,out⟩:=s_;replace hi:0<=i/\i<=n/\out=Zr i.toNat [.s 1 zV]:=hi;obtain⟨i0,i1,i2⟩:=hi;cbv)|(refine ah (O.ar .add Za i 1,O.cat out [[.s 1 (O.rep 16 [.i 0])]]) ?_ ?_ ?_;focus (cbv;done))
 all_goals(subst hO hr hF;(try simp only[nc]at*);(try simp only[aj,SS,sa,az]at*);(try(have hn:=ay.1 (‹inR n 1 32=true›)));(try rw[db Uc Uc]))
 all_goals first
  | (show(_:List DV)=_
     first
      |(have q:=PQ (‹inR n 1 32=false›);exact Ht q.1.symm q.2.1.symm (by symm;assumption))
      |(have q:=pB (‹inR n 1 32=true›);exact Ht (by rw[q.1,i2];congr 1;omega) q.2.1.symm (by symm;assumption))
      |done)
  | (show(_:af)=_
     first
      |(rw[i2];exact Lp i0)
      |exact rfl
      |done)
  |omega
  |(show bz _ _=true;kernel_rfl)
  |(rw[i2,Xw];exact⟨by simp only[Zi,Zk];omega,by simp only[Zi,Zk];omega⟩)
  |exact⟨Zd,Zd⟩
  |trace_state
def kC:EC:=fun F=>fun
 |[.one (.v (.int Za n))]=>some (fun _=>True,[.agg [.s 2 (F.tnE n)],.k (F.inR n 1 32)])
 |_=>none
def vZ:ec 251 kC:=by
 intro _ _ _ h hp;dsimp only[kC,F0]at h;split at h<;>cases h
 rename_i n;refine cb N1 Tryz.func251 ?_
 intro O r F hO hr hF;cbv
 repeat' first|apply Zc|(apply cN<;>intro hb<;>cbv)
 all_goals(subst hO hr hF;(try simp only[nc]at*);(try simp only[aj,SS,sa,az]at*);(try(have hn:=ay.1 (‹inR n 1 32=true›))))
 all_goals first
  | (show(_:List DV)=_
     first
      |(have q:=PQ (‹inR n 1 32=false›);exact QK q.2.2.symm (by symm;assumption))
      |(have q:=pB (‹inR n 1 32=true›);exact QK q.2.2.symm (by symm;assumption))
      |done)
  |omega
  |exact⟨Zd,Zd⟩
  |trace_state
abbrev N2:di:=dH (fun F f=>match f with|250=>jq F|251=>kC F|_=>fun _=>none) (by
 intro f;dsimp only;split;exact tP;exact vZ;exact dp)
def iF:EC:=fun F=>fun
 |[.one (.v (.int Za p)),.one (.v (.int Za f))]=>some (fun _=>True,[.agg [.s 1 (F.mnC p f),.s 1 (F.mnU p f),.s 2 (F.mnE p f)],.k (F.mnB p f)])
 |_=>none
def si:ec 131 iF:=by
 intro _ _ _ h hp;dsimp only[iF,F0]at h;split at h<;>cases h
 rename_i p f;refine cb N2 Tryz.func131 ?_
 intro O r F hO hr hF;cbv
 repeat' first|apply Zc|(apply cN<;>intro hb<;>cbv)
 all_goals(subst hO hr hF;(try simp only[nc]at*);(try simp only[aj,SS,sa,az]at*))
 all_goals first
  | (show(_:List DV)=_
     first
      |(have q:=pJ (‹inR f 1 32=true›) (‹inR p 1 32=true›);exact Lu q.1.symm q.2.1.symm q.2.2.1.symm q.2.2.2.symm)
      |(have q:=Ds (aar (‹inR f 1 32=false›):mnB p f=false);exact Lu q.1.symm q.2.1.symm q.2.2.1.symm q.2.2.2.symm)
      |(have q:=Ds (aas (‹inR p 1 32=false›):mnB p f=false);exact Lu q.1.symm q.2.1.symm q.2.2.1.symm q.2.2.2.symm)
      |done)
  |exact⟨Zd,Zd⟩
  |trace_state
abbrev N3:di:=dH (fun F f=>match f with|33=>ap F|164=>gh F|_=>fun _=>none) (by
 intro f;dsimp only;split;exact aw;exact m9;exact dp)
def fg:EC:=fun F=>fun
 |[.agg [.s 1 cs,.s 1 us,.s 2 es,.v (.int Za c),.s 1 rs]]=>some (fun _=>Rw [.sl [tI]] cs/\Rw [tB] us/\Rw [tI,tI] es/\Rw [tI] rs,[.k (F.kerOk cs us es c rs)])
 |_=>none
def j7:ec 60 fg:=by
 intro _ _ _ h hp;dsimp only[fg,F0]at h;split at h<;>cases h
 rename_i cs us es c rs;obtain⟨hc,hu,ht,hr⟩:=hp;have hm:=hr.1;unfold maxLen at hm;refine cb N3 Tryz.func60 ?_
 intro O r F hO hr hF;cbv
 repeat' first|apply Zc|(apply cN<;>intro hb<;>cbv)|(refine⟨[1,6,7,8],[1],Int,fun i=>[.reg 8 (.j i)],fun i=>0<=i/\i<=((rs.length:Nat):Int)/\upto (Iu rs) i,fun i=>(rs.length)-i.toNat,⟨0,?_,?_⟩,?_⟩;rotate_left;(focus (cbv;done));intro i hi;replace hi:0<=i/\i<=((rs.length:Nat):Int)/\upto (Iu rs) i:=hi;obtain⟨i0,i1,i2⟩:=hi;cbv)|(refine ah (O.ar .add Za i 1) ?_ ?_ ?_;focus (cbv;done))
 all_goals(subst hO hr hF;(try simp only[nc]at*);(try simp only[aj,SS,sa,az]at*);(try rw[db Uc Uc]))
 all_goals first
  | (show(_:List DV)=_
     first
      |exact ax (aa9 i0 Ud Ud).symm
      |exact ax (NG Ud).symm
      |exact ax (NH (OA Uc)).symm
      |(refine ax ?_;unfold kerOk;rw[show inR c 0 100000=true from by assumption,OB i2 Uc Uc];simp)
      |done)
  |omega
  |exact j4
  |exact cr
  |exact bU i2 (aa8 Uc)
  |exact⟨hc,hu,ht⟩
  |trace_state
abbrev N4:di:=dH (fun F f=>match f with|131=>iF F|60=>fg F|132=>dG F|_=>fun _=>none) (by
 intro f;dsimp only;split;exact si;exact j7;exact fe;exact dp)
def js:EC:=fun F=>fun
 |[.one (.v (.int Za p)),.one (.v (.int Za f)),.one (.s 1 rs)]=>some (fun _=>Rw [tI] rs/\rs.length<=1099511627776,[.agg [.s 1 (F.knC p f rs),.s 1 (F.knU p f rs),.s 2 (F.knE p f rs),.i 0,.s 1 (F.knR p f rs)],.k (F.knB p f rs)])
 |_=>none
def tV:ec 31 js:=by
 intro _ _ _ h hp;dsimp only[js,F0]at h;split at h<;>cases h
 rename_i p f rs;obtain⟨hr,hl⟩:=hp;have hs:=hr.scal rfl;refine cb N4 Tryz.func31 ?_
 intro O r F hO hr hF;cbv
 repeat' first|apply Zc|(apply cN<;>intro hb<;>cbv)
 all_goals(subst hO hr hF;(try simp only[nc]at*);(try simp only[aj,SS,sa,az]at*))
 all_goals first
  | (show(_:List DV)=_
     first
      |(have q:=NJ (rs:=rs) (‹mnB p f=false›);have w:=Qf q;exact Lt w.1.symm w.2.1.symm w.2.2.1.symm w.2.2.2.symm q.symm)
      |(have q:=adV (rs:=rs) (‹mnB p f=true›) Ud;have w:=Kv q;have u:=aat (aiM q);have z:=pJ u.1 u.2;exact Lt (z.1.trans w.1.symm) (z.2.1.trans w.2.1.symm) (z.2.2.1.trans w.2.2.1.symm) w.2.2.2.symm q.symm)
      |(have q:=TO (rs:=rs) (‹mnB p f=true›) Ud;have w:=Qf q;exact Lt w.1.symm w.2.1.symm w.2.2.1.symm w.2.2.2.symm q.symm)
      |done)
  |exact⟨hr,Uc⟩
  |exact⟨FA.1,FA.2.1,FA.2.2,hr⟩
  |(show bz _ _=true;kernel_rfl)
  |exact⟨Zd,Zd⟩
  |trace_state
def lA:EC:=fun F=>fun
 |[.one (.v (.int Za t))]=>some (fun _=>True,[.agg [.s 1 (F.mwB t),.s 1 (F.mwI t)],.k (F.inR t 1 4)])
 |_=>none
def xh:ec 32 lA:=by
 intro _ _ _ h hp;dsimp only[lA,F0]at h;split at h<;>cases h
 rename_i t;refine cb N1 Tryz.func32 ?_
 intro O r F hO hr hF;cbv
 repeat' first|apply Zc|(apply cN<;>intro hb<;>cbv)
 all_goals(subst hO hr hF;(try simp only[nc]at*);(try simp only[aj,SS,sa,az]at*);(try(have hn:=ay.1 (‹inR t 1 4=true›))))
 all_goals first
  | (show(_:List DV)=_
     first
      |(have q:=aeE (‹inR t 1 4=false›);exact Ht q.1.symm q.2.symm (by symm;assumption))
      |(have q:=aaF (‹inR t 1 4=true›);exact Ht q.1.symm q.2.symm (by symm;assumption))
      |done)
  |omega
  |(show bz _ _=true;kernel_rfl)
  |exact⟨Zd,Zd⟩
  |trace_state
def lE:EC:=fun F=>fun
 |[.one (.v (.int Za q))]=>some (fun _=>True,[.agg [.i (F.qnR q),.s 3 []],.k (F.inR q 0 500)])
 |_=>none
def xr:ec 34 lE:=by
 intro _ _ _ h hp;dsimp only[lE,F0]at h;split at h<;>cases h
 rename_i q;refine cb N1 Tryz.func34 ?_
 intro O r F hO hr hF;cbv
 repeat' first|apply Zc|(apply cN<;>intro hb<;>cbv)
 all_goals(subst hO hr hF;(try simp only[nc]at*);(try simp only[aj,SS,sa,az]at*))
 all_goals first
  | (show(_:List DV)=_
     first
      |(have w:=afu (‹inR q 0 500=false›);exact QS w.symm (by symm;assumption))
      |(have w:=aa5 (‹inR q 0 500=true›);exact QS w.symm (by symm;assumption))
      |done)
  |exact⟨Zd,Zd⟩
  |trace_state
def kh:EC:=fun F=>fun
 |[]=>some (fun _=>True,[.agg [.s 1 (F.cnL)]])
 |_=>none
def vL:ec 35 kh:=by
 intro _ _ _ h hp;dsimp only[kh,F0]at h;split at h<;>cases h
 refine cb nB Tryz.func35 ?_
 intro O r F hO hr hF;cbv
 repeat' first|apply Zc|(apply cN<;>intro hb<;>cbv)
 all_goals(subst hO hr hF;(try simp only[nc]at*);(try simp only[aj,SS,sa,az]at*))
 all_goals first|exact⟨Zd,Zd⟩|omega|exact rfl|trace_state
abbrev Ia0:di:=dH (fun F f=>match f with|132=>dG F|_=>fun _=>none) (by
 intro f;dsimp only;split;exact fe;exact dp)
def jz:EC:=fun F=>fun
 |[.agg [.s 2 es]]=>some (fun _=>Rw [tI,tI] es/\es.length<=1099511627776,[.agg [.s 2 es]])
 |_=>none
def t8:ec 268 jz:=by
 intro _ _ _ h hp;dsimp only[jz,F0]at h;split at h<;>cases h
 rename_i es;obtain⟨hw,hl⟩:=hp;have hs:=hw.scal rfl;refine cb Ia0 Tryz.func268 ?_
 exact zq0
def d7:EC:=fun F=>fun
 |[.one (.s 2 es)]=>some (fun _=>Rw [tI,tI] es/\es.length<=1099511627776,[.one (.s 2 es)])
 |_=>none
def iw:ec 134 d7:=by
 intro _ _ _ h hp;dsimp only[d7,F0]at h;split at h<;>cases h
 rename_i es;obtain⟨hw,hl⟩:=hp;have hs:=hw.scal rfl;refine cb Ia0 Tryz.func134 ?_
 exact zq0
def fu:EC:=fun F=>fun
 |[.agg [.v (.int Za r),.s 3 qs]]=>some (fun _=>Rw [tI,tI,tI] qs/\qs.length<=1099511627776,[.agg [.i r,.s 3 qs]])
 |_=>none
def kf:ec 137 fu:=by
 intro _ _ _ h hp;dsimp only[fu,F0]at h;split at h<;>cases h
 rename_i r qs;obtain⟨hw,hl⟩:=hp;have hs:=hw.scal rfl;refine cb Ia0 Tryz.func137 ?_
 exact zq0
def Tryz.laysC15_ren:Go.Shelf.Ren:=⟨fun|15=>328|n=>n,fun|22=>24|3=>3|4=>4|n=>n,fun|n=>n⟩
def Tryz.laysC15:Lays2.n15 Tryz.prog Tryz.laysC15_ren:=⟨by kernel_rfl,Tryz.func328.trans (congrArg some (by kernel_rfl)),Tryz.underlying3,Tryz.isAgg3,Tryz.sizeOf3,Tryz.zeroValue3,Tryz.underlying4,Tryz.isAgg4,Tryz.sizeOf4,Tryz.zeroValue4,Tryz.underlying24,Tryz.isAgg24,Tryz.sizeOf24,Tryz.zeroValue24,by kernel_rfl⟩
def eY:EC:=fun F=>fun
 |[.one (.s 1 l)]=>some (fun _=>Rw [tI] l/\l.length<=1099511627776,[.one (.s 1 l)])
 |_=>none
def nR:ec 328 eY:=by
 intro _ _ _ h hp;dsimp only[eY,F0]at h;split at h<;>cases h
 rename_i l;exact H1 (Any.slices_Clone_int_nil Tryz.laysC15) (Any.slices_Clone_int_zero Tryz.laysC15) (Any.slices_Clone_int Tryz.laysC15) l hp
def fJ:EC:=fun F=>fun
 |[.agg [.s 1 cs,.s 1 us]]=>some (fun _=>Rw [.sl [tI]] cs/\Rw [tB] us/\au cs<=1099511627776/\au us<=1099511627776,[.agg [.s 1 cs,.s 1 us]])
 |_=>none
def mn:ec 267 fJ:=by
 intro _ _ _ h hp;dsimp only[fJ,F0]at h;split at h<;>cases h
 rename_i cs us;obtain⟨hc,hu,hn,hm⟩:=hp;have hs:=hu.scal rfl;have hl1:=aS (es:=cs);have hl2:=aS (es:=us);refine cb Ia0 Tryz.func267 ?_
 intro O r F hO hr hF;cbv
 repeat' first|apply Zc|(apply cN<;>intro hb<;>cbv)|(refine⟨[2,3,12,13,14],[2,3],Int×af,fun s_=>match s_ with|(i,out)=>[.reg 14 (.j i),.leaf 3 0 ⟨0,0,none,.own (.s 1 out)⟩],fun s_=>match s_ with|(i,out)=>0<=i/\i<=(cs.length:Int)/\out=cs.take i.toNat,fun s_=>match s_ with|(i,out)=>cs.length-i.toNat,⟨(0,[]),?_,?_⟩,?_⟩;rotate_left;(focus (cbv;done));intro s_ hi;obtain⟨i,out⟩:=s_;replace hi:0<=i/\i<=(cs.length:Int)/\out=cs.take i.toNat:=hi;obtain⟨i0,i1,i2⟩:=hi;cbv)|(refine ah (O.ar .add Za i 1,O.cat out [[.s 1 (O.gs cs i 0)]]) ?_ ?_ ?_;focus (cbv;done))
 all_goals(subst hO hr hF;(try simp only[nc]at*);(try simp only[aj,SS,sa,az]at*);(try rw[db Uc Uc]);(try(have hol:out.length=i.toNat:=(by rw[i2,Zg];omega)));(try(have hsc:=tp hc i0 Ud;have hsl:=aS (es:=aU cs i 0))))
 all_goals first|exact hs|omega|exact j4|(show bz _ _=true;kernel_rfl)|exact⟨by(first|assumption|exact Rw.sub (by first|assumption|exact Rw.sub Ud Uc rfl) Uc rfl),Uc⟩|(simp only[Zk,Zi];omega)|(rw[i2];exact(p8 hc i0 Ud).symm)|(rw[i2,p7 Uc];rfl)|exact⟨trivial,trivial⟩|trivial|trace_state
abbrev Ia1:di:=dH (fun F f=>match f with|267=>fJ F|268=>jz F|328=>eY F|_=>fun _=>none) (by
 intro f;dsimp only;split;exact mn;exact t8;exact nR;exact dp)
def eX:EC:=fun F=>fun
 |[.agg [.s 1 cs,.s 1 us,.s 2 es]]=>some (fun _=>Rw [.sl [tI]] cs/\Rw [tB] us/\Rw [tI,tI] es/\au cs<=1099511627776/\au us<=1099511627776/\au es<=1099511627776,[.agg [.s 1 cs,.s 1 us,.s 2 es]])
 |_=>none
def k9:ec 150 eX:=by
 intro _ _ _ h hp;dsimp only[eX,F0]at h;split at h<;>cases h
 rename_i cs us es;obtain⟨hc,hu,he,hn,hm,hk⟩:=hp;have hl:=aS (es:=es);refine cb Ia1 Tryz.func150 ?_
 intro O r F hO hr hF;cbv
 repeat' first|apply Zc|(apply cN<;>intro hb<;>cbv)
 all_goals(subst hO hr hF;(try simp only[nc]at*);(try simp only[aj,SS,sa,az]at*))
 all_goals first|(show bz _ _=true;kernel_rfl)|exact⟨hc,hu,hn,hm⟩|exact⟨he,Uc⟩|exact⟨trivial,trivial⟩|trivial|trace_state
def gU:EC:=fun F=>fun
 |[.agg [.v (.int Za k),.v (.int Za m),.s 1 cs]]=>some (fun _=>Rw [tI] cs/\cs.length<=1099511627776,[.agg [.i k,.i m,.s 1 cs]])
 |_=>none
def oN:ec 252 gU:=by
 intro _ _ _ h hp;dsimp only[gU,F0]at h;split at h<;>cases h
 rename_i k m cs;obtain⟨hw,hl⟩:=hp;have hs:=hw.scal rfl;refine cb Ia1 Tryz.func252 ?_
 exact zq6
abbrev Ia2:di:=dH (fun F f=>match f with|150=>eX F|132=>dG F|252=>gU F|_=>fun _=>none) (by
 intro f;dsimp only;split;exact k9;exact fe;exact oN;exact dp)
def cM:EC:=fun F=>fun
 |[.agg [.s 1 cs,.s 1 us,.s 2 es,.v (.int Za c),.s 1 rs]]=>some (fun _=>Rw [.sl [tI]] cs/\Rw [tB] us/\Rw [tI,tI] es/\Rw [tI] rs/\au cs<=1099511627776/\au us<=1099511627776/\au es<=1099511627776/\au rs<=1099511627776,[.agg [.s 1 cs,.s 1 us,.s 2 es,.i c,.s 1 rs]])
 |_=>none
def dj:ec 133 cM:=by
 intro _ _ _ h hp;dsimp only[cM,F0]at h;split at h<;>cases h
 rename_i cs us es c rs;obtain⟨hc,hu,he,hr,hn,hm,hk,hl⟩:=hp;have l1:=aS (es:=rs);have hs:=hr.scal rfl;refine cb Ia2 Tryz.func133 ?_
 intro O r F hO hr hF;cbv
 repeat' first|apply Zc|(apply cN<;>intro hb<;>cbv)
 all_goals(subst hO hr hF;(try simp only[nc]at*);(try simp only[aj,SS,sa,az]at*))
 all_goals first|(show bz _ _=true;kernel_rfl)|exact⟨hc,hu,he,hn,hm,hk⟩|exact⟨hr,Uc⟩|exact⟨trivial,trivial⟩|trivial|done
def iN:EC:=fun F=>fun
 |[.agg [.v (.int Za k),.v (.int Za m),.s 1 cs,.v (.int Za p),.v (.int Za n)]]=>some (fun _=>Rw [tI] cs/\cs.length<=1099511627776,[.agg [.i k,.i m,.s 1 cs,.i p,.i n]])
 |_=>none
def pc:ec 138 iN:=by
 intro _ _ _ h hp;dsimp only[iN,F0]at h;split at h<;>cases h
 rename_i k m cs p n;obtain⟨hw,hl⟩:=hp;have hs:=hw.scal rfl;refine cb Ia2 Tryz.func138 ?_
 exact zq6
abbrev Ia3:di:=dH (fun F f=>match f with|132=>dG F|_=>fun _=>none) (by
 intro f;dsimp only;split;exact fe;exact dp)
def eP:EC:=fun F=>fun
 |[.agg [.s 1 ls]]=>some (fun _=>Rw [.sl [tI]] ls/\au ls<=1099511627776,[.agg [.s 1 ls]])
 |_=>none
def jn:ec 135 eP:=by
 intro _ _ _ h hp;dsimp only[eP,F0]at h;split at h<;>cases h
 rename_i ls;obtain⟨hc,hn⟩:=hp;have hl1:=aS (es:=ls);refine cb Ia3 Tryz.func135 ?_
 intro O r F hO hr hF;cbv
 repeat' first|apply Zc|(apply cN<;>intro hb<;>cbv)|(refine⟨[2,3,8,9,10],[2,3],Int×af,fun s_=>match s_ with|(i,out)=>[.reg 10 (.j i),.leaf 3 0 ⟨0,0,none,.own (.s 1 out)⟩],fun s_=>match s_ with|(i,out)=>0<=i/\i<=(ls.length:Int)/\out=ls.take i.toNat,fun s_=>match s_ with|(i,out)=>ls.length-i.toNat,⟨(0,[]),?_,?_⟩,?_⟩;rotate_left;(focus (cbv;done));intro s_ hi;obtain⟨i,out⟩:=s_;replace hi:0<=i/\i<=(ls.length:Int)/\out=ls.take i.toNat:=hi;obtain⟨i0,i1,i2⟩:=hi;cbv)|(refine ah (O.ar .add Za i 1,O.cat out [[.s 1 (O.gs ls i 0)]]) ?_ ?_ ?_;focus (cbv;done))|(refine ah (O.ar .add Za i 1,O.cat out [[.s 1 (O.cat [] (O.gs ls i 0))]]) ?_ ?_ ?_;focus (cbv;done))
 all_goals(subst hO hr hF;(try simp only[nc]at*);(try simp only[aj,SS,sa,az]at*);(try rw[db Uc Uc]);(try(have hol:out.length=i.toNat:=(by rw[i2,Zg];omega)));(try(have hsc:=tp hc i0 Ud;have hsl:=aS (es:=aU ls i 0))))
 all_goals first
  | (show(_:List DV)=_
     first
      |(rw[i2,p7 Uc];rfl)
      |done)
  |omega
  |exact j4
  |(show bz _ _=true;kernel_rfl)
  |exact⟨by(first|assumption|exact Rw.sub (by first|assumption|exact Rw.sub Ud Uc rfl) Uc rfl),Uc⟩
  |(simp only[Zk,Zi];omega)
  |(rw[i2];exact(p8 hc i0 Ud).symm)
  |exact⟨trivial,trivial⟩
  |trivial
  |done
def gT:EC:=fun F=>fun
 |[.agg [.s 1 b,.s 1 x]]=>some (fun _=>Rw [.sl [tI,tI]] b/\Rw [.sl [tI]] x/\au b<=1099511627776/\au x<=1099511627776,[.agg [.s 1 b,.s 1 x]])
 |_=>none
def oM:ec 136 gT:=by
 intro _ _ _ h hp;dsimp only[gT,F0]at h;split at h<;>cases h
 rename_i b x;obtain⟨wb,wx,nb,nx⟩:=hp;have hl1:=aS (es:=b);have hl2:=aS (es:=x);refine cb Ia3 Tryz.func136 ?_
 intro O r F hO hr hF;cbv
 repeat' first|apply Zc|(apply cN<;>intro hb<;>cbv)|(refine⟨[1,2,3,10,11,12],[1,2,3],Int×af,fun s_=>match s_ with|(i,out)=>[.reg 12 (.j i),.leaf 3 0 ⟨0,0,none,.own (.s 1 out)⟩],fun s_=>match s_ with|(i,out)=>0<=i/\i<=(b.length:Int)/\out=b.take i.toNat,fun s_=>match s_ with|(i,out)=>b.length-i.toNat,⟨(0,[]),?_,?_⟩,?_⟩;rotate_left;(focus (cbv;done));intro s_ hi;obtain⟨i,out⟩:=s_;replace hi:0<=i/\i<=(b.length:Int)/\out=b.take i.toNat:=hi;obtain⟨i0,i1,i2⟩:=hi;cbv)|(refine⟨[2,3,26,27,28],[2,3],Int×af,fun s_=>match s_ with|(k,ou2)=>[.reg 28 (.j k),.leaf 3 1 ⟨0,0,none,.own (.s 1 ou2)⟩],fun s_=>match s_ with|(k,ou2)=>0<=k/\k<=(x.length:Int)/\ou2=x.take k.toNat,fun s_=>match s_ with|(k,ou2)=>x.length-k.toNat,⟨(0,[]),?_,?_⟩,?_⟩;rotate_left;(focus (cbv;done));intro s_ hk;obtain⟨k,ou2⟩:=s_;replace hk:0<=k/\k<=(x.length:Int)/\ou2=x.take k.toNat:=hk;obtain⟨k0,k1,k2⟩:=hk;cbv)|(refine ah (O.ar .add Za i 1,O.cat out [[.s 2 (O.cat [] (O.gs b i 0))]]) ?_ ?_ ?_;focus (cbv;done))|(refine ah (O.ar .add Za k 1,O.cat ou2 [[.s 1 (O.gs x k 0)]]) ?_ ?_ ?_;focus (cbv;done))|(refine ah (O.ar .add Za k 1,O.cat ou2 [[.s 1 (O.cat [] (O.gs x k 0))]]) ?_ ?_ ?_;focus (cbv;done))
 all_goals(subst hO hr hF;(try simp only[nc]at*);(try simp only[aj,SS,sa,az]at*);(try rw[db Uc Uc]);(try(have hol:out.length=i.toNat:=(by rw[i2,Zg];omega)));(try(have hok:ou2.length=k.toNat:=(by rw[k2,Zg];omega)));(try(have hsc:=tp wb i0 Ud;have hsl:=aS (es:=aU b i 0)));(try(have hsd:=tp wx k0 Ud;have hsm:=aS (es:=aU x k 0))))
 all_goals first
  | (show(_:List DV)=_
     first
      |(rw[i2,k2,p7 Uc,p7 Uc];rfl)
      |done)
  |omega
  |exact j4
  |(show bz _ _=true;kernel_rfl)
  |exact Rw.scal (fs:=[tI,tI]) (by(first|assumption|exact Rw.sub (by first|assumption|exact Rw.sub Ud Uc rfl) Uc rfl)) rfl
  |exact⟨by(first|assumption|exact Rw.sub (by first|assumption|exact Rw.sub Ud Uc rfl) Uc rfl),Uc⟩
  |(simp only[Zk,Zi];omega)
  |(rw[i2,List.nil_append];exact(p8 wb i0 Ud).symm)
  |(rw[k2];exact(p8 wx k0 Ud).symm)
  |exact⟨trivial,trivial⟩
  |trivial
  |done
abbrev Ia4:di:=dH (fun F f=>match f with|133=>cM F|134=>d7 F|135=>eP F|136=>gT F|137=>fu F|138=>iN F|_=>fun _=>none) (by
 intro f;dsimp only;split;exact dj;exact iw;exact jn;exact oM;exact kf;exact pc;exact dp)
def dF:EC:=fun F=>fun
 |[.agg hl_]=>hL hl_ fun a0 a1 a2 a3 a4 a5 a6 a7 a8 a9 aA aB aC aD aE aF aG aH aI aJ aK aL aM aN=>(fun _=>kJ a0 a1 a2 a4 a5 a6 a7 a8 a9 aA aB aD aL,[.agg (Mu a0 a1 a2 a3 a4 a5 a6 a7 a8 a9 aA aB aC aD aE aF aG aH aI aJ aK aL aM aN)])
 |_=>none
def d5:ec 36 dF:=by
 intro _ _ _ h hp;dsimp only[dF,F0,hL]at h;split at h;rotate_left;cases h;split at h<;>cases h
 rename_i a0 a1 a2 a3 a4 a5 a6 a7 a8 a9 aA aB aC aD aE aF aG aH aI aJ aK aL aM aN;have hr0:=hp.r0;have hc0:=hp.c0;have hl0:=aS (es:=a0);have hr1:=hp.r1;have hc1:=hp.c1;have hl1:=aS (es:=a1);have hr2:=hp.r2;have hc2:=hp.c2;have hl2:=aS (es:=a2);have hr4:=hp.r4;have hc4:=hp.c4;have hl4:=aS (es:=a4);have hr5:=hp.r5;have hc5:=hp.c5;have hl5:=aS (es:=a5);have hr6:=hp.r6;have hc6:=hp.c6;have hl6:=aS (es:=a6);have hr7:=hp.r7;have hc7:=hp.c7;have hl7:=aS (es:=a7);have hr8:=hp.r8;have hc8:=hp.c8;have hl8:=aS (es:=a8);have hr9:=hp.r9;have hc9:=hp.c9;have hl9:=aS (es:=a9);have hr10:=hp.r10;have hc10:=hp.c10;have hl10:=aS (es:=aA);have hr11:=hp.r11;have hc11:=hp.c11;have hl11:=aS (es:=aB);have hr13:=hp.r13;have hc13:=hp.c13;have hl13:=aS (es:=aD);have hr21:=hp.r21;have hc21:=hp.c21;have hl21:=aS (es:=aL);have hs5:=hr5.scal rfl;have hs6:=hr6.scal rfl;have hs7:=hr7.scal rfl;have hs8:=hr8.scal rfl;refine cb Ia4 Tryz.func36 ?_
 intro O r F hO hr hF;cbv
 repeat' first|apply Zc|(apply cN<;>intro hb<;>cbv)|(refine⟨[1,2,3,32,33,34],[1,2,3],Int×af,fun s_=>match s_ with|(i,out)=>[.reg 34 (.j i),.leaf 3 9 ⟨0,0,none,.own (.s 1 out)⟩],fun s_=>match s_ with|(i,out)=>0<=i/\i<=(a9.length:Int)/\out=a9.take i.toNat,fun s_=>match s_ with|(i,out)=>a9.length-i.toNat,⟨(0,[]),?_,?_⟩,?_⟩;rotate_left;(focus (cbv;done));intro s_ hi;obtain⟨i,out⟩:=s_;replace hi:0<=i/\i<=(a9.length:Int)/\out=a9.take i.toNat:=hi;obtain⟨i0,i1,i2⟩:=hi;cbv)|(refine ah (O.ar .add Za i 1,O.cat out [[.s 1 (O.gs a9 i 0)]]) ?_ ?_ ?_;focus (cbv;done))
 all_goals(subst hO hr hF;(try simp only[nc]at*);(try simp only[aj,SS,sa,az]at*);(try rw[db Uc Uc]);(try(have hol:out.length=i.toNat:=(by rw[i2,Zg];omega)));(try(have hsc:=tp hr9 i0 Ud;have hsl:=aS (es:=aU a9 i 0))))
 all_goals first
  | (show(_:List DV)=_
     first
      |(rw[i2,p7 Uc];rfl)
      |done)
  |omega
  |exact j4
  |(show bz _ _=true;kernel_rfl)
  |exact⟨hr0,hr1,hr2,hr4,Uc,Uc,Uc,Uc⟩
  |exact⟨hr5,Uc⟩
  |exact⟨hr10,hr11,Uc,Uc⟩
  |exact⟨hr13,Uc⟩
  |exact⟨hr21,Uc⟩
  |exact⟨rK hr9 i0 Ud,Uc⟩
  |(simp only[Zk,Zi];omega)
  |(rw[i2];exact(p8 hr9 i0 Ud).symm)
  |exact⟨trivial,trivial⟩
  |trivial
  |done
abbrev N5:di:=dH (fun F f=>match f with|31=>js F|32=>lA F|33=>ap F|34=>lE F|35=>kh F|_=>fun _=>none) (by
 intro f;dsimp only;split;exact tV;exact xh;exact aw;exact xr;exact vL;exact dp)
def pw:EC:=fun F=>fun
 |[.one (.v (.int Za p)),.one (.v (.int Za f)),.one (.v (.int Za t)),.one (.v (.int Za l)),.one (.s 1 rs)]=>some (fun _=>Rw [tI] rs/\rs.length<=1099511627776,[.agg (Mu (F.hnC p f t l rs) (F.hnU p f t l rs) (F.hnE p f t l rs) 0 (F.hnR p f t l rs) (F.hnF p f t l rs) [] [] [] (F.hnK p f t l rs) (F.hnM p f t l rs) (F.hnI p f t l rs) (F.hnQ p f t l rs) [] 0 0 (F.hnL p f t l rs) (F.hnN p f t l rs) false 0 0 [] 0 0),.k (F.hnB p f t l rs)])
 |_=>none
def xd:ec 10 pw:=by
 intro _ _ _ h hp;dsimp only[pw,F0]at h;split at h<;>cases h
 rename_i p f t l rs;obtain⟨hr,hl⟩:=hp;refine cb N5 Tryz.func10 ?_
 intro O r F hO hr hF;cbv
 repeat' first|apply Zc|(apply cN<;>intro hb<;>cbv)|(refine⟨[2,10,18,19],[10,18],Int×af,fun s_=>match s_ with|(i,out)=>[.reg 19 (.j i),.leaf 18 9 ⟨0,0,none,.own (.s 1 out)⟩],fun s_=>match s_ with|(i,out)=>0<=i/\i<=t/\out=Zr i.toNat [.s 1 cnL],fun s_=>match s_ with|(i,out)=>(t-i).toNat,⟨(0,[]),?_,?_⟩,?_⟩;rotate_left;(focus (cbv;done));intro s_ hi;obtain⟨i,out⟩:=s_;replace hi:0<=i/\i<=t/\out=Zr i.toNat [.s 1 cnL]:=hi;obtain⟨i0,i1,i2⟩:=hi;cbv)|(refine ah (O.ar .add Za i 1,O.cat out [[.s 1 F.cnL]]) ?_ ?_ ?_;focus (cbv;done))
 all_goals(subst hO hr hF;(try simp only[nc]at*);(try simp only[aj,SS,sa,az]at*);(try(have hn:=ay.1 (‹inR t 1 4=true›)));(try rw[db Uc Uc]))
 all_goals first
  | (show(_:List DV)=_
     first
      | (have q:hnB p f t l rs=true:=Tf.2 ⟨Ud,Ud,Ud⟩
         have w:=Tg q;have u:=Kv (Tf.1 q).1;exact P5 (u.1.trans w.1.symm) (u.2.1.trans w.2.1.symm) (u.2.2.1.trans w.2.2.1.symm) (u.2.2.2.trans w.2.2.2.1.symm) w.2.2.2.2.1.symm (by rw[w.2.2.2.2.2.1,i2];congr 1;omega) w.2.2.2.2.2.2.1.symm w.2.2.2.2.2.2.2.1.symm w.2.2.2.2.2.2.2.2.1.symm w.2.2.2.2.2.2.2.2.2.1.symm w.2.2.2.2.2.2.2.2.2.2.symm q.symm)
      | (have q:hnB p f t l rs=false:=ahW (by rintro⟨z1,z2,z3⟩;simp_all)
         have w:=adj q;exact P5 w.1.symm w.2.1.symm w.2.2.1.symm w.2.2.2.1.symm w.2.2.2.2.1.symm w.2.2.2.2.2.1.symm w.2.2.2.2.2.2.1.symm w.2.2.2.2.2.2.2.1.symm w.2.2.2.2.2.2.2.2.1.symm w.2.2.2.2.2.2.2.2.2.1.symm w.2.2.2.2.2.2.2.2.2.2.symm q.symm)
      |done)
  | (show(_:af)=_
     first
      |(rw[i2];exact Lp i0)
      |exact rfl
      |done)
  |exact⟨hr,Uc⟩
  |omega
  |(show bz _ _=true;kernel_rfl)
  |(rw[i2,Xw];exact⟨by simp only[Zi,Zk];omega,by simp only[Zi,Zk];omega⟩)
  |exact⟨Zd,Zd⟩
  |trace_state
end Go.V