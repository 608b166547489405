/- Contracts. -/
import Derived.Test.YtpldpilhgjpkjaaGreatZM4
set_option linter.all false
open Go
open Act renaming eval->ZM,put->ZI
open And renaming intro->Zc
open Departure renaming mixedOrders->Yo
open IntKind renaming i64->Zy,i64->Za
open List renaming all_eq_true->Z7
open True renaming intro->Zd
open Value renaming int->Zn
noncomputable section
namespace Go.V
open Go Go.Proofs
set_option maxRecDepth 1000000
set_option maxHeartbeats 8000000
abbrev Zx0:di:=dH (fun F f=>match f with|267=>fJ F|188=>ff F|_=>fun _=>none) (by
 intro f;dsimp only;split;exact mn;exact j6;exact dp)
def jp:EC:=fun F=>fun
 |[.agg [.s 1 cs,.s 1 us]]=>some (fun _=>Rw [.sl [tI]] cs/\Rw [tB] us/\au cs<=1099511627776/\au us<=1099511627776,[.agg [.s 1 cs,.s 1 (F.ftU cs us)],.j (F.ftI cs us),.k (F.ftB cs us)])
 |_=>none
def tO:ec 334 jp:=by
 intro _ _ _ h hp;dsimp only[jp,F0]at h;split at h<;>cases h
 rename_i cs us;obtain⟨hc,hu,hn,hm⟩:=hp;have hul:=aS (es:=us);refine cb Zx0 Tryz.func334 ?_
 intro O r F hO hr hF;cbv
 repeat' first|apply Zc|(apply cN<;>intro hb<;>cbv)|(refine⟨[2,5,13,14,15],[2,5,13],Int,fun i=>[.reg 15 (.j i)],fun i=>0<=i/\i<=((us.length:Nat):Int)/\upto (AN us) i,fun i=>(us.length)-i.toNat,⟨0,?_,?_⟩,?_⟩;rotate_left;(focus (cbv;done));intro i hi;replace hi:0<=i/\i<=((us.length:Nat):Int)/\upto (AN us) i:=hi;obtain⟨i0,i1,i2⟩:=hi;cbv)|(refine ah (O.ar .add Za i 1) ?_ ?_ ?_;focus (cbv;done))
 all_goals(subst hO hr hF;(try simp only[nc]at*);(try simp only[aj,SS,sa,az]at*);(try rw[db Uc Uc]))
 all_goals first|omega|exact⟨hc,hu,hn,hm⟩|exact⟨hc,hu⟩|exact j4|exact cr|exact bU i2 Ud|exact J4 hu i0 Uc|(have q:=PZ (cs:=cs) (us:=us) (.inl Ud);exact J1 rfl q.2.2.symm q.2.1.symm q.1.symm)|(have q:=PZ (cs:=cs) (us:=us) (.inr (Np i2 Uc));exact J1 rfl q.2.2.symm q.2.1.symm q.1.symm)|(have q:=J2 Ud i0 (free_at i2 i0 Uc Ud);exact J1 rfl ((akj hu i0 Uc).trans q.2.2.symm) q.2.1.symm q.1.symm)|exact⟨Zd,Zd⟩|done
abbrev Zx2:di:=dH (fun F f=>match f with|133=>cM F|269=>dR F|333=>iO F|170=>dN F|33=>ap F|334=>jp F|_=>fun _=>none) (by
 intro f;dsimp only;split;exact dj;exact fO;exact pd;exact fy;exact aw;exact tO;exact dp)
def lz:EC:=fun F=>fun
 |[.agg [.s 1 cs,.s 1 us,.s 2 es,.v (.int Za c),.s 1 rs],.one (.v (.int Za p))]=>some (fun _=>Rw [.sl [tI]] cs/\Rw [tB] us/\Rw [tI,tI] es/\Rw [tI] rs/\au cs<=1099511627776/\au us<=1099511627776/\au es<=1099511627776/\au rs<=1099511627776,[.agg [.s 1 cs,.s 1 (F.kwU (F.ccB cs us es c rs) us es c rs p),.s 2 (F.kwE (F.ccB cs us es c rs) us es c rs p),.i (F.kqN (F.ccB cs us es c rs) c),.s 1 rs],.k (F.kwB (F.ccB cs us es c rs) us es c rs p)])
 |_=>none
def xg:ec 261 lz:=by
 intro _ _ _ h hp;dsimp only[lz,F0]at h;split at h<;>cases h
 rename_i cs us es c rs p;obtain⟨wc,wu,we,wr,k1,k2,k3,k4⟩:=hp;have l3:=aS (es:=es);have l2:=aS (es:=us);have e0:bQ .sub Za (es.length:Int) 1=es.length-1:=eR Uc;refine cb Zx2 Tryz.func261 ?_
 intro O r F hO hr hF;cbv
 repeat' first|apply Zc|(apply cN<;>intro hb<;>cbv)
 all_goals(subst hO hr hF;(try simp only[nc]at*);(try simp only[aj,SS,sa,az]at*);(try simp only[e0]at*);(try have cc:=zY (cs:=cs) (us:=us) (es:=es) (c:=c) (rs:=rs) Ud);(try have kr:=gK cc.2);(try have km:=kr.1);(try have c0:=kr.2.1);(try have c1:=kr.2.2.1);(try have fo:framesOk cs us=true:=TN cc.2);(try have fb:=acZ fo (by assumption:ftB cs us=true));(try have fi:=fb.2.1);(try have f0:=fb.2.2.1);(try simp only[fi]at*);(try have f1:=fb.2.2.2);(try have pr:=ay.1 (by assumption:inR p 0 (es.length-1)=true)))
 all_goals first
  | (show(_:List DV)=_
     first
      |(rw[show ccB cs us es c rs=false from Ud];exact rfl)
      |(have q:=aiF (us:=us) (es:=es) (p:=p) (aeH Ud);rw[show ccB cs us es c rs=true from Ud];exact jh rfl (uu q).1 (uu q).2.1 rfl rfl (uu q).2.2)
      |(have q:=aiG (es:=es) (c:=c) (rs:=rs) (p:=p) (ac0 fo Ud);rw[show ccB cs us es c rs=true from Ud];exact jh rfl (uu q).1 (uu q).2.1 rfl rfl (uu q).2.2)
      |(have q:=aiH (us:=us) (c:=c) (rs:=rs) Ud;rw[show ccB cs us es c rs=true from Ud];exact jh rfl (uu q).1 (uu q).2.1 rfl rfl (uu q).2.2)
      |(have q:=aiI (us:=us) (c:=c) (rs:=rs) (VQ (by assumption:mapB es p=true));rw[show ccB cs us es c rs=true from Ud];exact jh rfl (uu q).1 (uu q).2.1 rfl rfl (uu q).2.2)
      |(have q:=aiL (us:=us) (aeI Ud) f0 Ud (ajr Ud);rw[show ccB cs us es c rs=true from Ud];exact jh rfl (fb.1.trans (TW q).1) ((ajW we pr.1 Uc).trans (TW q).2.1) rfl rfl (TW q).2.2)
      |done)
  | (show(_:List H)=_
     first
      |done)
  |omega
  |exact⟨wc,wu,we,wr,k1,k2,k3,k4,c0,c1⟩
  |exact⟨wc,wu,we,wr,k1,k2,k3,k4⟩
  |exact⟨wc,wu,we,wr⟩
  |exact⟨wc,wu,k1,k2⟩
  |exact agc we pr.1 Uc
  |exact⟨Zd,Zd⟩
  |done
open Go.Shelf Go.RowKit Go.Lib in
theorem Ba:I9 Tryz.prog 332:=by
 refine⟨fun w=>?_,fun b off sp len cap i hc hm hi w=>?_⟩<;>(go_enter Tryz.func332,Tryz.ntmps332;go_wp2;all_goals(go_ret;exact⟨rfl,rfl⟩))
open Go.Shelf Go.RowKit Go.Lib in
theorem Bc:Ja Tryz.prog 332 2:=by
 intro w es b off cap i j S v1 v2 v3 F hlt;obtain⟨A,W1,zs,hA,hsrc,hcap,hm,hij,hj,s1,s2,s3,hcl,hW2,hW,hic,hjc⟩:=F.fx hlt [Zn Zy 0,Zn Zy 0] Tryz.underlying37 Tryz.zeroValue108 rfl (Z7.1 rfl) rfl;have mixed:Tryz.prog.follows Yo=true:=mixed;clear F
 go_enter Tryz.func332,Tryz.ntmps332
 go_wp2_with fail
 go_region_law_o (refine step_append_room rfl (.tmp 22) (.tmp 25) 37 rfl 108 _ 2 Tryz.underlying37 rfl rfl b off i cap (by simp[ZM,ZI]) A (es.length-j) (cap-j) v3 (by simp[ZM,ZI]) s1.out hsrc.out s2.out (by omega) s3.out ?_;rw[<-hW.out])
 go_wp2
 go_ret
 rw[hW.out];exact⟨rfl,hW2⟩
def bD:EO:=fun F=>fun
 |[.one (.s 2 es),.one (.v (.int Za i)),.one (.v (.int Za j))]=>some (fun _=>0<=i/\i<=j/\j<=es.length,[.one (.s 2 (F.delL es i j))])
 |_=>none
def cK:eo 332 bD:=by
 intro _ _ _ h hp;dsimp only[bD,F0]at h;split at h<;>cases h
 rename_i es i j;exact s7 Ba Bc hp
abbrev Zx3:di:={
 Φ:=tH
 F0:=F0
 ct:=fun F f=>match f with|134=>d7 F|61=>fm F|_=>fun _=>none
 hc:=(by
  intro f;dsimp only;split;exact iw;exact ka;exact dp)
 ot:=fun F f=>match f with|332=>some (bD F)|_=>none
 ho:=(by
  intro f mk h;dsimp only at h;split at h<;>cases h
  exact cK)}
def jx:EC:=fun F=>fun
 |[.one (.v (.int Za p)),.one (.s 2 rs),.one (.v (.int Za n))]=>some (fun _=>0<=p/\p<=1099511627776/\Rw [tI,tI] rs/\rs.length<=1099511627776/\zk n,[.one (.s 2 (F.tkL p rs n)),.j (F.tkA p rs n),.k (F.tkB p rs n)])
 |_=>none
def t6:ec 260 jx:=by
 intro _ _ _ h hp;dsimp only[jx,F0]at h;split at h<;>cases h
 rename_i p rs n;obtain⟨p0,p1,hr,hl,n0,n1⟩:=hp;refine cb Zx3 Tryz.func260 ?_
 intro O r F hO hr hF;cbv
 repeat' first|apply Zc|(apply cN<;>intro hb<;>cbv)|(refine⟨[1,2,9,10,25,26,27],[9],Int×Int,fun s_=>match s_ with|(i,b)=>[.reg 27 (.j i),.reg 10 (.j b)],fun s_=>match s_ with|(i,b)=>0<=i/\i<=(rs.length:Int)/\ME rs n i b,fun s_=>match s_ with|(i,b)=>(rs.length-i).toNat,⟨(0,-1),?_,?_⟩,?_⟩;rotate_left;(focus (cbv;done));intro s_ hi;obtain⟨i,b⟩:=s_;replace hi:0<=i/\i<=(rs.length:Int)/\ME rs n i b:=hi;obtain⟨i0,i1,i2⟩:=hi;cbv)|(refine ah (O.ar .add Za i 1,i) ?_ ?_ ?_;focus (cbv;done))|(refine ah (O.ar .add Za i 1,b) ?_ ?_ ?_;focus (cbv;done))
 all_goals(subst hO hr hF;(try simp only[nc]at*);(try simp only[aj,SS,sa,az]at*);(try rw[db Uc Uc]);(try have ib:=ab7 i2 i0);(try have hk:rgOk p rs=true:=Ud);(try have eb:=MR i2 i1 Uc);(try have tb:=akf hk Uc (by omega:0<=eh rs n));(try have T:=BY tb);(try have t0:=T.i0);(try have t1:=T.i1);(try have t2:=T.a0);(try have t3:=T.l0);(try have t4:=T.e);(try have t5:=T.p0);(try subst eb);(try have a1:bQ .add Za (ag rs (eh rs n) 0) n=ag rs (eh rs n) 0+n:=b8 Uc);(try have a3:bQ .add Za (eh rs n) 1=eh rs n+1:=b8 Uc);(try have b1:bQ .add Za i 1=i+1:=b8 Uc);(try have U:=akg hr T);(try simp only[U.g0]at*);(try simp only[a1,a3,b1]at*);(try simp only[U.u1]at*);(try simp only[U.g1]at*);(try have a2:bQ .sub Za (ag rs (eh rs n) 1) n=ag rs (eh rs n) 1-n:=eR Uc);(try simp only[a2]at*);(try simp only[U.u2]at*);(try simp only[U.g2]at*);(try have w1:=U.w1);(try have w2:=U.w2);(try have l1:=U.l);(try have l2:=U.l2);(try simp only[qv,List.nil_append]at*);(try have sd:=wN (l:=rs) (i:=eh rs n+1) Uc Uc);(try simp only[sd]at*))
 all_goals first
  | (show(_:List DV)=_
     first
      |(have z:=abx (n:=n) Ud;exact yQ (O6 z) z)
      |(have z:=aby (p:=p) (rs:=rs) Uc;exact yQ (O6 z) z)
      |(have z:=abz (p:=p) Uc;exact yQ (O6 z) z)
      |(rw[abw t0];exact yQ (agl tb Uc) tb)
      |exact yQ (agm tb Uc) tb
      |done)
  | (show(_:List H)=_
     first
      |done)
  |omega
  |exact j4
  |exact⟨hr,Uc⟩
  |exact⟨p0,p1,hr,Uc⟩
  |exact ab4
  |exact ab5 i2 i0 Uc Uc
  |exact ab6 i2 i0 Uc
  |exact abt hr Uc Uc (by decide)
  |exact abt w1 t0 l1 (by decide)
  |exact Fq hr t0 t1 (by decide)
  |exact Fq w1 t0 l1 (by decide)
  |exact Fq w2 t0 l2 (by decide)
  |exact⟨Zd,by simp only[List.length_set]⟩
  |exact absurd (by assumption:true=false) Bool.noConfusion
  |(show bz _ _=true;kernel_rfl)
  |done
abbrev Hn0:di:=dH (fun F f=>match f with|69=>eC F|33=>ap F|_=>fun _=>none) (by
 intro f;dsimp only;split;exact gG;exact aw;exact dp)
def ku:EC:=fun F=>fun
 |[.one (.v (.int Za s))]=>some (fun _=>True,[.j (F.nxS s)])
 |_=>none
def vS:ec 330 ku:=by
 intro _ _ _ h hp;dsimp only[ku,F0]at h;split at h<;>cases h
 rename_i s;refine cb Hn0 Tryz.func330 ?_
 intro O r F hO hr hF;cbv
 repeat' first|apply Zc|(apply cN<;>intro hb<;>cbv)
 all_goals(subst hO hr hF;(try simp only[nc]at*);(try simp only[aj,SS,sa,az]at*))
 all_goals first
  | (show(_:List DV)=_
     first
      |exact cd (aju Ud).symm
      |exact cd (ajt Ud).symm
      |done)
  | (show(_:Int)≠0
     decide)
  |done
abbrev Hn1:di:=dH (fun F f=>match f with|69=>eC F|33=>ap F|330=>ku F|_=>fun _=>none) (by
 intro f;dsimp only;split;exact gG;exact aw;exact vS;exact dp)
def gH:EC:=fun F=>fun
 |[.one (.v (.int Za s)),.one (.v (.int Za n))]=>some (fun _=>True,[.j (F.cuI s n),.j (F.cuS s n)])
 |_=>none
def mE:ec 257 gH:=by
 intro _ _ _ h hp;dsimp only[gH,F0]at h;split at h<;>cases h
 rename_i s n;refine cb Hn1 Tryz.func257 ?_
 intro O r F hO hr hF;cbv
 repeat' first|apply Zc|(apply cN<;>intro hb<;>cbv)
 all_goals(subst hO hr hF;(try simp only[nc]at*);(try simp only[aj,SS,sa,az]at*))
 all_goals first
  | (show(_:List DV)=_
     first
      |exact Ah (Ng (acs Ud)).1.symm (Ng (acs Ud)).2.symm
      |exact Ah (Ng (acu Ud)).1.symm (Ng (acu Ud)).2.symm
      |exact Ah (acw Ud Ud).1.symm (acw Ud Ud).2.symm
      |done)
  |omega
  |(have q:=ay.1 (by assumption:inR n 1 1000=true);omega)
  |done
abbrev Hn2:di:=dH (fun F f=>match f with|69=>eC F|33=>ap F|257=>gH F|_=>fun _=>none) (by
 intro f;dsimp only;split;exact gG;exact aw;exact mE;exact dp)
def ky:EC:=fun F=>fun
 |[.one (.v (.int Za s)),.one (.v (.int Za n))]=>some (fun _=>True,[.one (.s 1 (F.shuL s n)),.j (F.shuS s n)])
 |_=>none
def vW:ec 287 ky:=by
 intro _ _ _ h hp;dsimp only[ky,F0]at h;split at h<;>cases h
 rename_i s n;refine cb Hn2 Tryz.func287 ?_
 intro O r F hO hr hF;cbv
 repeat' first|apply Zc|(apply cN<;>intro hb<;>cbv)|(refine⟨[0,1,6,7],[6],Int×af,fun s_=>match s_ with|(i,o)=>[.reg 7 (.j i),.reg 6 (.one (.vw 6 0 0 0 (O.ln o))),.leaf 6 0 ⟨0,0,none,.own (.s 1 o)⟩],fun s_=>match s_ with|(i,o)=>0<=i/\i<=n/\RA i o,fun s_=>match s_ with|(i,o)=>(n-i).toNat,⟨(0,[]),?_,?_⟩,?_⟩;rotate_left;(focus (cbv;done));intro s_ hi;obtain⟨i,o⟩:=s_;replace hi:0<=i/\i<=n/\RA i o:=hi;obtain⟨i0,i1,i2⟩:=hi;cbv)|(refine⟨[0,6,8],[6],Int×af×Int,fun s_=>match s_ with|(j,p,t)=>[.reg 0 (.j t),.reg 8 (.j j),.leaf 6 0 ⟨0,0,none,.own (.s 1 p)⟩],fun s_=>match s_ with|(j,p,t)=>j<n/\(-1<=j)/\RO n s j p t,fun s_=>match s_ with|(j,p,t)=>(j+1).toNat,⟨(O.ar .sub Za n 1,o,s),?_,?_⟩,?_⟩;rotate_left;(focus (cbv;done));intro s_ hj;obtain⟨j,p,t⟩:=s_;replace hj:j<n/\(-1<=j)/\RO n s j p t:=hj;obtain⟨j0,j1,j2⟩:=hj;cbv)|(refine ah (O.ar .add Za i 1,O.cat o (O.sub [[.i i]] 0 (O.ln [[.i i]]))) ?_ ?_ ?_;focus (cbv;done))|(refine ah (O.ar .sub Za j 1,O.up (.s 1 (O.up (.s 1 p) [(O.ad 0 j,0)] [.i (O.pi (.s 1 p) [(O.ad 0 (F.cuI t (O.ar .add Za j 1)),0)])])) [(O.ad 0 (F.cuI t (O.ar .add Za j 1)),0)] [.i (O.pi (.s 1 p) [(O.ad 0 j,0)])],F.cuS t (O.ar .add Za j 1)) ?_ ?_ ?_;focus (cbv;done))
 all_goals(subst hO hr hF;(try simp only[nc]at*);(try simp only[aj,SS,sa,az]at*);(try rw[db Uc Uc]);(try have hn:=ay.1 (by assumption:inR n 0 64=true));(try have li:=GZ Ud Ud);(try have e1:bQ .add Za j 1=j+1:=b8 Uc);(try have e2:bQ .sub Za j 1=j-1:=eR Uc);(try have e3:bQ .sub Za n 1=n-1:=eR Uc);(try have e0:bQ .add Za i 1=i+1:=b8 Uc);(try simp only[e1]at*);(try simp only[e2]at*);(try simp only[e3]at*);(try simp only[e0]at*);(try have S:=(by assumption:RO n s j p t));(try have sl:=S.l);(try have sq:=CW (n:=j+1) S.k Uc Uc))
 all_goals first
  | (show(_:List DV)=_
     first
      |exact F2 (LO (afP Ud)).1.symm (LO (afP Ud)).2.symm
      |exact F2 (LO (afQ Ud)).1.symm (LO (afQ Ud)).2.symm
      |(have q:=OP S Uc (ON Ud Ud);exact F2 q.1 q.2)
      |done)
  |(show bz _ _=true;kernel_rfl)
  |omega
  |exact⟨Zd,Zd⟩
  |exact adA
  |exact TD Ud Ud
  |exact afS Ud Uc Uc Uc Ud
  |(rw[agd S.r Uc Uc sq.1 Uc];exact abk S Uc Uc Uc)
  |exact wz S.r Uc Uc
  |exact J4 S.r Uc Uc
  |exact abu S.r Uc Uc sq.1 Uc
  |(constructor<;>(simp only[List.length_cons,List.length_nil];omega))
  |(constructor<;>omega)
  |done
open Go.Shelf Go.RowKit Go.Lib in
theorem CX:I9 Tryz.prog 284:=by
 refine⟨fun w=>?_,fun b off sp len cap i hc hm hi w=>?_⟩<;>(go_enter Tryz.func284,Tryz.ntmps284;go_wp2;all_goals(go_ret;exact⟨rfl,rfl⟩))
open Go.Shelf Go.RowKit Go.Lib in
theorem CY:Ja Tryz.prog 284 3:=by
 intro w es b off cap i j S v1 v2 v3 F hlt;obtain⟨A,W1,zs,hA,hsrc,hcap,hm,hij,hj,s1,s2,s3,hcl,hW2,hW,hic,hjc⟩:=F.fx hlt [Zn Zy 0,Zn Zy 0,Zn Zy 0] Tryz.underlying38 Tryz.zeroValue213 rfl (Z7.1 rfl) rfl;have mixed:Tryz.prog.follows Yo=true:=mixed;clear F
 go_enter Tryz.func284,Tryz.ntmps284
 go_wp2_with fail
 go_region_law_o (refine step_append_room rfl (.tmp 22) (.tmp 25) 38 rfl 213 _ 3 Tryz.underlying38 rfl rfl b off i cap (by simp[ZM,ZI]) A (es.length-j) (cap-j) v3 (by simp[ZM,ZI]) s1.out hsrc.out s2.out (by omega) s3.out ?_;rw[<-hW.out])
 go_wp2
 go_ret
 rw[hW.out];exact⟨rfl,hW2⟩
def ak:EO:=fun F=>fun
 |[.one (.s 3 es),.one (.v (.int Za i)),.one (.v (.int Za j))]=>some (fun _=>0<=i/\i<=j/\j<=es.length,[.one (.s 3 (F.delL es i j))])
 |_=>none
def cP:eo 284 ak:=by
 intro _ _ _ h hp;dsimp only[ak,F0]at h;split at h<;>cases h
 rename_i es i j;exact s7 CX CY hp
def my:EC:=fun F=>fun
 |[.agg hl_,.one (.v (.int Za p))]=>hL hl_ fun a0 a1 a2 a3 a4 a5 a6 a7 a8 a9 aA aB aC aD aE aF aG aH aI aJ aK aL aM aN=>(fun _=>True,[.k (F.bsB aI aJ aK p)])
 |_=>none
def u9:ec 140 my:=by
 intro _ _ _ h hp;dsimp only[my,F0,hL]at h;split at h;rotate_left;cases h;split at h<;>cases h
 rename_i p _ a0 a1 a2 a3 a4 a5 a6 a7 a8 a9 aA aB aC aD aE aF aG aH aI aJ aK aL aM aN;refine cb nB Tryz.func140 ?_
 intro O r F hO hr hF;cbv
 repeat' first|apply Zc|(apply cN<;>intro hb<;>cbv)
 all_goals(subst hO hr hF;(try simp only[nc]at*);(try simp only[aj,SS,sa,az]at*))
 all_goals first
  | (show(_:List DV)=_
     first
      |exact ax (ahi Ud).symm
      |exact ax (ahg Ud Ud).symm
      |exact ax (ahh Ud Ud).symm
      |done)
  |done
abbrev Zd1:di:=dH (fun F f=>match f with|154=>jO F|156=>iT F|155=>kx F|_=>fun _=>none) (by
 intro f;dsimp only;split;exact qO;exact pj;exact vV;exact dp)
def gj:EP:=fun F=>fun
 |[.mp hl_,.agg [.v (.int Za t),.v (.int Za l)]]=>hM hl_ fun a0 a1 a2 a3 a4 a5 a6 a7 a8 a9 aA aB aC aD aE aF aG aH aI aJ aK aL aM aN=>(fun _=>kJ a0 a1 a2 a4 a5 a6 a7 a8 a9 aA aB aD aL/\kerOk a0 a1 a2 a3 a4=true/\a3≠100000/\a5.length<=536870911/\0<=t/\0<=l/\t+l<=1000,[(Ny (F.duC a0 a1 a2 t l) (F.duU a0 a1 a2 t l) (F.duE a0 a1 a2 t l) a3 a4 (F.rpL (F.zlI (F.duE a0 a1 a2 t l)) a5 t l) a6 a7 a8 a9 aA aB aC aD aE aF aG aH aI aJ aK aL aM aN)],[])
 |_=>none
def na:ep 53 gj:=by
 intro _ _ _ _ h hp;dsimp only[gj,F0,hM]at h;split at h;rotate_left;cases h;split at h<;>cases h
 rename_i t l _ a0 a1 a2 a3 a4 a5 a6 a7 a8 a9 aA aB aC aD aE aF aG aH aI aJ aK aL aM aN;obtain⟨hp,hk,hn,h5,t0,l0,tl⟩:=hp;have km:=(gK hk).1;have e1:bQ .add Za t l=t+l:=b8 Uc;have c0:=hp.c0;have c1:=hp.c1;have c2:=hp.c2;have c4:=hp.c4;have c5:=hp.c5;have q2:=aS (es:=a2);refine pb Zd1 Tryz.func53 ?_
 intro O r os F hO hr hos hF;cbv
 repeat' first|apply Zc|(apply cN<;>intro hb<;>cbv)|(refine⟨[0,3,4],[0,3],Int×af×af×af×af,fun s_=>match s_ with|(p,c,u,e,r)=>[.reg 4 (.j p),.leaf 0 0 ⟨0,0,none,.own (.s 1 c)⟩,.leaf 0 1 ⟨0,0,none,.own (.s 1 u)⟩,.leaf 0 2 ⟨0,0,none,.own (.s 2 e)⟩,.leaf 0 3 ⟨0,0,none,.own (.i a3)⟩,.leaf 0 4 ⟨0,0,none,.own (.s 1 r)⟩],fun s_=>match s_ with|(p,c,u,e,r)=>t<=p/\p<=t+l/\IV a0 a1 a2 t p c u e/\r=a4,fun s_=>match s_ with|(p,c,u,e,r)=>(t+l-p).toNat,⟨(t,a0,a1,a2,a4),?_,?_⟩,?_⟩;rotate_left;(focus (cbv;done));intro s_ hp;obtain⟨p,c,u,e,r⟩:=s_;replace hp:t<=p/\p<=t+l/\IV a0 a1 a2 t p c u e/\r=a4:=hp;obtain⟨p0,p1,p2,p3⟩:=hp;cbv)|(refine ah (O.ar .add Za p 1,F.ktC (F.ccB (O.sub c 0 (O.ln c)) (O.sub u 0 (O.ln u)) (O.sub e 0 (O.ln e)) a3 (O.sub r 0 (O.ln r))) (O.sub c 0 (O.ln c)) (O.sub e 0 (O.ln e)) p,F.ktU (F.ccB (O.sub c 0 (O.ln c)) (O.sub u 0 (O.ln u)) (O.sub e 0 (O.ln e)) a3 (O.sub r 0 (O.ln r))) (O.sub u 0 (O.ln u)) (O.sub e 0 (O.ln e)) p,F.ktE (F.ccB (O.sub c 0 (O.ln c)) (O.sub u 0 (O.ln u)) (O.sub e 0 (O.ln e)) a3 (O.sub r 0 (O.ln r))) (O.sub e 0 (O.ln e)) p,(O.sub r 0 (O.ln r))) ?_ ?_ ?_;focus (cbv;done))
 all_goals((try subst hos);subst hO hr hF;(try simp only[nc]at*);(try simp only[aj,SS,sa,az]at*);(try simp only[e1]at*);(try rw[db Uc Uc]);(try subst p3);(try have dc:=Be p2);(try have el:=p2.l);(try have cc:=R6 p2.m hk hn);(try have kk:=TV (cs:=c) (us:=u) (es:=e) (p:=p) cc);(try have en:=GP (l:=l) p2 Uc Uc))
 all_goals first
  | (show(_:List H)=_
     first
      |(first|(rw[<-en.1, <-en.2.1, <-en.2.2];done)|(rw[<-en.1, <-en.2.1, <-en.2.2];exact rfl))
      |done)
  |omega
  |exact⟨p2.rc,p2.ru,p2.re,hp.r4,Uc,Uc,Uc,Uc⟩
  |exact JM km hp.r0 hp.r1 hp.r2
  |(show(_:af)=_;exact rfl)
  |(rw[kk.1,kk.2.1,kk.2.2.1];exact EV p2 p0)
  |exact⟨by unfold zlI;omega,by unfold zlI;omega,hp.r5,Uc⟩
  |(show bz _ _=true;kernel_rfl)
  |exact⟨Zd,Zd⟩
  |done
abbrev Zd2:di:={
 Φ:=tH
 F0:=F0
 pt:=fun F f=>match f with|53=>some (gj F)|_=>none
 hp:=(by
  intro f mk h;dsimp only at h;split at h<;>cases h
  exact na)
 ot:=fun F f=>match f with|284=>some (ak F)|_=>none
 ho:=(by
  intro f mk h;dsimp only at h;split at h<;>cases h
  exact cP)}
def kD:EP:=fun F=>fun
 |[.mp hl_,.one (.v (.int Za i))]=>hM hl_ fun a0 a1 a2 a3 a4 a5 a6 a7 a8 a9 aA aB aC aD aE aF aG aH aI aJ aK aL aM aN=>(fun _=>kJ a0 a1 a2 a4 a5 a6 a7 a8 a9 aA aB aD aL/\kerOk a0 a1 a2 a3 a4=true/\a3≠100000/\a5.length<=536870911/\0<=i/\i<a6.length/\0<=ag a6 i 0/\ag a6 i 0<=31,[(Ny (F.dsC a0 a1 a2 a6 i) (F.dsU a0 a1 a2 a6 i) (F.dsE a0 a1 a2 a6 i) a3 a4 (F.dsF a0 a1 a2 a5 a6 i) (F.dsS a6 i) a7 a8 a9 aA aB aC aD aE aF aG aH aI aJ aK aL aM aN)],[])
 |_=>none
def v5:ep 182 kD:=by
 intro _ _ _ _ h hp;dsimp only[kD,F0,hM]at h;split at h;rotate_left;cases h;split at h<;>cases h
 rename_i i _ a0 a1 a2 a3 a4 a5 a6 a7 a8 a9 aA aB aC aD aE aF aG aH aI aJ aK aL aM aN;obtain⟨hp,hk,hn,h5,i0,i1,g0,g1⟩:=hp;have km:=(gK hk).1;have c5:=hp.c5;have c6:=hp.c6;have c2:=hp.c2;have q6:=aS (es:=a6);have q2:=aS (es:=a2);have q5:=aS (es:=a5);have e1:bQ .add Za i 1=i+1:=b8 Uc;have hs6:=hp.r6.scal rfl;have kl:=G9 (es:=a2) (p:=ag a6 i 0);refine pb Zd2 Tryz.func182 ?_
 intro O r os F hO hr hos hF;cbv
 repeat' first|apply Zc|(apply cN<;>intro hb<;>cbv)
 all_goals((try subst hos);subst hO hr hF;(try simp only[nc]at*);(try simp only[aj,SS,sa,az]at*);(try simp only[e1]at*);(try simp only[dY (l:=a6) (sz:=3) (j:=0) (i:=i) i0]at*))
 all_goals first
  | (show(_:List H)=_
     first
      |exact rfl
      |done)
  |omega
  |exact Hb hp.r6 i0 i1 (by decide)
  |exact⟨acz hp,hk,hn,h5,g0,Uc,Uc⟩
  |exact⟨Zd,Zd⟩
  |done
end Go.V