/- Contracts. -/
import Derived.Test.YtpldpilhgjpkjaaGreatZW5
import Derived.Test.YtpldpilhgjpkjaaGreatZM5
import Derived.Test.YtpldpilhgjpkjaaGreatZW6
set_option linter.all false
open Go
open Act renaming eval->ZM,put->ZI
open And renaming intro->Zc
open Departure renaming mixedOrders->Yo
open Extern.SlicesOverlaps renaming overlaps->XS
open IntKind renaming i64->Za
open List renaming length_nil->Zk,length_eq_one_iff->XT
open True renaming intro->Zd
noncomputable section
namespace Go.V
open Go Go.Proofs
set_option maxRecDepth 1000000
set_option maxHeartbeats 8000000
abbrev Zk0:di:=dH (fun F f=>match f with|331=>gJ F|_=>fun _=>none) (by
 intro f;dsimp only;split;exact mG;exact dp)
def hC:EC:=fun F=>fun
 |[.one (.v (.int Za b)),.one (.v (.int Za i))]=>some (fun _=>True,[.j (F.woN b i)])
 |_=>none
def rl:ec 283 hC:=by
 intro _ _ _ h hp;dsimp only[hC,F0]at h;split at h<;>cases h
 rename_i b i;refine cb Zk0 Tryz.func283 ?_
 intro O r F hO hr hF;cbv
 repeat' first|apply Zc|(apply cN<;>intro hb<;>cbv)
 all_goals(subst hO hr hF;(try simp only[nc]at*);(try simp only[aj,SS,sa,az]at*);(try have hs:=DN.1 (by assumption:slB b i=true));(try have hw:=zg hs.2.1 hs.2.2);(try simp only[hw]at*))
 all_goals first
  | (show(_:List DV)=_
     first
      |(refine cd ?_;unfold woN;rw[show slB b i=false from Ud];exact rfl)
      |(refine cd ?_;unfold woN;rw[VO (by assumption:slB b i=true)])
      |done)
  |omega
  |done
abbrev Zk1:di:=dH (fun F f=>match f with|167=>eB F|273=>dy F|283=>hC F|_=>fun _=>none) (by
 intro f;dsimp only;split;exact gF;exact eL;exact rl;exact dp)
def kz:EC:=fun F=>fun
 |[.agg [.v (.int Za p),.v (.int Za k),.v (.int Za b)],.one (.v (.int Za s))]=>some (fun _=>True,[.agg [.i p,.i k,.i (F.snN p k b s)],.k (F.snB p k b s)])
 |_=>none
def vX:ec 181 kz:=by
 intro _ _ _ h hp;dsimp only[kz,F0]at h;split at h<;>cases h
 rename_i p k b s;refine cb Zk1 Tryz.func181 ?_
 intro O r F hO hr hF;cbv
 repeat' first|apply Zc|(apply cN<;>intro hb<;>cbv)
 all_goals(subst hO hr hF;(try simp only[nc]at*);(try simp only[aj,SS,sa,az]at*))
 all_goals first
  | (show(_:List DV)=_
     first
      |(have q:=aj0 (p:=p) (k:=k) (b:=b) (x:=s) Ud;rw[q.1,q.2];exact rfl)
      |(have q:=aj1 (p:=p) (k:=k) (b:=b) (x:=s) Ud;rw[q.1,q.2];exact rfl)
      |(have q:=afV (p:=p) (k:=k) (b:=b) (x:=s) Ud Ud;rw[q.1,q.2];exact rfl)
      |done)
  |done
def Tryz.laysQ_ren:Go.Shelf.Ren:=⟨fun|41=>161|n=>n,fun|22=>45|23=>142|4=>4|n=>n,fun|n=>n⟩
def Tryz.laysQ:SlLaysE0.n41 Tryz.prog Tryz.laysQ_ren:=⟨by kernel_rfl,⟨Tryz.f161.name,by decide,Tryz.func161.trans (congrArg some (by kernel_rfl))⟩,Tryz.underlying4,Tryz.isAgg4,Tryz.sizeOf4,Tryz.zeroValue4,Tryz.underlying45,Tryz.isAgg45,Tryz.sizeOf45,Tryz.zeroValue45⟩
def aO:EC:=fun F=>fun
 |[.one (.s 3 es)]=>some (fun _=>Rw [tI,tI,tI] es/\es.length<=1099511627776,[.one (.s 3 es)])
 |_=>none
def bR:ec 161 aO:=by
 intro _ _ _ h hp;dsimp only[aO,F0]at h;split at h<;>cases h
 rename_i es;obtain⟨hw,hl⟩:=hp;obtain⟨i0,hi,hz0,hz1,hz2⟩:=info_parts (show(Tryz.prog.info? 142).map (fun i=>(i.zero,i.size,i.bytes))=some (some (.agg #[.int Za 0,.int Za 0,.int Za 0]),3,24)from by kernel_rfl);exact EQ (t:=142) 3 24 (by decide) (AnyE.slices_Clone_nil Tryz.laysQ) (CQ Tryz.laysQ i0 _ 3 24 hi hz0 hz1 hz2 rfl (by decide) Tryz.sizeOf142) (AnyE.slices_Clone Tryz.laysQ i0 _ 3 24 hi hz0 hz1 hz2 rfl (by decide) Tryz.sizeOf142) es (afK (hw.scal rfl)) Uc
abbrev Zk2:di:=dH (fun F f=>match f with|137=>fu F|65=>gI F|33=>ap F|161=>aO F|_=>fun _=>none) (by
 intro f;dsimp only;split;exact kf;exact mF;exact aw;exact bR;exact dp)
def iG:EC:=fun F=>fun
 |[.agg [.v (.int Za rm),.s 3 qs],.one (.v (.int Za now)),.one (.v (.int Za age))]=>some (fun _=>Rw [tI,tI,tI] qs/\qs.length<=1073741824,[.agg [.i rm,.s 3 (F.qeL rm qs now age)],.one (.s 3 (F.qeR rm qs now age))])
 |_=>none
def sj:ec 75 iG:=by
 intro _ _ _ h hp;dsimp only[iG,F0]at h;split at h<;>cases h
 rename_i rm qs now age;obtain⟨hw,hl⟩:=hp;have hs:=hw.scal rfl;refine cb Zk2 Tryz.func75 ?_
 intro O r F hO hr hF;cbv
 repeat' first|apply Zc|(apply cN<;>intro hb<;>cbv)|(refine⟨[1,2,3,6,8,9],[3,6,8],Int,fun i=>[.reg 9 (.j i)],fun i=>0<=i/\i<=((qs.length:Nat):Int)/\QeP qs (now-age) i,fun i=>(qs.length)-i.toNat,⟨0,?_,?_⟩,?_⟩;rotate_left;(focus (cbv;done));intro i hi;replace hi:0<=i/\i<=((qs.length:Nat):Int)/\QeP qs (now-age) i:=hi;obtain⟨i0,i1,i2⟩:=hi;cbv)|(refine ah (O.ar .add Za i 1) ?_ ?_ ?_;focus (cbv;done))
 all_goals(subst hO hr hF;(try simp only[nc]at*);(try simp only[aj,SS,sa,az]at*);(try rw[db Uc Uc]);(try have bq:quarOk rm qs=true:=Ud);(try have bn:=ay.1 (by assumption:inR now 0 1000000=true));(try have ba:=ay.1 (by assumption:inR age 0 1000000=true));(try have lm:qs.length<=1099511627776:=Uc);(try have qb:=afx bq hw i0 Uc);(try have e1:bQ .sub Za now (ag qs i 2)=now-ag qs i 2:=eR Uc);(try have e2:bQ .sub Za now age=now-age:=eR Uc);(try simp only[e1]at*);(try simp only[e2]at*))
 all_goals first
  | (show(_:List DV)=_
     first
      |(have q:=aa3 (ajI (rm:=rm) (qs:=qs) (now:=now) (age:=age) Ud);rw[q.1,q.2];exact rfl)
      |(have q:=aa3 (ajJ (rm:=rm) (qs:=qs) (now:=now) (age:=age) Ud);rw[q.1,q.2];exact rfl)
      |(have q:=aa3 (ajK (rm:=rm) (qs:=qs) (now:=now) (age:=age) Ud);rw[q.1,q.2];exact rfl)
      |(have n:=Ox i2 i0 Uc;have q:=afs (afq (rm:=rm) (qs:=qs) (now:=now) (age:=age) bq Ud Ud);rw[q.1,q.2, <-n,wN i0 Uc,qv];exact rfl)
      |done)
  |omega
  |exact j4
  |exact⟨hw,Uc⟩
  |exact⟨(QV hw).1,Nat.le_trans (QV hw).2 lm⟩
  |exact aft
  |exact aa4 i2 i0 Uc Uc
  |exact⟨Zd,Zd⟩
  |done
abbrev Zl0:di:={
 Φ:=tH
 F0:=F0
 ct:=fun F f=>match f with|162=>dS F|181=>kz F|140=>my F|_=>fun _=>none
 hc:=(by
  intro f;dsimp only;split;exact fP;exact vX;exact u9;exact dp)
 pt:=fun F f=>match f with|182=>some (kD F)|_=>none
 hp:=(by
  intro f mk h;dsimp only at h;split at h<;>cases h
  exact v5)}
def fK:EP:=fun F=>fun
 |[.mp hl_,.one (.v (.int Za ad))]=>hM hl_ fun a0 a1 a2 a3 a4 a5 a6 a7 a8 a9 aA aB aC aD aE aF aG aH aI aJ aK aL aM aN=>(fun _=>kJ a0 a1 a2 a4 a5 a6 a7 a8 a9 aA aB aD aL/\kerOk a0 a1 a2 a3 a4=true/\a3≠100000/\a5.length<=65/\rR a6/\(∃ i,qg a6 ad i),[(Ny (F.fzC aI aJ aK a0 a1 a2 a5 a6 ad) (F.fzU aI aJ aK a0 a1 a2 a5 a6 ad) (F.fzE aI aJ aK a0 a1 a2 a5 a6 ad) a3 a4 (F.fzF aI aJ aK a0 a1 a2 a5 a6 ad) (F.fzS aI aJ aK a0 a1 a2 a5 a6 ad) a7 a8 a9 aA aB aC aD aE aF aG aH aI aJ aK aL aM aN)],[])
 |_=>none
def mo:ep 76 fK:=by
 intro _ _ _ _ h hp;dsimp only[fK,F0,hM]at h;split at h;rotate_left;cases h;split at h<;>cases h
 rename_i ad _ a0 a1 a2 a3 a4 a5 a6 a7 a8 a9 aA aB aC aD aE aF aG aH aI aJ aK aL aM aN;obtain⟨hp,hk,hn,h5,g,ix,v⟩:=hp;have l6:=aS (es:=a6);have c6:=hp.c6;have dn:=Fy (L:=a7) g v;have vi:=Bv g v;have fs:=kL g v;have vl:=v.l;have up:=acH hp.r6 g v;have pg:=GT g v;have pl:=pg.2;have w1:=PO hp.r6 g v;have x0:(0:Int)<=ix:=Uc;have x1:(ix:Int)<a6.length:=Uc;have x2:(ix:Int)<(j5 a6 ad).length:=Uc;refine pb Zl0 Tryz.func76 ?_
 intro O r os F hO hr hos hF;cbv
 repeat' first|apply Zc|(apply cN<;>intro hb<;>cbv)
 all_goals((try subst hos);subst hO hr hF;(try simp only[nc]at*);(try simp only[aj,SS,sa,az]at*);(try simp only[dn.1]at*);(try simp only[dn.2.1,dn.2.2]at*);(try simp only[dY (l:=a6) (sz:=3) (j:=0) (i:=ix) x0,dY (l:=a6) (sz:=3) (j:=1) (i:=ix) x0,dY (l:=a6) (sz:=3) (j:=2) (i:=ix) x0]at*);(try simp only[show saS (ag a6 ix 0) (ag a6 ix 1) (ag a6 ix 2) ad=zt a6 ad ix from rfl]at*);(try simp only[up]at*);(try simp only[dY (l:=j5 a6 ad) (sz:=3) (j:=0) (i:=ix) x0,dY (l:=j5 a6 ad) (sz:=3) (j:=1) (i:=ix) x0,dY (l:=j5 a6 ad) (sz:=3) (j:=2) (i:=ix) x0]at*))
 all_goals first
  | (show(_:List DV)=_
     first
      |done)
  | (show(_:List H)=_
     first
      |(exfalso;have q:(1:Int)≠1:=Ud;exact q rfl)
      |(have b:=acE (me:=aI) (kp:=aJ) (mv:=aK) g v Ud;have z:=ac3 (c:=a0) (u:=a1) (e:=a2) (f:=a5) b;rw[z.1,z.2.1,z.2.2.1,z.2.2.2.1,z.2.2.2.2];exact rfl)
      |(have b:=acF (me:=aI) (kp:=aJ) (mv:=aK) g v Ud;have z:=ac3 (c:=a0) (u:=a1) (e:=a2) (f:=a5) b;rw[z.1,z.2.1,z.2.2.1,z.2.2.2.1,z.2.2.2.2];exact rfl)
      |(have b:=acG (me:=aI) (kp:=aJ) (mv:=aK) g v Ud Ud;have z:=ahM (c:=a0) (u:=a1) (e:=a2) (f:=a5) g v b;rw[z.1,z.2.1,z.2.2.1,z.2.2.2.1,z.2.2.2.2];exact rfl)
      |done)
  |omega
  |exact⟨hp.r6,hp.r7⟩
  |exact⟨ac5 hp g v,hk,hn,Uc,Uc,Uc,Uc,Uc⟩
  |exact vp hp.r6 x0 x1
  |exact aga hp.r6 x0 x1
  |exact vp w1 x0 x2
  |(show bz _ _=true;kernel_rfl)
  |done
abbrev Zl1:di:={
 Φ:=tH
 F0:=F0
 ct:=fun F f=>match f with|36=>dF F|17=>dM F|33=>ap F|75=>iG F|_=>fun _=>none
 hc:=(by
  intro f;dsimp only;split;exact d5;exact eA;exact aw;exact sj;exact dp)
 pt:=fun F f=>match f with|76=>some (fK F)|_=>none
 hp:=(by
  intro f mk h;dsimp only at h;split at h<;>cases h
  exact mo)}
def oQ:EC:=fun F=>fun
 |[.agg hl_,.one (.v (.int Za n))]=>hL hl_ fun a0 a1 a2 a3 a4 a5 a6 a7 a8 a9 aA aB aC aD aE aF aG aH aI aJ aK aL aM aN=>(fun _=>kJ a0 a1 a2 a4 a5 a6 a7 a8 a9 aA aB aD aL/\zk n,[.agg (Mu (F.ifR (F.tgB (F.hpI a0 a1 a2 a3 a4 a5 a6 a7 a8 a9 aA aB aC aD aE aF aG aH aI aJ aK aL aM aN) a3 n aF) (F.tkC aI aJ aK a0 a1 a2 a5 a6 (F.qeR aC aD (F.ckN aF n) 100)) a0) (F.ifR (F.tgB (F.hpI a0 a1 a2 a3 a4 a5 a6 a7 a8 a9 aA aB aC aD aE aF aG aH aI aJ aK aL aM aN) a3 n aF) (F.tkU aI aJ aK a0 a1 a2 a5 a6 (F.qeR aC aD (F.ckN aF n) 100)) a1) (F.ifR (F.tgB (F.hpI a0 a1 a2 a3 a4 a5 a6 a7 a8 a9 aA aB aC aD aE aF aG aH aI aJ aK aL aM aN) a3 n aF) (F.tkE aI aJ aK a0 a1 a2 a5 a6 (F.qeR aC aD (F.ckN aF n) 100)) a2) a3 a4 (F.ifR (F.tgB (F.hpI a0 a1 a2 a3 a4 a5 a6 a7 a8 a9 aA aB aC aD aE aF aG aH aI aJ aK aL aM aN) a3 n aF) (F.tkF aI aJ aK a0 a1 a2 a5 a6 (F.qeR aC aD (F.ckN aF n) 100)) a5) (F.ifR (F.tgB (F.hpI a0 a1 a2 a3 a4 a5 a6 a7 a8 a9 aA aB aC aD aE aF aG aH aI aJ aK aL aM aN) a3 n aF) (F.tkS aI aJ aK a0 a1 a2 a5 a6 (F.qeR aC aD (F.ckN aF n) 100)) a6) a7 a8 a9 aA aB aC (F.ifR (F.tgB (F.hpI a0 a1 a2 a3 a4 a5 a6 a7 a8 a9 aA aB aC aD aE aF aG aH aI aJ aK aL aM aN) a3 n aF) (F.qeL aC aD (F.ckN aF n) 100) aD) aE (F.ifN (F.tgB (F.hpI a0 a1 a2 a3 a4 a5 a6 a7 a8 a9 aA aB aC aD aE aF aG aH aI aJ aK aL aM aN) a3 n aF) (F.ckN aF n) aF) aG aH aI aJ aK aL aM aN),.j (F.ifN (F.tgB (F.hpI a0 a1 a2 a3 a4 a5 a6 a7 a8 a9 aA aB aC aD aE aF aG aH aI aJ aK aL aM aN) a3 n aF) (F.lenI (F.qeR aC aD (F.ckN aF n) 100)) 0)])
 |_=>none
def vP:ec 20 oQ:=by
 intro _ _ _ h hp;dsimp only[oQ,F0,hL]at h;split at h;rotate_left;cases h;split at h<;>cases h
 rename_i n _ a0 a1 a2 a3 a4 a5 a6 a7 a8 a9 aA aB aC aD aE aF aG aH aI aJ aK aL aM aN;obtain⟨hp,hA⟩:=hp;have l13:=aS (es:=aD);have c13:=hp.c13;refine cb Zl1 Tryz.func20 ?_
 intro O r F hO hr hF;cbv
 repeat' first|apply Zc|(apply cN<;>intro hb<;>cbv)|(refine⟨[4,6,8,50,51,52],[4,6,45],Int×af×af×af×af×af,fun s_=>match s_ with|(i,c,u,e,f,t)=>[.reg 52 (.j i),.leaf 6 0 ⟨0,0,none,.own (.s 1 c)⟩,.leaf 6 1 ⟨0,0,none,.own (.s 1 u)⟩,.leaf 6 2 ⟨0,0,none,.own (.s 2 e)⟩,.leaf 6 5 ⟨0,0,none,.own (.s 2 f)⟩,.leaf 6 6 ⟨0,0,none,.own (.s 3 t)⟩],fun s_=>match s_ with|(i,c,u,e,f,t)=>0<=i/\i<=((qeR aC aD (ckN aF n) 100).length:Int)/\Ms aI aJ aK (qeR aC aD (ckN aF n) 100) ⟨a0,a1,a2,a5,a6⟩ i c u e f t,fun s_=>match s_ with|(i,c,u,e,f,t)=>((qeR aC aD (ckN aF n) 100).length-i).toNat,⟨(0,a0,a1,a2,a5,a6),?_,?_⟩,?_⟩;rotate_left;(focus (cbv;done));intro s_ hi;obtain⟨i,c,u,e,f,t⟩:=s_;replace hi:0<=i/\i<=((qeR aC aD (ckN aF n) 100).length:Int)/\Ms aI aJ aK (qeR aC aD (ckN aF n) 100) ⟨a0,a1,a2,a5,a6⟩ i c u e f t:=hi;obtain⟨i0,i1,i2⟩:=hi;cbv)|(refine ah (O.ar .add Za i 1,F.fzC aI aJ aK c u e f t (O.pi (.s 3 (F.qeR aC aD (O.ar .add Za aF n) 100)) [(O.ad 0 i,0)]),F.fzU aI aJ aK c u e f t (O.pi (.s 3 (F.qeR aC aD (O.ar .add Za aF n) 100)) [(O.ad 0 i,0)]),F.fzE aI aJ aK c u e f t (O.pi (.s 3 (F.qeR aC aD (O.ar .add Za aF n) 100)) [(O.ad 0 i,0)]),F.fzF aI aJ aK c u e f t (O.pi (.s 3 (F.qeR aC aD (O.ar .add Za aF n) 100)) [(O.ad 0 i,0)]),F.fzS aI aJ aK c u e f t (O.pi (.s 3 (F.qeR aC aD (O.ar .add Za aF n) 100)) [(O.ad 0 i,0)])) ?_ ?_ ?_;focus (cbv;done))
 all_goals(subst hO hr hF;(try simp only[nc]at*);(try simp only[aj,SS,sa,az]at*);(try have hk:hpI a0 a1 a2 a3 a4 a5 a6 a7 a8 a9 aA aB aC aD aE aF aG aH aI aJ aK aL aM aN=true:=Ud);(try have hk:=(Rb (by assumption:t0B (hpI a0 a1 a2 a3 a4 a5 a6 a7 a8 a9 aA aB aC aD aE aF aG aH aI aJ aK aL aM aN) a3 0 a9=true)).1);(try have c3:=(Rb (by assumption:t0B (hpI a0 a1 a2 a3 a4 a5 a6 a7 a8 a9 aA aB aC aD aE aF aG aH aI aJ aK aL aM aN) a3 0 a9=true)).2.1);(try have c3:a3≠100000:=Ud);(try have hn:=c3);(try have r15:=ay.1 (hY hk).t);(try have rn:=ay.1 (by assumption:inR n 0 1000=true));(try have e1:bQ .add Za aF n=ckN aF n:=b8 Uc);(try simp only[e1]at*);(try have n1:ckN aF n<=1000000:=Uc);(try have n0:1000000<ckN aF n:=Uc);(try have n1:aF+n<=1000000:=n1);(try have n0:1000000<aF+n:=n0);(try have TT:=abv hp hk rn.1 n1);(try have wr:=TT.r);(try have lm:=TT.m);(try rw[db Uc Uc]);(try simp only[dY (l:=qeR aC aD (ckN aF n) 100) (sz:=3) (j:=0) (i:=i) i0]at*);(try have ht:=abA hp hk hn TT i2 i0 Uc);(try have E:=O7 i2 Uc))
 all_goals first
  | (show(_:List DV)=_
     first
      |(rw[aka (k:=hpI a0 a1 a2 a3 a4 a5 a6 a7 a8 a9 aA aB aC aD aE aF aG aH aI aJ aK aL aM aN) (c:=a3) (n:=n) (ck:=aF) Ud];exact rfl)
      |(rw[akb (k:=hpI a0 a1 a2 a3 a4 a5 a6 a7 a8 a9 aA aB aC aD aE aF aG aH aI aJ aK aL aM aN) (c:=a3) (n:=n) (ck:=aF) Ud];exact rfl)
      |(rw[akc (k:=hpI a0 a1 a2 a3 a4 a5 a6 a7 a8 a9 aA aB aC aD aE aF aG aH aI aJ aK aL aM aN) (c:=a3) (n:=n) (ck:=aF) Ud];exact rfl)
      |(rw[akd (k:=hpI a0 a1 a2 a3 a4 a5 a6 a7 a8 a9 aA aB aC aD aE aF aG aH aI aJ aK aL aM aN) (c:=a3) (n:=n) (ck:=aF) Uc];exact rfl)
      |(have gt:=ake (k:=hpI a0 a1 a2 a3 a4 a5 a6 a7 a8 a9 aA aB aC aD aE aF aG aH aI aJ aK aL aM aN) (c:=a3) (n:=n) (ck:=aF) hk c3 Ud n1;rw[gt,E.1,E.2.1,E.2.2.1,E.2.2.2.1,E.2.2.2.2];exact rfl)
      |done)
  | (show(_:List H)=_
     first
      |done)
  |omega
  |exact hp.hp
  |exact⟨hp.r13,Uc⟩
  |exact vp wr i0 Uc
  |exact agp
  |exact abB i2 i0
  |exact⟨Zd,Zd⟩
  |done
abbrev Zr0:di:=dH (fun F f=>match f with|157=>dA F|66=>fS F|_=>fun _=>none) (by
 intro f;dsimp only;split;exact eN;exact k7;exact dp)
def iP:EC:=fun F=>fun
 |[.agg [.s 1 ls],.one (.v (.int Za k))]=>some (fun _=>RF ls,[.k (F.clB ls k)])
 |_=>none
def pe:ec 253 iP:=by
 intro _ _ _ h hp;dsimp only[iP,F0]at h;split at h<;>cases h
 rename_i ls k;refine cb Zr0 Tryz.func253 ?_
 intro O r F hO hr hF;cbv
 repeat' first|apply Zc|(apply cN<;>intro hb<;>cbv)
 all_goals(subst hO hr hF;(try simp only[nc]at*);(try simp only[aj,SS,sa,az]at*))
 all_goals first
  | (show(_:List DV)=_
     first
      |exact ax (acg Ud).symm
      |exact ax (ach Ud).symm
      |done)
  | (show(_:List H)=_
     first
      |done)
  |omega
  |done
abbrev Zy0:di:=dH (fun F f=>match f with|331=>gJ F|_=>fun _=>none) (by
 intro f;dsimp only;split;exact mG;exact dp)
def gS:EC:=fun F=>fun
 |[.one (.v (.int Za b)),.one (.v (.int Za i))]=>some (fun _=>True,[.j (F.wiN b i)])
 |_=>none
def oL:ec 258 gS:=by
 intro _ _ _ h hp;dsimp only[gS,F0]at h;split at h<;>cases h
 rename_i b i;refine cb Zy0 Tryz.func258 ?_
 intro O r F hO hr hF;cbv
 repeat' first|apply Zc|(apply cN<;>intro hb<;>cbv)
 all_goals(subst hO hr hF;(try simp only[nc]at*);(try simp only[aj,SS,sa,az]at*);(try have hs:=DN.1 (by assumption:slB b i=true));(try have hw:=zg hs.2.1 hs.2.2);(try simp only[hw]at*))
 all_goals first
  | (show(_:List DV)=_
     first
      |(refine cd ?_;unfold wiN;rw[show slB b i=false from Ud];exact rfl)
      |(refine cd ?_;unfold wiN;rw[VO (by assumption:slB b i=true)])
      |done)
  | (show(_:List H)=_
     first
      |done)
  |omega
  |exact j4
  |(show bz _ _=true;kernel_rfl)
  |exact⟨Zd,Zd⟩
  |exact Zd
  |done
abbrev Zy1:di:=dH (fun F f=>match f with|278=>gN F|273=>dy F|255=>dz F|_=>fun _=>none) (by
 intro f;dsimp only;split;exact oG;exact eL;exact eM;exact dp)
def gg:EC:=fun F=>fun
 |[.one (.v (.int Za n)),.one (.v (.int Za b))]=>some (fun _=>True,[.one (.s 1 (F.frL n b))])
 |_=>none
def m8:ec 254 gg:=by
 intro _ _ _ h hp;dsimp only[gg,F0]at h;split at h<;>cases h
 rename_i n b;refine cb Zy1 Tryz.func254 ?_
 intro O r F hO hr hF;cbv
 repeat' first|apply Zc|(apply cN<;>intro hb<;>cbv)|(refine⟨[0,1,5,6],[5],Int×af,fun s_=>match s_ with|(i,o)=>[.reg 6 (.j i),.reg 5 (.one (.vw 5 0 0 0 (O.ln o))),.leaf 5 0 ⟨0,0,none,.own (.s 1 o)⟩],fun s_=>match s_ with|(i,o)=>0<=i/\i<=n/\Mr b i o,fun s_=>match s_ with|(i,o)=>(n-i).toNat,⟨(0,[]),?_,?_⟩,?_⟩;rotate_left;(focus (cbv;done));intro s_ hi;obtain⟨i,o⟩:=s_;replace hi:0<=i/\i<=n/\Mr b i o:=hi;obtain⟨i0,i1,i2⟩:=hi;cbv)|(refine ah (O.ar .add Za i 1,o) ?_ ?_ ?_;focus (cbv;done))|(refine ah (O.ar .add Za i 1,O.cat o (O.sub [[.i i]] 0 (O.ln [[.i i]]))) ?_ ?_ ?_;focus (cbv;done))
 all_goals(subst hO hr hF;(try simp only[nc]at*);(try simp only[aj,SS,sa,az]at*);(try rw[db Uc Uc]);(try have hb:bmOk n b=true:=Ud);(try have rb:=ab2 hb);(try have b1:bQ .add Za i 1=i+1:=b8 Uc);(try simp only[b1]at*);(try have il:=Nr i2 i0))
 all_goals first
  | (show(_:List DV)=_
     first
      |exact BL (ahJ Ud).symm
      |exact BL (Nq i2 hb Uc Uc)
      |done)
  | (show(_:List H)=_
     first
      |done)
  |omega
  |exact j4
  |exact acV
  |exact acW i2 i0 Ud
  |exact acX i2 i0 Ud
  |(simp only[bM,eJ,scal];done)
  |(simp[bM,eJ,scal];done)
  |exact Rw.scal (fs:=[tI]) (S7 i2 Uc) rfl
  |(simp only[List.length_cons,Zk];omega)
  |(show bz _ _=true;kernel_rfl)
  |exact⟨Zd,Zd⟩
  |exact Zd
  |done
abbrev Zy2:di:=dH (fun F f=>match f with|135=>eP F|253=>iP F|_=>fun _=>none) (by
 intro f;dsimp only;split;exact jn;exact pe;exact dp)
def jo:EC:=fun F=>fun
 |[.agg [.s 1 ls],.one (.v (.int Za k))]=>some (fun _=>Rw [.sl [tI]] ls/\au ls<=1073741824,[.agg [.s 1 (F.ctL ls k)],.j (F.ctA ls k),.k (F.ctB ls k)])
 |_=>none
def tN:ec 139 jo:=by
 intro _ _ _ h hp;dsimp only[jo,F0]at h;split at h<;>cases h
 rename_i ls k;obtain⟨hw,hc⟩:=hp;have N:=KX hw Uc;have ln:=aS (es:=ls);refine cb Zy2 Tryz.func139 ?_
 intro O r F hO hr hF;cbv
 repeat' first|apply Zc|(apply cN<;>intro hb<;>cbv)
 all_goals(subst hO hr hF;(try simp only[nc]at*);(try simp only[aj,SS,sa,az]at*);(try simp only[hH]at*);(try have ht:clB ls k=true:=Ud);(try have hi:=zZ ht);(try have k1:k<ls.length:=Uc);(try have hg:=rK hw hi.1 k1);(try have hz:=acr (k:=k) ht Uc);(try have e1:bQ .sub Za ((aU ls k 0).length:Int) 1=(aU ls k 0).length-1:=eR Uc);(try simp only[e1]at*);(try simp only[qv,LF,akh,List.nil_append]at*);(try have hu:=acv hw hc ht))
 all_goals first
  | (show(_:List DV)=_
     first
      |(have q:=aco (PD (by assumption:clB ls k=false));rw[q.1,q.2,PD (by assumption:clB ls k=false)];exact rfl)
      |(have q:=aco (PE (ls:=ls) (k:=k) Uc);rw[q.1,q.2,PE (ls:=ls) (k:=k) Uc];exact rfl)
      |(rw[hz.1,hz.2.1,hz.2.2,L4 hw hi.1 k1];exact rfl)
      |(rw[hz.1,hz.2.1,hz.2.2];exact rfl)
      |done)
  | (show(_:List H)=_
     first
      |done)
  |omega
  |exact j4
  |exact N
  |exact⟨hw,Uc⟩
  |exact sQ hw hi.1 k1
  |exact⟨hi.1,k1⟩
  |exact⟨Uc,Uc,Uc,pC hw hi.1 k1⟩
  |exact⟨Zd,rfl,hu.1,hu.2.1⟩
  |exact⟨Zd,hu.1,hu.2.1⟩
  |exact⟨hu.1,hu.2.1⟩
  |exact Rw.scal (fs:=[tI]) (Rw.take hg _) rfl
  |(show _/\_;simp only[Zk,List.length_take];omega)
  |exact HN hw hi.1 k1
  |(rw[show(aU ls k 0).length-1=(((aU ls k 0).length:Int)-1).toNat from by omega];exact j4)
  |(show bz _ _=true;kernel_rfl)
  |exact⟨Zd,Zd⟩
  |exact Zd
  |done
set_option maxRecDepth 100000 in
open Go.Shelf Go.RowKit Go.Lib in
theorem E8:Jc Tryz.prog 262 38:=by
 intro w W base n c vb vo vc v hnc hm hb hr;have mixed:Tryz.prog.follows Yo=true:=mixed
 go_enter Tryz.func262,Tryz.ntmps262
 rcases base with _|⟨ab,ao,asp⟩
 ·obtain rfl:=hb rfl;obtain rfl:n=0:=by omega
  go_wp2_with (at_builtin;refine dX rfl (nO rfl rfl rfl hr) ?_)
  go_ret;exact⟨rfl,rfl⟩
 ·go_wp2_with (at_builtin;refine dX rfl (nO rfl rfl rfl hr) ?_)
  all_goals(go_ret;exact⟨rfl,rfl⟩)
set_option maxRecDepth 100000 in
open Go.Shelf Go.RowKit Go.Lib in
theorem Fc:Je Tryz.prog 262 38 3:=by
 intro w W1 W2 b off n c i vb vo vc hi hroom hm ho h1 h2;have mixed:Tryz.prog.follows Yo=true:=mixed;have hov:∀ lb cb,(callFunc 335 #[.slice (some ⟨vb,vo,none⟩) 1 vc,.slice (some ⟨b,off+(i+1)*3,none⟩) lb cb]).run Tryz.prog w=.ok (.value (.bool false)) w:=fun lb cb=>by
  rw[run_callFunc_extern Tryz.func335 (by kernel_rfl) (by kernel_rfl) (by kernel_rfl) (e:=XS #[38,38] #[4]) (by kernel_rfl),ho 4 _ Tryz.underlying38 (fun _=>rfl) lb cb];rfl
 clear ho;obtain⟨hb1,hb2,hb3,hb4,hb5,hb7,hb9⟩:=E9 hi hroom hm
 go_enter Tryz.func262,Tryz.ntmps262
 go_wp2_with (simp only[hov])
 go_region_law_o (refine nH rfl (eW rfl (v:=.slice (some ⟨b,off+(i+1)*3,none⟩) (n+1- (i+1)) (c- (i+1))) (u:=.slice (some ⟨b,off+i*3,none⟩) (n+1-i) (c-i)) (by simp[ZM,ZI]) (by simp[ZM,ZI]) (fun ty=>h1 ty _ _)) ?_)
 go_wp2_with (at_builtin;refine dX rfl (eW rfl rfl rfl (fun ty=>h2 ty _)) ?_)
 go_ret
 exact⟨rfl,rfl⟩
set_option maxRecDepth 100000 in
open Go.Shelf Go.RowKit Go.Lib in
theorem Fb:Jd Tryz.prog 262 38 3 3:=by
 intro w W1 W2 W3 N b off n c i vb vo vc g hi hnc hcn hg hm h0 h1 h2;have mixed:Tryz.prog.follows Yo=true:=mixed;obtain⟨hb1,hb2,hb3,hb4,hb5,hb6,hb7,hb8⟩:=Fa hi hnc hcn hg hm
 go_enter Tryz.func262,Tryz.ntmps262
 go_wp2_with (first
  |(at_builtin;refine dX rfl (nO rfl rfl rfl h0) ?_)
  |(at_builtin;refine dX rfl (eW rfl rfl rfl (fun ty=>h1 ty _)) ?_)
  |(at_builtin;refine dX rfl (eW rfl rfl rfl (fun ty=>h2 ty _ _)) ?_))
 go_region_law_o (refine nH rfl (eW rfl (v:=.slice (some ⟨N,(i+1)*3,none⟩) (n+1- (i+1)) (g- (i+1))) (u:=.slice (some ⟨b,off+i*3,none⟩) (n-i) (c-i)) (by simp[ZM,ZI]) (by simp[ZM,ZI]) (fun ty=>h2 ty _ _)) ?_)
 go_wp2
 go_ret
 exact⟨rfl,rfl⟩
set_option maxRecDepth 100000 in
open Go.Shelf Go.RowKit Go.Lib in
theorem Di:Jc Tryz.prog 145 39:=by
 intro w W base n c vb vo vc v hnc hm hb hr;have mixed:Tryz.prog.follows Yo=true:=mixed
 go_enter Tryz.func145,Tryz.ntmps145
 rcases base with _|⟨ab,ao,asp⟩
 ·obtain rfl:=hb rfl;obtain rfl:n=0:=by omega
  go_wp2_with (at_builtin;refine dX rfl (nO rfl rfl rfl hr) ?_)
  go_ret;exact⟨rfl,rfl⟩
 ·go_wp2_with (at_builtin;refine dX rfl (nO rfl rfl rfl hr) ?_)
  all_goals(go_ret;exact⟨rfl,rfl⟩)
set_option maxRecDepth 100000 in
open Go.Shelf Go.RowKit Go.Lib in
theorem Dk:Je Tryz.prog 145 39 3:=by
 intro w W1 W2 b off n c i vb vo vc hi hroom hm ho h1 h2;have mixed:Tryz.prog.follows Yo=true:=mixed;have hov:∀ lb cb,(callFunc 263 #[.slice (some ⟨vb,vo,none⟩) 1 vc,.slice (some ⟨b,off+(i+1)*3,none⟩) lb cb]).run Tryz.prog w=.ok (.value (.bool false)) w:=fun lb cb=>by
  rw[run_callFunc_extern Tryz.func263 (by kernel_rfl) (by kernel_rfl) (by kernel_rfl) (e:=XS #[39,39] #[4]) (by kernel_rfl),ho 4 _ Tryz.underlying39 (fun _=>rfl) lb cb];rfl
 clear ho;obtain⟨hb1,hb2,hb3,hb4,hb5,hb7,hb9⟩:=E9 hi hroom hm
 go_enter Tryz.func145,Tryz.ntmps145
 go_wp2_with (simp only[hov])
 go_region_law_o (refine nH rfl (eW rfl (v:=.slice (some ⟨b,off+(i+1)*3,none⟩) (n+1- (i+1)) (c- (i+1))) (u:=.slice (some ⟨b,off+i*3,none⟩) (n+1-i) (c-i)) (by simp[ZM,ZI]) (by simp[ZM,ZI]) (fun ty=>h1 ty _ _)) ?_)
 go_wp2_with (at_builtin;refine dX rfl (eW rfl rfl rfl (fun ty=>h2 ty _)) ?_)
 go_ret
 exact⟨rfl,rfl⟩
set_option maxRecDepth 100000 in
open Go.Shelf Go.RowKit Go.Lib in
theorem Dj:Jd Tryz.prog 145 39 3 3:=by
 intro w W1 W2 W3 N b off n c i vb vo vc g hi hnc hcn hg hm h0 h1 h2;have mixed:Tryz.prog.follows Yo=true:=mixed;obtain⟨hb1,hb2,hb3,hb4,hb5,hb6,hb7,hb8⟩:=Fa hi hnc hcn hg hm
 go_enter Tryz.func145,Tryz.ntmps145
 go_wp2_with (first
  |(at_builtin;refine dX rfl (nO rfl rfl rfl h0) ?_)
  |(at_builtin;refine dX rfl (eW rfl rfl rfl (fun ty=>h1 ty _)) ?_)
  |(at_builtin;refine dX rfl (eW rfl rfl rfl (fun ty=>h2 ty _ _)) ?_))
 go_region_law_o (refine nH rfl (eW rfl (v:=.slice (some ⟨N,(i+1)*3,none⟩) (n+1- (i+1)) (g- (i+1))) (u:=.slice (some ⟨b,off+i*3,none⟩) (n-i) (c-i)) (by simp[ZM,ZI]) (by simp[ZM,ZI]) (fun ty=>h2 ty _ _)) ?_)
 go_wp2
 go_ret
 exact⟨rfl,rfl⟩
set_option maxRecDepth 100000 in
open Go.Shelf Go.RowKit Go.Lib in
theorem Ic:Jc Tryz.prog 41 40:=by
 intro w W base n c vb vo vc v hnc hm hb hr;have mixed:Tryz.prog.follows Yo=true:=mixed
 go_enter Tryz.func41,Tryz.ntmps41
 rcases base with _|⟨ab,ao,asp⟩
 ·obtain rfl:=hb rfl;obtain rfl:n=0:=by omega
  go_wp2_with (at_builtin;refine dX rfl (nO rfl rfl rfl hr) ?_)
  go_ret;exact⟨rfl,rfl⟩
 ·go_wp2_with (at_builtin;refine dX rfl (nO rfl rfl rfl hr) ?_)
  all_goals(go_ret;exact⟨rfl,rfl⟩)
set_option maxRecDepth 100000 in
open Go.Shelf Go.RowKit Go.Lib in
theorem If:Je Tryz.prog 41 40 4:=by
 intro w W1 W2 b off n c i vb vo vc hi hroom hm ho h1 h2;have mixed:Tryz.prog.follows Yo=true:=mixed;have hov:∀ lb cb,(callFunc 146 #[.slice (some ⟨vb,vo,none⟩) 1 vc,.slice (some ⟨b,off+(i+1)*4,none⟩) lb cb]).run Tryz.prog w=.ok (.value (.bool false)) w:=fun lb cb=>by
  rw[run_callFunc_extern Tryz.func146 (by kernel_rfl) (by kernel_rfl) (by kernel_rfl) (e:=XS #[40,40] #[4]) (by kernel_rfl),ho 4 _ Tryz.underlying40 (fun _=>rfl) lb cb];rfl
 clear ho;obtain⟨hb1,hb2,hb3,hb4,hb5,hb7,hb9⟩:=E9 hi hroom hm
 go_enter Tryz.func41,Tryz.ntmps41
 go_wp2_with (simp only[hov])
 go_region_law_o (refine nH rfl (eW rfl (v:=.slice (some ⟨b,off+(i+1)*4,none⟩) (n+1- (i+1)) (c- (i+1))) (u:=.slice (some ⟨b,off+i*4,none⟩) (n+1-i) (c-i)) (by simp[ZM,ZI]) (by simp[ZM,ZI]) (fun ty=>h1 ty _ _)) ?_)
 go_wp2_with (at_builtin;refine dX rfl (eW rfl rfl rfl (fun ty=>h2 ty _)) ?_)
 go_ret
 exact⟨rfl,rfl⟩
set_option maxRecDepth 100000 in
open Go.Shelf Go.RowKit Go.Lib in
theorem Ie:Jd Tryz.prog 41 40 3 4:=by
 intro w W1 W2 W3 N b off n c i vb vo vc g hi hnc hcn hg hm h0 h1 h2;have mixed:Tryz.prog.follows Yo=true:=mixed;obtain⟨hb1,hb2,hb3,hb4,hb5,hb6,hb7,hb8⟩:=Fa hi hnc hcn hg hm
 go_enter Tryz.func41,Tryz.ntmps41
 go_wp2_with (first
  |(at_builtin;refine dX rfl (nO rfl rfl rfl h0) ?_)
  |(at_builtin;refine dX rfl (eW rfl rfl rfl (fun ty=>h1 ty _)) ?_)
  |(at_builtin;refine dX rfl (eW rfl rfl rfl (fun ty=>h2 ty _ _)) ?_))
 go_region_law_o (refine nH rfl (eW rfl (v:=.slice (some ⟨N,(i+1)*4,none⟩) (n+1- (i+1)) (g- (i+1))) (u:=.slice (some ⟨b,off+i*4,none⟩) (n-i) (c-i)) (by simp[ZM,ZI]) (by simp[ZM,ZI]) (fun ty=>h2 ty _ _)) ?_)
 go_wp2
 go_ret
 exact⟨rfl,rfl⟩
def am:EO:=fun F=>fun
 |[.one (.s 3 es),.one (.v (.int Za i)),.one (.s 3 x)]=>some (fun _=>0<=i/\i<=es.length/\es.length<=1073741824/\bM es/\bM x/\x.length=1,[.one (.s 3 (F.inL es i x))])
 |_=>none
def cQ:eo 262 am:=by
 intro _ _ _ h hp;dsimp only[am,F0]at h;split at h<;>cases h
 rename_i es i x;obtain⟨i0,i1,l,s1,s2,x1⟩:=hp;obtain⟨r,rfl⟩:=XT.1 x1;exact yh (sz:=3) qU rfl rfl (by decide) Tryz.underlying3 E8 Fc Fb ⟨i0,i1,l⟩ s1 s2
def cL:eo 145 am:=by
 intro _ _ _ h hp;dsimp only[am,F0]at h;split at h<;>cases h
 rename_i es i x;obtain⟨i0,i1,l,s1,s2,x1⟩:=hp;obtain⟨r,rfl⟩:=XT.1 x1;exact yh (sz:=3) qU rfl rfl (by decide) Tryz.underlying3 Di Dk Dj ⟨i0,i1,l⟩ s1 s2
def bK:EO:=fun F=>fun
 |[.one (.s 4 es),.one (.v (.int Za i)),.one (.s 4 x)]=>some (fun _=>0<=i/\i<=es.length/\es.length<=1073741824/\bM es/\bM x/\x.length=1,[.one (.s 4 (F.inL es i x))])
 |_=>none
def cS:eo 41 bK:=by
 intro _ _ _ h hp;dsimp only[bK,F0]at h;split at h<;>cases h
 rename_i es i x;obtain⟨i0,i1,l,s1,s2,x1⟩:=hp;obtain⟨r,rfl⟩:=XT.1 x1;exact yh (sz:=4) qU rfl rfl (by decide) Tryz.underlying3 Ic If Ie ⟨i0,i1,l⟩ s1 s2
abbrev Ze3:di:=dH (fun F f=>match f with|54=>cD F|_=>fun _=>none) (by
 intro f;dsimp only;split;exact de;exact dp)
def iL:EP:=fun F=>fun
 |[.mp [.own (.s 1 cs),.own (.s 1 us),.own (.s 2 es),.own (.v (.int Za c)),.own (.s 1 rs)],.one (.v (.int Za a)),.one (.v (.int Za n))]=>some (fun _=>Rw [.sl [tI]] cs/\Rw [tI,tI] es/\ig cs us es/\0<=a/\a<=9223372036854775807/\peM es (a/16)≠0/\0<=n/\a%16+n<=16,[[.own (.s 1 (F.tcC cs es a n)),.own (.s 1 us),.own (.s 2 es),.own (.i c),.own (.s 1 rs)]],[])
 |_=>none
def su:ep 55 iL:=by
 intro _ _ _ _ h hp;dsimp only[iL,F0]at h;split at h<;>cases h
 rename_i cs us es c rs a n;obtain⟨wc,we,km,a0,a1,hm,n0,n1⟩:=hp;have fr:=qS km hm;have e1:bQ .quo Za a 16=a/16:=vF Uc Uc Uc;have e2:bQ .rem Za a 16=a%16:=yp Uc;refine pb Ze3 Tryz.func55 ?_
 intro O r os F hO hr hos hF;cbv
 repeat' first|apply Zc|(apply cN<;>intro hb<;>cbv)|(refine⟨[0,1,2,6,7],[0],Int×af,fun s_=>match s_ with|(i,d)=>[.reg 7 (.j i),.leaf 0 0 ⟨0,0,none,.own (.s 1 d)⟩],fun s_=>match s_ with|(i,d)=>0<=i/\i<=n/\RQ cs us es (peF es (a/16)) (a%16) i d,fun s_=>match s_ with|(i,d)=>(n-i).toNat,⟨(0,cs),?_,?_⟩,?_⟩;rotate_left;(focus (cbv;done));intro s_ hi;obtain⟨i,d⟩:=s_;replace hi:0<=i/\i<=n/\RQ cs us es (peF es (a/16)) (a%16) i d:=hi;obtain⟨i0,i1,i2⟩:=hi;cbv)|(refine ah (O.ar .add Za i 1,O.up (.s 1 d) [(O.ad 0 (F.peF (O.sub es 0 (O.ln es)) (O.ar .quo Za a 16)),0),(O.ad 0 (O.ar .add Za (O.ar .rem Za a 16) i),0)] [.i 0]) ?_ ?_ ?_;focus (cbv;done))
 all_goals((try subst hos);subst hO hr hF;(try simp only[nc]at*);(try simp only[aj,SS,sa,az]at*);(try simp only[hH]at*);(try rw[db Uc Uc]);(try simp only[e1]at*);(try simp only[e2]at*);(try have e3:bQ .add Za (a%16) i=a%16+i:=b8 Uc);(try simp only[e3]at*);(try have dl:=i2.m.u.symm.trans km.u);(try have lf:=i2.m.l (peF es (a/16)) fr.1 Uc);(try have q:=L2 i2 i0 hm rfl Uc Uc))
 all_goals first
  | (show(_:List H)=_
     first
      |(have z:=O5 i2 (n:=n) Uc Uc;rw[z];exact rfl)
      |done)
  |omega
  |exact Re km wc
  |(rw[abG i2.w fr.1 Uc Uc Uc];exact q)
  |exact J5 i2.w fr.1 Uc Uc Uc
  |exact sQ i2.w fr.1 Uc
  |exact⟨Uc,Uc,pC i2.w fr.1 Uc⟩
  |done
end Go.V