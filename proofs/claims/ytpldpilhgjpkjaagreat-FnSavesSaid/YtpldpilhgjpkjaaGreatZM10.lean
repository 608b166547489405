/- Contracts. -/
import Derived.Test.YtpldpilhgjpkjaaGreatZM9
set_option linter.all false
open Go
open Act renaming eval->ZM,put->ZI
open And renaming intro->Zc
open Departure renaming mixedOrders->Yo
open IntKind renaming i64->Zy,i64->Za
open List renaming all_eq_true->Z7,length_drop->Zq,length_take->Zg
open True renaming intro->Zd
open Value renaming int->Zn
noncomputable section
namespace Go.V
open Go Go.Proofs
set_option maxRecDepth 1000000
set_option maxHeartbeats 8000000
open Go.Shelf Go.RowKit Go.Lib in
theorem ER:I9 Tryz.prog 49:=by
 refine⟨fun w=>?_,fun b off sp len cap i hc hm hi w=>?_⟩<;>(go_enter Tryz.func49,Tryz.ntmps49;go_wp2;all_goals(go_ret;exact⟨rfl,rfl⟩))
open Go.Shelf Go.RowKit Go.Lib in
theorem ES:Ja Tryz.prog 49 4:=by
 intro w es b off cap i j S v1 v2 v3 F hlt;obtain⟨A,W1,zs,hA,hsrc,hcap,hm,hij,hj,s1,s2,s3,hcl,hW2,hW,hic,hjc⟩:=F.fx hlt [Zn Zy 0,Zn Zy 0,Zn Zy 0,Zn Zy 0] Tryz.underlying40 Tryz.zeroValue118 rfl (Z7.1 rfl) rfl;have mixed:Tryz.prog.follows Yo=true:=mixed;clear F
 go_enter Tryz.func49,Tryz.ntmps49
 go_wp2_with fail
 go_region_law_o (refine step_append_room rfl (.tmp 22) (.tmp 25) 40 rfl 118 _ 4 Tryz.underlying40 rfl rfl b off i cap (by simp[ZM,ZI]) A (es.length-j) (cap-j) v3 (by simp[ZM,ZI]) s1.out hsrc.out s2.out (by omega) s3.out ?_;rw[<-hW.out])
 go_wp2
 go_ret
 rw[hW.out];exact⟨rfl,hW2⟩
open Go.Shelf Go.RowKit Go.Lib in
theorem A9:I9 Tryz.prog 52:=by
 refine⟨fun w=>?_,fun b off sp len cap i hc hm hi w=>?_⟩<;>(go_enter Tryz.func52,Tryz.ntmps52;go_wp2;all_goals(go_ret;exact⟨rfl,rfl⟩))
open Go.Shelf Go.RowKit Go.Lib in
theorem Bb:Ja Tryz.prog 52 3:=by
 intro w es b off cap i j S v1 v2 v3 F hlt;obtain⟨A,W1,zs,hA,hsrc,hcap,hm,hij,hj,s1,s2,s3,hcl,hW2,hW,hic,hjc⟩:=F.fx hlt [Zn Zy 0,Zn Zy 0,Zn Zy 0] Tryz.underlying39 Tryz.zeroValue127 rfl (Z7.1 rfl) rfl;have mixed:Tryz.prog.follows Yo=true:=mixed;clear F
 go_enter Tryz.func52,Tryz.ntmps52
 go_wp2_with fail
 go_region_law_o (refine step_append_room rfl (.tmp 22) (.tmp 25) 39 rfl 127 _ 3 Tryz.underlying39 rfl rfl b off i cap (by simp[ZM,ZI]) A (es.length-j) (cap-j) v3 (by simp[ZM,ZI]) s1.out hsrc.out s2.out (by omega) s3.out ?_;rw[<-hW.out])
 go_wp2
 go_ret
 rw[hW.out];exact⟨rfl,hW2⟩
def bJ:EO:=fun F=>fun
 |[.one (.s 4 es),.one (.v (.int Za i)),.one (.v (.int Za j))]=>some (fun _=>0<=i/\i<=j/\j<=es.length,[.one (.s 4 (F.delL es i j))])
 |_=>none
def cR:eo 49 bJ:=by
 intro _ _ _ h hp;dsimp only[bJ,F0]at h;split at h<;>cases h
 rename_i es i j;exact s7 ER ES hp
def cJ:eo 52 ak:=by
 intro _ _ _ h hp;dsimp only[ak,F0]at h;split at h<;>cases h
 rename_i es i j;exact s7 A9 Bb hp
def iz:EC:=fun F=>fun
 |[.agg [.v (.int Za d0),.v (.int Za d1),.v (.int Za d2)],.ptr [.v (.int Za ad)]]=>some (fun _=>True,[.k (F.pmB d0 ad)])
 |_=>none
def rW:ec 51 iz:=by
 intro _ _ _ h hp;dsimp only[iz,F0]at h;split at h<;>cases h
 rename_i d0 d1 d2 ad;refine cb nB Tryz.func51 ?_
 intro O r F hO hr hF;cbv
 repeat' first|apply Zc|(apply cN<;>intro hb<;>cbv)
 all_goals(subst hO hr hF;(try simp only[nc]at*);(try simp only[aj,SS,sa,az]at*))
 all_goals first
  | (show(_:List DV)=_
     first
      |exact ax (o8 (by unfold pmB eqB;simp only[SS,VN]))
      |done)
  |done
abbrev Zu1:di:=dH (fun F f=>match f with|51=>iz F|_=>fun _=>none) (by
 intro f;dsimp only;split;exact rW;exact dp)
def be:EC:=fun F=>fun
 |[.one (.s 3 os),.fn 51 [[.v (.int Za id)]]]=>some (fun _=>Rw [tI,tI,tI] os/\os.length<=1099511627776,[.j (F.lhI os id)])
 |_=>none
def cy:ec 50 be:=by
 intro _ _ _ h hp;dsimp only[be,F0]at h;split at h<;>cases h
 rename_i os id;obtain⟨hw,hn⟩:=hp;refine cb Zu1 Tryz.func50 ?_
 intro O r F hO hr hF;cbv
 repeat' first|apply Zc|(apply cN<;>intro hb<;>cbv)|(refine⟨[0,1,7,8],[0],Int,fun i=>[.reg 8 (.j i)],fun i=>0<=i/\i<=((os.length:Nat):Int)/\upto (cY (Dl os id)) i,fun i=>(os.length)-i.toNat,⟨0,?_,?_⟩,?_⟩;rotate_left;(focus (cbv;done));intro i hi;replace hi:0<=i/\i<=((os.length:Nat):Int)/\upto (cY (Dl os id)) i:=hi;obtain⟨i0,i1,i2⟩:=hi;cbv)|(refine ah (O.ar .add Za i 1) ?_ ?_ ?_;focus (cbv;done))
 all_goals(subst hO hr hF;(try simp only[nc]at*);(try simp only[aj,SS,sa,az]at*);(try rw[db Uc Uc]))
 all_goals first
  | (show(_:List DV)=_
     first
      |exact cd (dU i2 i0 Ud (show Dl os id i=true from by assumption)).symm
      |exact cd (eQ i2 Ud).symm
      |done)
  |omega
  |exact j4
  |(show(lk _ _).isSome=true;kernel_rfl)
  |exact cr
  |exact bU i2 (gC (show Dl os id i=false from by assumption))
  |done
abbrev Zu2:di:=dH (fun F f=>match f with|137=>fu F|65=>gI F|159=>iW F|160=>gn F|161=>aO F|_=>fun _=>none) (by
 intro f;dsimp only;split;exact kf;exact mF;exact po;exact ng;exact bR;exact dp)
def lD:EC:=fun F=>fun
 |[.agg [.v (.int Za rm),.s 3 qs],.agg [.v (.int Za a),.v (.int Za c),.v (.int Za s)]]=>some (fun _=>Rw [tI,tI,tI] qs/\qs.length<=1073741823/\zk a/\zk c/\zk s,[.agg [.i rm,.s 3 (F.qaL rm qs a c s)],.one (.s 3 (F.qaR rm qs a c s))])
 |_=>none
def xq:ec 58 lD:=by
 intro _ _ _ h hp;dsimp only[lD,F0]at h;split at h<;>cases h
 rename_i rm qs a c s;obtain⟨hw,hl,ha,hc,hs⟩:=hp;refine cb Zu2 Tryz.func58 ?_
 intro O r F hO hr hF;cbv
 repeat' first|apply Zc|(apply cN<;>intro hb<;>cbv)|(refine⟨[2,4,6,7],[2,4,6],Int,fun i=>[.reg 7 (.j i)],fun i=>0<=i/\True/\RL (qs++[DT a c s]) rm i,fun i=>(qs.length+1-i).toNat,⟨0,?_,?_⟩,?_⟩;rotate_left;(focus (cbv;done));intro i hi;replace hi:0<=i/\True/\RL (qs++[DT a c s]) rm i:=hi;obtain⟨i0,i1,i2⟩:=hi;cbv)|(refine ah (O.ar .add Za i 1) ?_ ?_ ?_;focus (cbv;done))
 all_goals(subst hO hr hF;(try simp only[nc]at*);(try simp only[aj,SS,sa,az]at*);(try rw[db Uc Uc]);(try have bq:quarOk rm qs=true:=Ud);(try have wl:=afj hw hl ha hc hs);(try have ql:=aa0 (qs:=qs) (a:=a) (c:=c) (s:=s));(try have r0:=ay.1 (ajL bq));(try simp only[show(qs++[[L.i a,L.i c,L.i s]])=qs++[DT a c s]from rfl]at*);(try have ib:=afp i2 i0);(try simp only[wN i0 ib,qv]at*);(try have z:=aa2 i2 i0 r0.1 Ud);(try have f1:bQ .add Za i 1=i+1:=b8 Uc);(try simp only[f1]at*);(try have f2:bQ .sub Za (qs.length:Int) 1=qs.length-1:=eR Uc);(try simp only[f2]at*))
 all_goals first
  | (show(_:List DV)=_
     first
      |(have q:=Lk (afk (rm:=rm) (qs:=qs) (a:=a) (c:=c) (s:=s) Ud);rw[q.1,q.2];exact rfl)
      |(have q:=Lk (afl (rm:=rm) (qs:=qs) (a:=a) (c:=c) (s:=s) Ud);rw[q.1,q.2];exact rfl)
      |(have n:=Ow i2 Uc;have q:=Ov (afm bq (by assumption:stlOk qs a c s=true));rw[q.1,q.2, <-n];exact rfl)
      |done)
  | (show(_:List H)=_
     first
      |done)
  |omega
  |exact⟨hw,Uc⟩
  |exact⟨Rw.drop wl _,by rw[Zq];omega⟩
  |exact⟨Rw.take wl _,by rw[Zg];omega⟩
  |exact afo
  |exact z.1
  |(simp only[List.length_nil,List.length_cons,Zq,Zg];omega)
  |(show bz _ _=true;kernel_rfl)
  |exact⟨Zd,Zd⟩
  |done
abbrev Zu3:di:=dH (fun F f=>match f with|62=>fh F|162=>dS F|_=>fun _=>none) (by
 intro f;dsimp only;split;exact j8;exact fP;exact dp)
def lh:EC:=fun F=>fun
 |[.one (.s 3 sp),.one (.s 3 lg),.one (.v (.int Za a))]=>some (fun _=>Rw [tI,tI,tI] sp/\Rw [tI,tI,tI] lg/\sp.length<=1073741824/\lg.length<=1073741824/\zk a,[.agg [.i (F.dzK sp lg a),.i (F.dzI sp lg a),.i (F.dzS sp lg a),.i (F.dzO sp lg a)]])
 |_=>none
def xc:ec 153 lh:=by
 intro _ _ _ h hp;dsimp only[lh,F0]at h;split at h<;>cases h
 rename_i sp lg a;obtain⟨hs,hg,ls,lg',ha⟩:=hp;refine cb Zu3 Tryz.func153 ?_
 intro O r F hO hr hF;cbv
 repeat' first|apply Zc|(apply cN<;>intro hb<;>cbv)
 all_goals(subst hO hr hF;(try simp only[nc]at*);(try simp only[aj,SS,sa,az]at*))
 all_goals first
  | (show(_:List DV)=_
     first
      |(have h:=(by assumption:layOk sp lg=true);rw[show dzK sp lg a=dnK sp lg a from VO h,show dzI sp lg a=dnI sp lg a from VO h,show dzS sp lg a=dnS sp a from VO h,show dzO sp lg a=dnO sp lg a from VO h];exact rfl)
      |(have h:¬ layOk sp lg=true:=(by rw[show layOk sp lg=false from by assumption];exact Bool.noConfusion);rw[show dzK sp lg a=0 from VP h,show dzI sp lg a=0 from VP h,show dzS sp lg a=0 from VP h,show dzO sp lg a=0 from VP h];exact rfl)
      |done)
  | (show(_:List H)=_
     first
      |done)
  |exact⟨hs,hg⟩
  |exact⟨hs,hg,Uc,Uc⟩
  |done
abbrev Zu4:di:=dH (fun F f=>match f with|153=>lh F|_=>fun _=>none) (by
 intro f;dsimp only;split;exact xc;exact dp)
def kj:EC:=fun F=>fun
 |[.one (.s 3 sp),.one (.s 3 lg),.one (.v (.int Za a))]=>some (fun _=>Rw [tI,tI,tI] sp/\Rw [tI,tI,tI] lg/\sp.length<=1073741824/\lg.length<=1073741824/\zk a,[.j (F.feI sp lg a)])
 |_=>none
def vN:ec 48 kj:=by
 intro _ _ _ h hp;dsimp only[kj,F0]at h;split at h<;>cases h
 rename_i sp lg a;obtain⟨hs,hg,ls,lg',ha⟩:=hp;refine cb Zu4 Tryz.func48 ?_
 intro O r F hO hr hF;cbv
 repeat' first|apply Zc|(apply cN<;>intro hb<;>cbv)
 all_goals(subst hO hr hF;(try simp only[nc]at*);(try simp only[aj,SS,sa,az]at*))
 all_goals first
  | (show(_:List DV)=_
     first
      |exact cd (ahD Ud).symm
      |exact cd (ahE Ud Ud).symm
      |exact cd (ahF Ud Uc).symm
      |exact cd (ahG Ud Uc Ud).symm
      |done)
  | (show(_:List H)=_
     first
      |done)
  |exact⟨hs,hg,ls,lg',ha⟩
  |done
abbrev Zv1:di:={
 Φ:=tH
 F0:=F0
 ct:=fun F f=>match f with|36=>dF F|17=>dM F|33=>ap F|47=>nV F|48=>kj F|38=>eO F|50=>be F|54=>cD F|56=>cC F|57=>pz F|58=>lD F|_=>fun _=>none
 hc:=(by
  intro f;dsimp only;split;exact d5;exact eA;exact aw;exact A1;exact vN;exact ir;exact cy;exact de;exact dd;exact CM;exact xq;exact dp)
 pt:=fun F f=>match f with|53=>some (gj F)|55=>some (iL F)|59=>some (lK F)|_=>none
 hp:=(by
  intro f mk h;dsimp only at h;split at h<;>cases h
  exact na;exact su;exact xx)
 ot:=fun F f=>match f with|49=>some (bJ F)|52=>some (ak F)|_=>none
 ho:=(by
  intro f mk h;dsimp only at h;split at h<;>cases h
  exact cR;exact cJ)}
def oP:EC:=fun F=>fun
 |[.agg hl_,.one (.v (.int Za t)),.one (.v (.int Za ad))]=>hL hl_ fun a0 a1 a2 a3 a4 a5 a6 a7 a8 a9 aA aB aC aD aE aF aG aH aI aJ aK aL aM aN=>(fun _=>kJ a0 a1 a2 a4 a5 a6 a7 a8 a9 aA aB aD aL/\au a9<=1000000000/\au aA<=500000000/\zk ad,[.agg (Mu (F.ifR (F.fbL (F.t0B (F.hpI a0 a1 a2 a3 a4 a5 a6 a7 a8 a9 aA aB aC aD aE aF aG aH aI aJ aK aL aM aN) a3 t a9) a8 ad) (F.lgC a0 a1 a2 a7 ad) (F.ifR (F.fbP (F.t0B (F.hpI a0 a1 a2 a3 a4 a5 a6 a7 a8 a9 aA aB aC aD aE aF aG aH aI aJ aK aL aM aN) a3 t a9) a2 a8 aA aB t ad) (F.fcC a0 a2 a8 ad) (F.ifR (F.fbQ (F.t0B (F.hpI a0 a1 a2 a3 a4 a5 a6 a7 a8 a9 aA aB aC aD aE aF aG aH aI aJ aK aL aM aN) a3 t a9) a2 a8 t ad) (F.raC aI aJ aK (F.fcC a0 a2 a8 ad) a1 a2 a5 a6 a9 t (F.fqR a8 aC aD aF ad)) a0))) (F.ifR (F.fbL (F.t0B (F.hpI a0 a1 a2 a3 a4 a5 a6 a7 a8 a9 aA aB aC aD aE aF aG aH aI aJ aK aL aM aN) a3 t a9) a8 ad) (F.lgU a0 a1 a2 a7 ad) (F.ifR (F.fbQ (F.t0B (F.hpI a0 a1 a2 a3 a4 a5 a6 a7 a8 a9 aA aB aC aD aE aF aG aH aI aJ aK aL aM aN) a3 t a9) a2 a8 t ad) (F.raU aI aJ aK (F.fcC a0 a2 a8 ad) a1 a2 a5 a6 a9 t (F.fqR a8 aC aD aF ad)) a1)) (F.ifR (F.fbL (F.t0B (F.hpI a0 a1 a2 a3 a4 a5 a6 a7 a8 a9 aA aB aC aD aE aF aG aH aI aJ aK aL aM aN) a3 t a9) a8 ad) (F.lgE a0 a1 a2 a7 ad) (F.ifR (F.fbQ (F.t0B (F.hpI a0 a1 a2 a3 a4 a5 a6 a7 a8 a9 aA aB aC aD aE aF aG aH aI aJ aK aL aM aN) a3 t a9) a2 a8 t ad) (F.raE aI aJ aK (F.fcC a0 a2 a8 ad) a1 a2 a5 a6 a9 t (F.fqR a8 aC aD aF ad)) a2)) a3 a4 (F.ifR (F.fbL (F.t0B (F.hpI a0 a1 a2 a3 a4 a5 a6 a7 a8 a9 aA aB aC aD aE aF aG aH aI aJ aK aL aM aN) a3 t a9) a8 ad) (F.lgF a0 a1 a2 a5 a7 ad) (F.ifR (F.fbQ (F.t0B (F.hpI a0 a1 a2 a3 a4 a5 a6 a7 a8 a9 aA aB aC aD aE aF aG aH aI aJ aK aL aM aN) a3 t a9) a2 a8 t ad) (F.raF aI aJ aK (F.fcC a0 a2 a8 ad) a1 a2 a5 a6 a9 t (F.fqR a8 aC aD aF ad)) a5)) (F.ifR (F.fbQ (F.t0B (F.hpI a0 a1 a2 a3 a4 a5 a6 a7 a8 a9 aA aB aC aD aE aF aG aH aI aJ aK aL aM aN) a3 t a9) a2 a8 t ad) (F.raS aI aJ aK (F.fcC a0 a2 a8 ad) a1 a2 a5 a6 a9 t (F.fqR a8 aC aD aF ad)) a6) (F.ifR (F.fbL (F.t0B (F.hpI a0 a1 a2 a3 a4 a5 a6 a7 a8 a9 aA aB aC aD aE aF aG aH aI aJ aK aL aM aN) a3 t a9) a8 ad) (F.lgL a7 ad) a7) (F.ifR (F.fbL (F.t0B (F.hpI a0 a1 a2 a3 a4 a5 a6 a7 a8 a9 aA aB aC aD aE aF aG aH aI aJ aK aL aM aN) a3 t a9) a8 ad) (F.foO a8 ad) (F.ifR (F.fbP (F.t0B (F.hpI a0 a1 a2 a3 a4 a5 a6 a7 a8 a9 aA aB aC aD aE aF aG aH aI aJ aK aL aM aN) a3 t a9) a2 a8 aA aB t ad) (F.foO a8 ad) (F.ifR (F.fbQ (F.t0B (F.hpI a0 a1 a2 a3 a4 a5 a6 a7 a8 a9 aA aB aC aD aE aF aG aH aI aJ aK aL aM aN) a3 t a9) a2 a8 t ad) (F.foO a8 ad) a8))) (F.ifR (F.fbQ (F.t0B (F.hpI a0 a1 a2 a3 a4 a5 a6 a7 a8 a9 aA aB aC aD aE aF aG aH aI aJ aK aL aM aN) a3 t a9) a2 a8 t ad) (F.raD aI aJ aK (F.fcC a0 a2 a8 ad) a1 a2 a5 a6 a9 t (F.fqR a8 aC aD aF ad)) a9) (F.ifR (F.fbP (F.t0B (F.hpI a0 a1 a2 a3 a4 a5 a6 a7 a8 a9 aA aB aC aD aE aF aG aH aI aJ aK aL aM aN) a3 t a9) a2 a8 aA aB t ad) (F.sdU aA t (F.foT a8 ad) ad) aA) aB aC (F.ifR (F.fbQ (F.t0B (F.hpI a0 a1 a2 a3 a4 a5 a6 a7 a8 a9 aA aB aC aD aE aF aG aH aI aJ aK aL aM aN) a3 t a9) a2 a8 t ad) (F.fqL a8 aC aD aF ad) aD) aE aF aG aH aI aJ aK aL aM aN),.j (F.hfK (F.hpI a0 a1 a2 a3 a4 a5 a6 a7 a8 a9 aA aB aC aD aE aF aG aH aI aJ aK aL aM aN) a3 a2 a6 a7 a8 a9 aA aB t ad)])
 |_=>none
def vO:ec 15 oP:=by
 intro _ _ _ h hp;dsimp only[oP,F0,hL]at h;split at h;rotate_left;cases h;split at h<;>cases h
 rename_i t ad _ a0 a1 a2 a3 a4 a5 a6 a7 a8 a9 aA aB aC aD aE aF aG aH aI aJ aK aL aM aN;obtain⟨hp,h9,h10,ha⟩:=hp;have l9:=aS (es:=a9);have l7:=aS (es:=a7);have c7:=hp.c7;have l8:=aS (es:=a8);have c8:=hp.c8;have l6:=aS (es:=a6);have c6:=hp.c6;have l13:=aS (es:=aD);have c13:=hp.c13;have e0:bQ .sub Za (a9.length:Int) 1=a9.length-1:=eR Uc;refine cb Zv1 Tryz.func15 ?_
 intro O r F hO hr hF;cbv
 repeat' first|apply Zc|(apply cN<;>intro hb<;>cbv)|(refine⟨[1,6,8,151,152,153],[6,8,146],Int×af×af×af×af×af×af,fun s_=>match s_ with|(j,c,u,e,f,s,x)=>[.reg 153 (.j j),.leaf 8 0 ⟨0,0,none,.own (.s 1 c)⟩,.leaf 8 1 ⟨0,0,none,.own (.s 1 u)⟩,.leaf 8 2 ⟨0,0,none,.own (.s 2 e)⟩,.leaf 8 5 ⟨0,0,none,.own (.s 2 f)⟩,.leaf 8 6 ⟨0,0,none,.own (.s 3 s)⟩,.leaf 8 9 ⟨0,0,none,.own (.s 1 x)⟩],fun s_=>match s_ with|(j,c,u,e,f,s,x)=>0<=j/\j<=((fqR a8 aC aD aF ad).length:Int)/\Pp aI aJ aK t (fqR a8 aC aD aF ad) ⟨⟨fcC a0 a2 a8 ad,a1,a2,a5,a6⟩,a9⟩ j c u e f s x,fun s_=>match s_ with|(j,c,u,e,f,s,x)=>((fqR a8 aC aD aF ad).length-j).toNat,⟨(0,F.tcC a0 a2 ad (F.clsSz (F.clsOf (O.gi a8 (F.obI a8 ad) 2))),a1,a2,a5,a6,a9),?_,?_⟩,?_⟩;rotate_left;(focus (cbv;done));intro s_ hj;obtain⟨j,c,u,e,f,s,x⟩:=s_;replace hj:0<=j/\j<=((fqR a8 aC aD aF ad).length:Int)/\Pp aI aJ aK t (fqR a8 aC aD aF ad) ⟨⟨fcC a0 a2 a8 ad,a1,a2,a5,a6⟩,a9⟩ j c u e f s x:=hj;obtain⟨j0,j1,j2⟩:=hj;cbv)|(refine ah (O.ar .add Za j 1,F.rcC aI aJ aK c u e f s x t (O.pi (.s 3 (F.qaR aC aD ad (F.clsOf (O.gi a8 (F.obI a8 ad) 2)) aF)) [(O.ad 0 j,0)]),F.rcU aI aJ aK c u e f s x t (O.pi (.s 3 (F.qaR aC aD ad (F.clsOf (O.gi a8 (F.obI a8 ad) 2)) aF)) [(O.ad 0 j,0)]),F.rcE aI aJ aK c u e f s x t (O.pi (.s 3 (F.qaR aC aD ad (F.clsOf (O.gi a8 (F.obI a8 ad) 2)) aF)) [(O.ad 0 j,0)]),F.rcF aI aJ aK c u e f s x t (O.pi (.s 3 (F.qaR aC aD ad (F.clsOf (O.gi a8 (F.obI a8 ad) 2)) aF)) [(O.ad 0 j,0)]),F.rcS aI aJ aK c u e f s x t (O.pi (.s 3 (F.qaR aC aD ad (F.clsOf (O.gi a8 (F.obI a8 ad) 2)) aF)) [(O.ad 0 j,0)]),F.rcD s x t (O.pi (.s 3 (F.qaR aC aD ad (F.clsOf (O.gi a8 (F.obI a8 ad) 2)) aF)) [(O.ad 0 j,0)])) ?_ ?_ ?_;focus (cbv;done))
 all_goals(subst hO hr hF;(try simp only[nc]at*);(try simp only[aj,SS,sa,az]at*);(try simp only[e0]at*);(try have hk:hpI a0 a1 a2 a3 a4 a5 a6 a7 a8 a9 aA aB aC aD aE aF aG aH aI aJ aK aL aM aN=true:=Ud);(try have hn:a3≠100000:=Ud);(try have hi:inR t 0 (a9.length-1)=true:=Ud);(try have hG:t0B (hpI a0 a1 a2 a3 a4 a5 a6 a7 a8 a9 aA aB aC aD aE aF aG aH aI aJ aK aL aM aN) a3 t a9=true:=(agi hi hn).trans hk);(try simp only[show∀ j:Int,clsOf (ag a8 (obI a8 ad) 2)=mf a8 ad from fun _=>rfl]at*);(try simp only[show clsOf (ag a8 (obI a8 ad) 2)=mf a8 ad from rfl]at*);(try simp only[show ag a8 (obI a8 ad) 3=foT a8 ad from rfl]at*);(try have k0:0<=obI a8 ad:=Uc);(try have k1:=aeU k0);(try have FT:=SO hk k0);(try have ge:gi1 a8 (obI a8 ad)=ad:=FT.e);(try simp only[ge]at*);(try have h8:=hp.r8);(try have h7:=hp.r7);(try have rg:=acR hp.r8 k0 k1);(try have km:=(gK (hY hk).k).1);(try have q5:=afw (hY hk).q);(try have ck:=ay.1 (hY hk).t);(try have T:=T7 hk FT Ud);(try have T1:=T.p0);(try have T2:=T.n1);(try have T3:=T.m);(try have T4:=T.k0);(try have T5:=T.k1);(try have T6:=T.f);(try have S:=S8 hp hk FT Uc);(try have S0:=S.d0);(try have S1:=S.d1);(try have S2:=S.n0);(try have S3:=S.n1);(try have fr:=qS km S.mp);(try have e1:bQ .quo Za ad 16=ad/16:=vF Uc Uc Uc);(try have e2:bQ .rem Za ad 16=ad%16:=yp Uc);(try simp only[e1]at*);(try simp only[e2]at*);(try have e8:bQ .add Za (obI a8 ad) 1=obI a8 ad+1:=b8 Uc);(try simp only[e8]at*);(try have e9:bQ .add Za (lhI a7 ad) 1=lhI a7 ad+1:=b8 Uc);(try simp only[e9]at*);(try simp only[show ag a7 (lhI a7 ad) 0=Mw a7 ad from rfl,show ag a7 (lhI a7 ad) 1=NW a7 ad from rfl]at*);(try have QT:=SR hp h9 hk S hi);(try simp only[show qaR aC aD ad (mf a8 ad) aF=fqR a8 aC aD aF ad from rfl,show qaL aC aD ad (mf a8 ad) aF=fqL a8 aC aD aF ad from rfl]at*);(try simp only[show delL a8 (obI a8 ad) (obI a8 ad+1)=foO a8 ad from rfl,show dsS a8 (obI a8 ad)=foO a8 ad from rfl,show delL a7 (lhI a7 ad) (lhI a7 ad+1)=lgL a7 ad from rfl,show tcC a0 a2 ad (clsSz (mf a8 ad))=fcC a0 a2 a8 ad from rfl]at*);(try rw[db Uc Uc]);(try simp only[dY (l:=fqR a8 aC aD aF ad) (sz:=3) (j:=0) (i:=j) j0]at*);(try have ht:=SU hp hk hn S QT j2 j0 Uc);(try have E:=Oy j2 Uc);(try have ql:=QT.l);(try have f1:bQ .add Za j 1=j+1:=b8 Uc);(try simp only[f1]at*);(try have qw:=QT.r))
 all_goals first
  | (show(_:List DV)=_
     first
      |(have z:=P4 (k:=hpI a0 a1 a2 a3 a4 a5 a6 a7 a8 a9 aA aB aC aD aE aF aG aH aI aJ aK aL aM aN) (c:=a3) (es:=a2) (sp:=a6) (lg:=a7) (os:=a8) (m:=a9) (b:=aA) (x:=aB) (t:=t) (ad:=ad) (.inl Ud);have q:=SI (g:=t0B (hpI a0 a1 a2 a3 a4 a5 a6 a7 a8 a9 aA aB aC aD aE aF aG aH aI aJ aK aL aM aN) a3 t a9) (es:=a2) (os:=a8) (b:=aA) (x:=aB) (t:=t) (ad:=ad) (agj Ud);rw[z,q.1,q.2.1,q.2.2];exact rfl)
      |(have z:=P4 (k:=hpI a0 a1 a2 a3 a4 a5 a6 a7 a8 a9 aA aB aC aD aE aF aG aH aI aJ aK aL aM aN) (c:=a3) (es:=a2) (sp:=a6) (lg:=a7) (os:=a8) (m:=a9) (b:=aA) (x:=aB) (t:=t) (ad:=ad) (.inr Ud);have q:=SI (g:=t0B (hpI a0 a1 a2 a3 a4 a5 a6 a7 a8 a9 aA aB aC aD aE aF aG aH aI aJ aK aL aM aN) a3 t a9) (es:=a2) (os:=a8) (b:=aA) (x:=aB) (t:=t) (ad:=ad) (agh Ud);rw[z,q.1,q.2.1,q.2.2];exact rfl)
      |(have z:=Ka (es:=a2) (sp:=a6) (lg:=a7) (os:=a8) (b:=aA) (x:=aB) (ad:=ad) hk hn hi Ud;have q:=SJ (g:=t0B (hpI a0 a1 a2 a3 a4 a5 a6 a7 a8 a9 aA aB aC aD aE aF aG aH aI aJ aK aL aM aN) a3 t a9) (es:=a2) (os:=a8) (b:=aA) (x:=aB) (t:=t) (ad:=ad) Ud;rw[z,q.1,q.2.1,q.2.2,aie Ud];exact rfl)
      |(have z:=Ka (es:=a2) (sp:=a6) (lg:=a7) (os:=a8) (b:=aA) (x:=aB) (ad:=ad) hk hn hi Ud;have q:=SJ (g:=t0B (hpI a0 a1 a2 a3 a4 a5 a6 a7 a8 a9 aA aB aC aD aE aF aG aH aI aJ aK aL aM aN) a3 t a9) (es:=a2) (os:=a8) (b:=aA) (x:=aB) (t:=t) (ad:=ad) Ud;rw[z,q.1,q.2.1,q.2.2,aid Ud];exact rfl)
      |(have z:=Ka (es:=a2) (sp:=a6) (lg:=a7) (os:=a8) (b:=aA) (x:=aB) (ad:=ad) hk hn hi Ud;have q:=SJ (g:=t0B (hpI a0 a1 a2 a3 a4 a5 a6 a7 a8 a9 aA aB aC aD aE aF aG aH aI aJ aK aL aM aN) a3 t a9) (es:=a2) (os:=a8) (b:=aA) (x:=aB) (t:=t) (ad:=ad) Ud;rw[z,q.1,q.2.1,q.2.2,aif Ud Ud];exact rfl)
      |(have z:=ac7 (es:=a2) (sp:=a6) (lg:=a7) (os:=a8) (b:=aA) (x:=aB) (ad:=ad) hk hn (show inR t 0 (a9.length-1)=false by assumption);have q:=SI (g:=t0B (hpI a0 a1 a2 a3 a4 a5 a6 a7 a8 a9 aA aB aC aD aE aF aG aH aI aJ aK aL aM aN) a3 t a9) (es:=a2) (os:=a8) (b:=aA) (x:=aB) (t:=t) (ad:=ad) (agf Ud);rw[z,q.1,q.2.1,q.2.2];exact rfl)
      |(have z:=ac8 (es:=a2) (sp:=a6) (lg:=a7) (os:=a8) (b:=aA) (x:=aB) (ad:=ad) hk hn hi k0 Ud;have q:=ahy (es:=a2) (os:=a8) (b:=aA) (x:=aB) (t:=t) (ad:=ad) hG k0 Ud;rw[z,q.1,q.2.1,q.2.2];exact rfl)
      |(have z:=adc (es:=a2) (sp:=a6) (lg:=a7) (os:=a8) (b:=aA) (x:=aB) (ad:=ad) hk hn hi k0 Uc Ud;have q:=ahC (g:=t0B (hpI a0 a1 a2 a3 a4 a5 a6 a7 a8 a9 aA aB aC aD aE aF aG aH aI aJ aK aL aM aN) a3 t a9) (es:=a2) (os:=a8) (b:=aA) (x:=aB) (t:=t) (ad:=ad) Uc Ud;rw[z,q.1,q.2.1,q.2.2];exact rfl)
      |(have z:=ac9 (es:=a2) (sp:=a6) (lg:=a7) (os:=a8) (b:=aA) (x:=aB) (ad:=ad) hk hn hi k0 Uc Ud Ud Ud;have q:=ahz (g:=t0B (hpI a0 a1 a2 a3 a4 a5 a6 a7 a8 a9 aA aB aC aD aE aF aG aH aI aJ aK aL aM aN) a3 t a9) (es:=a2) (os:=a8) (b:=aA) (x:=aB) (t:=t) (ad:=ad) Uc Ud Ud;rw[z,q.1,q.2.1,q.2.2];exact rfl)
      |(have z:=ada (es:=a2) (sp:=a6) (lg:=a7) (os:=a8) (b:=aA) (x:=aB) (ad:=ad) hk hn hi k0 Uc Ud Ud Ud;have q:=ahA (es:=a2) (os:=a8) (b:=aA) (x:=aB) (t:=t) (ad:=ad) hG k0 Uc Ud Ud Ud;rw[z,q.1,q.2.1,q.2.2,(Q1 (by assumption:sdB aA aB t (foT a8 ad) ad=true))];exact rfl)
      |(have z:=adb (es:=a2) (sp:=a6) (lg:=a7) (os:=a8) (b:=aA) (x:=aB) (ad:=ad) hk hn hi k0 Uc Ud Ud;have q:=ahB (es:=a2) (os:=a8) (b:=aA) (x:=aB) (t:=t) (ad:=ad) hG k0 Uc Ud Ud;rw[z,q.1,q.2.1,q.2.2,E.1,E.2.1,E.2.2.1,E.2.2.2.1,E.2.2.2.2.1,E.2.2.2.2.2];exact rfl)
      |done)
  | (show(_:List H)=_
     first
      |done)
  |omega
  |exact j4
  |exact hp.hp
  |exact hp.r2
  |exact⟨hp.r8,Uc⟩
  |exact⟨hp.r7,Uc⟩
  |exact⟨hp.r6,hp.r7,Uc,Uc,ha⟩
  |exact⟨hp.r10,hp.r11,Uc,hp.c11,rg.1,ha⟩
  |exact⟨hp.r13,Uc,ha,rg.2,Uc⟩
  |exact vp qw j0 Uc
  |exact afA
  |exact aa7 j2 j0
  |exact⟨T9 hp,(hY hk).k,hn,Uc,Uc,Uc,Uc⟩
  |exact⟨hp.r0,hp.r2,km,Uc,Uc,S.mp,Uc,Uc⟩
  |(show bz _ _=true;kernel_rfl)
  |exact⟨Zd,Zd⟩
  |done
def iB:EC:=fun F=>fun
 |[.agg hl_,.one (.v (.int Za t)),.one (.v (.int Za ad))]=>hL hl_ fun a0 a1 a2 a3 a4 a5 a6 a7 a8 a9 aA aB aC aD aE aF aG aH aI aJ aK aL aM aN=>(fun _=>HvW (HV.mk a0 a1 a2 a3 a4 a5 a6 a7 a8 a9 aA aB aC aD aE aF aG aH aI aJ aK aL aM aN)/\zk ad,[NA (F.hFr (HV.mk a0 a1 a2 a3 a4 a5 a6 a7 a8 a9 aA aB aC aD aE aF aG aH aI aJ aK aL aM aN) t ad),.j (F.hF1 (HV.mk a0 a1 a2 a3 a4 a5 a6 a7 a8 a9 aA aB aC aD aE aF aG aH aI aJ aK aL aM aN) t ad)])
 |_=>none
def rX:ec 15 iB:=by
 intro _ _ _ h hp;dsimp only[iB,F0,hL]at h;split at h;rotate_left;cases h;split at h<;>cases h
 rename_i t ad _ a0 a1 a2 a3 a4 a5 a6 a7 a8 a9 aA aB aC aD aE aF aG aH aI aJ aK aL aM aN;have C:=HV.wf_hc hp.1.w;exact vO _ _ _ rfl ⟨C.1,Nat.le_trans C.2.2.2.2.1 (by decide),C.2.2.2.2.2.1,hp.2⟩
end Go.V