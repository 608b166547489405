/- Contracts. -/
import Derived.Test.YtpldpilhgjpkjaaGreatXM9
set_option linter.all false
open Go
open Act renaming eval->ZK,put->ZI
open And renaming intro->Zd
open Bool renaming noConfusion->Xj
open Departure renaming mixedOrders->Yq
open IntKind renaming i64->Zs,i64->Za
open List renaming all_eq_true->Z6,length_drop->Zn,length_take->Zh,length_nil->Zk,length_cons->Zj
open True renaming intro->Zb
open Value renaming int->Zi
namespace Go.V
open Go Go.Proofs
set_option maxRecDepth 1000000
set_option maxHeartbeats 8000000
open Go.Shelf Go.RowKit Go.Lib in
theorem CV:GY Tryz.prog 49:=by
 refine⟨fun w=>?_,fun b off sp len cap i hc hm hi w=>?_⟩<;>(go_enter Tryz.func49,Tryz.ntmps49;go_wp2;all_goals(go_ret;exact⟨rfl,rfl⟩))
open Go.Shelf Go.RowKit Go.Lib in
theorem CW:GZ Tryz.prog 49 4:=by
 intro w es b off cap i j S v1 v2 v3 F hlt;obtain⟨A,W1,zs,hA,hsrc,hcap,hm,hij,hj,s1,s2,s3,hcl,hW2,hW,hic,hjc⟩:=F.fx hlt [Zi Zs 0,Zi Zs 0,Zi Zs 0,Zi Zs 0] Tryz.underlying40 Tryz.zeroValue118 rfl (Z6.1 rfl) rfl;have mixed:Tryz.prog.follows Yq=true:=mixed;clear F
 go_enter Tryz.func49,Tryz.ntmps49
 go_wp2_with fail
 go_region_law_o (refine step_append_room rfl (.tmp 22) (.tmp 25) 40 rfl 118 _ 4 Tryz.underlying40 rfl rfl b off i cap (by simp[ZK,ZI]) A (es.length-j) (cap-j) v3 (by simp[ZK,ZI]) s1.out hsrc.out s2.out (by omega) s3.out ?_;rw[<-hW.out])
 go_wp2
 go_ret
 rw[hW.out];exact⟨rfl,hW2⟩
open Go.Shelf Go.RowKit Go.Lib in
theorem y7:GY Tryz.prog 52:=by
 refine⟨fun w=>?_,fun b off sp len cap i hc hm hi w=>?_⟩<;>(go_enter Tryz.func52,Tryz.ntmps52;go_wp2;all_goals(go_ret;exact⟨rfl,rfl⟩))
open Go.Shelf Go.RowKit Go.Lib in
theorem y9:GZ Tryz.prog 52 3:=by
 intro w es b off cap i j S v1 v2 v3 F hlt;obtain⟨A,W1,zs,hA,hsrc,hcap,hm,hij,hj,s1,s2,s3,hcl,hW2,hW,hic,hjc⟩:=F.fx hlt [Zi Zs 0,Zi Zs 0,Zi Zs 0] Tryz.underlying39 Tryz.zeroValue127 rfl (Z6.1 rfl) rfl;have mixed:Tryz.prog.follows Yq=true:=mixed;clear F
 go_enter Tryz.func52,Tryz.ntmps52
 go_wp2_with fail
 go_region_law_o (refine step_append_room rfl (.tmp 22) (.tmp 25) 39 rfl 127 _ 3 Tryz.underlying39 rfl rfl b off i cap (by simp[ZK,ZI]) A (es.length-j) (cap-j) v3 (by simp[ZK,ZI]) s1.out hsrc.out s2.out (by omega) s3.out ?_;rw[<-hW.out])
 go_wp2
 go_ret
 rw[hW.out];exact⟨rfl,hW2⟩
def bA:EO:=fun F=>fun
 |[.one (.s 4 es),.one (.v (.int Za i)),.one (.v (.int Za j))]=>some (fun _=>0<=i/\i<=j/\j<=es.length,[.one (.s 4 (F.delL es i j))])
 |_=>none
theorem cH:eo 49 bA:=by
 intro _ _ _ h hp;dsimp only[bA,F0]at h;split at h<;>cases h
 rename_i es i j;exact q8 CV CW hp
theorem cv:eo 52 ak:=by
 intro _ _ _ h hp;dsimp only[ak,F0]at h;split at h<;>cases h
 rename_i es i j;exact q8 y7 y9 hp
def hD:EC:=fun F=>fun
 |[.agg [.v (.int Za d0),.v (.int Za d1),.v (.int Za d2)],.ptr [.v (.int Za ad)]]=>some (fun _=>True,[.k (F.pmB d0 ad)])
 |_=>none
theorem qo:ec 51 hD:=by
 intro _ _ _ h hp;dsimp only[hD,F0]at h;split at h<;>cases h
 rename_i d0 d1 d2 ad;refine cb nB Tryz.func51 ?_
 intro O r F hO hr hF;cbv
 repeat' first|apply Zd|(apply cP<;>intro hb<;>cbv)
 all_goals(subst hO hr hF;(try simp only[nc]at*);(try simp only[aj,SS,sa,az]at*))
 all_goals first
  | (show(_:List DV)=_
     first
      |exact av (lB (by unfold pmB eqB;simp only[SS,VR]))
      |exact av (show true=pmB d0 ad from(ya (by assumption)).symm)
      |exact av (show false=pmB d0 ad from(A5 (by assumption)).symm)
      |done)
  |done
abbrev Zu1:dp:=d4 (fun F f=>match f with|51=>hD F|_=>fun _=>none) (by
 intro f;dsimp only;split;exact qo;exact dB)
def aZ:EC:=fun F=>fun
 |[.one (.s 3 os),.fn 51 [[.v (.int Za id)]]]=>some (fun _=>Rw [tI,tI,tI] os/\os.length<=1099511627776,[.j (F.lhI os id)])
 |_=>none
theorem bZ:ec 50 aZ:=by
 intro _ _ _ h hp;dsimp only[aZ,F0]at h;split at h<;>cases h
 rename_i os id;obtain⟨hw,hn⟩:=hp;refine cb Zu1 Tryz.func50 ?_
 intro O r F hO hr hF;cbv
 repeat' first|apply Zd|(apply cP<;>intro hb<;>cbv)|(refine⟨[0,1,7,8],[0],Int,fun i=>[.reg 8 (.j i)],fun i=>0<=i/\i<=((os.length:Nat):Int)/\upto (cR (Bq os id)) i,fun i=>(os.length)-i.toNat,⟨0,?_,?_⟩,?_⟩;rotate_left;(focus (cbv;done));intro i hi;replace hi:0<=i/\i<=((os.length:Nat):Int)/\upto (cR (Bq os id)) i:=hi;obtain⟨i0,i1,i2⟩:=hi;cbv)|(refine ah (O.ar .add Za i 1) ?_ ?_ ?_;focus (cbv;done))
 all_goals(subst hO hr hF;(try simp only[nc]at*);(try simp only[aj,SS,sa,az]at*);(try rw[dx (by omega) (by omega)]))
 all_goals first
  | (show(_:List DV)=_
     first
      |exact cB (dI i2 i0 (by assumption) (show Bq os id i=true from by assumption)).symm
      |exact cB (eN i2 (by assumption)).symm
      |done)
  |omega
  |exact fK
  |(show(lk _ _).isSome=true;kernel_rfl)
  |exact cg
  |exact bN i2 (gj (show Bq os id i=false from by assumption))
  |done
abbrev Zu2:dp:=d4 (fun F f=>match f with|137=>gJ F|65=>jm F|159=>iw F|160=>fT F|161=>bj F|_=>fun _=>none) (by
 intro f;dsimp only;split;exact nK;exact pD;exact om;exact mr;exact cC;exact dB)
def kF:EC:=fun F=>fun
 |[.agg [.v (.int Za rm),.s 3 qs],.agg [.v (.int Za a),.v (.int Za c),.v (.int Za s)]]=>some (fun _=>Rw [tI,tI,tI] qs/\qs.length<=1073741823/\AN a/\AN c/\AN s,[.agg [.i rm,.s 3 (F.qaL rm qs a c s)],.one (.s 3 (F.qaR rm qs a c s))])
 |_=>none
theorem vt:ec 58 kF:=by
 intro _ _ _ h hp;dsimp only[kF,F0]at h;split at h<;>cases h
 rename_i rm qs a c s;obtain⟨hw,hl,ha,hc,hs⟩:=hp;refine cb Zu2 Tryz.func58 ?_
 intro O r F hO hr hF;cbv
 repeat' first|apply Zd|(apply cP<;>intro hb<;>cbv)|(refine⟨[2,4,6,7],[2,4,6],Int,fun i=>[.reg 7 (.j i)],fun i=>0<=i/\True/\ON (qs++[BU a c s]) rm i,fun i=>(qs.length+1-i).toNat,⟨0,?_,?_⟩,?_⟩;rotate_left;(focus (cbv;done));intro i hi;replace hi:0<=i/\True/\ON (qs++[BU a c s]) rm i:=hi;obtain⟨i0,i1,i2⟩:=hi;cbv)|(refine ah (O.ar .add Za i 1) ?_ ?_ ?_;focus (cbv;done))
 all_goals(subst hO hr hF;(try simp only[nc]at*);(try simp only[aj,SS,sa,az]at*);(try rw[dx (by omega) (by omega)]);(try have bq:quarOk rm qs=true:=(by assumption));(try have wl:=acp hw hl ha hc hs);(try have ql:=Re (qs:=qs) (a:=a) (c:=c) (s:=s));(try have r0:=be.1 (afL bq));(try simp only[show(qs++[[L.i a,L.i c,L.i s]])=qs++[BU a c s]from rfl]at*);(try have ib:=acw i2 i0);(try simp only[zU i0 ib,rr]at*);(try have z:=Rh i2 i0 r0.1 (by assumption));(try have f1:bO .add Za i 1=i+1:=cG (by omega));(try simp only[f1]at*);(try have f2:bO .sub Za (qs.length:Int) 1=qs.length-1:=gg (by omega));(try simp only[f2]at*))
 all_goals first
  | (show(_:List DV)=_
     first
      |(have q:=Je (acq (rm:=rm) (qs:=qs) (a:=a) (c:=c) (s:=s) (by assumption));rw[q.1,q.2];exact rfl)
      |exact absurd (by assumption:false=true) Xj
      |(have q:=Je (acr (rm:=rm) (qs:=qs) (a:=a) (c:=c) (s:=s) (by assumption));rw[q.1,q.2];exact rfl)
      |(have n:=L0 i2 (by omega);have q:=LZ (acs bq (by assumption:stlOk qs a c s=true));rw[q.1,q.2, <-n];exact rfl)
      |done)
  | (show(_:List H)=_
     first
      |done)
  |omega
  |exact fK
  |exact⟨hw,by omega⟩
  |exact⟨wl,by omega⟩
  |exact⟨Rw.drop wl _,by rw[Zn];omega⟩
  |exact⟨Rw.take wl _,by rw[Zh];omega⟩
  |exact acv
  |exact z.1
  |exact(Rw.drop wl _).scal rfl
  |exact(Rw.take wl _).scal rfl
  |exact wl.scal rfl
  |exact hw.scal rfl
  |(simp only[Zk,Zj,Zn,Zh];omega)
  |(refine⟨?_,?_⟩<;>(simp only[Zk,Zj,Zn,Zh];omega))
  |exact⟨by omega,by omega,by omega⟩
  |(show ax _ _=true;kernel_rfl)
  |exact⟨Zb,Zb⟩
  |exact Zb
  |done
abbrev Zu3:dp:=d4 (fun F f=>match f with|62=>eJ F|162=>dG F|_=>fun _=>none) (by
 intro f;dsimp only;split;exact jE;exact fq;exact dB)
def ky:EC:=fun F=>fun
 |[.one (.s 3 sp),.one (.s 3 lg),.one (.v (.int Za a))]=>some (fun _=>Rw [tI,tI,tI] sp/\Rw [tI,tI,tI] lg/\sp.length<=1073741824/\lg.length<=1073741824/\AN a,[.agg [.i (F.dzK sp lg a),.i (F.dzI sp lg a),.i (F.dzS sp lg a),.i (F.dzO sp lg a)]])
 |_=>none
theorem vj:ec 153 ky:=by
 intro _ _ _ h hp;dsimp only[ky,F0]at h;split at h<;>cases h
 rename_i sp lg a;obtain⟨hs,hg,ls,lg',ha⟩:=hp;refine cb Zu3 Tryz.func153 ?_
 intro O r F hO hr hF;cbv
 repeat' first|apply Zd|(apply cP<;>intro hb<;>cbv)
 all_goals(subst hO hr hF;(try simp only[nc]at*);(try simp only[aj,SS,sa,az]at*))
 all_goals first
  | (show(_:List DV)=_
     first
      |(have h:=(by assumption:layOk sp lg=true);rw[show dzK sp lg a=dnK sp lg a from VT h,show dzI sp lg a=dnI sp lg a from VT h,show dzS sp lg a=dnS sp a from VT h,show dzO sp lg a=dnO sp lg a from VT h];exact rfl)
      |(have h:¬ layOk sp lg=true:=(by rw[show layOk sp lg=false from by assumption];exact Xj);rw[show dzK sp lg a=0 from VU h,show dzI sp lg a=0 from VU h,show dzS sp lg a=0 from VU h,show dzO sp lg a=0 from VU h];exact rfl)
      |done)
  | (show(_:List H)=_
     first
      |done)
  |omega
  |exact fK
  |exact⟨hs,hg⟩
  |exact⟨hs,hg,by omega,by omega⟩
  |(show ax _ _=true;kernel_rfl)
  |exact⟨Zb,Zb⟩
  |exact Zb
  |done
abbrev Zu4:dp:=d4 (fun F f=>match f with|153=>ky F|_=>fun _=>none) (by
 intro f;dsimp only;split;exact vj;exact dB)
def jL:EC:=fun F=>fun
 |[.one (.s 3 sp),.one (.s 3 lg),.one (.v (.int Za a))]=>some (fun _=>Rw [tI,tI,tI] sp/\Rw [tI,tI,tI] lg/\sp.length<=1073741824/\lg.length<=1073741824/\AN a,[.j (F.feI sp lg a)])
 |_=>none
theorem tZ:ec 48 jL:=by
 intro _ _ _ h hp;dsimp only[jL,F0]at h;split at h<;>cases h
 rename_i sp lg a;obtain⟨hs,hg,ls,lg',ha⟩:=hp;refine cb Zu4 Tryz.func48 ?_
 intro O r F hO hr hF;cbv
 repeat' first|apply Zd|(apply cP<;>intro hb<;>cbv)
 all_goals(subst hO hr hF;(try simp only[nc]at*);(try simp only[aj,SS,sa,az]at*))
 all_goals first
  | (show(_:List DV)=_
     first
      |exact cB (aej (by assumption)).symm
      |exact cB (aek (by assumption) (by assumption)).symm
      |exact cB (ael (by assumption) (by omega)).symm
      |exact cB (aem (by assumption) (by omega) (by assumption)).symm
      |done)
  | (show(_:List H)=_
     first
      |done)
  |omega
  |exact fK
  |exact⟨hs,hg,ls,lg',ha⟩
  |(show ax _ _=true;kernel_rfl)
  |exact⟨Zb,Zb⟩
  |exact Zb
  |done
abbrev Zv1:dp:={
 Φ:=tW
 F0:=F0
 ct:=fun F f=>match f with|36=>dO F|17=>eP F|33=>ay F|47=>mX F|48=>jL F|38=>ea F|50=>aZ F|54=>cZ F|56=>cn F|57=>oA F|58=>kF F|_=>fun _=>none
 hc:=(by
  intro f;dsimp only;split;exact gC;exact gu;exact aS;exact yU;exact tZ;exact gZ;exact bZ;exact d7;exact cS;exact AU;exact vt;exact dB)
 pt:=fun F f=>match f with|53=>some (fQ F)|55=>some (ie F)|59=>some (iu F)|_=>none
 hp:=(by
  intro f mk h;dsimp only at h;split at h<;>cases h
  exact mo;exact qz;exact oj)
 ot:=fun F f=>match f with|49=>some (bA F)|52=>some (ak F)|_=>none
 ho:=(by
  intro f mk h;dsimp only at h;split at h<;>cases h
  exact cH;exact cv)}
def nM:EC:=fun F=>fun
 |[.agg hl_,.one (.v (.int Za t)),.one (.v (.int Za ad))]=>hL hl_ fun a0 a1 a2 a3 a4 a5 a6 a7 a8 a9 aA aB aC aD aE aF aG aH aI aJ aK aL aM aN=>(fun _=>lq a0 a1 a2 a4 a5 a6 a7 a8 a9 aA aB aD aL/\ap a9<=1000000000/\ap aA<=500000000/\AN ad,[.agg (Lb (F.ifR (F.fbL (F.t0B (F.hpI a0 a1 a2 a3 a4 a5 a6 a7 a8 a9 aA aB aC aD aE aF aG aH aI aJ aK aL aM aN) a3 t a9) a8 ad) (F.lgC a0 a1 a2 a7 ad) (F.ifR (F.fbP (F.t0B (F.hpI a0 a1 a2 a3 a4 a5 a6 a7 a8 a9 aA aB aC aD aE aF aG aH aI aJ aK aL aM aN) a3 t a9) a2 a8 aA aB t ad) (F.fcC a0 a2 a8 ad) (F.ifR (F.fbQ (F.t0B (F.hpI a0 a1 a2 a3 a4 a5 a6 a7 a8 a9 aA aB aC aD aE aF aG aH aI aJ aK aL aM aN) a3 t a9) a2 a8 t ad) (F.raC aI aJ aK (F.fcC a0 a2 a8 ad) a1 a2 a5 a6 a9 t (F.fqR a8 aC aD aF ad)) a0))) (F.ifR (F.fbL (F.t0B (F.hpI a0 a1 a2 a3 a4 a5 a6 a7 a8 a9 aA aB aC aD aE aF aG aH aI aJ aK aL aM aN) a3 t a9) a8 ad) (F.lgU a0 a1 a2 a7 ad) (F.ifR (F.fbQ (F.t0B (F.hpI a0 a1 a2 a3 a4 a5 a6 a7 a8 a9 aA aB aC aD aE aF aG aH aI aJ aK aL aM aN) a3 t a9) a2 a8 t ad) (F.raU aI aJ aK (F.fcC a0 a2 a8 ad) a1 a2 a5 a6 a9 t (F.fqR a8 aC aD aF ad)) a1)) (F.ifR (F.fbL (F.t0B (F.hpI a0 a1 a2 a3 a4 a5 a6 a7 a8 a9 aA aB aC aD aE aF aG aH aI aJ aK aL aM aN) a3 t a9) a8 ad) (F.lgE a0 a1 a2 a7 ad) (F.ifR (F.fbQ (F.t0B (F.hpI a0 a1 a2 a3 a4 a5 a6 a7 a8 a9 aA aB aC aD aE aF aG aH aI aJ aK aL aM aN) a3 t a9) a2 a8 t ad) (F.raE aI aJ aK (F.fcC a0 a2 a8 ad) a1 a2 a5 a6 a9 t (F.fqR a8 aC aD aF ad)) a2)) a3 a4 (F.ifR (F.fbL (F.t0B (F.hpI a0 a1 a2 a3 a4 a5 a6 a7 a8 a9 aA aB aC aD aE aF aG aH aI aJ aK aL aM aN) a3 t a9) a8 ad) (F.lgF a0 a1 a2 a5 a7 ad) (F.ifR (F.fbQ (F.t0B (F.hpI a0 a1 a2 a3 a4 a5 a6 a7 a8 a9 aA aB aC aD aE aF aG aH aI aJ aK aL aM aN) a3 t a9) a2 a8 t ad) (F.raF aI aJ aK (F.fcC a0 a2 a8 ad) a1 a2 a5 a6 a9 t (F.fqR a8 aC aD aF ad)) a5)) (F.ifR (F.fbQ (F.t0B (F.hpI a0 a1 a2 a3 a4 a5 a6 a7 a8 a9 aA aB aC aD aE aF aG aH aI aJ aK aL aM aN) a3 t a9) a2 a8 t ad) (F.raS aI aJ aK (F.fcC a0 a2 a8 ad) a1 a2 a5 a6 a9 t (F.fqR a8 aC aD aF ad)) a6) (F.ifR (F.fbL (F.t0B (F.hpI a0 a1 a2 a3 a4 a5 a6 a7 a8 a9 aA aB aC aD aE aF aG aH aI aJ aK aL aM aN) a3 t a9) a8 ad) (F.lgL a7 ad) a7) (F.ifR (F.fbL (F.t0B (F.hpI a0 a1 a2 a3 a4 a5 a6 a7 a8 a9 aA aB aC aD aE aF aG aH aI aJ aK aL aM aN) a3 t a9) a8 ad) (F.foO a8 ad) (F.ifR (F.fbP (F.t0B (F.hpI a0 a1 a2 a3 a4 a5 a6 a7 a8 a9 aA aB aC aD aE aF aG aH aI aJ aK aL aM aN) a3 t a9) a2 a8 aA aB t ad) (F.foO a8 ad) (F.ifR (F.fbQ (F.t0B (F.hpI a0 a1 a2 a3 a4 a5 a6 a7 a8 a9 aA aB aC aD aE aF aG aH aI aJ aK aL aM aN) a3 t a9) a2 a8 t ad) (F.foO a8 ad) a8))) (F.ifR (F.fbQ (F.t0B (F.hpI a0 a1 a2 a3 a4 a5 a6 a7 a8 a9 aA aB aC aD aE aF aG aH aI aJ aK aL aM aN) a3 t a9) a2 a8 t ad) (F.raD aI aJ aK (F.fcC a0 a2 a8 ad) a1 a2 a5 a6 a9 t (F.fqR a8 aC aD aF ad)) a9) (F.ifR (F.fbP (F.t0B (F.hpI a0 a1 a2 a3 a4 a5 a6 a7 a8 a9 aA aB aC aD aE aF aG aH aI aJ aK aL aM aN) a3 t a9) a2 a8 aA aB t ad) (F.sdU aA t (F.foT a8 ad) ad) aA) aB aC (F.ifR (F.fbQ (F.t0B (F.hpI a0 a1 a2 a3 a4 a5 a6 a7 a8 a9 aA aB aC aD aE aF aG aH aI aJ aK aL aM aN) a3 t a9) a2 a8 t ad) (F.fqL a8 aC aD aF ad) aD) aE aF aG aH aI aJ aK aL aM aN),.j (F.hfK (F.hpI a0 a1 a2 a3 a4 a5 a6 a7 a8 a9 aA aB aC aD aE aF aG aH aI aJ aK aL aM aN) a3 a2 a6 a7 a8 a9 aA aB t ad)])
 |_=>none
theorem t6:ec 15 nM:=by
 intro _ _ _ h hp;dsimp only[nM,F0,hL]at h;split at h;rotate_left;cases h;split at h<;>cases h
 rename_i t ad _ a0 a1 a2 a3 a4 a5 a6 a7 a8 a9 aA aB aC aD aE aF aG aH aI aJ aK aL aM aN;obtain⟨hp,h9,h10,ha⟩:=hp;have l9:=aO (es:=a9);have l7:=aO (es:=a7);have c7:=hp.c7;have l8:=aO (es:=a8);have c8:=hp.c8;have l6:=aO (es:=a6);have c6:=hp.c6;have l13:=aO (es:=aD);have c13:=hp.c13;have e0:bO .sub Za (a9.length:Int) 1=a9.length-1:=gg (by omega);refine cb Zv1 Tryz.func15 ?_
 intro O r F hO hr hF;cbv
 repeat' first|apply Zd|(apply cP<;>intro hb<;>cbv)|(refine⟨[1,6,8,151,152,153],[6,8,146],Int×af×af×af×af×af×af,fun s_=>match s_ with|(j,c,u,e,f,s,x)=>[.reg 153 (.j j),.leaf 8 0 ⟨0,0,none,.own (.s 1 c)⟩,.leaf 8 1 ⟨0,0,none,.own (.s 1 u)⟩,.leaf 8 2 ⟨0,0,none,.own (.s 2 e)⟩,.leaf 8 5 ⟨0,0,none,.own (.s 2 f)⟩,.leaf 8 6 ⟨0,0,none,.own (.s 3 s)⟩,.leaf 8 9 ⟨0,0,none,.own (.s 1 x)⟩],fun s_=>match s_ with|(j,c,u,e,f,s,x)=>0<=j/\j<=((fqR a8 aC aD aF ad).length:Int)/\G7 aI aJ aK t (fqR a8 aC aD aF ad) ⟨⟨fcC a0 a2 a8 ad,a1,a2,a5,a6⟩,a9⟩ j c u e f s x,fun s_=>match s_ with|(j,c,u,e,f,s,x)=>((fqR a8 aC aD aF ad).length-j).toNat,⟨(0,F.tcC a0 a2 ad (F.clsSz (F.clsOf (O.gi a8 (F.obI a8 ad) 2))),a1,a2,a5,a6,a9),?_,?_⟩,?_⟩;rotate_left;(focus (cbv;done));intro s_ hj;obtain⟨j,c,u,e,f,s,x⟩:=s_;replace hj:0<=j/\j<=((fqR a8 aC aD aF ad).length:Int)/\G7 aI aJ aK t (fqR a8 aC aD aF ad) ⟨⟨fcC a0 a2 a8 ad,a1,a2,a5,a6⟩,a9⟩ j c u e f s x:=hj;obtain⟨j0,j1,j2⟩:=hj;cbv)|(refine ah (O.ar .add Za j 1,F.rcC aI aJ aK c u e f s x t (O.pi (.s 3 (F.qaR aC aD ad (F.clsOf (O.gi a8 (F.obI a8 ad) 2)) aF)) [(O.ad 0 j,0)]),F.rcU aI aJ aK c u e f s x t (O.pi (.s 3 (F.qaR aC aD ad (F.clsOf (O.gi a8 (F.obI a8 ad) 2)) aF)) [(O.ad 0 j,0)]),F.rcE aI aJ aK c u e f s x t (O.pi (.s 3 (F.qaR aC aD ad (F.clsOf (O.gi a8 (F.obI a8 ad) 2)) aF)) [(O.ad 0 j,0)]),F.rcF aI aJ aK c u e f s x t (O.pi (.s 3 (F.qaR aC aD ad (F.clsOf (O.gi a8 (F.obI a8 ad) 2)) aF)) [(O.ad 0 j,0)]),F.rcS aI aJ aK c u e f s x t (O.pi (.s 3 (F.qaR aC aD ad (F.clsOf (O.gi a8 (F.obI a8 ad) 2)) aF)) [(O.ad 0 j,0)]),F.rcD s x t (O.pi (.s 3 (F.qaR aC aD ad (F.clsOf (O.gi a8 (F.obI a8 ad) 2)) aF)) [(O.ad 0 j,0)])) ?_ ?_ ?_;focus (cbv;done))
 all_goals(subst hO hr hF;(try simp only[nc]at*);(try simp only[aj,SS,sa,az]at*);(try simp only[e0]at*);(try have hk:hpI a0 a1 a2 a3 a4 a5 a6 a7 a8 a9 aA aB aC aD aE aF aG aH aI aJ aK aL aM aN=true:=(by assumption));(try have hn:a3≠100000:=(by assumption));(try have hi:inR t 0 (a9.length-1)=true:=(by assumption));(try have hG:t0B (hpI a0 a1 a2 a3 a4 a5 a6 a7 a8 a9 aA aB aC aD aE aF aG aH aI aJ aK aL aM aN) a3 t a9=true:=(JK hi hn).trans hk);(try simp only[show∀ j:Int,clsOf (ag a8 (obI a8 ad) 2)=lc a8 ad from fun _=>rfl]at*);(try simp only[show clsOf (ag a8 (obI a8 ad) 2)=lc a8 ad from rfl]at*);(try simp only[show ag a8 (obI a8 ad) 3=foT a8 ad from rfl]at*);(try have k0:0<=obI a8 ad:=(by omega));(try have k1:=ab1 k0);(try have FT:=PO hk k0);(try have ge:gi1 a8 (obI a8 ad)=ad:=FT.e);(try simp only[ge]at*);(try have h8:=hp.r8);(try have h7:=hp.r7);(try have rg:=aaq hp.r8 k0 k1);(try have km:=(jt (gB hk).k).1);(try have q5:=acz (gB hk).q);(try have ck:=be.1 (gB hk).t);(try have T:=Qx hk FT (by assumption));(try have T1:=T.p0);(try have T2:=T.n1);(try have T3:=T.m);(try have T4:=T.k0);(try have T5:=T.k1);(try have T6:=T.f);(try have S:=PY hp hk FT (by omega));(try have S0:=S.d0);(try have S1:=S.d1);(try have S2:=S.n0);(try have S3:=S.n1);(try have fr:=IL km S.mp);(try have e1:bO .quo Za ad 16=ad/16:=BH (by omega) (by omega) (by omega));(try have e2:bO .rem Za ad 16=ad%16:=BK (by omega));(try simp only[e1]at*);(try simp only[e2]at*);(try have e8:bO .add Za (obI a8 ad) 1=obI a8 ad+1:=cG (by omega));(try simp only[e8]at*);(try have e9:bO .add Za (lhI a7 ad) 1=lhI a7 ad+1:=cG (by omega));(try simp only[e9]at*);(try simp only[show ag a7 (lhI a7 ad) 0=J9 a7 ad from rfl,show ag a7 (lhI a7 ad) 1=LA a7 ad from rfl]at*);(try have QT:=PR hp h9 hk S hi);(try simp only[show qaR aC aD ad (lc a8 ad) aF=fqR a8 aC aD aF ad from rfl,show qaL aC aD ad (lc a8 ad) aF=fqL a8 aC aD aF ad from rfl]at*);(try simp only[show delL a8 (obI a8 ad) (obI a8 ad+1)=foO a8 ad from rfl,show dsS a8 (obI a8 ad)=foO a8 ad from rfl,show delL a7 (lhI a7 ad) (lhI a7 ad+1)=lgL a7 ad from rfl,show tcC a0 a2 ad (clsSz (lc a8 ad))=fcC a0 a2 a8 ad from rfl]at*);(try rw[dx (by omega) (by omega)]);(try simp only[gV (l:=fqR a8 aC aD aF ad) (sz:=3) (j:=0) (i:=j) j0]at*);(try have ht:=HY hp hk hn S QT j2 j0 (by omega));(try have E:=FC j2 (by omega));(try have ql:=QT.l);(try have f1:bO .add Za j 1=j+1:=cG (by omega));(try simp only[f1]at*);(try have qw:=QT.r))
 all_goals first
  | (show(_:List DV)=_
     first
      |(have z:=Nk (k:=hpI a0 a1 a2 a3 a4 a5 a6 a7 a8 a9 aA aB aC aD aE aF aG aH aI aJ aK aL aM aN) (c:=a3) (es:=a2) (sp:=a6) (lg:=a7) (os:=a8) (m:=a9) (b:=aA) (x:=aB) (t:=t) (ad:=ad) (.inl (by assumption));have q:=PI (g:=t0B (hpI a0 a1 a2 a3 a4 a5 a6 a7 a8 a9 aA aB aC aD aE aF aG aH aI aJ aK aL aM aN) a3 t a9) (es:=a2) (os:=a8) (b:=aA) (x:=aB) (t:=t) (ad:=ad) (acX (by assumption));rw[z,q.1,q.2.1,q.2.2];exact rfl)
      |(have z:=Nk (k:=hpI a0 a1 a2 a3 a4 a5 a6 a7 a8 a9 aA aB aC aD aE aF aG aH aI aJ aK aL aM aN) (c:=a3) (es:=a2) (sp:=a6) (lg:=a7) (os:=a8) (m:=a9) (b:=aA) (x:=aB) (t:=t) (ad:=ad) (.inr (by assumption));have q:=PI (g:=t0B (hpI a0 a1 a2 a3 a4 a5 a6 a7 a8 a9 aA aB aC aD aE aF aG aH aI aJ aK aL aM aN) a3 t a9) (es:=a2) (os:=a8) (b:=aA) (x:=aB) (t:=t) (ad:=ad) (Oh (by assumption));rw[z,q.1,q.2.1,q.2.2];exact rfl)
      |(have z:=EZ (es:=a2) (sp:=a6) (lg:=a7) (os:=a8) (b:=aA) (x:=aB) (ad:=ad) hk hn hi (by assumption);have q:=KS (g:=t0B (hpI a0 a1 a2 a3 a4 a5 a6 a7 a8 a9 aA aB aC aD aE aF aG aH aI aJ aK aL aM aN) a3 t a9) (es:=a2) (os:=a8) (b:=aA) (x:=aB) (t:=t) (ad:=ad) (by assumption);rw[z,q.1,q.2.1,q.2.2,aeT (by assumption)];exact rfl)
      |(have z:=EZ (es:=a2) (sp:=a6) (lg:=a7) (os:=a8) (b:=aA) (x:=aB) (ad:=ad) hk hn hi (by assumption);have q:=KS (g:=t0B (hpI a0 a1 a2 a3 a4 a5 a6 a7 a8 a9 aA aB aC aD aE aF aG aH aI aJ aK aL aM aN) a3 t a9) (es:=a2) (os:=a8) (b:=aA) (x:=aB) (t:=t) (ad:=ad) (by assumption);rw[z,q.1,q.2.1,q.2.2,aeS (by assumption)];exact rfl)
      |(have z:=EZ (es:=a2) (sp:=a6) (lg:=a7) (os:=a8) (b:=aA) (x:=aB) (ad:=ad) hk hn hi (by assumption);have q:=KS (g:=t0B (hpI a0 a1 a2 a3 a4 a5 a6 a7 a8 a9 aA aB aC aD aE aF aG aH aI aJ aK aL aM aN) a3 t a9) (es:=a2) (os:=a8) (b:=aA) (x:=aB) (t:=t) (ad:=ad) (by assumption);rw[z,q.1,q.2.1,q.2.2,aeU (by assumption) (by assumption)];exact rfl)
      |exact absurd (show t=foT a8 ad by assumption) (show t≠foT a8 ad by assumption)
      |(have z:=aaJ (es:=a2) (sp:=a6) (lg:=a7) (os:=a8) (b:=aA) (x:=aB) (ad:=ad) hk hn (show inR t 0 (a9.length-1)=false by assumption);have q:=PI (g:=t0B (hpI a0 a1 a2 a3 a4 a5 a6 a7 a8 a9 aA aB aC aD aE aF aG aH aI aJ aK aL aM aN) a3 t a9) (es:=a2) (os:=a8) (b:=aA) (x:=aB) (t:=t) (ad:=ad) (Og (by assumption));rw[z,q.1,q.2.1,q.2.2];exact rfl)
      |(have z:=EZ (es:=a2) (sp:=a6) (lg:=a7) (os:=a8) (b:=aA) (x:=aB) (ad:=ad) hk hn hi (by assumption);have q:=KS (g:=t0B (hpI a0 a1 a2 a3 a4 a5 a6 a7 a8 a9 aA aB aC aD aE aF aG aH aI aJ aK aL aM aN) a3 t a9) (es:=a2) (os:=a8) (b:=aA) (x:=aB) (t:=t) (ad:=ad) (by assumption);rw[z,q.1,q.2.1,q.2.2];exact rfl)
      |(have z:=aaK (es:=a2) (sp:=a6) (lg:=a7) (os:=a8) (b:=aA) (x:=aB) (ad:=ad) hk hn hi k0 (by assumption);have q:=aee (es:=a2) (os:=a8) (b:=aA) (x:=aB) (t:=t) (ad:=ad) hG k0 (by assumption);rw[z,q.1,q.2.1,q.2.2];exact rfl)
      |(have z:=aaO (es:=a2) (sp:=a6) (lg:=a7) (os:=a8) (b:=aA) (x:=aB) (ad:=ad) hk hn hi k0 (by omega) (by assumption);have q:=aei (g:=t0B (hpI a0 a1 a2 a3 a4 a5 a6 a7 a8 a9 aA aB aC aD aE aF aG aH aI aJ aK aL aM aN) a3 t a9) (es:=a2) (os:=a8) (b:=aA) (x:=aB) (t:=t) (ad:=ad) (by omega) (by assumption);rw[z,q.1,q.2.1,q.2.2];exact rfl)
      |(have z:=aaL (es:=a2) (sp:=a6) (lg:=a7) (os:=a8) (b:=aA) (x:=aB) (ad:=ad) hk hn hi k0 (by omega) (by assumption) (by assumption) (by assumption);have q:=aef (g:=t0B (hpI a0 a1 a2 a3 a4 a5 a6 a7 a8 a9 aA aB aC aD aE aF aG aH aI aJ aK aL aM aN) a3 t a9) (es:=a2) (os:=a8) (b:=aA) (x:=aB) (t:=t) (ad:=ad) (by omega) (by assumption) (by assumption);rw[z,q.1,q.2.1,q.2.2];exact rfl)
      |(have z:=aaM (es:=a2) (sp:=a6) (lg:=a7) (os:=a8) (b:=aA) (x:=aB) (ad:=ad) hk hn hi k0 (by omega) (by assumption) (by assumption) (by assumption);have q:=aeg (es:=a2) (os:=a8) (b:=aA) (x:=aB) (t:=t) (ad:=ad) hG k0 (by omega) (by assumption) (by assumption) (by assumption);rw[z,q.1,q.2.1,q.2.2,(Oc (by assumption:sdB aA aB t (foT a8 ad) ad=true))];exact rfl)
      |(have z:=aaN (es:=a2) (sp:=a6) (lg:=a7) (os:=a8) (b:=aA) (x:=aB) (ad:=ad) hk hn hi k0 (by omega) (by assumption) (by assumption);have q:=aeh (es:=a2) (os:=a8) (b:=aA) (x:=aB) (t:=t) (ad:=ad) hG k0 (by omega) (by assumption) (by assumption);rw[z,q.1,q.2.1,q.2.2,E.1,E.2.1,E.2.2.1,E.2.2.2.1,E.2.2.2.2.1,E.2.2.2.2.2];exact rfl)
      |done)
  | (show(_:List H)=_
     first
      |done)
  |omega
  |exact fK
  |exact absurd (show t=foT a8 ad by assumption) (show t≠foT a8 ad by assumption)
  |exact hp
  |exact hp.hp
  |exact hp.r2
  |exact⟨hp.r8,by omega⟩
  |exact⟨hp,ha⟩
  |exact⟨hp.r7,by omega⟩
  |exact⟨hp.r6,hp.r7,by omega,by omega,ha⟩
  |exact⟨hp.r10,hp.r11,by omega,hp.c11,rg.1,ha⟩
  |exact⟨hp.r13,by omega,ha,rg.2,by omega⟩
  |exact abB hp.r8 k0 k1
  |exact Nt hp.r8 k0 k1 (by decide)
  |exact tA qw j0 (by omega)
  |exact tC qw j0 (by omega) (by decide)
  |exact HY hp hk hn S QT j2 j0 (by omega)
  |exact NP
  |exact Jf j2 j0
  |exact⟨by omega,by omega,by omega⟩
  |exact IE hp
  |exact⟨IE hp,(gB hk).k,hn,by omega,by omega,by omega,by omega⟩
  |exact⟨hp.r0,hp.r2,km,by omega,by omega,S.mp,by omega,by omega⟩
  |exact⟨by omega,by omega,by omega⟩
  |(show ax _ _=true;kernel_rfl)
  |exact⟨Zb,Zb⟩
  |exact Zb
  |done
def hE:EC:=fun F=>fun
 |[.agg hl_,.one (.v (.int Za t)),.one (.v (.int Za ad))]=>hL hl_ fun a0 a1 a2 a3 a4 a5 a6 a7 a8 a9 aA aB aC aD aE aF aG aH aI aJ aK aL aM aN=>(fun _=>SR (HV.mk a0 a1 a2 a3 a4 a5 a6 a7 a8 a9 aA aB aC aD aE aF aG aH aI aJ aK aL aM aN)/\AN ad,[hvD (F.hFr (HV.mk a0 a1 a2 a3 a4 a5 a6 a7 a8 a9 aA aB aC aD aE aF aG aH aI aJ aK aL aM aN) t ad),.j (F.hF1 (HV.mk a0 a1 a2 a3 a4 a5 a6 a7 a8 a9 aA aB aC aD aE aF aG aH aI aJ aK aL aM aN) t ad)])
 |_=>none
theorem qp:ec 15 hE:=by
 intro _ _ _ h hp;dsimp only[hE,F0,hL]at h;split at h;rotate_left;cases h;split at h<;>cases h
 rename_i t ad _ a0 a1 a2 a3 a4 a5 a6 a7 a8 a9 aA aB aC aD aE aF aG aH aI aJ aK aL aM aN;have C:=HV.wf_hc hp.1.w;exact t6 _ _ _ rfl ⟨C.1,Nat.le_trans C.2.2.2.2.1 (by decide),C.2.2.2.2.2.1,hp.2⟩
def fy:EC:=fun F=>fun
 |[.agg hl_,.one (.v (.int Za f))]=>hL hl_ fun a0 a1 a2 a3 a4 a5 a6 a7 a8 a9 aA aB aC aD aE aF aG aH aI aJ aK aL aM aN=>(fun _=>SR (HV.mk a0 a1 a2 a3 a4 a5 a6 a7 a8 a9 aA aB aC aD aE aF aG aH aI aJ aK aL aM aN),[hvD (F.hDe (HV.mk a0 a1 a2 a3 a4 a5 a6 a7 a8 a9 aA aB aC aD aE aF aG aH aI aJ aK aL aM aN) f),.k (F.hD1 (HV.mk a0 a1 a2 a3 a4 a5 a6 a7 a8 a9 aA aB aC aD aE aF aG aH aI aJ aK aL aM aN) f)])
 |_=>none
theorem nZ:ec 18 fy:=by
 intro _ _ _ h hp;dsimp only[fy,F0,hL]at h;split at h;rotate_left;cases h;split at h<;>cases h
 rename_i f _ a0 a1 a2 a3 a4 a5 a6 a7 a8 a9 aA aB aC aD aE aF aG aH aI aJ aK aL aM aN;have C:=HV.wf_hc hp.w;exact pL _ _ _ rfl C.1
def fw:EC:=fun F=>fun
 |[.agg hl_,.one (.v (.int Za t))]=>hL hl_ fun a0 a1 a2 a3 a4 a5 a6 a7 a8 a9 aA aB aC aD aE aF aG aH aI aJ aK aL aM aN=>(fun _=>SR (HV.mk a0 a1 a2 a3 a4 a5 a6 a7 a8 a9 aA aB aC aD aE aF aG aH aI aJ aK aL aM aN),[hvD (F.hCo (HV.mk a0 a1 a2 a3 a4 a5 a6 a7 a8 a9 aA aB aC aD aE aF aG aH aI aJ aK aL aM aN) t),.j (F.hC1 (HV.mk a0 a1 a2 a3 a4 a5 a6 a7 a8 a9 aA aB aC aD aE aF aG aH aI aJ aK aL aM aN) t)])
 |_=>none
theorem nY:ec 19 fw:=by
 intro _ _ _ h hp;dsimp only[fw,F0,hL]at h;split at h;rotate_left;cases h;split at h<;>cases h
 rename_i t _ a0 a1 a2 a3 a4 a5 a6 a7 a8 a9 aA aB aC aD aE aF aG aH aI aJ aK aL aM aN;have C:=HV.wf_hc hp.w;exact pK _ _ _ rfl ⟨C.1,Nat.le_trans C.2.2.2.2.1 (by decide),C.2.2.2.2.2.2⟩
end Go.V