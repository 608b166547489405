/- Contracts. -/
import Derived.Test.YtbedjnlfdopeeaaGreatM7
set_option linter.all false
open Go
open Act renaming eval->YC,put->Yl
open And renaming intro->Zb
open Bool renaming noConfusion->XA
open Departure renaming mixedOrders->Wn
open IntKind renaming i64->Zp,i64->Za
open List renaming all_eq_true->Z9,length_drop->Zu,length_take->Zk,length_nil->Zr,length_cons->Zn,length_append->Ze
open True renaming intro->Zh
open Value renaming int->Zi
namespace Go.V
open Go Go.Proofs
set_option maxRecDepth 1000000
set_option maxHeartbeats 8000000
open Go.Shelf Go.RowKit Go.Lib in
theorem Hz:OL Tryz.prog 76:=by
 refine⟨fun w=>?_,fun b off sp len cap i hc hm hi w=>?_⟩<;>(go_enter Tryz.func76,Tryz.ntmps76;go_wp2;all_goals(go_ret;exact⟨rfl,rfl⟩))
open Go.Shelf Go.RowKit Go.Lib in
theorem HA:OM Tryz.prog 76 4:=by
 intro w es b off cap i j S v1 v2 v3 F hlt;obtain⟨A,W1,zs,hA,hsrc,hcap,hm,hij,hj,s1,s2,s3,hcl,hW2,hW,hic,hjc⟩:=F.fx hlt [Zi Zp 0,Zi Zp 0,Zi Zp 0,Zi Zp 0] Tryz.underlying63 Tryz.zeroValue137 rfl (Z9.1 rfl) rfl;have mixed:Tryz.prog.follows Wn=true:=mixed;clear F
 go_enter Tryz.func76,Tryz.ntmps76
 go_wp2_with fail
 go_region_law_o (refine step_append_room rfl (.tmp 22) (.tmp 25) 63 rfl 137 _ 4 Tryz.underlying63 rfl rfl b off i cap (by simp[YC,Yl]) A (es.length-j) (cap-j) v3 (by simp[YC,Yl]) s1.out hsrc.out s2.out (by omega) s3.out ?_;rw[<-hW.out])
 go_wp2
 go_ret
 rw[hW.out];exact⟨rfl,hW2⟩
open Go.Shelf Go.RowKit Go.Lib in
theorem D9:OL Tryz.prog 80:=by
 refine⟨fun w=>?_,fun b off sp len cap i hc hm hi w=>?_⟩<;>(go_enter Tryz.func80,Tryz.ntmps80;go_wp2;all_goals(go_ret;exact⟨rfl,rfl⟩))
open Go.Shelf Go.RowKit Go.Lib in
theorem Ea:OM Tryz.prog 80 3:=by
 intro w es b off cap i j S v1 v2 v3 F hlt;obtain⟨A,W1,zs,hA,hsrc,hcap,hm,hij,hj,s1,s2,s3,hcl,hW2,hW,hic,hjc⟩:=F.fx hlt [Zi Zp 0,Zi Zp 0,Zi Zp 0] Tryz.underlying62 Tryz.zeroValue142 rfl (Z9.1 rfl) rfl;have mixed:Tryz.prog.follows Wn=true:=mixed;clear F
 go_enter Tryz.func80,Tryz.ntmps80
 go_wp2_with fail
 go_region_law_o (refine step_append_room rfl (.tmp 22) (.tmp 25) 62 rfl 142 _ 3 Tryz.underlying62 rfl rfl b off i cap (by simp[YC,Yl]) A (es.length-j) (cap-j) v3 (by simp[YC,Yl]) s1.out hsrc.out s2.out (by omega) s3.out ?_;rw[<-hW.out])
 go_wp2
 go_ret
 rw[hW.out];exact⟨rfl,hW2⟩
def bu:EO:=fun F=>fun
 |[.one (.s 4 es),.one (.v (.int Za i)),.one (.v (.int Za j))]=>some (fun _=>0<=i/\i<=j/\j<=es.length,[.one (.s 4 (F.delL es i j))])
 |_=>none
theorem cJ:eo 76 bu:=by
 intro _ _ _ h hp;dsimp only[bu,F0]at h;split at h<;>cases h
 rename_i es i j;exact A0 Hz HA hp
theorem cv:eo 80 ap:=by
 intro _ _ _ h hp;dsimp only[ap,F0]at h;split at h<;>cases h
 rename_i es i j;exact A0 D9 Ea hp
def iN:EC:=fun F=>fun
 |[.agg [.v (.int Za d0),.v (.int Za d1),.v (.int Za d2)],.ptr [.v (.int Za ad)]]=>some (fun _=>True,[.k (F.pmB d0 ad)])
 |_=>none
theorem te:ec 79 iN:=by
 intro _ _ _ h hp;dsimp only[iN,F0]at h;split at h<;>cases h
 rename_i d0 d1 d2 ad;refine cb nB Tryz.func79 ?_
 intro O r F hO hr hF;cbv
 repeat' first|apply Zb|(apply bF<;>intro hb<;>cbv)
 all_goals(subst hO hr hF;(try simp only[nc]at*);(try simp only[ah,SS,sa,az]at*))
 all_goals first
  | (show(_:List DV)=_
     first
      |exact ai (gW (by unfold pmB eqB;simp only[SS,VV]))
      |exact ai (show true=pmB d0 ad from(tW (by assumption)).symm)
      |exact ai (show false=pmB d0 ad from(wn (by assumption)).symm)
      |done)
  |done
abbrev Zu1:da:=ez (fun F f=>match f with|79=>iN F|_=>fun _=>none) (by
 intro f;dsimp only;split;exact te;exact de)
def aW:EC:=fun F=>fun
 |[.one (.s 3 os),.fn 79 [[.v (.int Za id)]]]=>some (fun _=>Rw [tI,tI,tI] os/\os.length<=1099511627776,[.j (F.lhI os id)])
 |_=>none
theorem ce:ec 78 aW:=by
 intro _ _ _ h hp;dsimp only[aW,F0]at h;split at h<;>cases h
 rename_i os id;obtain⟨hw,hn⟩:=hp;refine cb Zu1 Tryz.func78 ?_
 intro O r F hO hr hF;cbv
 repeat' first|apply Zb|(apply bF<;>intro hb<;>cbv)|(refine⟨[0,1,7,8],[0],Int,fun i=>[.reg 8 (.j i)],fun i=>0<=i/\i<=((os.length:Nat):Int)/\upto (cZ (yf os id)) i,fun i=>(os.length)-i.toNat,⟨0,?_,?_⟩,?_⟩;rotate_left;(focus (cbv;done));intro i hi;replace hi:0<=i/\i<=((os.length:Nat):Int)/\upto (cZ (yf os id)) i:=hi;obtain⟨i0,i1,i2⟩:=hi;cbv)|(refine ag (O.ar .add Za i 1) ?_ ?_ ?_;focus (cbv;done))
 all_goals(subst hO hr hF;(try simp only[nc]at*);(try simp only[ah,SS,sa,az]at*);(try rw[db (by omega) (by omega)]))
 all_goals first
  | (show(_:List DV)=_
     first
      |exact cq (dM i2 i0 (by assumption) (show yf os id i=true from by assumption)).symm
      |exact cq (eY i2 (by assumption)).symm
      |done)
  |omega
  |exact gj
  |(show(lk _ _).isSome=true;kernel_rfl)
  |exact bK
  |exact aZ i2 (ji (show yf os id i=false from by assumption))
  |done
abbrev Zu2:da:=ez (fun F f=>match f with|122=>dx F|129=>d6 F|195=>iS F|196=>cX F|136=>bg F|103=>dx F|170=>d6 F|265=>j9 F|266=>je F|267=>cX F|_=>fun _=>none) (by
 intro f;dsimp only;split;exact pW;exact sg;exact qC;exact oM;exact cA;exact qH;exact sk;exact sq;exact qE;exact qd;exact de)
def fq:EC:=fun F=>fun
 |[.agg [.v (.int Za rm),.s 3 qs],.agg [.v (.int Za a),.v (.int Za c),.v (.int Za s)]]=>some (fun _=>Rw [tI,tI,tI] qs/\qs.length<=1073741823/\K4 a/\K4 c/\K4 s,[.agg [.i rm,.s 3 (F.qaL rm qs a c s)],.one (.s 3 (F.qaR rm qs a c s))])
 |_=>none
theorem za:ec 86 fq:=by
 intro _ _ _ h hp;dsimp only[fq,F0]at h;split at h<;>cases h
 rename_i rm qs a c s;obtain⟨hw,hl,ha,hc,hs⟩:=hp;refine cb Zu2 Tryz.func86 ?_
 intro O r F hO hr hF;cbv
 repeat' first|apply Zb|(apply bF<;>intro hb<;>cbv)|(refine⟨[2,4,6,7],[2,4,6],Int,fun i=>[.reg 7 (.j i)],fun i=>0<=i/\True/\OX (qs++[Dk a c s]) rm i,fun i=>(qs.length+1-i).toNat,⟨0,?_,?_⟩,?_⟩;rotate_left;(focus (cbv;done));intro i hi;replace hi:0<=i/\True/\OX (qs++[Dk a c s]) rm i:=hi;obtain⟨i0,i1,i2⟩:=hi;cbv)|(refine ag (O.ar .add Za i 1) ?_ ?_ ?_;focus (cbv;done))
 all_goals(subst hO hr hF;(try simp only[nc]at*);(try simp only[ah,SS,sa,az]at*);(try rw[db (by omega) (by omega)]);(try have bq:quarOk rm qs=true:=(by assumption));(try have wl:=SU hw hl ha hc hs);(try have ql:=NF (qs:=qs) (a:=a) (c:=c) (s:=s));(try have r0:=bH.1 (afd bq));(try simp only[show(qs++[[L.i a,L.i c,L.i s]])=qs++[Dk a c s]from rfl]at*);(try have ib:=S9 i2 i0);(try simp only[J9 i0 ib,Ka]at*);(try have z:=NH i2 i0 r0.1 (by assumption));(try have f1:bO .add Za i 1=i+1:=bz (by omega));(try simp only[f1]at*);(try have f2:bO .sub Za (qs.length:Int) 1=qs.length-1:=dG (by omega));(try simp only[f2]at*))
 all_goals first
  | (show(_:List DV)=_
     first
      |(have q:=EL (SV (rm:=rm) (qs:=qs) (a:=a) (c:=c) (s:=s) (by assumption));rw[q.1,q.2];exact rfl)
      |exact absurd (by assumption:false=true) XA
      |(have q:=EL (JW (rm:=rm) (qs:=qs) (a:=a) (c:=c) (s:=s) (by assumption));rw[q.1,q.2];exact rfl)
      |(have n:=JY i2 (by omega);have q:=NG (SX bq (by assumption:stlOk qs a c s=true));rw[q.1,q.2, <-n];exact rfl)
      |done)
  | (show(_:List H)=_
     first
      |done)
  |omega
  |exact gj
  |exact⟨hw,by omega⟩
  |exact⟨wl,by omega⟩
  |exact⟨Rw.drop wl _,by rw[Zu];omega⟩
  |exact⟨Rw.take wl _,by rw[Zk];omega⟩
  |exact S8
  |exact z.1
  |exact(Rw.drop wl _).scal rfl
  |exact(Rw.take wl _).scal rfl
  |exact wl.scal rfl
  |exact hw.scal rfl
  |(simp only[Zr,Zn,Zu,Zk];omega)
  |(refine⟨?_,?_⟩<;>(simp only[Zr,Zn,Zu,Zk];omega))
  |exact⟨by omega,by omega,by omega⟩
  |(show aP _ _=true;kernel_rfl)
  |exact⟨Zh,Zh⟩
  |exact Zh
  |done
theorem zS:ec 185 fq:=by
 intro _ _ _ h hp;dsimp only[fq,F0]at h;split at h<;>cases h
 rename_i rm qs a c s;obtain⟨hw,hl,ha,hc,hs⟩:=hp;refine cb Zu2 Tryz.func185 ?_
 intro O r F hO hr hF;cbv
 repeat' first|apply Zb|(apply bF<;>intro hb<;>cbv)|(refine⟨[2,4,8,9],[2,4,8],Int,fun i=>[.reg 9 (.j i)],fun i=>0<=i/\True/\OX (qs++[Dk a c s]) rm i,fun i=>(qs.length+1-i).toNat,⟨0,?_,?_⟩,?_⟩;rotate_left;(focus (cbv;done));intro i hi;replace hi:0<=i/\True/\OX (qs++[Dk a c s]) rm i:=hi;obtain⟨i0,i1,i2⟩:=hi;cbv)|(refine ag (O.ar .add Za i 1) ?_ ?_ ?_;focus (cbv;done))
 all_goals(subst hO hr hF;(try simp only[nc]at*);(try simp only[ah,SS,sa,az]at*);(try rw[db (by omega) (by omega)]);(try have bq:quarOk rm qs=true:=(by assumption));(try have wl:=SU hw hl ha hc hs);(try have ql:=NF (qs:=qs) (a:=a) (c:=c) (s:=s));(try have r0:=bH.1 (afd bq));(try simp only[show(qs++[[L.i a,L.i c,L.i s]])=qs++[Dk a c s]from rfl]at*);(try have ib:=S9 i2 i0);(try simp only[J9 i0 ib,Ka]at*);(try have z:=NH i2 i0 r0.1 (by assumption));(try have f1:bO .add Za i 1=i+1:=bz (by omega));(try simp only[f1]at*);(try have f2:bO .sub Za (qs.length:Int) 1=qs.length-1:=dG (by omega));(try simp only[f2]at*))
 all_goals first
  | (show(_:List DV)=_
     first
      |(have q:=EL (SV (rm:=rm) (qs:=qs) (a:=a) (c:=c) (s:=s) (by assumption));rw[q.1,q.2];exact rfl)
      |exact absurd (by assumption:false=true) XA
      |(have q:=EL (ae4 (rm:=rm) (qs:=qs) (a:=a) (c:=c) (s:=s) (by assumption));rw[q.1,q.2];exact rfl)
      |(have q:=EL (ae5 (rm:=rm) (qs:=qs) (a:=a) (c:=c) (s:=s) (by assumption));rw[q.1,q.2];exact rfl)
      |(have q:=EL (ae6 (rm:=rm) (qs:=qs) (a:=a) (c:=c) (s:=s) (by omega) (by omega));rw[q.1,q.2];exact rfl)
      |(have n:=JY i2 (by omega);have q:=NG (ae7 bq (by assumption:staB a c s=true) (by assumption) (by omega));rw[q.1,q.2, <-n];exact rfl)
      |done)
  | (show(_:List H)=_
     first
      |done)
  |omega
  |exact gj
  |exact⟨hw,by omega⟩
  |exact⟨wl,by omega⟩
  |exact⟨Rw.drop wl _,by rw[Zu];omega⟩
  |exact⟨Rw.take wl _,by rw[Zk];omega⟩
  |exact S8
  |exact z.1
  |exact(Rw.drop wl _).scal rfl
  |exact(Rw.take wl _).scal rfl
  |exact wl.scal rfl
  |exact hw.scal rfl
  |(simp only[Zr,Zn,Zu,Zk];omega)
  |(refine⟨?_,?_⟩<;>(simp only[Zr,Zn,Zu,Zk];omega))
  |exact⟨by omega,by omega,by omega⟩
  |(show aP _ _=true;kernel_rfl)
  |exact⟨Zh,Zh⟩
  |exact Zh
  |done
abbrev Zu3:da:=ez (fun F f=>match f with|126=>cH F|137=>eB F|_=>fun _=>none) (by
 intro f;dsimp only;split;exact kz;exact gx;exact de)
def mj:EC:=fun F=>fun
 |[.one (.s 3 sp),.one (.s 3 lg),.one (.v (.int Za a))]=>some (fun _=>Rw [tI,tI,tI] sp/\Rw [tI,tI,tI] lg/\sp.length<=1073741824/\lg.length<=1073741824/\K4 a,[.agg [.i (F.dzK sp lg a),.i (F.dzI sp lg a),.i (F.dzS sp lg a),.i (F.dzO sp lg a)]])
 |_=>none
theorem y8:ec 189 mj:=by
 intro _ _ _ h hp;dsimp only[mj,F0]at h;split at h<;>cases h
 rename_i sp lg a;obtain⟨hs,hg,ls,lg',ha⟩:=hp;refine cb Zu3 Tryz.func189 ?_
 intro O r F hO hr hF;cbv
 repeat' first|apply Zb|(apply bF<;>intro hb<;>cbv)
 all_goals(subst hO hr hF;(try simp only[nc]at*);(try simp only[ah,SS,sa,az]at*))
 all_goals first
  | (show(_:List DV)=_
     first
      |(have h:=(by assumption:layOk sp lg=true);rw[show dzK sp lg a=dnK sp lg a from VW h,show dzI sp lg a=dnI sp lg a from VW h,show dzS sp lg a=dnS sp a from VW h,show dzO sp lg a=dnO sp lg a from VW h];exact rfl)
      |(have h:¬ layOk sp lg=true:=(by rw[show layOk sp lg=false from by assumption];exact XA);rw[show dzK sp lg a=0 from VX h,show dzI sp lg a=0 from VX h,show dzS sp lg a=0 from VX h,show dzO sp lg a=0 from VX h];exact rfl)
      |done)
  | (show(_:List H)=_
     first
      |done)
  |omega
  |exact gj
  |exact⟨hs,hg⟩
  |exact⟨hs,hg,by omega,by omega⟩
  |(show aP _ _=true;kernel_rfl)
  |exact⟨Zh,Zh⟩
  |exact Zh
  |done
abbrev Zu4:da:=ez (fun F f=>match f with|189=>mj F|268=>fF F|_=>fun _=>none) (by
 intro f;dsimp only;split;exact y8;exact iL;exact de)
def eL:EC:=fun F=>fun
 |[.one (.s 3 sp),.one (.s 3 lg),.one (.v (.int Za a))]=>some (fun _=>Rw [tI,tI,tI] sp/\Rw [tI,tI,tI] lg/\sp.length<=1073741824/\lg.length<=1073741824/\K4 a,[.j (F.feI sp lg a)])
 |_=>none
theorem wS:ec 75 eL:=by
 intro _ _ _ h hp;dsimp only[eL,F0]at h;split at h<;>cases h
 rename_i sp lg a;obtain⟨hs,hg,ls,lg',ha⟩:=hp;refine cb Zu4 Tryz.func75 ?_
 exact agf
theorem xY:ec 273 eL:=by
 intro _ _ _ h hp;dsimp only[eL,F0]at h;split at h<;>cases h
 rename_i sp lg a;obtain⟨hs,hg,ls,lg',ha⟩:=hp;refine cb Zu4 Tryz.func273 ?_
 exact agf
abbrev Zu5:da:=ez (fun F f=>match f with|273=>eL F|_=>fun _=>none) (by
 intro f;dsimp only;split;exact xY;exact de)
def lB:EC:=fun F=>fun
 |[.ptr hl_,.one (.v (.int Za a))]=>hL hl_ fun a0 a1 a2 a3 a4 a5 a6 a7 a8 a9 aA aB aC aD aE aF aG aH aI aJ aK aL aM aN=>(fun _=>o6 a0 a1 a2 a4 a5 a6 a7 a8 a9 aA aB aD aL/\K4 a,[.j (F.hwI a6 a7 a)])
 |_=>none
theorem yc:ec 178 lB:=by
 intro _ _ _ h hp;dsimp only[lB,F0,hL]at h;split at h;rotate_left;cases h;split at h<;>cases h
 rename_i a _ a0 a1 a2 a3 a4 a5 a6 a7 a8 a9 aA aB aC aD aE aF aG aH aI aJ aK aL aM aN;obtain⟨hp,ha⟩:=hp;have l6:=au (es:=a6);have c6:=hp.c6;have l7:=au (es:=a7);have c7:=hp.c7;refine cb Zu5 Tryz.func178 ?_
 intro O r F hO hr hF;cbv
 repeat' first|apply Zb|(apply bF<;>intro hb<;>cbv)
 all_goals(subst hO hr hF;(try simp only[nc]at*);(try simp only[ah,SS,sa,az]at*))
 all_goals first
  | (show(_:List DV)=_
     first
      |exact cq (adB (by assumption)).symm
      |exact cq (adA (by assumption)).symm
      |exact cq (adC (by assumption) (by assumption)).symm
      |done)
  | (show(_:List H)=_
     first
      |done)
  |omega
  |exact gj
  |exact⟨hp.r6,hp.r7,by omega,by omega,ha⟩
  |(show aP _ _=true;kernel_rfl)
  |exact⟨Zh,Zh⟩
  |exact Zh
  |done
def jf:EP:=fun F=>fun
 |[.mp hl_,.one (.v (.int Za i))]=>hM hl_ fun a0 a1 a2 a3 a4 a5 a6 a7 a8 a9 aA aB aC aD aE aF aG aH aI aJ aK aL aM aN=>(fun _=>Rw [tI,tI,tI,tI] a8/\a8.length<=1073741824/\0<=i/\i<a8.length,[(hpM a0 a1 a2 a3 a4 a5 a6 a7 (F.dsS a8 i) a9 aA aB aC aD aE aF aG aH aI aJ aK aL aM aN)],[])
 |_=>none
theorem qI:ep 184 jf:=by
 intro _ _ _ _ h hp;dsimp only[jf,F0,hM]at h;split at h;rotate_left;cases h;split at h<;>cases h
 rename_i i _ a0 a1 a2 a3 a4 a5 a6 a7 a8 a9 aA aB aC aD aE aF aG aH aI aJ aK aL aM aN;obtain⟨h8,l8,i0,i1⟩:=hp;have e1:bO .add Za i 1=i+1:=bz (by omega);have hs8:=h8.scal rfl;refine pb nB Tryz.func184 ?_
 intro O r os F hO hr hos hF;cbv
 repeat' first|apply Zb|(apply bF<;>intro hb<;>cbv)
 all_goals((try subst hos);subst hO hr hF;(try simp only[nc]at*);(try simp only[ah,SS,sa,az]at*);(try simp only[e1]at*))
 all_goals first
  | (show(_:List DV)=_
     first
      |exact rfl
      |done)
  | (show(_:List H)=_
     first
      |(rw[<-HC i0 i1];exact rfl)
      |done)
  |omega
  |exact gj
  |exact hs8
  |(show _/\_;simp only[Kt,sc,Zr,Ze,Zk,Zu];omega)
  |exact⟨by omega,by omega,by omega⟩
  |(show aP _ _=true;kernel_rfl)
  |exact⟨Zh,Zh⟩
  |exact Zh
  |done
abbrev Zu7:da:={
 Φ:=rz
 F0:=F0
 ct:=fun F f=>match f with|276=>ie F|275=>dT F|_=>fun _=>none
 hc:=(by
  intro f;dsimp only;split;exact qe;exact qa;exact de)
 pt:=fun F f=>match f with|274=>some (ic F)|184=>some (jf F)|_=>none
 hp:=(by
  intro f mk h;dsimp only at h;split at h<;>cases h
  exact qb;exact qI)}
def lA:EP:=fun F=>fun
 |[.mp hl_,.one (.v (.int Za i))]=>hM hl_ fun a0 a1 a2 a3 a4 a5 a6 a7 a8 a9 aA aB aC aD aE aF aG aH aI aJ aK aL aM aN=>(fun _=>o6 a0 a1 a2 a4 a5 a6 a7 a8 a9 aA aB aD aL/\kerOk a0 a1 a2 a3 a4=true/\a3≠100000/\LfT a5 a7 (gi1 a8 i)/\0<=i/\i<a8.length,[(hpM (F.lgC a0 a1 a2 a7 (F.gi1 a8 i)) (F.lgU a0 a1 a2 a7 (F.gi1 a8 i)) (F.lgE a0 a1 a2 a7 (F.gi1 a8 i)) a3 a4 (F.lgF a0 a1 a2 a5 a7 (F.gi1 a8 i)) a6 (F.lgL a7 (F.gi1 a8 i)) (F.dsS a8 i) a9 aA aB aC aD aE aF aG aH aI aJ aK aL aM aN)],[])
 |_=>none
theorem yb:ep 180 lA:=by
 intro _ _ _ _ h hp;dsimp only[lA,F0,hM]at h;split at h;rotate_left;cases h;split at h<;>cases h
 rename_i i _ a0 a1 a2 a3 a4 a5 a6 a7 a8 a9 aA aB aC aD aE aF aG aH aI aJ aK aL aM aN;obtain⟨hp,hk,hn,T,i0,i1⟩:=hp;obtain⟨ad,eq⟩:∃ ad,gi1 a8 i=ad:=⟨_,rfl⟩;have ea:ab a8 i 1=ad:=eq;rw[eq]at T;have km:=(oR hk).1;have l7:=au (es:=a7);have c7:=hp.c7;have l8:=au (es:=a8);have c8:=hp.c8;have l5:=au (es:=a5);have c5:=hp.c5;have h7:=hp.r7;have h8:=hp.r8;have hs7:=h7.scal rfl;have lk0:=T.k0;have lk1:=T.k1;have p0:=T.p0;have n1:=T.n1;have m0:=T.m;have f32:=T.f;refine pb Zu7 Tryz.func180 ?_
 intro O r os F hO hr hos hF;cbv
 repeat' first|apply Zb|(apply bF<;>intro hb<;>cbv)|(refine⟨[0,1,4],[0],Int,fun k=>[.reg 4 (.j k)],fun k=>0<=k/\k<=((a7.length:Nat):Int)/\upto (cZ (yf a7 ad)) k,fun k=>(a7.length)-k.toNat,⟨0,?_,?_⟩,?_⟩;rotate_left;(focus (cbv;done));intro k hk;replace hk:0<=k/\k<=((a7.length:Nat):Int)/\upto (cZ (yf a7 ad)) k:=hk;obtain⟨k0,k1,k2⟩:=hk;cbv)|(refine ag (O.ar .add Za k 1) ?_ ?_ ?_;focus (cbv;done))|(refine⟨[0,1,4,5,6],[0,5],Int×aa×aa×aa,fun s_=>match s_ with|(p,d,u,e)=>[.reg 6 (.j p),.leaf 0 0 ⟨0,0,none,.own (.s 1 d)⟩,.leaf 0 1 ⟨0,0,none,.own (.s 1 u)⟩,.leaf 0 2 ⟨0,0,none,.own (.s 2 e)⟩],fun s_=>match s_ with|(p,d,u,e)=>0<=p/\p<=yh a7 ad/\Oy a0 a1 a2 (uO a7 ad) (uO a7 ad+p) d u e,fun s_=>match s_ with|(p,d,u,e)=>(yh a7 ad-p).toNat,⟨(0,a0,a1,a2),?_,?_⟩,?_⟩;rotate_left;(focus (cbv;done));intro s_ hp;obtain⟨p,d,u,e⟩:=s_;replace hp:0<=p/\p<=yh a7 ad/\Oy a0 a1 a2 (uO a7 ad) (uO a7 ad+p) d u e:=hp;obtain⟨p0,p1,p2⟩:=hp;cbv)|(refine ag (O.ar .add Za p 1,F.kuC d e (O.ar .add Za (O.pi (.s 3 a7) [(O.ad 0 k,0)]) p),F.kuU u e (O.ar .add Za (O.pi (.s 3 a7) [(O.ad 0 k,0)]) p),F.kuE e (O.ar .add Za (O.pi (.s 3 a7) [(O.ad 0 k,0)]) p)) ?_ ?_ ?_;focus (cbv;done))
 all_goals((try subst hos);subst hO hr hF;(try simp only[nc]at*);(try simp only[ah,SS,sa,az]at*);(try simp only[jm]at*);(try rw[db (by omega) (by omega)]);(try simp only[lD (l:=a7) (sz:=3) (j:=0) (i:=k) k0,lD (l:=a7) (sz:=3) (j:=1) (i:=k) k0]at*);(try simp only[lD (l:=a8) (sz:=4) (j:=1) (i:=i) i0]at*);(try simp only[ea]at*);(try simp only[eq]at*);(try have hl:lhI a7 ad=k:=dM k2 k0 (by assumption) (show yf a7 ad k=true from VT (by assumption)));(try subst hl);(try simp only[show ab a7 (lhI a7 ad) 0=uO a7 ad from rfl,show ab a7 (lhI a7 ad) 1=yh a7 ad from rfl]at*);(try have e4:bO .add Za (uO a7 ad) p=uO a7 ad+p:=bz (by omega));(try have e7:bO .add Za p 1=p+1:=bz (by omega));(try have e8:bO .add Za (lhI a7 ad) 1=lhI a7 ad+1:=bz (by omega));(try simp only[e4]at*);(try simp only[e7]at*);(try simp only[e8]at*);(try have el:=p2.l);(try have e1c:=km.e1);(try have up2:=HD p2 (by omega));(try rw[Int.add_assoc]at up2))
 all_goals first
  | (show(_:List DV)=_
     first
      |exact rfl
      |done)
  | (show(_:List H)=_
     first
      |(exfalso;have z:lhI a7 ad= -1:=eY k2 (by omega);omega)
      |(have en:=Jb (l:=yh a7 ad) p2 (by omega) (by omega);rw[en.1,en.2.1,en.2.2,show lgL a7 ad=dsS a7 (lhI a7 ad)from rfl, <-HC lk0 lk1];exact rfl)
      |done)
  |omega
  |exact gj
  |exact sr h7 k0 (by omega) (by decide)
  |exact uh h7 k0 (by omega)
  |exact sr h7 lk0 (by omega) (by decide)
  |exact uh h7 lk0 (by omega)
  |exact MJ h8 i0 (by omega) (by decide)
  |exact bK
  |exact aZ k2 (ji (show yf a7 ad k=false from VU (by assumption)))
  |(rw[Int.add_zero];exact LR km hp.r0 hp.r1 hp.r2)
  |exact up2
  |exact⟨p2.rc,p2.ru,p2.re,hp.r4,p2.m⟩
  |exact⟨by unfold zlI;omega,by unfold zlI;omega,hp.r5,by omega⟩
  |exact⟨h8,by omega,i0,i1⟩
  |exact hs7
  |(show _/\_;simp only[Kt,sc,Zr,Ze,Zk,Zu];omega)
  |exact⟨by omega,by omega,by omega⟩
  |(show aP _ _=true;kernel_rfl)
  |exact⟨Zh,Zh⟩
  |exact Zh
  |done
abbrev Zv0:da:={
 Φ:=rz
 F0:=F0
 ct:=fun F f=>match f with|28=>aj F|177=>gQ F|178=>lB F|179=>cL F|181=>bU F|182=>iy F|183=>bA F|185=>fq F|_=>fun _=>none
 hc:=(by
  intro f;dsimp only;split;exact bE;exact DY;exact yc;exact mf;exact jG;exact FE;exact d9;exact zS;exact de)
 pt:=fun F f=>match f with|180=>some (lA F)|184=>some (jf F)|186=>some (fw F)|_=>none
 hp:=(by
  intro f mk h;dsimp only at h;split at h<;>cases h
  exact yb;exact qI;exact tQ)}
def pq:EP:=fun F=>fun
 |[.mp hl_,.one (.v (.int Za t)),.one (.v (.int Za ad))]=>hM hl_ fun a0 a1 a2 a3 a4 a5 a6 a7 a8 a9 aA aB aC aD aE aF aG aH aI aJ aK aL aM aN=>(fun _=>o6 a0 a1 a2 a4 a5 a6 a7 a8 a9 aA aB aD aL/\hpI a0 a1 a2 a3 a4 a5 a6 a7 a8 a9 aA aB aC aD aE aF aG aH aI aJ aK aL aM aN=true/\a3≠100000/\ak a9<=1000000000/\ak aA<=500000000/\K4 ad,[(hpM (F.ifR (F.fbL (F.t0B (F.hpI a0 a1 a2 a3 a4 a5 a6 a7 a8 a9 aA aB aC aD aE aF aG aH aI aJ aK aL aM aN) a3 t a9) a8 ad) (F.lgC a0 a1 a2 a7 ad) (F.ifR (F.fbP (F.t0B (F.hpI a0 a1 a2 a3 a4 a5 a6 a7 a8 a9 aA aB aC aD aE aF aG aH aI aJ aK aL aM aN) a3 t a9) a2 a8 aA aB t ad) (F.fcC a0 a2 a8 ad) (F.ifR (F.fbQ (F.t0B (F.hpI a0 a1 a2 a3 a4 a5 a6 a7 a8 a9 aA aB aC aD aE aF aG aH aI aJ aK aL aM aN) a3 t a9) a2 a8 t ad) (F.raC aI aJ aK (F.fcC a0 a2 a8 ad) a1 a2 a5 a6 a9 t (F.fqR a8 aC aD aF ad)) a0))) (F.ifR (F.fbL (F.t0B (F.hpI a0 a1 a2 a3 a4 a5 a6 a7 a8 a9 aA aB aC aD aE aF aG aH aI aJ aK aL aM aN) a3 t a9) a8 ad) (F.lgU a0 a1 a2 a7 ad) (F.ifR (F.fbQ (F.t0B (F.hpI a0 a1 a2 a3 a4 a5 a6 a7 a8 a9 aA aB aC aD aE aF aG aH aI aJ aK aL aM aN) a3 t a9) a2 a8 t ad) (F.raU aI aJ aK (F.fcC a0 a2 a8 ad) a1 a2 a5 a6 a9 t (F.fqR a8 aC aD aF ad)) a1)) (F.ifR (F.fbL (F.t0B (F.hpI a0 a1 a2 a3 a4 a5 a6 a7 a8 a9 aA aB aC aD aE aF aG aH aI aJ aK aL aM aN) a3 t a9) a8 ad) (F.lgE a0 a1 a2 a7 ad) (F.ifR (F.fbQ (F.t0B (F.hpI a0 a1 a2 a3 a4 a5 a6 a7 a8 a9 aA aB aC aD aE aF aG aH aI aJ aK aL aM aN) a3 t a9) a2 a8 t ad) (F.raE aI aJ aK (F.fcC a0 a2 a8 ad) a1 a2 a5 a6 a9 t (F.fqR a8 aC aD aF ad)) a2)) a3 a4 (F.ifR (F.fbL (F.t0B (F.hpI a0 a1 a2 a3 a4 a5 a6 a7 a8 a9 aA aB aC aD aE aF aG aH aI aJ aK aL aM aN) a3 t a9) a8 ad) (F.lgF a0 a1 a2 a5 a7 ad) (F.ifR (F.fbQ (F.t0B (F.hpI a0 a1 a2 a3 a4 a5 a6 a7 a8 a9 aA aB aC aD aE aF aG aH aI aJ aK aL aM aN) a3 t a9) a2 a8 t ad) (F.raF aI aJ aK (F.fcC a0 a2 a8 ad) a1 a2 a5 a6 a9 t (F.fqR a8 aC aD aF ad)) a5)) (F.ifR (F.fbQ (F.t0B (F.hpI a0 a1 a2 a3 a4 a5 a6 a7 a8 a9 aA aB aC aD aE aF aG aH aI aJ aK aL aM aN) a3 t a9) a2 a8 t ad) (F.raS aI aJ aK (F.fcC a0 a2 a8 ad) a1 a2 a5 a6 a9 t (F.fqR a8 aC aD aF ad)) a6) (F.ifR (F.fbL (F.t0B (F.hpI a0 a1 a2 a3 a4 a5 a6 a7 a8 a9 aA aB aC aD aE aF aG aH aI aJ aK aL aM aN) a3 t a9) a8 ad) (F.lgL a7 ad) a7) (F.ifR (F.fbL (F.t0B (F.hpI a0 a1 a2 a3 a4 a5 a6 a7 a8 a9 aA aB aC aD aE aF aG aH aI aJ aK aL aM aN) a3 t a9) a8 ad) (F.foO a8 ad) (F.ifR (F.fbP (F.t0B (F.hpI a0 a1 a2 a3 a4 a5 a6 a7 a8 a9 aA aB aC aD aE aF aG aH aI aJ aK aL aM aN) a3 t a9) a2 a8 aA aB t ad) (F.foO a8 ad) (F.ifR (F.fbQ (F.t0B (F.hpI a0 a1 a2 a3 a4 a5 a6 a7 a8 a9 aA aB aC aD aE aF aG aH aI aJ aK aL aM aN) a3 t a9) a2 a8 t ad) (F.foO a8 ad) a8))) (F.ifR (F.fbQ (F.t0B (F.hpI a0 a1 a2 a3 a4 a5 a6 a7 a8 a9 aA aB aC aD aE aF aG aH aI aJ aK aL aM aN) a3 t a9) a2 a8 t ad) (F.raD aI aJ aK (F.fcC a0 a2 a8 ad) a1 a2 a5 a6 a9 t (F.fqR a8 aC aD aF ad)) a9) (F.ifR (F.fbP (F.t0B (F.hpI a0 a1 a2 a3 a4 a5 a6 a7 a8 a9 aA aB aC aD aE aF aG aH aI aJ aK aL aM aN) a3 t a9) a2 a8 aA aB t ad) (F.sdU aA t (F.foT a8 ad) ad) aA) aB aC (F.ifR (F.fbQ (F.t0B (F.hpI a0 a1 a2 a3 a4 a5 a6 a7 a8 a9 aA aB aC aD aE aF aG aH aI aJ aK aL aM aN) a3 t a9) a2 a8 t ad) (F.fqL a8 aC aD aF ad) aD) aE aF aG aH aI aJ aK aL aM aN)],[.j (F.hfK (F.hpI a0 a1 a2 a3 a4 a5 a6 a7 a8 a9 aA aB aC aD aE aF aG aH aI aJ aK aL aM aN) a3 a2 a6 a7 a8 a9 aA aB t ad)])
 |_=>none
theorem D2:ep 73 pq:=by
 intro _ _ _ _ h hp;dsimp only[pq,F0,hM]at h;split at h;rotate_left;cases h;split at h<;>cases h
 rename_i t ad _ a0 a1 a2 a3 a4 a5 a6 a7 a8 a9 aA aB aC aD aE aF aG aH aI aJ aK aL aM aN;obtain⟨hp,hk,hn,h9,h10,ha⟩:=hp;have l9:=au (es:=a9);have l7:=au (es:=a7);have c7:=hp.c7;have l8:=au (es:=a8);have c8:=hp.c8;have l6:=au (es:=a6);have c6:=hp.c6;have l13:=au (es:=aD);have c13:=hp.c13;have e0:bO .sub Za (a9.length:Int) 1=a9.length-1:=dG (by omega);refine pb Zv0 Tryz.func73 ?_
 intro O r os F hO hr hos hF;cbv
 repeat' first|apply Zb|(apply bF<;>intro hb<;>cbv)|(refine⟨[0,1,2,7,8,9,10,13],[0,8,10],Int×aa,fun s_=>match s_ with|(i,d)=>[.reg 13 (.j i),.leaf 0 0 ⟨0,0,none,.own (.s 1 d)⟩],fun s_=>match s_ with|(i,d)=>0<=i/\i<=clsSz (jS a8 ad)/\OZ a0 a1 a2 (peF a2 (ad/16)) (ad%16) i d,fun s_=>match s_ with|(i,d)=>(clsSz (jS a8 ad)-i).toNat,⟨(0,a0),?_,?_⟩,?_⟩;rotate_left;(focus (cbv;done));intro s_ hi;obtain⟨i,d⟩:=s_;replace hi:0<=i/\i<=clsSz (jS a8 ad)/\OZ a0 a1 a2 (peF a2 (ad/16)) (ad%16) i d:=hi;obtain⟨i0,i1,i2⟩:=hi;cbv)|(refine⟨[0,1,15,16],[0,127],Int×aa×aa×aa×aa×aa×aa,fun s_=>match s_ with|(j,c,u,e,f,s,x)=>[.reg 16 (.j j),.leaf 0 0 ⟨0,0,none,.own (.s 1 c)⟩,.leaf 0 1 ⟨0,0,none,.own (.s 1 u)⟩,.leaf 0 2 ⟨0,0,none,.own (.s 2 e)⟩,.leaf 0 5 ⟨0,0,none,.own (.s 2 f)⟩,.leaf 0 6 ⟨0,0,none,.own (.s 3 s)⟩,.leaf 0 9 ⟨0,0,none,.own (.s 1 x)⟩],fun s_=>match s_ with|(j,c,u,e,f,s,x)=>0<=j/\j<=((fqR a8 aC aD aF ad).length:Int)/\OA aI aJ aK t (fqR a8 aC aD aF ad) ⟨⟨fcC a0 a2 a8 ad,a1,a2,a5,a6⟩,a9⟩ j c u e f s x,fun s_=>match s_ with|(j,c,u,e,f,s,x)=>((fqR a8 aC aD aF ad).length-j).toNat,⟨(0,d,a1,a2,a5,a6,a9),?_,?_⟩,?_⟩;rotate_left;(focus (cbv;done));intro s_ hj;obtain⟨j,c,u,e,f,s,x⟩:=s_;replace hj:0<=j/\j<=((fqR a8 aC aD aF ad).length:Int)/\OA aI aJ aK t (fqR a8 aC aD aF ad) ⟨⟨fcC a0 a2 a8 ad,a1,a2,a5,a6⟩,a9⟩ j c u e f s x:=hj;obtain⟨j0,j1,j2⟩:=hj;cbv)|(refine ag (O.ar .add Za i 1,O.up (.s 1 d) [(O.ad 0 (F.peF (O.sub a2 0 (O.ln a2)) (O.ar .quo Za ad 16)),0),(O.ad 0 (O.ar .add Za (O.ar .rem Za ad 16) i),0)] [.i 0]) ?_ ?_ ?_;focus (cbv;done))|(refine ag (O.ar .add Za j 1,F.rcC aI aJ aK c u e f s x t (O.pi (.s 3 (F.qaR aC (O.sub aD 0 (O.ln aD)) ad (F.clsOf (O.pi (.s 4 a8) [(O.ad 0 (F.obI (O.sub a8 0 (O.ln a8)) ad),2)])) aF)) [(O.ad 0 j,0)]),F.rcU aI aJ aK c u e f s x t (O.pi (.s 3 (F.qaR aC (O.sub aD 0 (O.ln aD)) ad (F.clsOf (O.pi (.s 4 a8) [(O.ad 0 (F.obI (O.sub a8 0 (O.ln a8)) ad),2)])) aF)) [(O.ad 0 j,0)]),F.rcE aI aJ aK c u e f s x t (O.pi (.s 3 (F.qaR aC (O.sub aD 0 (O.ln aD)) ad (F.clsOf (O.pi (.s 4 a8) [(O.ad 0 (F.obI (O.sub a8 0 (O.ln a8)) ad),2)])) aF)) [(O.ad 0 j,0)]),F.rcF aI aJ aK c u e f s x t (O.pi (.s 3 (F.qaR aC (O.sub aD 0 (O.ln aD)) ad (F.clsOf (O.pi (.s 4 a8) [(O.ad 0 (F.obI (O.sub a8 0 (O.ln a8)) ad),2)])) aF)) [(O.ad 0 j,0)]),F.rcS aI aJ aK c u e f s x t (O.pi (.s 3 (F.qaR aC (O.sub aD 0 (O.ln aD)) ad (F.clsOf (O.pi (.s 4 a8) [(O.ad 0 (F.obI (O.sub a8 0 (O.ln a8)) ad),2)])) aF)) [(O.ad 0 j,0)]),F.rcD s x t (O.pi (.s 3 (F.qaR aC (O.sub aD 0 (O.ln aD)) ad (F.clsOf (O.pi (.s 4 a8) [(O.ad 0 (F.obI (O.sub a8 0 (O.ln a8)) ad),2)])) aF)) [(O.ad 0 j,0)])) ?_ ?_ ?_;focus (cbv;done))
 all_goals((try subst hos);subst hO hr hF;(try simp only[nc]at*);(try simp only[ah,SS,sa,az]at*);(try simp only[jm,e0]at*);(try simp only[lD (l:=a8) (sz:=4) (j:=2) (i:=obI a8 ad) (by omega),lD (l:=a8) (sz:=4) (j:=3) (i:=obI a8 ad) (by omega)]at*);(try have hi:inR t 0 (a9.length-1)=true:=(by assumption));(try have hG:t0B (hpI a0 a1 a2 a3 a4 a5 a6 a7 a8 a9 aA aB aC aD aE aF aG aH aI aJ aK aL aM aN) a3 t a9=true:=(TA hi hn).trans hk);(try simp only[show∀ j:Int,clsOf (ab a8 (obI a8 ad) 2)=jS a8 ad from fun _=>rfl]at*);(try simp only[show clsOf (ab a8 (obI a8 ad) 2)=jS a8 ad from rfl]at*);(try simp only[show ab a8 (obI a8 ad) 3=foT a8 ad from rfl]at*);(try have k0:0<=obI a8 ad:=(by omega));(try have k1:=SF k0);(try have FT:=HH hk k0);(try have ge:gi1 a8 (obI a8 ad)=ad:=FT.e);(try simp only[ge]at*);(try have h8:=hp.r8);(try have h7:=hp.r7);(try have rg:=L2 hp.r8 k0 k1);(try have km:=(oR (jg hk).k).1);(try have q5:=abS (jg hk).q);(try have ck:=bH.1 (jg hk).t);(try have T:=HZ hk FT (by assumption));(try have T1:=T.p0);(try have T2:=T.n1);(try have T3:=T.m);(try have T4:=T.k0);(try have T5:=T.k1);(try have T6:=T.f);(try have S:=HJ hp hk FT (by omega));(try have S0:=S.d0);(try have S1:=S.d1);(try have S2:=S.n0);(try have S3:=S.n1);(try have fr:=JE km S.mp);(try have e1:bO .quo Za ad 16=ad/16:=sv (by omega) (by omega) (by omega));(try have e2:bO .rem Za ad 16=ad%16:=De (by omega));(try simp only[e1]at*);(try simp only[e2]at*);(try have e8:bO .add Za (obI a8 ad) 1=obI a8 ad+1:=bz (by omega));(try simp only[e8]at*);(try have e9:bO .add Za (lhI a7 ad) 1=lhI a7 ad+1:=bz (by omega));(try simp only[e9]at*);(try simp only[show ab a7 (lhI a7 ad) 0=uO a7 ad from rfl,show ab a7 (lhI a7 ad) 1=yh a7 ad from rfl]at*);(try have QT:=HI hp h9 hk S hi);(try simp only[show qaR aC aD ad (jS a8 ad) aF=fqR a8 aC aD aF ad from rfl,show qaL aC aD ad (jS a8 ad) aF=fqL a8 aC aD aF ad from rfl]at*);(try simp only[show delL a8 (obI a8 ad) (obI a8 ad+1)=foO a8 ad from rfl,show dsS a8 (obI a8 ad)=foO a8 ad from rfl,show delL a7 (lhI a7 ad) (lhI a7 ad+1)=lgL a7 ad from rfl,show tcC a0 a2 ad (clsSz (jS a8 ad))=fcC a0 a2 a8 ad from rfl]at*);(try have e3:bO .add Za (ad%16) i=ad%16+i:=bz (by omega));(try simp only[e3]at*);(try have dl:=i2.m.u.symm.trans km.u);(try have lf:=i2.m.l (peF a2 (ad/16)) fr.1 (by omega));(try have tu:=Ix i2 i0 S.mp rfl (by omega) (by omega));(try have z:d=fcC a0 a2 a8 ad:=Ki i2 (n:=clsSz (jS a8 ad)) (by omega) (by omega));(try subst z);(try rw[db (by omega) (by omega)]);(try simp only[lD (l:=fqR a8 aC aD aF ad) (sz:=3) (j:=0) (i:=j) j0]at*);(try have ht:=Ef hp hk hn S QT j2 j0 (by omega));(try have E:=J0 j2 (by omega));(try have ql:=QT.l);(try have f1:bO .add Za j 1=j+1:=bz (by omega));(try simp only[f1]at*);(try have qw:=QT.r))
 all_goals first
  | (show(_:List DV)=_
     first
      |exact absurd (show t=foT a8 ad by assumption) (show t≠foT a8 ad by assumption)
      |exact cq (RY (es:=a2) (sp:=a6) (lg:=a7) (os:=a8) (b:=aA) (x:=aB) (ad:=ad) hk hn (show inR t 0 (a9.length-1)=false by assumption)).symm
      |exact cq (Ga (es:=a2) (sp:=a6) (lg:=a7) (os:=a8) (b:=aA) (x:=aB) (ad:=ad) hk hn hi (by assumption)).symm
      |exact cq (RZ (es:=a2) (sp:=a6) (lg:=a7) (os:=a8) (b:=aA) (x:=aB) (ad:=ad) hk hn hi k0 (by assumption)).symm
      |exact cq (R3 (es:=a2) (sp:=a6) (lg:=a7) (os:=a8) (b:=aA) (x:=aB) (ad:=ad) hk hn hi k0 (by omega) (by assumption)).symm
      |exact cq (R0 (es:=a2) (sp:=a6) (lg:=a7) (os:=a8) (b:=aA) (x:=aB) (ad:=ad) hk hn hi k0 (by omega) (by assumption) (by assumption) (by assumption)).symm
      |exact cq (R1 (es:=a2) (sp:=a6) (lg:=a7) (os:=a8) (b:=aA) (x:=aB) (ad:=ad) hk hn hi k0 (by omega) (by assumption) (by assumption) (by assumption)).symm
      |exact cq (R2 (es:=a2) (sp:=a6) (lg:=a7) (os:=a8) (b:=aA) (x:=aB) (ad:=ad) hk hn hi k0 (by omega) (by assumption) (by assumption)).symm
      |done)
  | (show(_:List H)=_
     first
      |exact absurd (show t=foT a8 ad by assumption) (show t≠foT a8 ad by assumption)
      |(have q:=HG (g:=t0B (hpI a0 a1 a2 a3 a4 a5 a6 a7 a8 a9 aA aB aC aD aE aF aG aH aI aJ aK aL aM aN) a3 t a9) (es:=a2) (os:=a8) (b:=aA) (x:=aB) (t:=t) (ad:=ad) (Tx (by assumption));rw[q.1,q.2.1,q.2.2];exact rfl)
      |(have q:=Kv (g:=t0B (hpI a0 a1 a2 a3 a4 a5 a6 a7 a8 a9 aA aB aC aD aE aF aG aH aI aJ aK aL aM aN) a3 t a9) (es:=a2) (os:=a8) (b:=aA) (x:=aB) (t:=t) (ad:=ad) (by assumption);rw[q.1,q.2.1,q.2.2];exact rfl)
      |(have q:=aaD (es:=a2) (os:=a8) (b:=aA) (x:=aB) (t:=t) (ad:=ad) hG k0 (by assumption);rw[q.1,q.2.1,q.2.2];exact rfl)
      |(have q:=aaJ (g:=t0B (hpI a0 a1 a2 a3 a4 a5 a6 a7 a8 a9 aA aB aC aD aE aF aG aH aI aJ aK aL aM aN) a3 t a9) (es:=a2) (os:=a8) (b:=aA) (x:=aB) (t:=t) (ad:=ad) (by omega) (by assumption);rw[q.1,q.2.1,q.2.2];exact rfl)
      |(have q:=aaF (g:=t0B (hpI a0 a1 a2 a3 a4 a5 a6 a7 a8 a9 aA aB aC aD aE aF aG aH aI aJ aK aL aM aN) a3 t a9) (es:=a2) (os:=a8) (b:=aA) (x:=aB) (t:=t) (ad:=ad) (by omega) (by assumption) (by assumption);rw[q.1,q.2.1,q.2.2];exact rfl)
      |(have q:=aaG (es:=a2) (os:=a8) (b:=aA) (x:=aB) (t:=t) (ad:=ad) hG k0 (by omega) (by assumption) (by assumption) (by assumption);rw[q.1,q.2.1,q.2.2,(N0 (by assumption:sdB aA aB t (foT a8 ad) ad=true))];exact rfl)
      |(have q:=aaH (es:=a2) (os:=a8) (b:=aA) (x:=aB) (t:=t) (ad:=ad) hG k0 (by omega) (by assumption) (by assumption);rw[q.1,q.2.1,q.2.2,E.1,E.2.1,E.2.2.1,E.2.2.2.1,E.2.2.2.2.1,E.2.2.2.2.2];exact rfl)
      |done)
  |omega
  |exact gj
  |exact absurd (show t=foT a8 ad by assumption) (show t≠foT a8 ad by assumption)
  |exact hp
  |exact hp.hp
  |exact hp.r2
  |exact⟨hp.r8,by omega⟩
  |exact⟨hp,ha⟩
  |exact⟨hp.r7,by omega⟩
  |exact⟨hp.r6,hp.r7,by omega,by omega,ha⟩
  |exact⟨hp.r10,hp.r11,by omega,hp.c11,rg.1,ha⟩
  |exact⟨hp.r13,by omega,ha,rg.2,by omega⟩
  |exact Si hp.r8 k0 k1
  |exact MJ hp.r8 k0 k1 (by decide)
  |exact uh qw j0 (by omega)
  |exact sr qw j0 (by omega) (by decide)
  |exact Ef hp hk hn S QT j2 j0 (by omega)
  |exact Td
  |exact NJ j2 j0
  |exact⟨by omega,by omega,by omega⟩
  |exact Oh km hp.r0
  |(rw[afX i2.w fr.1 (by omega) (by omega) (by omega)];exact tu)
  |exact RP i2.w fr.1 (by omega) (by omega) (by omega)
  |exact Eg i2.w fr.1 (by omega)
  |exact⟨by omega,by omega,AC i2.w fr.1 (by omega)⟩
  |exact⟨hp.r8,by omega,k0,k1⟩
  |exact⟨hp,(jg hk).k,hn,T,k0,k1⟩
  |(show aP _ _=true;kernel_rfl)
  |exact⟨Zh,Zh⟩
  |exact Zh
  |done
abbrev Zv1:da:={
 Φ:=rz
 F0:=F0
 ct:=fun F f=>match f with|39=>eS F|40=>fX F|41=>aj F|74=>gQ F|75=>eL F|77=>cL F|78=>aW F|82=>bU F|84=>bA F|85=>iy F|86=>fq F|_=>fun _=>none
 hc:=(by
  intro f;dsimp only;split;exact xf;exact BM;exact bB;exact DN;exact wS;exact lV;exact ce;exact fm;exact cT;exact FC;exact za;exact de)
 pt:=fun F f=>match f with|81=>some (gR F)|83=>some (iQ F)|87=>some (fw F)|_=>none
 hp:=(by
  intro f mk h;dsimp only at h;split at h<;>cases h
  exact oL;exact tn;exact zk)
 ot:=fun F f=>match f with|76=>some (bu F)|80=>some (ap F)|_=>none
 ho:=(by
  intro f mk h;dsimp only at h;split at h<;>cases h
  exact cJ;exact cv)}
def eM:EC:=fun F=>fun
 |[.agg hl_,.one (.v (.int Za t)),.one (.v (.int Za ad))]=>hL hl_ fun a0 a1 a2 a3 a4 a5 a6 a7 a8 a9 aA aB aC aD aE aF aG aH aI aJ aK aL aM aN=>(fun _=>o6 a0 a1 a2 a4 a5 a6 a7 a8 a9 aA aB aD aL/\ak a9<=1000000000/\ak aA<=500000000/\K4 ad,[.agg (hpL (F.ifR (F.fbL (F.t0B (F.hpI a0 a1 a2 a3 a4 a5 a6 a7 a8 a9 aA aB aC aD aE aF aG aH aI aJ aK aL aM aN) a3 t a9) a8 ad) (F.lgC a0 a1 a2 a7 ad) (F.ifR (F.fbP (F.t0B (F.hpI a0 a1 a2 a3 a4 a5 a6 a7 a8 a9 aA aB aC aD aE aF aG aH aI aJ aK aL aM aN) a3 t a9) a2 a8 aA aB t ad) (F.fcC a0 a2 a8 ad) (F.ifR (F.fbQ (F.t0B (F.hpI a0 a1 a2 a3 a4 a5 a6 a7 a8 a9 aA aB aC aD aE aF aG aH aI aJ aK aL aM aN) a3 t a9) a2 a8 t ad) (F.raC aI aJ aK (F.fcC a0 a2 a8 ad) a1 a2 a5 a6 a9 t (F.fqR a8 aC aD aF ad)) a0))) (F.ifR (F.fbL (F.t0B (F.hpI a0 a1 a2 a3 a4 a5 a6 a7 a8 a9 aA aB aC aD aE aF aG aH aI aJ aK aL aM aN) a3 t a9) a8 ad) (F.lgU a0 a1 a2 a7 ad) (F.ifR (F.fbQ (F.t0B (F.hpI a0 a1 a2 a3 a4 a5 a6 a7 a8 a9 aA aB aC aD aE aF aG aH aI aJ aK aL aM aN) a3 t a9) a2 a8 t ad) (F.raU aI aJ aK (F.fcC a0 a2 a8 ad) a1 a2 a5 a6 a9 t (F.fqR a8 aC aD aF ad)) a1)) (F.ifR (F.fbL (F.t0B (F.hpI a0 a1 a2 a3 a4 a5 a6 a7 a8 a9 aA aB aC aD aE aF aG aH aI aJ aK aL aM aN) a3 t a9) a8 ad) (F.lgE a0 a1 a2 a7 ad) (F.ifR (F.fbQ (F.t0B (F.hpI a0 a1 a2 a3 a4 a5 a6 a7 a8 a9 aA aB aC aD aE aF aG aH aI aJ aK aL aM aN) a3 t a9) a2 a8 t ad) (F.raE aI aJ aK (F.fcC a0 a2 a8 ad) a1 a2 a5 a6 a9 t (F.fqR a8 aC aD aF ad)) a2)) a3 a4 (F.ifR (F.fbL (F.t0B (F.hpI a0 a1 a2 a3 a4 a5 a6 a7 a8 a9 aA aB aC aD aE aF aG aH aI aJ aK aL aM aN) a3 t a9) a8 ad) (F.lgF a0 a1 a2 a5 a7 ad) (F.ifR (F.fbQ (F.t0B (F.hpI a0 a1 a2 a3 a4 a5 a6 a7 a8 a9 aA aB aC aD aE aF aG aH aI aJ aK aL aM aN) a3 t a9) a2 a8 t ad) (F.raF aI aJ aK (F.fcC a0 a2 a8 ad) a1 a2 a5 a6 a9 t (F.fqR a8 aC aD aF ad)) a5)) (F.ifR (F.fbQ (F.t0B (F.hpI a0 a1 a2 a3 a4 a5 a6 a7 a8 a9 aA aB aC aD aE aF aG aH aI aJ aK aL aM aN) a3 t a9) a2 a8 t ad) (F.raS aI aJ aK (F.fcC a0 a2 a8 ad) a1 a2 a5 a6 a9 t (F.fqR a8 aC aD aF ad)) a6) (F.ifR (F.fbL (F.t0B (F.hpI a0 a1 a2 a3 a4 a5 a6 a7 a8 a9 aA aB aC aD aE aF aG aH aI aJ aK aL aM aN) a3 t a9) a8 ad) (F.lgL a7 ad) a7) (F.ifR (F.fbL (F.t0B (F.hpI a0 a1 a2 a3 a4 a5 a6 a7 a8 a9 aA aB aC aD aE aF aG aH aI aJ aK aL aM aN) a3 t a9) a8 ad) (F.foO a8 ad) (F.ifR (F.fbP (F.t0B (F.hpI a0 a1 a2 a3 a4 a5 a6 a7 a8 a9 aA aB aC aD aE aF aG aH aI aJ aK aL aM aN) a3 t a9) a2 a8 aA aB t ad) (F.foO a8 ad) (F.ifR (F.fbQ (F.t0B (F.hpI a0 a1 a2 a3 a4 a5 a6 a7 a8 a9 aA aB aC aD aE aF aG aH aI aJ aK aL aM aN) a3 t a9) a2 a8 t ad) (F.foO a8 ad) a8))) (F.ifR (F.fbQ (F.t0B (F.hpI a0 a1 a2 a3 a4 a5 a6 a7 a8 a9 aA aB aC aD aE aF aG aH aI aJ aK aL aM aN) a3 t a9) a2 a8 t ad) (F.raD aI aJ aK (F.fcC a0 a2 a8 ad) a1 a2 a5 a6 a9 t (F.fqR a8 aC aD aF ad)) a9) (F.ifR (F.fbP (F.t0B (F.hpI a0 a1 a2 a3 a4 a5 a6 a7 a8 a9 aA aB aC aD aE aF aG aH aI aJ aK aL aM aN) a3 t a9) a2 a8 aA aB t ad) (F.sdU aA t (F.foT a8 ad) ad) aA) aB aC (F.ifR (F.fbQ (F.t0B (F.hpI a0 a1 a2 a3 a4 a5 a6 a7 a8 a9 aA aB aC aD aE aF aG aH aI aJ aK aL aM aN) a3 t a9) a2 a8 t ad) (F.fqL a8 aC aD aF ad) aD) aE aF aG aH aI aJ aK aL aM aN),.j (F.hfK (F.hpI a0 a1 a2 a3 a4 a5 a6 a7 a8 a9 aA aB aC aD aE aF aG aH aI aJ aK aL aM aN) a3 a2 a6 a7 a8 a9 aA aB t ad)])
 |_=>none
theorem wT:ec 14 eM:=by
 intro _ _ _ h hp;dsimp only[eM,F0,hL]at h;split at h;rotate_left;cases h;split at h<;>cases h
 rename_i t ad _ a0 a1 a2 a3 a4 a5 a6 a7 a8 a9 aA aB aC aD aE aF aG aH aI aJ aK aL aM aN;obtain⟨hp,h9,h10,ha⟩:=hp;have l9:=au (es:=a9);have l7:=au (es:=a7);have c7:=hp.c7;have l8:=au (es:=a8);have c8:=hp.c8;have l6:=au (es:=a6);have c6:=hp.c6;have l13:=au (es:=aD);have c13:=hp.c13;have e0:bO .sub Za (a9.length:Int) 1=a9.length-1:=dG (by omega);refine cb Zv1 Tryz.func14 ?_
 intro O r F hO hr hF;cbv
 repeat' first|apply Zb|(apply bF<;>intro hb<;>cbv)|(refine⟨[1,6,8,151,152,153],[6,8,146],Int×aa×aa×aa×aa×aa×aa,fun s_=>match s_ with|(j,c,u,e,f,s,x)=>[.reg 153 (.j j),.leaf 8 0 ⟨0,0,none,.own (.s 1 c)⟩,.leaf 8 1 ⟨0,0,none,.own (.s 1 u)⟩,.leaf 8 2 ⟨0,0,none,.own (.s 2 e)⟩,.leaf 8 5 ⟨0,0,none,.own (.s 2 f)⟩,.leaf 8 6 ⟨0,0,none,.own (.s 3 s)⟩,.leaf 8 9 ⟨0,0,none,.own (.s 1 x)⟩],fun s_=>match s_ with|(j,c,u,e,f,s,x)=>0<=j/\j<=((fqR a8 aC aD aF ad).length:Int)/\OA aI aJ aK t (fqR a8 aC aD aF ad) ⟨⟨fcC a0 a2 a8 ad,a1,a2,a5,a6⟩,a9⟩ j c u e f s x,fun s_=>match s_ with|(j,c,u,e,f,s,x)=>((fqR a8 aC aD aF ad).length-j).toNat,⟨(0,F.tcC a0 a2 ad (F.clsSz (F.clsOf (O.gi a8 (F.obI a8 ad) 2))),a1,a2,a5,a6,a9),?_,?_⟩,?_⟩;rotate_left;(focus (cbv;done));intro s_ hj;obtain⟨j,c,u,e,f,s,x⟩:=s_;replace hj:0<=j/\j<=((fqR a8 aC aD aF ad).length:Int)/\OA aI aJ aK t (fqR a8 aC aD aF ad) ⟨⟨fcC a0 a2 a8 ad,a1,a2,a5,a6⟩,a9⟩ j c u e f s x:=hj;obtain⟨j0,j1,j2⟩:=hj;cbv)|(refine ag (O.ar .add Za j 1,F.rcC aI aJ aK c u e f s x t (O.pi (.s 3 (F.qaR aC aD ad (F.clsOf (O.gi a8 (F.obI a8 ad) 2)) aF)) [(O.ad 0 j,0)]),F.rcU aI aJ aK c u e f s x t (O.pi (.s 3 (F.qaR aC aD ad (F.clsOf (O.gi a8 (F.obI a8 ad) 2)) aF)) [(O.ad 0 j,0)]),F.rcE aI aJ aK c u e f s x t (O.pi (.s 3 (F.qaR aC aD ad (F.clsOf (O.gi a8 (F.obI a8 ad) 2)) aF)) [(O.ad 0 j,0)]),F.rcF aI aJ aK c u e f s x t (O.pi (.s 3 (F.qaR aC aD ad (F.clsOf (O.gi a8 (F.obI a8 ad) 2)) aF)) [(O.ad 0 j,0)]),F.rcS aI aJ aK c u e f s x t (O.pi (.s 3 (F.qaR aC aD ad (F.clsOf (O.gi a8 (F.obI a8 ad) 2)) aF)) [(O.ad 0 j,0)]),F.rcD s x t (O.pi (.s 3 (F.qaR aC aD ad (F.clsOf (O.gi a8 (F.obI a8 ad) 2)) aF)) [(O.ad 0 j,0)])) ?_ ?_ ?_;focus (cbv;done))
 all_goals(subst hO hr hF;(try simp only[nc]at*);(try simp only[ah,SS,sa,az]at*);(try simp only[e0]at*);(try have hk:hpI a0 a1 a2 a3 a4 a5 a6 a7 a8 a9 aA aB aC aD aE aF aG aH aI aJ aK aL aM aN=true:=(by assumption));(try have hn:a3≠100000:=(by assumption));(try have hi:inR t 0 (a9.length-1)=true:=(by assumption));(try have hG:t0B (hpI a0 a1 a2 a3 a4 a5 a6 a7 a8 a9 aA aB aC aD aE aF aG aH aI aJ aK aL aM aN) a3 t a9=true:=(TA hi hn).trans hk);(try simp only[show∀ j:Int,clsOf (ab a8 (obI a8 ad) 2)=jS a8 ad from fun _=>rfl]at*);(try simp only[show clsOf (ab a8 (obI a8 ad) 2)=jS a8 ad from rfl]at*);(try simp only[show ab a8 (obI a8 ad) 3=foT a8 ad from rfl]at*);(try have k0:0<=obI a8 ad:=(by omega));(try have k1:=SF k0);(try have FT:=HH hk k0);(try have ge:gi1 a8 (obI a8 ad)=ad:=FT.e);(try simp only[ge]at*);(try have h8:=hp.r8);(try have h7:=hp.r7);(try have rg:=L2 hp.r8 k0 k1);(try have km:=(oR (jg hk).k).1);(try have q5:=abS (jg hk).q);(try have ck:=bH.1 (jg hk).t);(try have T:=HZ hk FT (by assumption));(try have T1:=T.p0);(try have T2:=T.n1);(try have T3:=T.m);(try have T4:=T.k0);(try have T5:=T.k1);(try have T6:=T.f);(try have S:=HJ hp hk FT (by omega));(try have S0:=S.d0);(try have S1:=S.d1);(try have S2:=S.n0);(try have S3:=S.n1);(try have fr:=JE km S.mp);(try have e1:bO .quo Za ad 16=ad/16:=sv (by omega) (by omega) (by omega));(try have e2:bO .rem Za ad 16=ad%16:=De (by omega));(try simp only[e1]at*);(try simp only[e2]at*);(try have e8:bO .add Za (obI a8 ad) 1=obI a8 ad+1:=bz (by omega));(try simp only[e8]at*);(try have e9:bO .add Za (lhI a7 ad) 1=lhI a7 ad+1:=bz (by omega));(try simp only[e9]at*);(try simp only[show ab a7 (lhI a7 ad) 0=uO a7 ad from rfl,show ab a7 (lhI a7 ad) 1=yh a7 ad from rfl]at*);(try have QT:=HI hp h9 hk S hi);(try simp only[show qaR aC aD ad (jS a8 ad) aF=fqR a8 aC aD aF ad from rfl,show qaL aC aD ad (jS a8 ad) aF=fqL a8 aC aD aF ad from rfl]at*);(try simp only[show delL a8 (obI a8 ad) (obI a8 ad+1)=foO a8 ad from rfl,show dsS a8 (obI a8 ad)=foO a8 ad from rfl,show delL a7 (lhI a7 ad) (lhI a7 ad+1)=lgL a7 ad from rfl,show tcC a0 a2 ad (clsSz (jS a8 ad))=fcC a0 a2 a8 ad from rfl]at*);(try rw[db (by omega) (by omega)]);(try simp only[lD (l:=fqR a8 aC aD aF ad) (sz:=3) (j:=0) (i:=j) j0]at*);(try have ht:=Ef hp hk hn S QT j2 j0 (by omega));(try have E:=J0 j2 (by omega));(try have ql:=QT.l);(try have f1:bO .add Za j 1=j+1:=bz (by omega));(try simp only[f1]at*);(try have qw:=QT.r))
 all_goals first
  | (show(_:List DV)=_
     first
      |(have z:=Ji (k:=hpI a0 a1 a2 a3 a4 a5 a6 a7 a8 a9 aA aB aC aD aE aF aG aH aI aJ aK aL aM aN) (c:=a3) (es:=a2) (sp:=a6) (lg:=a7) (os:=a8) (m:=a9) (b:=aA) (x:=aB) (t:=t) (ad:=ad) (.inl (by assumption));have q:=HG (g:=t0B (hpI a0 a1 a2 a3 a4 a5 a6 a7 a8 a9 aA aB aC aD aE aF aG aH aI aJ aK aL aM aN) a3 t a9) (es:=a2) (os:=a8) (b:=aA) (x:=aB) (t:=t) (ad:=ad) (TC (by assumption));rw[z,q.1,q.2.1,q.2.2];exact rfl)
      |(have z:=Ji (k:=hpI a0 a1 a2 a3 a4 a5 a6 a7 a8 a9 aA aB aC aD aE aF aG aH aI aJ aK aL aM aN) (c:=a3) (es:=a2) (sp:=a6) (lg:=a7) (os:=a8) (m:=a9) (b:=aA) (x:=aB) (t:=t) (ad:=ad) (.inr (by assumption));have q:=HG (g:=t0B (hpI a0 a1 a2 a3 a4 a5 a6 a7 a8 a9 aA aB aC aD aE aF aG aH aI aJ aK aL aM aN) a3 t a9) (es:=a2) (os:=a8) (b:=aA) (x:=aB) (t:=t) (ad:=ad) (Tz (by assumption));rw[z,q.1,q.2.1,q.2.2];exact rfl)
      |(have z:=Ga (es:=a2) (sp:=a6) (lg:=a7) (os:=a8) (b:=aA) (x:=aB) (ad:=ad) hk hn hi (by assumption);have q:=Kv (g:=t0B (hpI a0 a1 a2 a3 a4 a5 a6 a7 a8 a9 aA aB aC aD aE aF aG aH aI aJ aK aL aM aN) a3 t a9) (es:=a2) (os:=a8) (b:=aA) (x:=aB) (t:=t) (ad:=ad) (by assumption);rw[z,q.1,q.2.1,q.2.2,adB (by assumption)];exact rfl)
      |(have z:=Ga (es:=a2) (sp:=a6) (lg:=a7) (os:=a8) (b:=aA) (x:=aB) (ad:=ad) hk hn hi (by assumption);have q:=Kv (g:=t0B (hpI a0 a1 a2 a3 a4 a5 a6 a7 a8 a9 aA aB aC aD aE aF aG aH aI aJ aK aL aM aN) a3 t a9) (es:=a2) (os:=a8) (b:=aA) (x:=aB) (t:=t) (ad:=ad) (by assumption);rw[z,q.1,q.2.1,q.2.2,adA (by assumption)];exact rfl)
      |(have z:=Ga (es:=a2) (sp:=a6) (lg:=a7) (os:=a8) (b:=aA) (x:=aB) (ad:=ad) hk hn hi (by assumption);have q:=Kv (g:=t0B (hpI a0 a1 a2 a3 a4 a5 a6 a7 a8 a9 aA aB aC aD aE aF aG aH aI aJ aK aL aM aN) a3 t a9) (es:=a2) (os:=a8) (b:=aA) (x:=aB) (t:=t) (ad:=ad) (by assumption);rw[z,q.1,q.2.1,q.2.2,adC (by assumption) (by assumption)];exact rfl)
      |exact absurd (show t=foT a8 ad by assumption) (show t≠foT a8 ad by assumption)
      |(have z:=RY (es:=a2) (sp:=a6) (lg:=a7) (os:=a8) (b:=aA) (x:=aB) (ad:=ad) hk hn (show inR t 0 (a9.length-1)=false by assumption);have q:=HG (g:=t0B (hpI a0 a1 a2 a3 a4 a5 a6 a7 a8 a9 aA aB aC aD aE aF aG aH aI aJ aK aL aM aN) a3 t a9) (es:=a2) (os:=a8) (b:=aA) (x:=aB) (t:=t) (ad:=ad) (Tx (by assumption));rw[z,q.1,q.2.1,q.2.2];exact rfl)
      |(have z:=Ga (es:=a2) (sp:=a6) (lg:=a7) (os:=a8) (b:=aA) (x:=aB) (ad:=ad) hk hn hi (by assumption);have q:=Kv (g:=t0B (hpI a0 a1 a2 a3 a4 a5 a6 a7 a8 a9 aA aB aC aD aE aF aG aH aI aJ aK aL aM aN) a3 t a9) (es:=a2) (os:=a8) (b:=aA) (x:=aB) (t:=t) (ad:=ad) (by assumption);rw[z,q.1,q.2.1,q.2.2];exact rfl)
      |(have z:=RZ (es:=a2) (sp:=a6) (lg:=a7) (os:=a8) (b:=aA) (x:=aB) (ad:=ad) hk hn hi k0 (by assumption);have q:=aaD (es:=a2) (os:=a8) (b:=aA) (x:=aB) (t:=t) (ad:=ad) hG k0 (by assumption);rw[z,q.1,q.2.1,q.2.2];exact rfl)
      |(have z:=R3 (es:=a2) (sp:=a6) (lg:=a7) (os:=a8) (b:=aA) (x:=aB) (ad:=ad) hk hn hi k0 (by omega) (by assumption);have q:=aaJ (g:=t0B (hpI a0 a1 a2 a3 a4 a5 a6 a7 a8 a9 aA aB aC aD aE aF aG aH aI aJ aK aL aM aN) a3 t a9) (es:=a2) (os:=a8) (b:=aA) (x:=aB) (t:=t) (ad:=ad) (by omega) (by assumption);rw[z,q.1,q.2.1,q.2.2];exact rfl)
      |(have z:=R0 (es:=a2) (sp:=a6) (lg:=a7) (os:=a8) (b:=aA) (x:=aB) (ad:=ad) hk hn hi k0 (by omega) (by assumption) (by assumption) (by assumption);have q:=aaF (g:=t0B (hpI a0 a1 a2 a3 a4 a5 a6 a7 a8 a9 aA aB aC aD aE aF aG aH aI aJ aK aL aM aN) a3 t a9) (es:=a2) (os:=a8) (b:=aA) (x:=aB) (t:=t) (ad:=ad) (by omega) (by assumption) (by assumption);rw[z,q.1,q.2.1,q.2.2];exact rfl)
      |(have z:=R1 (es:=a2) (sp:=a6) (lg:=a7) (os:=a8) (b:=aA) (x:=aB) (ad:=ad) hk hn hi k0 (by omega) (by assumption) (by assumption) (by assumption);have q:=aaG (es:=a2) (os:=a8) (b:=aA) (x:=aB) (t:=t) (ad:=ad) hG k0 (by omega) (by assumption) (by assumption) (by assumption);rw[z,q.1,q.2.1,q.2.2,(N0 (by assumption:sdB aA aB t (foT a8 ad) ad=true))];exact rfl)
      |(have z:=R2 (es:=a2) (sp:=a6) (lg:=a7) (os:=a8) (b:=aA) (x:=aB) (ad:=ad) hk hn hi k0 (by omega) (by assumption) (by assumption);have q:=aaH (es:=a2) (os:=a8) (b:=aA) (x:=aB) (t:=t) (ad:=ad) hG k0 (by omega) (by assumption) (by assumption);rw[z,q.1,q.2.1,q.2.2,E.1,E.2.1,E.2.2.1,E.2.2.2.1,E.2.2.2.2.1,E.2.2.2.2.2];exact rfl)
      |done)
  | (show(_:List H)=_
     first
      |done)
  |omega
  |exact gj
  |exact absurd (show t=foT a8 ad by assumption) (show t≠foT a8 ad by assumption)
  |exact hp
  |exact hp.hp
  |exact hp.r2
  |exact⟨hp.r8,by omega⟩
  |exact⟨hp,ha⟩
  |exact⟨hp.r7,by omega⟩
  |exact⟨hp.r6,hp.r7,by omega,by omega,ha⟩
  |exact⟨hp.r10,hp.r11,by omega,hp.c11,rg.1,ha⟩
  |exact⟨hp.r13,by omega,ha,rg.2,by omega⟩
  |exact Si hp.r8 k0 k1
  |exact MJ hp.r8 k0 k1 (by decide)
  |exact uh qw j0 (by omega)
  |exact sr qw j0 (by omega) (by decide)
  |exact Ef hp hk hn S QT j2 j0 (by omega)
  |exact Td
  |exact NJ j2 j0
  |exact⟨by omega,by omega,by omega⟩
  |exact MM hp
  |exact⟨MM hp,(jg hk).k,hn,by omega,by omega,by omega,by omega⟩
  |exact⟨hp.r0,hp.r2,km,by omega,by omega,S.mp,by omega,by omega⟩
  |exact⟨by omega,by omega,by omega⟩
  |(show aP _ _=true;kernel_rfl)
  |exact⟨Zh,Zh⟩
  |exact Zh
  |done
abbrev Zv2:da:={
 Φ:=rz
 F0:=F0
 ct:=fun F f=>match f with|71=>fX F|72=>fu F|26=>eS F|_=>fun _=>none
 hc:=(by
  intro f;dsimp only;split;exact Ch;exact Cj;exact Ad;exact de)
 pt:=fun F f=>match f with|73=>some (pq F)|_=>none
 hp:=(by
  intro f mk h;dsimp only at h;split at h<;>cases h
  exact D2)}
theorem xZ:ec 13 eM:=by
 intro _ _ _ h hp;dsimp only[eM,F0,hL]at h;split at h;rotate_left;cases h;split at h<;>cases h
 rename_i t ad _ a0 a1 a2 a3 a4 a5 a6 a7 a8 a9 aA aB aC aD aE aF aG aH aI aJ aK aL aM aN;obtain⟨hp,h9,h10,ha⟩:=hp;refine cb Zv2 Tryz.func13 ?_
 intro O r F hO hr hF;cbv
 repeat' first|apply Zb|(apply bF<;>intro hb<;>cbv)
 all_goals(subst hO hr hF;(try simp only[nc]at*);(try simp only[ah,SS,sa,az]at*);(try have hk:hpI a0 a1 a2 a3 a4 a5 a6 a7 a8 a9 aA aB aC aD aE aF aG aH aI aJ aK aL aM aN=true:=(by assumption));(try have kk:=(jg hk).k);(try have cc:=Rl (cs:=a0) (us:=a1) (es:=a2) (c:=a3) (rs:=a4) (by assumption));(try have c3:=cc.1))
 all_goals first
  | (show(_:List DV)=_
     first
      |(have z:=Ji (k:=hpI a0 a1 a2 a3 a4 a5 a6 a7 a8 a9 aA aB aC aD aE aF aG aH aI aJ aK aL aM aN) (c:=a3) (es:=a2) (sp:=a6) (lg:=a7) (os:=a8) (m:=a9) (b:=aA) (x:=aB) (t:=t) (ad:=ad) (.inl (by assumption));have q:=HG (g:=t0B (hpI a0 a1 a2 a3 a4 a5 a6 a7 a8 a9 aA aB aC aD aE aF aG aH aI aJ aK aL aM aN) a3 t a9) (es:=a2) (os:=a8) (b:=aA) (x:=aB) (t:=t) (ad:=ad) (TC (by assumption));rw[z,q.1,q.2.1,q.2.2];exact rfl)
      |(have z:=Ji (k:=hpI a0 a1 a2 a3 a4 a5 a6 a7 a8 a9 aA aB aC aD aE aF aG aH aI aJ aK aL aM aN) (c:=a3) (es:=a2) (sp:=a6) (lg:=a7) (os:=a8) (m:=a9) (b:=aA) (x:=aB) (t:=t) (ad:=ad) (.inr (LG kk (by assumption)));have q:=HG (g:=t0B (hpI a0 a1 a2 a3 a4 a5 a6 a7 a8 a9 aA aB aC aD aE aF aG aH aI aJ aK aL aM aN) a3 t a9) (es:=a2) (os:=a8) (b:=aA) (x:=aB) (t:=t) (ad:=ad) (Tz (LG kk (by assumption)));rw[z,q.1,q.2.1,q.2.2];exact rfl)
      |exact rfl
      |done)
  | (show(_:List H)=_
     first
      |done)
  |omega
  |exact gj
  |exact hp
  |exact hp.hp
  |exact⟨hp.r0,hp.r1,hp.r2,hp.r4⟩
  |exact⟨hp,hk,c3,h9,h10,ha⟩
  |exact RX hp h9 h10 rfl
  |(show aP _ _=true;kernel_rfl)
  |exact⟨Zh,Zh⟩
  |exact Zh
  |done
end Go.V