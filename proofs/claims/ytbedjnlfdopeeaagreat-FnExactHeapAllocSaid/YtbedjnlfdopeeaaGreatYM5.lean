/- Contracts. -/
import Derived.Test.YtbedjnlfdopeeaaGreatYM4
set_option linter.all false
open Go
open Act renaming eval->Z5,put->ZS
open And renaming intro->Zb
open Departure renaming mixedOrders->YB
open IntKind renaming i64->Zz,i64->Za
open True renaming intro->Zf
open Value renaming int->Zm
namespace Go.V
open Go Go.Proofs
set_option maxRecDepth 1000000
set_option maxHeartbeats 8000000
abbrev Zx0:cZ:=eK (fun F f=>match f with|310=>cM F|313=>dR F|_=>fun _=>none) (by
 intro f;dsimp only;split;exact iM;exact pK;exact db)
def jH:EC:=fun F=>fun
 |[.agg [.s 1 cs,.s 1 us]]=>some (fun _=>Rw [.sl [tI]] cs/\Rw [tB] us/\am cs<=1099511627776/\am us<=1099511627776,[.agg [.s 1 cs,.s 1 (F.ftU cs us)],.j (F.ftI cs us),.k (F.ftB cs us)])
 |_=>none
theorem uU:ec 353 jH:=by
 intro _ _ _ h hp;dsimp only[jH,F0]at h;split at h<;>cases h
 rename_i cs us;obtain⟨hc,hu,hn,hm⟩:=hp;have hul:=aw (es:=us);refine cb Zx0 Tryz.func353 ?_
 intro O r F hO hr hF;cbv
 repeat' first|apply Zb|(apply bG<;>intro hb<;>cbv)|(refine⟨[2,5,13,14,15],[2,5,13],Int,fun i=>[.reg 15 (.j i)],fun i=>0<=i/\i<=((us.length:Nat):Int)/\upto (wR us) i,fun i=>(us.length)-i.toNat,⟨0,?_,?_⟩,?_⟩;rotate_left;(focus (cbv;done));intro i hi;replace hi:0<=i/\i<=((us.length:Nat):Int)/\upto (wR us) i:=hi;obtain⟨i0,i1,i2⟩:=hi;cbv)|(refine ag (O.ar .add Za i 1) ?_ ?_ ?_;focus (cbv;done))
 all_goals(subst hO hr hF;(try simp only[nc]at*);(try simp only[ai,SS,sa,az]at*);(try rw[cQ (by omega) (by omega)]))
 all_goals first|omega|(show aP _ _=true;kernel_rfl)|exact⟨hc,hu,hn,hm⟩|exact⟨hc,hu⟩|exact fU|(first|assumption|exact Rw.sub (by first|assumption|exact Rw.sub (by assumption) (by omega) rfl) (by omega) rfl)|exact bB|exact aV i2 (by assumption)|exact Q0 hu i0 (by omega)|(have q:=QZ (cs:=cs) (us:=us) (.inl (by assumption));exact Lw rfl q.2.2.symm q.2.1.symm q.1.symm)|(have q:=QZ (cs:=cs) (us:=us) (.inr (IH i2 (by omega)));exact Lw rfl q.2.2.symm q.2.1.symm q.1.symm)|(have q:=Lx (by assumption) i0 (free_at i2 i0 (by omega) (by assumption));exact Lw rfl ((aeR hu i0 (by omega)).trans q.2.2.symm) q.2.1.symm q.1.symm)|exact⟨Zf,Zf⟩|exact Zf|done
abbrev Zx1:cZ:=eK (fun F f=>match f with|310=>cM F|_=>fun _=>none) (by
 intro f;dsimp only;split;exact iM;exact db)
def mB:EC:=fun F=>fun
 |[.agg [.s 1 cs,.s 1 us]]=>some (fun _=>Rw [.sl [tI]] cs/\Rw [tB] us/\am us<=1099511627776,[.j (F.freeI us)])
 |_=>none
theorem zI:ec 347 mB:=by
 intro _ _ _ h hp;dsimp only[mB,F0]at h;split at h<;>cases h
 rename_i cs us;obtain⟨hc,hu,hm⟩:=hp;have hul:=aw (es:=us);refine cb Zx1 Tryz.func347 ?_
 intro O r F hO hr hF;cbv
 repeat' first|apply Zb|(apply bG<;>intro hb<;>cbv)|(refine⟨[1,3],[1],Int,fun i=>[.reg 3 (.j i)],fun i=>0<=i/\i<=((us.length:Nat):Int)/\upto (wR us) i,fun i=>(us.length)-i.toNat,⟨0,?_,?_⟩,?_⟩;rotate_left;(focus (cbv;done));intro i hi;replace hi:0<=i/\i<=((us.length:Nat):Int)/\upto (wR us) i:=hi;obtain⟨i0,i1,i2⟩:=hi;cbv)|(refine ag (O.ar .add Za i 1) ?_ ?_ ?_;focus (cbv;done))
 all_goals(subst hO hr hF;(try simp only[nc]at*);(try simp only[ai,SS,sa,az]at*);(try rw[cQ (by omega) (by omega)]))
 all_goals first|omega|(show aP _ _=true;kernel_rfl)|exact fU|(first|assumption|exact Rw.sub (by first|assumption|exact Rw.sub (by assumption) (by omega) rfl) (by omega) rfl)|exact bB|exact aV i2 (by assumption)|exact cv (IH i2 (by omega)).symm|exact cv (free_at i2 i0 (by omega) (by assumption)).symm|exact Zf|done
abbrev Zx2:cZ:={
 Φ:=qp
 F0:=F0
 ct:=fun F f=>match f with|118=>cA F|279=>iS F|352=>lX F|230=>ie F|41=>aj F|353=>jH F|347=>mB F|336=>ji F|28=>aj F|_=>fun _=>none
 hc:=(by
  intro f;dsimp only;split;exact gy;exact qE;exact yU;exact nA;exact bc;exact uU;exact zI;exact qI;exact bi;exact db)
 pt:=fun F f=>match f with|348=>some (mC F)|_=>none
 hp:=(by
  intro f mk h;dsimp only at h;split at h<;>cases h
  exact zM)}
def lV:EC:=fun F=>fun
 |[.agg [.s 1 cs,.s 1 us,.s 2 es,.v (.int Za c),.s 1 rs],.one (.v (.int Za p))]=>some (fun _=>Rw [.sl [tI]] cs/\Rw [tB] us/\Rw [tI,tI] es/\Rw [tI] rs/\am cs<=1099511627776/\am us<=1099511627776/\am es<=1099511627776/\am rs<=1099511627776,[.agg [.s 1 cs,.s 1 (F.kwU (F.ccB cs us es c rs) us es c rs p),.s 2 (F.kwE (F.ccB cs us es c rs) us es c rs p),.i (F.kqN (F.ccB cs us es c rs) c),.s 1 rs],.k (F.kwB (F.ccB cs us es c rs) us es c rs p)])
 |_=>none
theorem yQ:ec 296 lV:=by
 intro _ _ _ h hp;dsimp only[lV,F0]at h;split at h<;>cases h
 rename_i cs us es c rs p;obtain⟨wc,wu,we,wr,k1,k2,k3,k4⟩:=hp;have l3:=aw (es:=es);have l2:=aw (es:=us);have e0:bO .sub Za (es.length:Int) 1=es.length-1:=di (by omega);refine cb Zx2 Tryz.func296 ?_
 intro O r F hO hr hF;cbv
 repeat' first|apply Zb|(apply bG<;>intro hb<;>cbv)
 all_goals(subst hO hr hF;(try simp only[nc]at*);(try simp only[ai,SS,sa,az]at*);(try simp only[e0]at*);(try have cc:=QC (cs:=cs) (us:=us) (es:=es) (c:=c) (rs:=rs) (by assumption));(try have kr:=kf cc.2);(try have km:=kr.1);(try have c0:=kr.2.1);(try have c1:=kr.2.2.1);(try have fo:framesOk cs us=true:=TX cc.2);(try have fb:=acj fo (by assumption:ftB cs us=true));(try have fi:=fb.2.1);(try have f0:=fb.2.2.1);(try simp only[fi]at*);(try have f1:=fb.2.2.2);(try have pr:=bA.1 (by assumption:inR p 0 (es.length-1)=true)))
 all_goals first
  | (show(_:List DV)=_
     first
      |(rw[show ccB cs us es c rs=false from(by assumption)];exact rfl)
      |(have q:=TY (us:=us) (es:=es) (p:=p) (Mu (by assumption));rw[show ccB cs us es c rs=true from(by assumption)];exact FI rfl (vK q).1 (vK q).2.1 rfl rfl (vK q).2.2)
      |(have q:=TZ (es:=es) (c:=c) (rs:=rs) (p:=p) (ack fo (by assumption));rw[show ccB cs us es c rs=true from(by assumption)];exact FI rfl (vK q).1 (vK q).2.1 rfl rfl (vK q).2.2)
      |(have q:=T0 (us:=us) (c:=c) (rs:=rs) (by assumption);rw[show ccB cs us es c rs=true from(by assumption)];exact FI rfl (vK q).1 (vK q).2.1 rfl rfl (vK q).2.2)
      |(have q:=T6 (us:=us) (c:=c) (rs:=rs) (VU (by assumption:mapB es p=true));rw[show ccB cs us es c rs=true from(by assumption)];exact FI rfl (vK q).1 (vK q).2.1 rfl rfl (vK q).2.2)
      |(have q:=T7 (us:=us) (Mv (by assumption)) f0 (by assumption) (agH (by assumption));rw[show ccB cs us es c rs=true from(by assumption)];exact FI rfl (fb.1.trans (T8 q).1) ((aaR we pr.1 (by omega)).trans (T8 q).2.1) rfl rfl (T8 q).2.2)
      |done)
  | (show(_:List H)=_
     first
      |done)
  |omega
  |exact fU
  |exact⟨wc,wu,we,wr,k1,k2,k3,k4,c0,c1⟩
  |exact⟨wc,wu,we,wr,k1,k2,k3,k4⟩
  |exact⟨wc,wu,we,wr⟩
  |exact⟨wc,wu,k1,k2⟩
  |exact we
  |exact Np we pr.1 (by omega)
  |(show aP _ _=true;kernel_rfl)
  |exact⟨Zf,Zf⟩
  |exact Zf
  |done
def j5:EP:=fun F=>fun
 |[.mp [.own (.s 1 cs),.own (.s 1 us),.own (.s 2 es),.own (.v (.int Za c)),.own (.s 1 rs)],.one (.v (.int Za p))]=>some (fun _=>Rw [.sl [tI]] cs/\Rw [tB] us/\Rw [tI,tI] es/\Rw [tI] rs/\oU cs us es/\0<=c/\c<=100000/\am us<=1099511627776,[[.own (.s 1 cs),.own (.s 1 (F.kmU us es c rs p)),.own (.s 2 (F.kmE us es c rs p)),.own (.i (F.c1N c)),.own (.s 1 rs)]],[.k (F.kmB us es c rs p)])
 |_=>none
theorem sD:ep 288 j5:=by
 intro _ _ _ _ h hp;dsimp only[j5,F0]at h;split at h<;>cases h
 rename_i cs us es c rs p;obtain⟨wc,wu,we,wr,km,c0,c1,k2⟩:=hp;have l3:=km.e1;have l2:=aw (es:=us);have e0:bO .sub Za (es.length:Int) 1=es.length-1:=di (by omega);have fr:=t9 (us:=us);have ul:=km.u;refine pb Zx2 Tryz.func288 ?_
 intro O r os F hO hr hos hF;cbv
 repeat' first|apply Zb|(apply bG<;>intro hb<;>cbv)
 all_goals((try subst hos);subst hO hr hF;(try simp only[nc]at*);(try simp only[ai,SS,sa,az]at*);(try simp only[e0]at*);(try have pr:=bA.1 (by assumption:inR p 0 (es.length-1)=true)))
 all_goals first
  | (show(_:List DV)=_
     first
      |exact ak (TY (Mu (by assumption))).symm
      |exact ak (TZ (by omega)).symm
      |exact ak (T0 (by assumption)).symm
      |exact ak (T6 (by omega)).symm
      |exact ak (T7 (Mv (by assumption)) (by omega) (by assumption) (by omega)).symm
      |done)
  | (show(_:List H)=_
     first
      |(have q:=Hy (TY (us:=us) (es:=es) (c:=c) (rs:=rs) (p:=p) (Mu (by assumption)));rw[q.1,q.2];exact rfl)
      |(have q:=Hy (TZ (us:=us) (es:=es) (c:=c) (rs:=rs) (p:=p) (by omega));rw[q.1,q.2];exact rfl)
      |(have q:=Hy (T0 (us:=us) (es:=es) (c:=c) (rs:=rs) (p:=p) (by assumption));rw[q.1,q.2];exact rfl)
      |(have q:=Hy (T6 (us:=us) (es:=es) (c:=c) (rs:=rs) (p:=p) (by omega));rw[q.1,q.2];exact rfl)
      |(have q:=acY (T7 (us:=us) (es:=es) (p:=p) (Mv (by assumption)) (by omega) (by assumption) (by omega));rw[q.1,q.2,aeR wu (by omega) (by omega),aaR we pr.1 (by omega)];exact rfl)
      |done)
  |omega
  |exact fU
  |exact⟨wr,c0,c1⟩
  |exact⟨wc,wu,by omega⟩
  |exact we
  |exact Q0 wu (by omega) (by omega)
  |exact ahi wu (by omega) (by omega)
  |exact Np we pr.1 (by omega)
  |(show aP _ _=true;kernel_rfl)
  |exact⟨Zf,Zf⟩
  |exact Zf
  |done
open Go.Shelf Go.RowKit Go.Lib in
theorem Dx:abu Tryz.prog 351:=by
 refine⟨fun w=>?_,fun b off sp len cap i hc hm hi w=>?_⟩<;>(go_enter Tryz.func351,Tryz.ntmps351;go_wp2;all_goals(go_ret;exact⟨rfl,rfl⟩))
open Go.Shelf Go.RowKit Go.Lib in
theorem Dy:abv Tryz.prog 351 2:=by
 intro w es b off cap i j S v1 v2 v3 F hlt;obtain⟨A,W1,zs,hA,hsrc,hcap,hm,hij,hj,s1,s2,s3,hcl,hW2,hW,hic,hjc⟩:=F.fx hlt [Zm Zz 0,Zm Zz 0] Tryz.underlying60 Tryz.zeroValue147 rfl (List.all_eq_true.1 rfl) rfl;have mixed:Tryz.prog.follows YB=true:=mixed;clear F
 go_enter Tryz.func351,Tryz.ntmps351
 go_wp2_with fail
 go_region_law_o (refine step_append_room rfl (.tmp 22) (.tmp 25) 60 rfl 147 _ 2 Tryz.underlying60 rfl rfl b off i cap (by simp[Z5,ZS]) A (es.length-j) (cap-j) v3 (by simp[Z5,ZS]) s1.out hsrc.out s2.out (by omega) s3.out ?_;rw[<-hW.out])
 go_wp2
 go_ret
 rw[hW.out];exact⟨rfl,hW2⟩
def be:EO:=fun F=>fun
 |[.one (.s 2 es),.one (.v (.int Za i)),.one (.v (.int Za j))]=>some (fun _=>0<=i/\i<=j/\j<=es.length,[.one (.s 2 (F.delL es i j))])
 |_=>none
theorem cr:eo 351 be:=by
 intro _ _ _ h hp;dsimp only[be,F0]at h;split at h<;>cases h
 rename_i es i j;exact My Dx Dy hp
abbrev Zx3:cZ:={
 Φ:=qp
 F0:=F0
 ct:=fun F f=>match f with|119=>gA F|125=>dq F|165=>dq F|_=>fun _=>none
 hc:=(by
  intro f;dsimp only;split;exact ni;exact pP;exact pX;exact db)
 ot:=fun F f=>match f with|351=>some (be F)|_=>none
 ho:=(by
  intro f mk h;dsimp only at h;split at h<;>cases h
  exact cr)}
def dE:EC:=fun F=>fun
 |[.one (.v (.int Za p)),.one (.s 2 rs),.one (.v (.int Za n))]=>some (fun _=>0<=p/\p<=1099511627776/\Rw [tI,tI] rs/\rs.length<=1099511627776/\NS n,[.one (.s 2 (F.tkL p rs n)),.j (F.tkA p rs n),.k (F.tkB p rs n)])
 |_=>none
theorem uZ:ec 295 dE:=by
 intro _ _ _ h hp;dsimp only[dE,F0]at h;split at h<;>cases h
 rename_i p rs n;obtain⟨p0,p1,hr,hl,n0,n1⟩:=hp;refine cb Zx3 Tryz.func295 ?_
 intro O r F hO hr hF;cbv
 repeat' first|apply Zb|(apply bG<;>intro hb<;>cbv)|(refine⟨[1,2,9,10,25,26,27],[9],Int×Int,fun s_=>match s_ with|(i,b)=>[.reg 27 (.j i),.reg 10 (.j b)],fun s_=>match s_ with|(i,b)=>0<=i/\i<=(rs.length:Int)/\Kt rs n i b,fun s_=>match s_ with|(i,b)=>(rs.length-i).toNat,⟨(0,-1),?_,?_⟩,?_⟩;rotate_left;(focus (cbv;done));intro s_ hi;obtain⟨i,b⟩:=s_;replace hi:0<=i/\i<=(rs.length:Int)/\Kt rs n i b:=hi;obtain⟨i0,i1,i2⟩:=hi;cbv)|(refine ag (O.ar .add Za i 1,i) ?_ ?_ ?_;focus (cbv;done))|(refine ag (O.ar .add Za i 1,b) ?_ ?_ ?_;focus (cbv;done))
 all_goals exact zq7
theorem oK:ec 287 dE:=by
 intro _ _ _ h hp;dsimp only[dE,F0]at h;split at h<;>cases h
 rename_i p rs n;obtain⟨p0,p1,hr,hl,n0,n1⟩:=hp;refine cb Zx3 Tryz.func287 ?_
 intro O r F hO hr hF;cbv
 repeat' first|apply Zb|(apply bG<;>intro hb<;>cbv)|(refine⟨[1,2,9,10,11],[9],Int×Int,fun s_=>match s_ with|(i,b)=>[.reg 11 (.j i),.reg 10 (.j b)],fun s_=>match s_ with|(i,b)=>0<=i/\i<=(rs.length:Int)/\Kt rs n i b,fun s_=>match s_ with|(i,b)=>(rs.length-i).toNat,⟨(0,-1),?_,?_⟩,?_⟩;rotate_left;(focus (cbv;done));intro s_ hi;obtain⟨i,b⟩:=s_;replace hi:0<=i/\i<=(rs.length:Int)/\Kt rs n i b:=hi;obtain⟨i0,i1,i2⟩:=hi;cbv)|(refine ag (O.ar .add Za i 1,i) ?_ ?_ ?_;focus (cbv;done))|(refine ag (O.ar .add Za i 1,b) ?_ ?_ ?_;focus (cbv;done))
 all_goals exact zq7
abbrev Hn0:cZ:=eK (fun F f=>match f with|133=>ig F|41=>aj F|28=>aj F|_=>fun _=>none) (by
 intro f;dsimp only;split;exact nC;exact bc;exact bi;exact db)
def eP:EC:=fun F=>fun
 |[.one (.v (.int Za s))]=>some (fun _=>True,[.j (F.nxS s)])
 |_=>none
theorem wU:ec 350 eP:=by
 intro _ _ _ h hp;dsimp only[eP,F0]at h;split at h<;>cases h
 rename_i s;refine cb Hn0 Tryz.func350 ?_
 exact afA
theorem xX:ec 365 eP:=by
 intro _ _ _ h hp;dsimp only[eP,F0]at h;split at h<;>cases h
 rename_i s;refine cb Hn0 Tryz.func365 ?_
 exact afA
abbrev Hn1:cZ:=eK (fun F f=>match f with|133=>ig F|41=>aj F|350=>eP F|28=>aj F|365=>eP F|_=>fun _=>none) (by
 intro f;dsimp only;split;exact nC;exact bc;exact wU;exact bi;exact xX;exact db)
def dY:EC:=fun F=>fun
 |[.one (.v (.int Za s)),.one (.v (.int Za n))]=>some (fun _=>True,[.j (F.cuI s n),.j (F.cuS s n)])
 |_=>none
theorem sr:ec 292 dY:=by
 intro _ _ _ h hp;dsimp only[dY,F0]at h;split at h<;>cases h
 rename_i s n;refine cb Hn1 Tryz.func292 ?_
 exact afu
theorem sx:ec 344 dY:=by
 intro _ _ _ h hp;dsimp only[dY,F0]at h;split at h<;>cases h
 rename_i s n;refine cb Hn1 Tryz.func344 ?_
 exact afu
open Go.Shelf Go.RowKit Go.Lib in
open Go.Shelf Go.RowKit Go.Lib in
def qN:EC:=fun F=>fun
 |[.agg hl_,.one (.v (.int Za p))]=>hL hl_ fun a0 a1 a2 a3 a4 a5 a6 a7 a8 a9 aA aB aC aD aE aF aG aH aI aJ aK aL aM aN=>(fun _=>True,[.k (F.bsB aI aJ aK p)])
 |_=>none
theorem Fc:ec 139 qN:=by
 intro _ _ _ h hp;dsimp only[qN,F0,hL]at h;split at h;rotate_left;cases h;split at h<;>cases h
 rename_i p _ a0 a1 a2 a3 a4 a5 a6 a7 a8 a9 aA aB aC aD aE aF aG aH aI aJ aK aL aM aN;refine cb nB Tryz.func139 ?_
 intro O r F hO hr hF;cbv
 repeat' first|apply Zb|(apply bG<;>intro hb<;>cbv)
 all_goals(subst hO hr hF;(try simp only[nc]at*);(try simp only[ai,SS,sa,az]at*))
 all_goals first
  | (show(_:List DV)=_
     first
      |exact ak (abI (by assumption)).symm
      |exact ak (abG (by assumption) (by assumption)).symm
      |exact ak (abH (by assumption) (by assumption)).symm
      |done)
  |done
def od:EC:=fun F=>fun
 |[.ptr hl_,.one (.v (.int Za p))]=>hL hl_ fun a0 a1 a2 a3 a4 a5 a6 a7 a8 a9 aA aB aC aD aE aF aG aH aI aJ aK aL aM aN=>(fun _=>True,[.k (F.bsB aI aJ aK p)])
 |_=>none
theorem BW:ec 215 od:=by
 intro _ _ _ h hp;dsimp only[od,F0,hL]at h;split at h;rotate_left;cases h;split at h<;>cases h
 rename_i p _ a0 a1 a2 a3 a4 a5 a6 a7 a8 a9 aA aB aC aD aE aF aG aH aI aJ aK aL aM aN;refine cb nB Tryz.func215 ?_
 intro O r F hO hr hF;cbv
 repeat' first|apply Zb|(apply bG<;>intro hb<;>cbv)
 all_goals(subst hO hr hF;(try simp only[nc]at*);(try simp only[ai,SS,sa,az]at*))
 all_goals first
  | (show(_:List DV)=_
     first
      |exact ak (abI (by assumption)).symm
      |exact ak (abG (by assumption) (Eq.symm (by assumption))).symm
      |(rw[abH (by assumption) (fun e=>absurd e.symm (by assumption))];exact ak (decide_eq_decide.2 ⟨Eq.symm,Eq.symm⟩))
      |done)
  |done
def iq:EC:=fun F=>fun
 |[.ptr hl_]=>hL hl_ fun a0 a1 a2 a3 a4 a5 a6 a7 a8 a9 aA aB aC aD aE aF aG aH aI aJ aK aL aM aN=>(fun _=>a2.length<=1073741824,[.j (F.zlI a2)])
 |_=>none
theorem qb:ec 276 iq:=by
 intro _ _ _ h hp;dsimp only[iq,F0,hL]at h;split at h;rotate_left;cases h;split at h<;>cases h
 rename_i a0 a1 a2 a3 a4 a5 a6 a7 a8 a9 aA aB aC aD aE aF aG aH aI aJ aK aL aM aN;refine cb nB Tryz.func276 ?_
 intro O r F hO hr hF;cbv
 repeat' first|apply Zb|(apply bG<;>intro hb<;>cbv)
 all_goals(subst hO hr hF;(try simp only[nc]at*);(try simp only[ai,SS,sa,az]at*))
 all_goals first|(show(_:List DV)=_;exact rfl)|done
end Go.V