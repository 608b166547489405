/- Contracts. -/
import Derived.Test.YtpldpilhgjpkjaaGreatM4
set_option linter.all false
open Go
open Act renaming eval->Z1,put->ZT
open And renaming intro->Zb
open Departure renaming mixedOrders->Yw
open IntKind renaming i64->ZG,i64->Za
open List renaming length_set->ZS
open True renaming intro->Zd
open Value renaming int->Zq
namespace Go.V
open Go Go.Proofs
set_option maxRecDepth 1000000
set_option maxHeartbeats 8000000
abbrev Zx0:dB:=eg (fun F f=>match f with|267=>cW F|188=>cO F|_=>fun _=>none) (by
 intro f;dsimp only;split;exact kz;exact iZ;exact dI)
def ir:EC:=fun F=>fun
 |[.agg [.s 1 cs,.s 1 us]]=>some (fun _=>Rw [.sl [tI]] cs/\Rw [tB] us/\bj cs<=1099511627776/\bj us<=1099511627776,[.agg [.s 1 cs,.s 1 (F.ftU cs us)],.j (F.ftI cs us),.k (F.ftB cs us)])
 |_=>none
theorem q7:ec 334 ir:=by
 intro _ _ _ h hp;dsimp only[ir,F0]at h;split at h<;>cases h
 rename_i cs us;obtain⟨hc,hu,hn,hm⟩:=hp;have hul:=av (es:=us);refine cb Zx0 Tryz.func334 ?_
 intro O r F hO hr hF;cbv
 repeat' first|apply Zb|(apply b8<;>intro hb<;>cbv)|(refine⟨[2,5,13,14,15],[2,5,13],Int,fun i=>[.reg 15 (.j i)],fun i=>0<=i/\i<=((us.length:Nat):Int)/\upto (yl us) i,fun i=>(us.length)-i.toNat,⟨0,?_,?_⟩,?_⟩;rotate_left;(focus (cbv;done));intro i hi;replace hi:0<=i/\i<=((us.length:Nat):Int)/\upto (yl us) i:=hi;obtain⟨i0,i1,i2⟩:=hi;cbv)|(refine ah (O.ar .add Za i 1) ?_ ?_ ?_;focus (cbv;done))
 all_goals(subst hO hr hF;(try simp only[nc]at*);(try simp only[am,SS,sa,az]at*);(try rw[cJ (by omega) (by omega)]))
 all_goals first|omega|(show aw _ _=true;kernel_rfl)|exact⟨hc,hu,hn,hm⟩|exact⟨hc,hu⟩|exact fg|(first|assumption|exact Rw.sub (by first|assumption|exact Rw.sub (by assumption) (by omega) rfl) (by omega) rfl)|exact bD|exact aU i2 (by assumption)|exact RR hu i0 (by omega)|(have q:=Mk (cs:=cs) (us:=us) (.inl (by assumption));exact Hi rfl q.2.2.symm q.2.1.symm q.1.symm)|(have q:=Mk (cs:=cs) (us:=us) (.inr (Ki i2 (by omega)));exact Hi rfl q.2.2.symm q.2.1.symm q.1.symm)|(have q:=Hj (by assumption) i0 (free_at i2 i0 (by omega) (by assumption));exact Hi rfl ((aeb hu i0 (by omega)).trans q.2.2.symm) q.2.1.symm q.1.symm)|exact⟨Zd,Zd⟩|exact Zd|done
abbrev Zx2:dB:={
 Φ:=wV
 F0:=F0
 ct:=fun F f=>match f with|133=>cB F|269=>gO F|333=>jQ F|170=>gd F|33=>ai F|334=>ir F|398=>jZ F|92=>ai F|_=>fun _=>none
 hc:=(by
  intro f;dsimp only;split;exact ft;exact ng;exact uK;exact kM;exact aP;exact q7;exact vd;exact bc;exact dI)
 pt:=fun F f=>match f with|413=>some (jY F)|_=>none
 hp:=(by
  intro f mk h;dsimp only at h;split at h<;>cases h
  exact uZ)}
def jM:EC:=fun F=>fun
 |[.agg [.s 1 cs,.s 1 us,.s 2 es,.v (.int Za c),.s 1 rs],.one (.v (.int Za p))]=>some (fun _=>Rw [.sl [tI]] cs/\Rw [tB] us/\Rw [tI,tI] es/\Rw [tI] rs/\bj cs<=1099511627776/\bj us<=1099511627776/\bj es<=1099511627776/\bj rs<=1099511627776,[.agg [.s 1 cs,.s 1 (F.kwU (F.ccB cs us es c rs) us es c rs p),.s 2 (F.kwE (F.ccB cs us es c rs) us es c rs p),.i (F.kqN (F.ccB cs us es c rs) c),.s 1 rs],.k (F.kwB (F.ccB cs us es c rs) us es c rs p)])
 |_=>none
theorem uE:ec 261 jM:=by
 intro _ _ _ h hp;dsimp only[jM,F0]at h;split at h<;>cases h
 rename_i cs us es c rs p;obtain⟨wc,wu,we,wr,k1,k2,k3,k4⟩:=hp;have l3:=av (es:=es);have l2:=av (es:=us);have e0:bK .sub Za (es.length:Int) 1=es.length-1:=fG (by omega);refine cb Zx2 Tryz.func261 ?_
 intro O r F hO hr hF;cbv
 repeat' first|apply Zb|(apply b8<;>intro hb<;>cbv)
 all_goals(subst hO hr hF;(try simp only[nc]at*);(try simp only[am,SS,sa,az]at*);(try simp only[e0]at*);(try have cc:=LV (cs:=cs) (us:=us) (es:=es) (c:=c) (rs:=rs) (by assumption));(try have kr:=qq cc.2);(try have km:=kr.1);(try have c0:=kr.2.1);(try have c1:=kr.2.2.1);(try have fo:framesOk cs us=true:=OK cc.2);(try have fb:=RO fo (by assumption:ftB cs us=true));(try have fi:=fb.2.1);(try have f0:=fb.2.2.1);(try simp only[fi]at*);(try have f1:=fb.2.2.2);(try have pr:=bz.1 (by assumption:inR p 0 (es.length-1)=true)))
 all_goals first
  | (show(_:List DV)=_
     first
      |(rw[show ccB cs us es c rs=false from(by assumption)];exact rfl)
      |(have q:=ac0 (us:=us) (es:=es) (p:=p) (TL (by assumption));rw[show ccB cs us es c rs=true from(by assumption)];exact AZ rfl (rL q).1 (rL q).2.1 rfl rfl (rL q).2.2)
      |(have q:=ac1 (es:=es) (c:=c) (rs:=rs) (p:=p) (RP fo (by assumption));rw[show ccB cs us es c rs=true from(by assumption)];exact AZ rfl (rL q).1 (rL q).2.1 rfl rfl (rL q).2.2)
      |(have q:=ac2 (us:=us) (c:=c) (rs:=rs) (by assumption);rw[show ccB cs us es c rs=true from(by assumption)];exact AZ rfl (rL q).1 (rL q).2.1 rfl rfl (rL q).2.2)
      |(have q:=ac3 (us:=us) (c:=c) (rs:=rs) (VP (by assumption:mapB es p=true));rw[show ccB cs us es c rs=true from(by assumption)];exact AZ rfl (rL q).1 (rL q).2.1 rfl rfl (rL q).2.2)
      |(have q:=ac6 (us:=us) (TM (by assumption)) f0 (by assumption) (adl (by assumption));rw[show ccB cs us es c rs=true from(by assumption)];exact AZ rfl (fb.1.trans (OM q).1) ((aaW we pr.1 (by omega)).trans (OM q).2.1) rfl rfl (OM q).2.2)
      |done)
  | (show(_:List H)=_
     first
      |done)
  |omega
  |exact fg
  |exact⟨wc,wu,we,wr,k1,k2,k3,k4,c0,c1⟩
  |exact⟨wc,wu,we,wr,k1,k2,k3,k4⟩
  |exact⟨wc,wu,we,wr⟩
  |exact⟨wc,wu,k1,k2⟩
  |exact we
  |exact M7 we pr.1 (by omega)
  |(show aw _ _=true;kernel_rfl)
  |exact⟨Zd,Zd⟩
  |exact Zd
  |done
open Go.Shelf Go.RowKit Go.Lib in
theorem yG:QR Tryz.prog 332:=by
 refine⟨fun w=>?_,fun b off sp len cap i hc hm hi w=>?_⟩<;>(go_enter Tryz.func332,Tryz.ntmps332;go_wp2;all_goals(go_ret;exact⟨rfl,rfl⟩))
open Go.Shelf Go.RowKit Go.Lib in
theorem yH:QS Tryz.prog 332 2:=by
 intro w es b off cap i j S v1 v2 v3 F hlt;obtain⟨A,W1,zs,hA,hsrc,hcap,hm,hij,hj,s1,s2,s3,hcl,hW2,hW,hic,hjc⟩:=F.fx hlt [Zq ZG 0,Zq ZG 0] Tryz.underlying37 Tryz.zeroValue108 rfl (List.all_eq_true.1 rfl) rfl;have mixed:Tryz.prog.follows Yw=true:=mixed;clear F
 go_enter Tryz.func332,Tryz.ntmps332
 go_wp2_with fail
 go_region_law_o (refine step_append_room rfl (.tmp 22) (.tmp 25) 37 rfl 108 _ 2 Tryz.underlying37 rfl rfl b off i cap (by simp[Z1,ZT]) A (es.length-j) (cap-j) v3 (by simp[Z1,ZT]) s1.out hsrc.out s2.out (by omega) s3.out ?_;rw[<-hW.out])
 go_wp2
 go_ret
 rw[hW.out];exact⟨rfl,hW2⟩
def be:EO:=fun F=>fun
 |[.one (.s 2 es),.one (.v (.int Za i)),.one (.v (.int Za j))]=>some (fun _=>0<=i/\i<=j/\j<=es.length,[.one (.s 2 (F.delL es i j))])
 |_=>none
theorem cu:eo 332 be:=by
 intro _ _ _ h hp;dsimp only[be,F0]at h;split at h<;>cases h
 rename_i es i j;exact Il yG yH hp
abbrev Zx3:dB:={
 Φ:=wV
 F0:=F0
 ct:=fun F f=>match f with|134=>fv F|61=>da F|202=>da F|_=>fun _=>none
 hc:=(by
  intro f;dsimp only;split;exact kB;exact mF;exact mN;exact dI)
 ot:=fun F f=>match f with|332=>some (be F)|_=>none
 ho:=(by
  intro f mk h;dsimp only at h;split at h<;>cases h
  exact cu)}
def iD:EC:=fun F=>fun
 |[.one (.v (.int Za p)),.one (.s 2 rs),.one (.v (.int Za n))]=>some (fun _=>0<=p/\p<=1099511627776/\Rw [tI,tI] rs/\rs.length<=1099511627776/\Gi n,[.one (.s 2 (F.tkL p rs n)),.j (F.tkA p rs n),.k (F.tkB p rs n)])
 |_=>none
theorem rn:ec 260 iD:=by
 intro _ _ _ h hp;dsimp only[iD,F0]at h;split at h<;>cases h
 rename_i p rs n;obtain⟨p0,p1,hr,hl,n0,n1⟩:=hp;refine cb Zx3 Tryz.func260 ?_
 intro O r F hO hr hF;cbv
 repeat' first|apply Zb|(apply b8<;>intro hb<;>cbv)|(refine⟨[1,2,9,10,25,26,27],[9],Int×Int,fun s_=>match s_ with|(i,b)=>[.reg 27 (.j i),.reg 10 (.j b)],fun s_=>match s_ with|(i,b)=>0<=i/\i<=(rs.length:Int)/\JE rs n i b,fun s_=>match s_ with|(i,b)=>(rs.length-i).toNat,⟨(0,-1),?_,?_⟩,?_⟩;rotate_left;(focus (cbv;done));intro s_ hi;obtain⟨i,b⟩:=s_;replace hi:0<=i/\i<=(rs.length:Int)/\JE rs n i b:=hi;obtain⟨i0,i1,i2⟩:=hi;cbv)|(refine ah (O.ar .add Za i 1,i) ?_ ?_ ?_;focus (cbv;done))|(refine ah (O.ar .add Za i 1,b) ?_ ?_ ?_;focus (cbv;done))
 all_goals(subst hO hr hF;(try simp only[nc]at*);(try simp only[am,SS,sa,az]at*);(try rw[cJ (by omega) (by omega)]);(try have ib:=Q5 i2 i0);(try have hk:rgOk p rs=true:=(by assumption));(try have eb:=JS i2 i1 (by omega));(try have tb:=ad6 hk (by omega) (by omega:0<=ew rs n));(try have T:=zF tb);(try have t0:=T.i0);(try have t1:=T.i1);(try have t2:=T.a0);(try have t3:=T.l0);(try have t4:=T.e);(try have t5:=T.p0);(try subst eb);(try have a1:bK .add Za (ag rs (ew rs n) 0) n=ag rs (ew rs n) 0+n:=bT (by omega));(try have a3:bK .add Za (ew rs n) 1=ew rs n+1:=bT (by omega));(try have b1:bK .add Za i 1=i+1:=bT (by omega));(try have U:=ad7 hr T);(try simp only[U.g0]at*);(try simp only[a1,a3,b1]at*);(try simp only[U.u1]at*);(try simp only[U.g1]at*);(try have a2:bK .sub Za (ag rs (ew rs n) 1) n=ag rs (ew rs n) 1-n:=fG (by omega));(try simp only[a2]at*);(try simp only[U.u2]at*);(try simp only[U.g2]at*);(try have w1:=U.w1);(try have w2:=U.w2);(try have l1:=U.l);(try have l2:=U.l2);(try simp only[uq,List.nil_append]at*);(try have sd:=EU (l:=rs) (i:=ew rs n+1) (by omega) (by omega));(try simp only[sd]at*))
 all_goals first
  | (show(_:List DV)=_
     first
      |(have z:=P8 (n:=n) (by assumption);exact pQ (Ln z) z)
      |(have z:=P9 (p:=p) (rs:=rs) (by omega);exact pQ (Ln z) z)
      |(have z:=Qa (p:=p) (by omega);exact pQ (Ln z) z)
      |(rw[P7 t0];exact pQ (P5 tb (by omega)) tb)
      |exact pQ (P6 tb (by omega)) tb
      |exact pQ (P5 tb (by omega)) tb
      |(rw[aaV hr t0 t1];exact pQ (P6 tb (by omega)) tb)
      |done)
  | (show(_:List H)=_
     first
      |done)
  |omega
  |exact fg
  |exact⟨hr,by omega⟩
  |exact⟨p0,p1,hr,by omega⟩
  |exact Rw.scal (fs:=[tI,tI]) hr rfl
  |(show _/\_;simp only[List.length_nil,List.length_append,List.length_take,List.length_drop];omega)
  |exact Q2
  |exact Q3 i2 i0 (by omega) (by omega)
  |exact Q4 i2 i0 (by omega)
  |exact P4 hr (by omega) (by omega) (by decide)
  |exact P4 w1 t0 l1 (by decide)
  |exact KE hr t0 t1 (by decide)
  |exact KE w1 t0 l1 (by decide)
  |exact KE w2 t0 l2 (by decide)
  |exact M7 hr (by omega) (by omega)
  |exact⟨by omega,by omega,by omega⟩
  |exact⟨Zd,by simp only[ZS]⟩
  |exact⟨Zd,by rw[aaV hr t0 t1,ZS]⟩
  |exact absurd (by assumption:true=false) Bool.noConfusion
  |exact Rw.scal (fs:=[tI,tI]) (Rw.take hr _) rfl
  |exact Rw.scal (fs:=[tI,tI]) (Rw.drop hr _) rfl
  |(show aw _ _=true;kernel_rfl)
  |exact⟨Zd,Zd⟩
  |exact Zd
  |done
abbrev Hn0:dB:=eg (fun F f=>match f with|69=>gg F|33=>ai F|92=>ai F|_=>fun _=>none) (by
 intro f;dsimp only;split;exact kN;exact aP;exact bc;exact dI)
def d6:EC:=fun F=>fun
 |[.one (.v (.int Za s))]=>some (fun _=>True,[.j (F.nxS s)])
 |_=>none
theorem tq:ec 330 d6:=by
 intro _ _ _ h hp;dsimp only[d6,F0]at h;split at h<;>cases h
 rename_i s;refine cb Hn0 Tryz.func330 ?_
 exact abW
theorem tH:ec 416 d6:=by
 intro _ _ _ h hp;dsimp only[d6,F0]at h;split at h<;>cases h
 rename_i s;refine cb Hn0 Tryz.func416 ?_
 exact abW
abbrev Hn1:dB:=eg (fun F f=>match f with|69=>gg F|33=>ai F|330=>d6 F|92=>ai F|416=>d6 F|_=>fun _=>none) (by
 intro f;dsimp only;split;exact kN;exact aP;exact tq;exact bc;exact tH;exact dI)
def dJ:EC:=fun F=>fun
 |[.one (.v (.int Za s)),.one (.v (.int Za n))]=>some (fun _=>True,[.j (F.cuI s n),.j (F.cuS s n)])
 |_=>none
theorem o7:ec 257 dJ:=by
 intro _ _ _ h hp;dsimp only[dJ,F0]at h;split at h<;>cases h
 rename_i s n;refine cb Hn1 Tryz.func257 ?_
 exact zq9
theorem pa:ec 403 dJ:=by
 intro _ _ _ h hp;dsimp only[dJ,F0]at h;split at h<;>cases h
 rename_i s n;refine cb Hn1 Tryz.func403 ?_
 exact zq9
open Go.Shelf Go.RowKit Go.Lib in
open Go.Shelf Go.RowKit Go.Lib in
def nz:EC:=fun F=>fun
 |[.agg hl_,.one (.v (.int Za p))]=>hL hl_ fun a0 a1 a2 a3 a4 a5 a6 a7 a8 a9 aA aB aC aD aE aF aG aH aI aJ aK aL aM aN=>(fun _=>True,[.k (F.bsB aI aJ aK p)])
 |_=>none
theorem AC:ec 140 nz:=by
 intro _ _ _ h hp;dsimp only[nz,F0,hL]at h;split at h;rotate_left;cases h;split at h<;>cases h
 rename_i p _ a0 a1 a2 a3 a4 a5 a6 a7 a8 a9 aA aB aC aD aE aF aG aH aI aJ aK aL aM aN;refine cb nB Tryz.func140 ?_
 intro O r F hO hr hF;cbv
 repeat' first|apply Zb|(apply b8<;>intro hb<;>cbv)
 all_goals(subst hO hr hF;(try simp only[nc]at*);(try simp only[am,SS,sa,az]at*))
 all_goals first
  | (show(_:List DV)=_
     first
      |exact aj (acj (by assumption)).symm
      |exact aj (ach (by assumption) (by assumption)).symm
      |exact aj (aci (by assumption) (by assumption)).symm
      |done)
  |done
end Go.V