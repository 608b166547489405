/- Contracts. -/
import Derived.Test.YtcbcfelbafccpaaGreatXM4
set_option linter.all false
open Go
open Act renaming eval->Z1,put->ZT
open And renaming intro->Zc
open Departure renaming mixedOrders->Yv
open IntKind renaming i64->ZH,i64->Za
open List renaming length_set->ZD
open True renaming intro->Zd
open Value renaming int->Zq
namespace Go.V
open Go Go.Proofs
set_option maxRecDepth 1000000
set_option maxHeartbeats 8000000
abbrev Zx0:dq:=dP (fun F f=>match f with|118=>eP F|122=>fO F|_=>fun _=>none) (by
 intro f;dsimp only;split;exact kE;exact mI;exact dy)
def ie:EC:=fun F=>fun
 |[.agg [.s 1 cs,.s 1 us]]=>some (fun _=>Rw [.sl [tI]] cs/\Rw [tB] us/\bC cs<=1099511627776/\bC us<=1099511627776,[.agg [.s 1 cs,.s 1 (F.ftU cs us)],.j (F.ftI cs us),.k (F.ftB cs us)])
 |_=>none
def rr:ec 141 ie:=by
 intro _ _ _ h hp;dsimp only[ie,F0]at h;split at h<;>cases h
 rename_i cs us;obtain⟨hc,hu,hn,hm⟩:=hp;have hul:=bj (es:=us);refine cb Zx0 Tryz.func141 ?_
 intro O r F hO hr hF;cbv
 repeat' first|apply Zc|(apply cN<;>intro hb<;>cbv)|(refine⟨[2,5,13,14,15],[2,5,13],Int,fun i=>[.reg 15 (.j i)],fun i=>0<=i/\i<=((us.length:Nat):Int)/\upto (xM us) i,fun i=>(us.length)-i.toNat,⟨0,?_,?_⟩,?_⟩;rotate_left;(focus (cbv;done));intro i hi;replace hi:0<=i/\i<=((us.length:Nat):Int)/\upto (xM us) i:=hi;obtain⟨i0,i1,i2⟩:=hi;cbv)|(refine ai (O.ar .add Za i 1) ?_ ?_ ?_;focus (cbv;done))
 all_goals(subst hO hr hF;(try simp only[nc]at*);(try simp only[am,SS,sa,az]at*);(try rw[di Uc Uc]))
 all_goals first|omega|(show ay _ _=true;kernel_rfl)|exact⟨hc,hu,hn,hm⟩|exact⟨hc,hu⟩|exact ga|(first|assumption|exact Rw.sub (by first|assumption|exact Rw.sub Ud Uc rfl) Uc rfl)|exact bR|exact bL i2 Ud|exact RU hu i0 Uc|(have q:=LD (cs:=cs) (us:=us) (.inl Ud);exact GH rfl q.2.2.symm q.2.1.symm q.1.symm)|(have q:=LD (cs:=cs) (us:=us) (.inr (JK i2 Uc));exact GH rfl q.2.2.symm q.2.1.symm q.1.symm)|(have q:=GI Ud i0 (free_at i2 i0 Uc Ud);exact GH rfl ((adH hu i0 Uc).trans q.2.2.symm) q.2.1.symm q.1.symm)|exact⟨Zd,Zd⟩|exact Zd|done
abbrev Zx2:dq:=dP (fun F f=>match f with|56=>dn F|120=>gI F|140=>j4 F|86=>fG F|19=>ah F|141=>ie F|52=>ah F|_=>fun _=>none) (by
 intro f;dsimp only;split;exact eM;exact ni;exact uN;exact kL;exact aw;exact rr;exact be;exact dy)
def jU:EC:=fun F=>fun
 |[.agg [.s 1 cs,.s 1 us,.s 2 es,.v (.int Za c),.s 1 rs],.one (.v (.int Za p))]=>some (fun _=>Rw [.sl [tI]] cs/\Rw [tB] us/\Rw [tI,tI] es/\Rw [tI] rs/\bC cs<=1099511627776/\bC us<=1099511627776/\bC es<=1099511627776/\bC rs<=1099511627776,[.agg [.s 1 cs,.s 1 (F.kwU (F.ccB cs us es c rs) us es c rs p),.s 2 (F.kwE (F.ccB cs us es c rs) us es c rs p),.i (F.kqN (F.ccB cs us es c rs) c),.s 1 rs],.k (F.kwB (F.ccB cs us es c rs) us es c rs p)])
 |_=>none
def uG:ec 112 jU:=by
 intro _ _ _ h hp;dsimp only[jU,F0]at h;split at h<;>cases h
 rename_i cs us es c rs p;obtain⟨wc,wu,we,wr,k1,k2,k3,k4⟩:=hp;have l3:=bj (es:=es);have l2:=bj (es:=us);have e0:bK .sub Za (es.length:Int) 1=es.length-1:=fC Uc;refine cb Zx2 Tryz.func112 ?_
 intro O r F hO hr hF;cbv
 repeat' first|apply Zc|(apply cN<;>intro hb<;>cbv)
 all_goals(subst hO hr hF;(try simp only[nc]at*);(try simp only[am,SS,sa,az]at*);(try simp only[e0]at*);(try have cc:=Lg (cs:=cs) (us:=us) (es:=es) (c:=c) (rs:=rs) Ud);(try have kr:=lA cc.2);(try have km:=kr.1);(try have c0:=kr.2.1);(try have c1:=kr.2.2.1);(try have fo:framesOk cs us=true:=Od cc.2);(try have fb:=RO fo (by assumption:ftB cs us=true));(try have fi:=fb.2.1);(try have f0:=fb.2.2.1);(try simp only[fi]at*);(try have f1:=fb.2.2.2);(try have pr:=bB.1 (by assumption:inR p 0 (es.length-1)=true)))
 all_goals first
  | (show(_:List DV)=_
     first
      |(rw[show ccB cs us es c rs=false from Ud];exact rfl)
      |(have q:=acz (us:=us) (es:=es) (p:=p) (Tp Ud);rw[show ccB cs us es c rs=true from Ud];exact AG rfl (rV q).1 (rV q).2.1 rfl rfl (rV q).2.2)
      |(have q:=acA (es:=es) (c:=c) (rs:=rs) (p:=p) (RP fo Ud);rw[show ccB cs us es c rs=true from Ud];exact AG rfl (rV q).1 (rV q).2.1 rfl rfl (rV q).2.2)
      |(have q:=acB (us:=us) (c:=c) (rs:=rs) Ud;rw[show ccB cs us es c rs=true from Ud];exact AG rfl (rV q).1 (rV q).2.1 rfl rfl (rV q).2.2)
      |(have q:=acC (us:=us) (c:=c) (rs:=rs) (VL (by assumption:mapB es p=true));rw[show ccB cs us es c rs=true from Ud];exact AG rfl (rV q).1 (rV q).2.1 rfl rfl (rV q).2.2)
      |(have q:=acF (us:=us) (Tq Ud) f0 Ud (acY Ud);rw[show ccB cs us es c rs=true from Ud];exact AG rfl (fb.1.trans (Og q).1) ((aav we pr.1 Uc).trans (Og q).2.1) rfl rfl (Og q).2.2)
      |done)
  | (show(_:List H)=_
     first
      |done)
  |omega
  |exact ga
  |exact⟨wc,wu,we,wr,k1,k2,k3,k4,c0,c1⟩
  |exact⟨wc,wu,we,wr,k1,k2,k3,k4⟩
  |exact⟨wc,wu,we,wr⟩
  |exact⟨wc,wu,k1,k2⟩
  |exact we
  |exact Mo we pr.1 Uc
  |(show ay _ _=true;kernel_rfl)
  |exact⟨Zd,Zd⟩
  |exact Zd
  |done
open Go.Shelf Go.RowKit Go.Lib in
theorem ye:QK Tryz.prog 139:=by
 refine⟨fun w=>?_,fun b off sp len cap i hc hm hi w=>?_⟩<;>(go_enter Tryz.func139,Tryz.ntmps139;go_wp2;all_goals(go_ret;exact⟨rfl,rfl⟩))
open Go.Shelf Go.RowKit Go.Lib in
theorem yf:QL Tryz.prog 139 2:=by
 intro w es b off cap i j S v1 v2 v3 F hlt;obtain⟨A,W1,zs,hA,hsrc,hcap,hm,hij,hj,s1,s2,s3,hcl,hW2,hW,hic,hjc⟩:=F.fx hlt [Zq ZH 0,Zq ZH 0] Tryz.underlying37 Tryz.zeroValue79 rfl (List.all_eq_true.1 rfl) rfl;have mixed:Tryz.prog.follows Yv=true:=mixed;clear F
 go_enter Tryz.func139,Tryz.ntmps139
 go_wp2_with fail
 go_region_law_o (refine step_append_room rfl (.tmp 22) (.tmp 25) 37 rfl 79 _ 2 Tryz.underlying37 rfl rfl b off i cap (by simp[Z1,ZT]) A (es.length-j) (cap-j) v3 (by simp[Z1,ZT]) s1.out hsrc.out s2.out (by omega) s3.out ?_;rw[<-hW.out])
 go_wp2
 go_ret
 rw[hW.out];exact⟨rfl,hW2⟩
def bg:EO:=fun F=>fun
 |[.one (.s 2 es),.one (.v (.int Za i)),.one (.v (.int Za j))]=>some (fun _=>0<=i/\i<=j/\j<=es.length,[.one (.s 2 (F.delL es i j))])
 |_=>none
def cy:eo 139 bg:=by
 intro _ _ _ h hp;dsimp only[bg,F0]at h;split at h<;>cases h
 rename_i es i j;exact Ht ye yf hp
abbrev Zx3:dq:={
 Φ:=wC
 F0:=F0
 ct:=fun F f=>match f with|57=>dK F|41=>eh F|_=>fun _=>none
 hc:=(by
  intro f;dsimp only;split;exact gx;exact jf;exact dy)
 ot:=fun F f=>match f with|139=>some (bg F)|_=>none
 ho:=(by
  intro f mk h;dsimp only at h;split at h<;>cases h
  exact cy)}
def ir:EC:=fun F=>fun
 |[.one (.v (.int Za p)),.one (.s 2 rs),.one (.v (.int Za n))]=>some (fun _=>0<=p/\p<=1099511627776/\Rw [tI,tI] rs/\rs.length<=1099511627776/\Dl n,[.one (.s 2 (F.tkL p rs n)),.j (F.tkA p rs n),.k (F.tkB p rs n)])
 |_=>none
def rG:ec 111 ir:=by
 intro _ _ _ h hp;dsimp only[ir,F0]at h;split at h<;>cases h
 rename_i p rs n;obtain⟨p0,p1,hr,hl,n0,n1⟩:=hp;refine cb Zx3 Tryz.func111 ?_
 intro O r F hO hr hF;cbv
 repeat' first|apply Zc|(apply cN<;>intro hb<;>cbv)|(refine⟨[1,2,9,10,25,26,27],[9],Int×Int,fun s_=>match s_ with|(i,b)=>[.reg 27 (.j i),.reg 10 (.j b)],fun s_=>match s_ with|(i,b)=>0<=i/\i<=(rs.length:Int)/\I0 rs n i b,fun s_=>match s_ with|(i,b)=>(rs.length-i).toNat,⟨(0,-1),?_,?_⟩,?_⟩;rotate_left;(focus (cbv;done));intro s_ hi;obtain⟨i,b⟩:=s_;replace hi:0<=i/\i<=(rs.length:Int)/\I0 rs n i b:=hi;obtain⟨i0,i1,i2⟩:=hi;cbv)|(refine ai (O.ar .add Za i 1,i) ?_ ?_ ?_;focus (cbv;done))|(refine ai (O.ar .add Za i 1,b) ?_ ?_ ?_;focus (cbv;done))
 all_goals(subst hO hr hF;(try simp only[nc]at*);(try simp only[am,SS,sa,az]at*);(try rw[di Uc Uc]);(try have ib:=QZ i2 i0);(try have hk:rgOk p rs=true:=Ud);(try have eb:=I8 i2 i1 Uc);(try have tb:=ady hk Uc (by omega:0<=dQ rs n));(try have T:=za tb);(try have t0:=T.i0);(try have t1:=T.i1);(try have t2:=T.a0);(try have t3:=T.l0);(try have t4:=T.e);(try have t5:=T.p0);(try subst eb);(try have a1:bK .add Za (ag rs (dQ rs n) 0) n=ag rs (dQ rs n) 0+n:=cu Uc);(try have a3:bK .add Za (dQ rs n) 1=dQ rs n+1:=cu Uc);(try have b1:bK .add Za i 1=i+1:=cu Uc);(try have U:=adz hr T);(try simp only[U.g0]at*);(try simp only[a1,a3,b1]at*);(try simp only[U.u1]at*);(try simp only[U.g1]at*);(try have a2:bK .sub Za (ag rs (dQ rs n) 1) n=ag rs (dQ rs n) 1-n:=fC Uc);(try simp only[a2]at*);(try simp only[U.u2]at*);(try simp only[U.g2]at*);(try have w1:=U.w1);(try have w2:=U.w2);(try have l1:=U.l);(try have l2:=U.l2);(try simp only[uq,List.nil_append]at*);(try have sd:=Et (l:=rs) (i:=dQ rs n+1) Uc Uc);(try simp only[sd]at*))
 all_goals first
  | (show(_:List DV)=_
     first
      |(have z:=PV (n:=n) Ud;exact pJ (KW z) z)
      |(have z:=PW (p:=p) (rs:=rs) Uc;exact pJ (KW z) z)
      |(have z:=PX (p:=p) Uc;exact pJ (KW z) z)
      |(rw[PU t0];exact pJ (PR tb Uc) tb)
      |exact pJ (PS tb Uc) tb
      |exact pJ (PR tb Uc) tb
      |(rw[aau hr t0 t1];exact pJ (PS tb Uc) tb)
      |done)
  | (show(_:List H)=_
     first
      |done)
  |omega
  |exact ga
  |exact⟨hr,Uc⟩
  |exact⟨p0,p1,hr,Uc⟩
  |exact Rw.scal (fs:=[tI,tI]) hr rfl
  |(show _/\_;simp only[List.length_nil,List.length_append,List.length_take,List.length_drop];omega)
  |exact QW
  |exact QX i2 i0 Uc Uc
  |exact QY i2 i0 Uc
  |exact PP hr Uc Uc (by decide)
  |exact PP w1 t0 l1 (by decide)
  |exact J9 hr t0 t1 (by decide)
  |exact J9 w1 t0 l1 (by decide)
  |exact J9 w2 t0 l2 (by decide)
  |exact Mo hr Uc Uc
  |exact⟨Uc,Uc,Uc⟩
  |exact⟨Zd,by simp only[ZD]⟩
  |exact⟨Zd,by rw[aau hr t0 t1,ZD]⟩
  |exact absurd (by assumption:true=false) Bool.noConfusion
  |exact Rw.scal (fs:=[tI,tI]) (Rw.take hr _) rfl
  |exact Rw.scal (fs:=[tI,tI]) (Rw.drop hr _) rfl
  |(show ay _ _=true;kernel_rfl)
  |exact⟨Zd,Zd⟩
  |exact Zd
  |done
abbrev Hn0:dq:=dP (fun F f=>match f with|49=>fJ F|19=>ah F|52=>ah F|_=>fun _=>none) (by
 intro f;dsimp only;split;exact kM;exact aw;exact be;exact dy)
def jq:EC:=fun F=>fun
 |[.one (.v (.int Za s))]=>some (fun _=>True,[.j (F.nxS s)])
 |_=>none
def tJ:ec 137 jq:=by
 intro _ _ _ h hp;dsimp only[jq,F0]at h;split at h<;>cases h
 rename_i s;refine cb Hn0 Tryz.func137 ?_
 intro O r F hO hr hF;cbv
 repeat' first|apply Zc|(apply cN<;>intro hb<;>cbv)
 all_goals(subst hO hr hF;(try simp only[nc]at*);(try simp only[am,SS,sa,az]at*))
 all_goals first
  | (show(_:List DV)=_
     first
      |exact cg (ac6 Ud).symm
      |exact cg (ac5 Ud).symm
      |done)
  |(show ay _ _=true;kernel_rfl)
  | (show(_:Int)≠0
     decide)
  |omega
  |exact Zd
  |done
abbrev Hn1:dq:=dP (fun F f=>match f with|49=>fJ F|19=>ah F|137=>jq F|52=>ah F|_=>fun _=>none) (by
 intro f;dsimp only;split;exact kM;exact aw;exact tJ;exact be;exact dy)
def iK:EC:=fun F=>fun
 |[.one (.v (.int Za s)),.one (.v (.int Za n))]=>some (fun _=>True,[.j (F.cuI s n),.j (F.cuS s n)])
 |_=>none
def oX:ec 108 iK:=by
 intro _ _ _ h hp;dsimp only[iK,F0]at h;split at h<;>cases h
 rename_i s n;refine cb Hn1 Tryz.func108 ?_
 intro O r F hO hr hF;cbv
 repeat' first|apply Zc|(apply cN<;>intro hb<;>cbv)
 all_goals(subst hO hr hF;(try simp only[nc]at*);(try simp only[am,SS,sa,az]at*))
 all_goals first
  | (show(_:List DV)=_
     first
      |exact o9 (Jz (Rn Ud)).1.symm (Jz (Rn Ud)).2.symm
      |exact o9 (Jz (Ro Ud)).1.symm (Jz (Ro Ud)).2.symm
      |exact o9 (Rq Ud Ud).1.symm (Rq Ud Ud).2.symm
      |done)
  |(show ay _ _=true;kernel_rfl)
  |exact Zd
  |exact⟨Zd,Zd⟩
  |omega
  |(have q:=bB.1 (by assumption:inR n 1 1000=true);omega)
  |done
def nD:EC:=fun F=>fun
 |[.agg hl_,.one (.v (.int Za p))]=>hL hl_ fun a0 a1 a2 a3 a4 a5 a6 a7 a8 a9 aA aB aC aD aE aF aG aH aI aJ aK aL aM aN=>(fun _=>True,[.k (F.bsB aI aJ aK p)])
 |_=>none
def Ag:ec 64 nD:=by
 intro _ _ _ h hp;dsimp only[nD,F0,hL]at h;split at h;rotate_left;cases h;split at h<;>cases h
 rename_i p _ a0 a1 a2 a3 a4 a5 a6 a7 a8 a9 aA aB aC aD aE aF aG aH aI aJ aK aL aM aN;refine cb nB Tryz.func64 ?_
 intro O r F hO hr hF;cbv
 repeat' first|apply Zc|(apply cN<;>intro hb<;>cbv)
 all_goals(subst hO hr hF;(try simp only[nc]at*);(try simp only[am,SS,sa,az]at*))
 all_goals first
  | (show(_:List DV)=_
     first
      |exact au (abF Ud).symm
      |exact au (abD Ud Ud).symm
      |exact au (abE Ud Ud).symm
      |done)
  |done
abbrev Zd1:dq:=dP (fun F f=>match f with|78=>iL F|80=>gQ F|79=>js F|_=>fun _=>none) (by
 intro f;dsimp only;split;exact oY;exact nm;exact tL;exact dy)
def iw:EP:=fun F=>fun
 |[.mp hl_,.agg [.v (.int Za t),.v (.int Za l)]]=>hM hl_ fun a0 a1 a2 a3 a4 a5 a6 a7 a8 a9 aA aB aC aD aE aF aG aH aI aJ aK aL aM aN=>(fun _=>tz a0 a1 a2 a4 a5 a6 a7 a8 a9 aA aB aD aL/\kerOk a0 a1 a2 a3 a4=true/\a3≠100000/\a5.length<=536870911/\0<=t/\0<=l/\t+l<=1000,[(Qw (F.duC a0 a1 a2 t l) (F.duU a0 a1 a2 t l) (F.duE a0 a1 a2 t l) a3 a4 (F.rpL (F.zlI (F.duE a0 a1 a2 t l)) a5 t l) a6 a7 a8 a9 aA aB aC aD aE aF aG aH aI aJ aK aL aM aN)],[])
 |_=>none
def rI:ep 35 iw:=by
 intro _ _ _ _ h hp;dsimp only[iw,F0,hM]at h;split at h;rotate_left;cases h;split at h<;>cases h
 rename_i t l _ a0 a1 a2 a3 a4 a5 a6 a7 a8 a9 aA aB aC aD aE aF aG aH aI aJ aK aL aM aN;obtain⟨hp,hk,hn,h5,t0,l0,tl⟩:=hp;have km:=(lA hk).1;have e1:bK .add Za t l=t+l:=cu Uc;have c0:=hp.c0;have c1:=hp.c1;have c2:=hp.c2;have c4:=hp.c4;have c5:=hp.c5;have q2:=bj (es:=a2);refine pb Zd1 Tryz.func35 ?_
 intro O r os F hO hr hos hF;cbv
 repeat' first|apply Zc|(apply cN<;>intro hb<;>cbv)|(refine⟨[0,3,4],[0,3],Int×af×af×af×af,fun s_=>match s_ with|(p,c,u,e,r)=>[.reg 4 (.j p),.leaf 0 0 ⟨0,0,none,.own (.s 1 c)⟩,.leaf 0 1 ⟨0,0,none,.own (.s 1 u)⟩,.leaf 0 2 ⟨0,0,none,.own (.s 2 e)⟩,.leaf 0 3 ⟨0,0,none,.own (.i a3)⟩,.leaf 0 4 ⟨0,0,none,.own (.s 1 r)⟩],fun s_=>match s_ with|(p,c,u,e,r)=>t<=p/\p<=t+l/\FA a0 a1 a2 t p c u e/\r=a4,fun s_=>match s_ with|(p,c,u,e,r)=>(t+l-p).toNat,⟨(t,a0,a1,a2,a4),?_,?_⟩,?_⟩;rotate_left;(focus (cbv;done));intro s_ hp;obtain⟨p,c,u,e,r⟩:=s_;replace hp:t<=p/\p<=t+l/\FA a0 a1 a2 t p c u e/\r=a4:=hp;obtain⟨p0,p1,p2,p3⟩:=hp;cbv)|(refine ai (O.ar .add Za p 1,F.ktC (F.ccB (O.sub c 0 (O.ln c)) (O.sub u 0 (O.ln u)) (O.sub e 0 (O.ln e)) a3 (O.sub r 0 (O.ln r))) (O.sub c 0 (O.ln c)) (O.sub e 0 (O.ln e)) p,F.ktU (F.ccB (O.sub c 0 (O.ln c)) (O.sub u 0 (O.ln u)) (O.sub e 0 (O.ln e)) a3 (O.sub r 0 (O.ln r))) (O.sub u 0 (O.ln u)) (O.sub e 0 (O.ln e)) p,F.ktE (F.ccB (O.sub c 0 (O.ln c)) (O.sub u 0 (O.ln u)) (O.sub e 0 (O.ln e)) a3 (O.sub r 0 (O.ln r))) (O.sub e 0 (O.ln e)) p,(O.sub r 0 (O.ln r))) ?_ ?_ ?_;focus (cbv;done))
 all_goals((try subst hos);subst hO hr hF;(try simp only[nc]at*);(try simp only[am,SS,sa,az]at*);(try simp only[e1]at*);(try rw[di Uc Uc]);(try subst p3);(try have dc:=yi p2);(try have el:=p2.l);(try have cc:=M4 p2.m hk hn);(try have kk:=Of (cs:=c) (us:=u) (es:=e) (p:=p) cc);(try have en:=DG (l:=l) p2 Uc Uc))
 all_goals first
  |(show(_:List DV)=_;exact rfl)
  | (show(_:List H)=_
     first
      |(first|(rw[<-en.1, <-en.2.1, <-en.2.2];done)|(rw[<-en.1, <-en.2.1, <-en.2.2];exact rfl))
      |done)
  |omega
  |exact⟨p2.rc,p2.ru,p2.re,hp.r4,Uc,Uc,Uc,Uc⟩
  |exact Gt km hp.r0 hp.r1 hp.r2
  |(show(_:af)=_;exact rfl)
  |(rw[kk.1,kk.2.1,kk.2.2.1];exact B0 p2 p0)
  |exact⟨by unfold zlI;omega,by unfold zlI;omega,hp.r5,Uc⟩
  |(show ay _ _=true;kernel_rfl)
  |exact⟨Zd,Zd⟩
  |exact Zd
  |done
end Go.V