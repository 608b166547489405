/- Contracts. -/
import Derived.Test.YtpldpilhgjpkjaaGreatZM9
import Derived.Test.YtpldpilhgjpkjaaGreatZM11
set_option linter.all false
open Go
open And renaming intro->Zc
open IntKind renaming i64->Za
open True renaming intro->Zd
noncomputable section
namespace Go.V
open Go Go.Proofs
set_option maxRecDepth 1000000
set_option maxHeartbeats 8000000
abbrev Zh0:di:=dH (fun F f=>match f with|133=>cM F|269=>dR F|170=>dN F|282=>jQ F|54=>cD F|_=>fun _=>none) (by
 intro f;dsimp only;split;exact dj;exact fO;exact fy;exact qQ;exact de;exact dp)
def nU:EC:=fun F=>fun
 |[.agg [.s 1 cs,.s 1 us,.s 2 es,.v (.int Za c),.s 1 rs],.one (.v (.int Za p)),.one (.v (.int Za q)),.one (.s 1 xs)]=>some (fun _=>Rw [.sl [tI]] cs/\Rw [tB] us/\Rw [tI,tI] es/\Rw [tI] rs/\au cs<=1099511627776/\au us<=1099511627776/\au es<=1099511627776/\au rs<=1099511627776/\Rw [tI] xs/\xs.length=1,[.agg [.s 1 (F.kdC (F.ccB cs us es c rs) cs es p q xs),.s 1 us,.s 2 es,.i c,.s 1 rs],.k (F.kdB (F.ccB cs us es c rs) es p q xs)])
 |_=>none
def A0:ec 345 nU:=by
 intro _ _ _ h hp;dsimp only[nU,F0]at h;split at h<;>cases h
 rename_i cs us es c rs p q xs;obtain⟨wc,wu,we,wr,k1,k2,k3,k4,wx,lx⟩:=hp;refine cb Zh0 Tryz.func345 ?_
 intro O r F hO hr hF;cbv
 repeat' first|apply Zc|(apply cN<;>intro hb<;>cbv)|(refine⟨[4,8,10,11,12,45,46,47],[4,8,10],Int×af,fun s_=>match s_ with|(i,d)=>[.reg 47 (.j i),.leaf 10 0 ⟨0,0,none,.own (.s 1 d)⟩],fun s_=>match s_ with|(i,d)=>0<=i/\i<=(xs.length:Int)/\KcP cs es p q xs i d,fun s_=>match s_ with|(i,d)=>xs.length-i.toNat,⟨(0,cs),?_,?_⟩,?_⟩;rotate_left;(focus (cbv;done));intro s_ hi;obtain⟨i,d⟩:=s_;replace hi:0<=i/\i<=(xs.length:Int)/\KcP cs es p q xs i d:=hi;obtain⟨i0,i1,i2⟩:=hi;cbv)|(refine ah (O.ar .add Za i 1,O.up (.s 1 d) [(O.ad 0 (F.peF es q),0),(O.ad 0 (O.gi xs i 0),0)] [.i (O.gi (O.gs cs (F.peF es p) 0) (O.gi xs i 0) 0)]) ?_ ?_ ?_;focus (cbv;done))
 all_goals(subst hO hr hF;(try simp only[nc]at*);(try simp only[aj,SS,sa,az]at*);(try simp only[hH]at*);(try rw[db Uc Uc]);(try have cc:=zY (cs:=cs) (us:=us) (es:=es) (c:=c) (rs:=rs) Ud);(try have km:=(gK cc.2).1);(try have mp:mapB es p=true:=Ud);(try have mq:mapB es q=true:=Ud);(try have fp:=qS km (VQ mp));(try have fq:=qS km (VQ mq));(try have xi:=ay.1 (by assumption:inR (ag xs i 0) 0 15=true));(try have lp:=km.l (peF es p) fp.1 fp.2);(try have lq:=km.l (peF es q) fq.1 fq.2);(try have d0:=i2.z Uc);(try have dw:Rw [.sl [tI]] d:=(by rw[d0];exact wc));(try have gp:=rK wc fp.1 fp.2);(try have dl:d.length=cs.length:=(by rw[d0])))
 all_goals first
  | (show(_:List DV)=_
     first
      |(rw[show ccB cs us es c rs=false from Ud];exact rfl)
      |(have z:=aiz (es:=es) (p:=p) (q:=q) (xs:=xs) Ud;rw[show ccB cs us es c rs=true from Ud];exact jh (TM z).symm rfl rfl rfl rfl z.symm)
      |(have z:=aiA (es:=es) (p:=p) (q:=q) (xs:=xs) Ud;rw[show ccB cs us es c rs=true from Ud];exact jh (TM z).symm rfl rfl rfl rfl z.symm)
      |(have e0:i=0:=Uc;subst e0;have z:=aiB (es:=es) (p:=p) (q:=q) (xs:=xs) Ud;rw[show ccB cs us es c rs=true from Ud];exact jh (TM z).symm rfl rfl rfl rfl z.symm)
      |(have z:=aiD mp mq i2 Uc;rw[show ccB cs us es c rs=true from Ud];exact jh z.2 rfl rfl rfl rfl z.1.symm)
      |done)
  |omega
  |exact j4
  |exact⟨wc,wu,we,wr,k1,k2,k3,k4⟩
  |exact⟨wc,wu,we,wr⟩
  |exact adR
  |(rw[abG dw fq.1 (by rw[d0];exact fq.2) Uc (by rw[d0];omega)];exact adS i2 i0 Uc Ud)
  |exact J5 dw fq.1 (by rw[d0];exact fq.2) Uc (by rw[d0];omega)
  |exact sQ dw fq.1 (by rw[d0];exact fq.2)
  |exact⟨Uc,by rw[d0];omega,pC dw fq.1 (by rw[d0];exact fq.2)⟩
  |(show bz _ _=true;kernel_rfl)
  |exact⟨Zd,Zd⟩
  |done
abbrev Zi1:di:=dH (fun F f=>match f with|133=>cM F|138=>iN F|269=>dR F|70=>kO F|170=>dN F|54=>cD F|344=>ko F|345=>nU F|346=>mI F|46=>nW F|_=>fun _=>none) (by
 intro f;dsimp only;split;exact dj;exact pc;exact fO;exact rZ;exact fy;exact de;exact vR;exact A0;exact zA;exact A2;exact dp)
def lr:EC:=fun F=>fun
 |[.agg [.s 1 cs,.s 1 us,.s 2 es,.v (.int Za c),.s 1 rs],.agg [.v (.int Za kp),.v (.int Za mv),.s 1 xs,.v (.int Za ph),.v (.int Za nx)]]=>some (fun _=>Rw [.sl [tI]] cs/\Rw [tB] us/\Rw [tI,tI] es/\Rw [tI] rs/\au cs<=1099511627776/\au us<=1099511627776/\au es<=1099511627776/\au rs<=1099511627776/\Rw [tI] xs/\xs.length<=1099511627776,[.agg [.s 1 (F.ifR (F.jmB (F.ccB cs us es c rs) es kp mv xs ph nx) (F.jsC cs us es c rs kp mv xs ph nx) cs),.s 1 (F.ifR (F.jmB (F.ccB cs us es c rs) es kp mv xs ph nx) (F.jsU us es c rs kp mv ph) us),.s 2 (F.ifR (F.jmB (F.ccB cs us es c rs) es kp mv xs ph nx) (F.jsE es c rs kp mv ph nx) es),.i (F.ifN (F.jmB (F.ccB cs us es c rs) es kp mv xs ph nx) (F.jsN c ph nx) c),.s 1 rs],.agg [.i kp,.i mv,.s 1 xs,.i (F.ifN (F.jmB (F.ccB cs us es c rs) es kp mv xs ph nx) (F.jsP es c rs kp mv xs ph nx) ph),.i (F.ifN (F.jmB (F.ccB cs us es c rs) es kp mv xs ph nx) (F.jsX xs ph nx) nx)]])
 |_=>none
def xf:ec 285 lr:=by
 intro _ _ _ h hp;dsimp only[lr,F0]at h;split at h<;>cases h
 rename_i cs us es c rs kp mv xs ph nx;obtain⟨wc,wu,we,wr,k1,k2,k3,k4,wx,lx⟩:=hp;refine cb Zi1 Tryz.func285 ?_
 intro O r F hO hr hF;cbv
 repeat' first|apply Zc|(apply cN<;>intro hb<;>cbv)
 all_goals(subst hO hr hF;(try simp only[nc]at*);(try simp only[aj,SS,sa,az]at*);(try have c1:ccB cs us es c rs=true:=Ud);(try have j1:jbOk kp mv xs ph nx=true:=Ud);(try have m1:mapB es kp=true:=Ud);(try have m2:mapB es mv=true:=Ud);(try have g1:jmB (ccB cs us es c rs) es kp mv xs ph nx=true:=aiv c1 j1 m1 m2 Ud);(try have J:=jbT j1);(try have n0:=J.n0);(try have n1:=J.n1);(try have kk0:=J.k0);(try have kk1:=J.k1);(try simp only[ai0 c1]at*);(try simp only[ai1 c1]at*);(try simp only[aiZ c1]at*);(try simp only[ai4 c1]at*);(try simp only[ai6 c1]at*);(try simp only[ai5 c1]at*);(try simp only[ai3 c1]at*);(try simp only[aiE c1]at*);(try have xe:=Rl wx n0 Uc (a:=nx.toNat) rfl (b:=zn (bQ .add Za nx 1) nx) (by rw[b8 Uc];unfold zn;omega));(try simp only[xe]at*);(try have xm:bQ .sub Za nx 1=nx-1:=eR Uc);(try simp only[xm]at*);(try have xp:bQ .add Za nx 1=nx+1:=b8 Uc);(try simp only[xp]at*);(try have xi:=J.x (nx-1) Uc Uc);(try have xk:bQ .mul Za kp 16=kp*16:=(by first|exact Hi Uc|exact ux Uc));(try simp only[xk]at*);(try have xa:bQ .add Za (kp*16) (ag xs (nx-1) 0)=kp*16+ag xs (nx-1) 0:=b8 Uc);(try simp only[xa]at*))
 all_goals first
  | (show(_:List DV)=_
     first
      |(rw[aiq (es:=es) (kp:=kp) (mv:=mv) (xs:=xs) (ph:=ph) (nx:=nx) (by assumption:ccB cs us es c rs=false)];exact rfl)
      |(rw[air (k:=ccB cs us es c rs) (es:=es) (by assumption:jbOk kp mv xs ph nx=false)];exact rfl)
      |(rw[ais (k:=ccB cs us es c rs) (mv:=mv) (xs:=xs) (ph:=ph) (nx:=nx) (by assumption:mapB es kp=false)];exact rfl)
      |(rw[ait (k:=ccB cs us es c rs) (kp:=kp) (xs:=xs) (ph:=ph) (nx:=nx) (by assumption:mapB es mv=false)];exact rfl)
      |(rw[aiu (k:=ccB cs us es c rs) (xs:=xs) (ph:=ph) (nx:=nx) (by assumption:peF es kp=peF es mv)];exact rfl)
      |(have q:=TJ (cs:=cs) (us:=us) (es:=es) (c:=c) (rs:=rs) (kp:=kp) (mv:=mv) (xs:=xs) (nx:=nx) (by assumption:ph=0);have z:=adK (es:=es) (c:=c) (rs:=rs) (kp:=kp) (mv:=mv) (xs:=xs) (nx:=nx) (by assumption:ph=0) Ud;rw[g1];exact qR q.1.symm q.2.1.symm q.2.2.1.symm q.2.2.2.1.symm rfl z.symm q.2.2.2.2.symm)
      |(have q:=TJ (cs:=cs) (us:=us) (es:=es) (c:=c) (rs:=rs) (kp:=kp) (mv:=mv) (xs:=xs) (nx:=nx) (by assumption:ph=0);have z:=adJ (es:=es) (c:=c) (rs:=rs) (kp:=kp) (mv:=mv) (xs:=xs) (nx:=nx) (by assumption:ph=0) Ud;rw[g1];exact qR q.1.symm q.2.1.symm q.2.2.1.symm q.2.2.2.1.symm rfl z.symm q.2.2.2.2.symm)
      |(have q:=Qb (cs:=cs) (us:=us) (es:=es) (c:=c) (rs:=rs) (kp:=kp) (mv:=mv) (xs:=xs) (nx:=nx) (by assumption:ph=1) Ud;have z:=q.2.2.2.2.2;rw[g1];exact qR q.1.symm q.2.1.symm q.2.2.1.symm q.2.2.2.1.symm rfl z.symm q.2.2.2.2.1.symm)
      |(have q:=TK (cs:=cs) (us:=us) (es:=es) (c:=c) (rs:=rs) (kp:=kp) (mv:=mv) (xs:=xs) (nx:=nx) (by assumption:ph=2);have z:=adM (es:=es) (c:=c) (rs:=rs) (kp:=kp) (mv:=mv) (xs:=xs) (nx:=nx) (by assumption:ph=2) Ud;rw[g1];exact qR q.1.symm q.2.1.symm q.2.2.1.symm q.2.2.2.1.symm rfl z.symm q.2.2.2.2.symm)
      |(have q:=TK (cs:=cs) (us:=us) (es:=es) (c:=c) (rs:=rs) (kp:=kp) (mv:=mv) (xs:=xs) (nx:=nx) (by assumption:ph=2);have z:=adL (es:=es) (c:=c) (rs:=rs) (kp:=kp) (mv:=mv) (xs:=xs) (nx:=nx) (by assumption:ph=2) Ud;rw[g1];exact qR q.1.symm q.2.1.symm q.2.2.1.symm q.2.2.2.1.symm rfl z.symm q.2.2.2.2.symm)
      |(have q:=Kt (cs:=cs) (us:=us) (es:=es) (c:=c) (rs:=rs) (kp:=kp) (mv:=mv) (xs:=xs) (nx:=nx) (by assumption:ph=3) Uc;have z:=adO (es:=es) (c:=c) (rs:=rs) (kp:=kp) (mv:=mv) (xs:=xs) (nx:=nx) (by assumption:ph=3) Uc Ud;rw[g1];exact qR q.1.symm q.2.1.symm q.2.2.1.symm q.2.2.2.1.symm rfl z.symm q.2.2.2.2.symm)
      |(have q:=adP (cs:=cs) (us:=us) (es:=es) (c:=c) (rs:=rs) (kp:=kp) (mv:=mv) (xs:=xs) (nx:=nx) (by assumption:ph≠0) (by assumption:ph≠1) (by assumption:ph≠2) (by assumption:ph≠3);have z:=q.2.2.2.2.2;rw[g1];exact qR q.1.symm q.2.1.symm q.2.2.1.symm q.2.2.2.1.symm rfl z.symm q.2.2.2.2.1.symm)
      |(have q:=Qc (cs:=cs) (us:=us) (es:=es) (c:=c) (rs:=rs) (kp:=kp) (mv:=mv) (xs:=xs) (nx:=nx) (by assumption:ph=1) Ud;have z:=q.2.2.2.2.2;rw[g1];exact qR q.1.symm q.2.1.symm q.2.2.1.symm q.2.2.2.1.symm rfl ((by assumption:ph=1).trans z.symm) q.2.2.2.2.1.symm)
      |(have q:=Qd (cs:=cs) (us:=us) (es:=es) (c:=c) (rs:=rs) (kp:=kp) (mv:=mv) (xs:=xs) (nx:=nx) (by assumption:ph=3) Uc;have z:=q.2.2.2.2.2;rw[g1];exact qR q.1.symm q.2.1.symm q.2.2.1.symm q.2.2.2.1.symm rfl ((by assumption:ph=3).trans z.symm) q.2.2.2.2.1.symm)
      |(have q:=Kt (cs:=cs) (us:=us) (es:=es) (c:=c) (rs:=rs) (kp:=kp) (mv:=mv) (xs:=xs) (nx:=nx) (by assumption:ph=3) Uc;have z:=adN (es:=es) (c:=c) (rs:=rs) (kp:=kp) (mv:=mv) (xs:=xs) (nx:=nx) (by assumption:ph=3) Ud;rw[g1];exact qR q.1.symm q.2.1.symm q.2.2.1.symm q.2.2.2.1.symm rfl ((by assumption:ph=3).trans z.symm) q.2.2.2.2.symm)
      |done)
  |omega
  |exact⟨wc,wu,we,wr,k1,k2,k3,k4⟩
  |exact⟨wc,wu,we,wr⟩
  |exact⟨wc,wu,we,wr,k1,k2,k3,k4,agG wx n0 Uc,rfl⟩
  |exact⟨wc,wu,we,k1,k2,k3,Uc⟩
  |exact⟨wx,lx⟩
  |exact⟨Uc,Uc,Rw.eta wx Uc Uc⟩
  |(show bz _ _=true;kernel_rfl)
  |exact⟨Zd,Zd⟩
  |done
abbrev Zj0:di:=dH (fun F f=>match f with|36=>dF F|17=>dM F|285=>lr F|_=>fun _=>none) (by
 intro f;dsimp only;split;exact d5;exact eA;exact xf;exact dp)
def oR:EC:=fun F=>fun
 |[.agg hl_]=>hL hl_ fun a0 a1 a2 a3 a4 a5 a6 a7 a8 a9 aA aB aC aD aE aF aG aH aI aJ aK aL aM aN=>(fun _=>kJ a0 a1 a2 a4 a5 a6 a7 a8 a9 aA aB aD aL,[.agg (Mu (F.mcC (F.msB (F.hpI a0 a1 a2 a3 a4 a5 a6 a7 a8 a9 aA aB aC aD aE aF aG aH aI aJ aK aL aM aN) a3 aI) a0 a1 a2 a3 a4 aJ aK aL aM aN) (F.mcU (F.msB (F.hpI a0 a1 a2 a3 a4 a5 a6 a7 a8 a9 aA aB aC aD aE aF aG aH aI aJ aK aL aM aN) a3 aI) a0 a1 a2 a3 a4 aJ aK aL aM aN) (F.mcE (F.msB (F.hpI a0 a1 a2 a3 a4 a5 a6 a7 a8 a9 aA aB aC aD aE aF aG aH aI aJ aK aL aM aN) a3 aI) a0 a1 a2 a3 a4 aJ aK aL aM aN) (F.mcN (F.msB (F.hpI a0 a1 a2 a3 a4 a5 a6 a7 a8 a9 aA aB aC aD aE aF aG aH aI aJ aK aL aM aN) a3 aI) a0 a1 a2 a3 a4 aJ aK aL aM aN) a4 a5 a6 a7 a8 a9 aA aB aC aD aE aF aG aH (F.meB (F.moB (F.msB (F.hpI a0 a1 a2 a3 a4 a5 a6 a7 a8 a9 aA aB aC aD aE aF aG aH aI aJ aK aL aM aN) a3 aI) a0 a1 a2 a3 a4 aJ aK aL aM aN) aI) (F.ifN (F.moB (F.msB (F.hpI a0 a1 a2 a3 a4 a5 a6 a7 a8 a9 aA aB aC aD aE aF aG aH aI aJ aK aL aM aN) a3 aI) a0 a1 a2 a3 a4 aJ aK aL aM aN) 0 aJ) (F.ifN (F.moB (F.msB (F.hpI a0 a1 a2 a3 a4 a5 a6 a7 a8 a9 aA aB aC aD aE aF aG aH aI aJ aK aL aM aN) a3 aI) a0 a1 a2 a3 a4 aJ aK aL aM aN) 0 aK) (F.ifR (F.moB (F.msB (F.hpI a0 a1 a2 a3 a4 a5 a6 a7 a8 a9 aA aB aC aD aE aF aG aH aI aJ aK aL aM aN) a3 aI) a0 a1 a2 a3 a4 aJ aK aL aM aN) [] aL) (F.ifN (F.moB (F.msB (F.hpI a0 a1 a2 a3 a4 a5 a6 a7 a8 a9 aA aB aC aD aE aF aG aH aI aJ aK aL aM aN) a3 aI) a0 a1 a2 a3 a4 aJ aK aL aM aN) 0 (F.mphN (F.msB (F.hpI a0 a1 a2 a3 a4 a5 a6 a7 a8 a9 aA aB aC aD aE aF aG aH aI aJ aK aL aM aN) a3 aI) a0 a1 a2 a3 a4 aJ aK aL aM aN)) (F.ifN (F.moB (F.msB (F.hpI a0 a1 a2 a3 a4 a5 a6 a7 a8 a9 aA aB aC aD aE aF aG aH aI aJ aK aL aM aN) a3 aI) a0 a1 a2 a3 a4 aJ aK aL aM aN) 0 (F.mqhN (F.msB (F.hpI a0 a1 a2 a3 a4 a5 a6 a7 a8 a9 aA aB aC aD aE aF aG aH aI aJ aK aL aM aN) a3 aI) a0 a1 a2 a3 a4 aJ aK aL aM aN))),.j (F.mphN (F.msB (F.hpI a0 a1 a2 a3 a4 a5 a6 a7 a8 a9 aA aB aC aD aE aF aG aH aI aJ aK aL aM aN) a3 aI) a0 a1 a2 a3 a4 aJ aK aL aM aN),.k (F.msB (F.hpI a0 a1 a2 a3 a4 a5 a6 a7 a8 a9 aA aB aC aD aE aF aG aH aI aJ aK aL aM aN) a3 aI)])
 |_=>none
def v7:ec 183 oR:=by
 intro _ _ _ h hp;dsimp only[oR,F0,hL]at h;split at h;rotate_left;cases h;split at h<;>cases h
 rename_i a0 a1 a2 a3 a4 a5 a6 a7 a8 a9 aA aB aC aD aE aF aG aH aI aJ aK aL aM aN;have c0:=hp.c0;have c1:=hp.c1;have c2:=hp.c2;have c4:=hp.c4;have c21:=hp.c21;have l21:=aS (es:=aL);refine cb Zj0 Tryz.func183 ?_
 intro O r F hO hr hF;cbv
 repeat' first|apply Zc|(apply cN<;>intro hb<;>cbv)
 all_goals(subst hO hr hF;(try simp only[nc]at*);(try simp only[aj,SS,sa,az]at*);(try simp only[ajl,ajs]at*))
 all_goals first
  | (show(_:List DV)=_
     first
      |(have g0:msB (hpI a0 a1 a2 a3 a4 a5 a6 a7 a8 a9 aA aB aC aD aE aF aG aH aI aJ aK aL aM aN) a3 aI=false:=(by rw[show aI=false by assumption];exact aeh);rw[g0];exact rfl)
      |(have g0:msB (hpI a0 a1 a2 a3 a4 a5 a6 a7 a8 a9 aA aB aC aD aE aF aG aH aI aJ aK aL aM aN) a3 aI=false:=aei Uc;rw[g0];exact rfl)
      |(have g0:msB (hpI a0 a1 a2 a3 a4 a5 a6 a7 a8 a9 aA aB aC aD aE aF aG aH aI aJ aK aL aM aN) a3 aI=false:=aej Ud;rw[g0];exact rfl)
      |(have g1:msB (hpI a0 a1 a2 a3 a4 a5 a6 a7 a8 a9 aA aB aC aD aE aF aG aH aI aJ aK aL aM aN) a3 aI=true:=KO Ud Uc Ud;have o1:moB true a0 a1 a2 a3 a4 aJ aK aL aM aN=true:=ajo Ud;rw[g1,o1];exact rfl)
      |(have g1:msB (hpI a0 a1 a2 a3 a4 a5 a6 a7 a8 a9 aA aB aC aD aE aF aG aH aI aJ aK aL aM aN) a3 aI=true:=KO Ud Uc Ud;have o1:moB true a0 a1 a2 a3 a4 aJ aK aL aM aN=true:=ajp Ud;rw[g1,o1];exact rfl)
      |(have g1:msB (hpI a0 a1 a2 a3 a4 a5 a6 a7 a8 a9 aA aB aC aD aE aF aG aH aI aJ aK aL aM aN) a3 aI=true:=KO Ud Uc Ud;have o1:moB true a0 a1 a2 a3 a4 aJ aK aL aM aN=false:=ajq Ud Ud;rw[g1,o1];exact rfl)
      |done)
  | (show(_:List H)=_
     first
      |done)
  |omega
  |exact⟨hp.r0,hp.r1,hp.r2,hp.r4,Uc,Uc,Uc,Uc,hp.r21,Uc⟩
  |exact hp.hp
  |(show bz _ _=true;kernel_rfl)
  |exact⟨Zd,Zd⟩
  |done
def iM:EC:=fun F=>fun
 |[.agg hl_]=>hL hl_ fun a0 a1 a2 a3 a4 a5 a6 a7 a8 a9 aA aB aC aD aE aF aG aH aI aJ aK aL aM aN=>(fun _=>oX (HV.mk a0 a1 a2 a3 a4 a5 a6 a7 a8 a9 aA aB aC aD aE aF aG aH aI aJ aK aL aM aN),[NA (F.hCp (HV.mk a0 a1 a2 a3 a4 a5 a6 a7 a8 a9 aA aB aC aD aE aF aG aH aI aJ aK aL aM aN))])
 |_=>none
def sv:ec 36 iM:=by
 intro _ _ _ h hp;dsimp only[iM,F0,hL]at h;split at h;rotate_left;cases h;split at h<;>cases h
 rename_i a0 a1 a2 a3 a4 a5 a6 a7 a8 a9 aA aB aC aD aE aF aG aH aI aJ aK aL aM aN;exact d5 _ _ _ rfl hp.c
def gO:EC:=fun F=>fun
 |[.agg hl_]=>hL hl_ fun a0 a1 a2 a3 a4 a5 a6 a7 a8 a9 aA aB aC aD aE aF aG aH aI aJ aK aL aM aN=>(fun _=>oX (HV.mk a0 a1 a2 a3 a4 a5 a6 a7 a8 a9 aA aB aC aD aE aF aG aH aI aJ aK aL aM aN),[.k (F.hOk (HV.mk a0 a1 a2 a3 a4 a5 a6 a7 a8 a9 aA aB aC aD aE aF aG aH aI aJ aK aL aM aN))])
 |_=>none
def oH:ec 17 gO:=by
 intro _ _ _ h hp;dsimp only[gO,F0,hL]at h;split at h;rotate_left;cases h;split at h<;>cases h
 rename_i a0 a1 a2 a3 a4 a5 a6 a7 a8 a9 aA aB aC aD aE aF aG aH aI aJ aK aL aM aN;exact eA _ _ _ rfl hp.c.hp
def iC:EC:=fun F=>fun
 |[.agg hl_,.one (.v (.int Za n))]=>hL hl_ fun a0 a1 a2 a3 a4 a5 a6 a7 a8 a9 aA aB aC aD aE aF aG aH aI aJ aK aL aM aN=>(fun _=>HvW (HV.mk a0 a1 a2 a3 a4 a5 a6 a7 a8 a9 aA aB aC aD aE aF aG aH aI aJ aK aL aM aN)/\zk n,[NA (F.hTk (HV.mk a0 a1 a2 a3 a4 a5 a6 a7 a8 a9 aA aB aC aD aE aF aG aH aI aJ aK aL aM aN) n),.j (F.hT1 (HV.mk a0 a1 a2 a3 a4 a5 a6 a7 a8 a9 aA aB aC aD aE aF aG aH aI aJ aK aL aM aN) n)])
 |_=>none
def rY:ec 20 iC:=by
 intro _ _ _ h hp;dsimp only[iC,F0,hL]at h;split at h;rotate_left;cases h;split at h<;>cases h
 rename_i n _ a0 a1 a2 a3 a4 a5 a6 a7 a8 a9 aA aB aC aD aE aF aG aH aI aJ aK aL aM aN;have C:=HV.wf_hc hp.1.w;exact vP _ _ _ rfl ⟨C.1,hp.2⟩
def gZ:EC:=fun F=>fun
 |[.agg hl_]=>hL hl_ fun a0 a1 a2 a3 a4 a5 a6 a7 a8 a9 aA aB aC aD aE aF aG aH aI aJ aK aL aM aN=>(fun _=>oX (HV.mk a0 a1 a2 a3 a4 a5 a6 a7 a8 a9 aA aB aC aD aE aF aG aH aI aJ aK aL aM aN),[NA (F.hMt (HV.mk a0 a1 a2 a3 a4 a5 a6 a7 a8 a9 aA aB aC aD aE aF aG aH aI aJ aK aL aM aN)),.k (F.hM1 (HV.mk a0 a1 a2 a3 a4 a5 a6 a7 a8 a9 aA aB aC aD aE aF aG aH aI aJ aK aL aM aN))])
 |_=>none
def rh:ec 78 gZ:=by
 intro _ _ _ h hp;dsimp only[gZ,F0,hL]at h;split at h;rotate_left;cases h;split at h<;>cases h
 rename_i a0 a1 a2 a3 a4 a5 a6 a7 a8 a9 aA aB aC aD aE aF aG aH aI aJ aK aL aM aN;exact tZ _ _ _ rfl hp.c
def iS:EC:=fun F=>fun
 |[.agg hl_]=>hL hl_ fun a0 a1 a2 a3 a4 a5 a6 a7 a8 a9 aA aB aC aD aE aF aG aH aI aJ aK aL aM aN=>(fun _=>oX (HV.mk a0 a1 a2 a3 a4 a5 a6 a7 a8 a9 aA aB aC aD aE aF aG aH aI aJ aK aL aM aN),[NA (F.hMs (HV.mk a0 a1 a2 a3 a4 a5 a6 a7 a8 a9 aA aB aC aD aE aF aG aH aI aJ aK aL aM aN)),.j (F.hM2 (HV.mk a0 a1 a2 a3 a4 a5 a6 a7 a8 a9 aA aB aC aD aE aF aG aH aI aJ aK aL aM aN)),.k (F.hM3 (HV.mk a0 a1 a2 a3 a4 a5 a6 a7 a8 a9 aA aB aC aD aE aF aG aH aI aJ aK aL aM aN))])
 |_=>none
def sB:ec 183 iS:=by
 intro _ _ _ h hp;dsimp only[iS,F0,hL]at h;split at h;rotate_left;cases h;split at h<;>cases h
 rename_i a0 a1 a2 a3 a4 a5 a6 a7 a8 a9 aA aB aC aD aE aF aG aH aI aJ aK aL aM aN;exact v7 _ _ _ rfl hp.c
end Go.V