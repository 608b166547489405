/- Contracts. -/
import Derived.Test.YtpldpilhgjpkjaaGreatWM6
import Derived.Test.YtpldpilhgjpkjaaGreatWHoBv
import Derived.Test.YtpldpilhgjpkjaaGreatWM5
import Derived.Test.YtpldpilhgjpkjaaGreatWW4
import Derived.Test.YtpldpilhgjpkjaaGreatWW7
set_option linter.all false
open Go
open And renaming intro->Zb
open IntKind renaming i64->Za
open True renaming intro->Zd
namespace Go.V
open Go Go.Proofs
set_option maxRecDepth 1000000
set_option maxHeartbeats 8000000
abbrev Zi0:cT:=dG (fun F f=>match f with|150=>b9 F|149=>iL F|33=>ai F|293=>b9 F|418=>kW F|294=>cU F|92=>ai F|_=>fun _=>none) (by
 intro f;dsimp only;split;exact hY;exact qX;exact aU;exact qZ;exact yJ;exact oV;exact bi;exact cX)
def EE:ec 415 gL:=by
 intro _ _ _ h hp;dsimp only[gL,F0]at h;split at h<;>cases h
 rename_i cs us es a v;obtain⟨hc,hu,he,hn,hm,hk,ha⟩:=hp;refine cb Zi0 Tryz.func415 ?_
 intro O r F hO hr hF;cbv
 repeat' first|apply Zb|(apply bC<;>intro hb<;>cbv)
 all_goals(subst hO hr hF;(try simp only[nc]at*);(try simp only[ah,SS,sa,az]at*);(try simp only[BB]at*);(try(have hi:machOk cs us es=true:=Ud;simp only[<- (tz (a:=a) hi).1, <- (tz (a:=a) hi).2]at*));(try(have hk0:leK a=a%16:=(pS (es:=[]) (by have:=(Hg (cs:=cs) (us:=us) (es:=es) (a:=a) Ud).2;omega)).2.2;simp only[hk0]at*));(try(have hs:=OA (cs:=cs) (us:=us) (es:=es) (a:=a) Ud;have ha0:=(Hg (cs:=cs) (us:=us) (es:=es) (a:=a) Ud).2));(try simp only[ve (n:=16) ha0]at*))
 all_goals first|(show ay _ _=true;kernel_rfl)|exact⟨hc,hu,he,hn,hm,hk⟩|exact⟨hc,hu,he,ha⟩|exact⟨he,ha⟩|exact⟨hc,hu,he⟩|exact vi (Hj (xz (.inl Ud)).1).2.symm rfl rfl (Hj (xz (.inl Ud)).1).1.symm|exact vi (Hj Ud).2.symm rfl rfl (Hj Ud).1.symm|exact vi (Q2 Ud).2.symm rfl rfl (Q2 Ud).1.symm|exact vi (Q3 Ud Ud Ud).2.symm rfl rfl (Q3 Ud Ud Ud).1.symm|exact vi ((Rh hc hs.1 hs.2.1 Uc Uc).trans (Q1 Ud Ud Ud).2.symm) rfl rfl (Q1 Ud Ud Ud).1.symm|exact JK hc hs.1 hs.2.1 Uc Uc|exact uI hc hs.1 hs.2.1|exact⟨Uc,Uc,rn hc hs.1 hs.2.1⟩|exact⟨trivial,trivial⟩|trivial|omega|trace_state
abbrev Zi1:cT:=dG (fun F f=>match f with|133=>bY F|138=>dt F|269=>cZ F|70=>eQ F|170=>fR F|54=>bM F|344=>kn F|345=>pE F|346=>nQ F|46=>gL F|_=>fun _=>none) (by
 intro f;dsimp only;split;exact eP;exact qV;exact lO;exact tL;exact jQ;exact dV;exact xJ;exact Eu;exact Cl;exact Ev;exact cX)
def lX:EC:=fun F=>fun
 |[.agg [.s 1 cs,.s 1 us,.s 2 es,.v (.int Za c),.s 1 rs],.agg [.v (.int Za kp),.v (.int Za mv),.s 1 xs,.v (.int Za ph),.v (.int Za nx)]]=>some (fun _=>Rw [.sl [tI]] cs/\Rw [tB] us/\Rw [tI,tI] es/\Rw [tI] rs/\au cs<=1099511627776/\au us<=1099511627776/\au es<=1099511627776/\au rs<=1099511627776/\Rw [tI] xs/\xs.length<=1099511627776,[.agg [.s 1 (F.ifR (F.jmB (F.ccB cs us es c rs) es kp mv xs ph nx) (F.jsC cs us es c rs kp mv xs ph nx) cs),.s 1 (F.ifR (F.jmB (F.ccB cs us es c rs) es kp mv xs ph nx) (F.jsU us es c rs kp mv ph) us),.s 2 (F.ifR (F.jmB (F.ccB cs us es c rs) es kp mv xs ph nx) (F.jsE es c rs kp mv ph nx) es),.i (F.ifN (F.jmB (F.ccB cs us es c rs) es kp mv xs ph nx) (F.jsN c ph nx) c),.s 1 rs],.agg [.i kp,.i mv,.s 1 xs,.i (F.ifN (F.jmB (F.ccB cs us es c rs) es kp mv xs ph nx) (F.jsP es c rs kp mv xs ph nx) ph),.i (F.ifN (F.jmB (F.ccB cs us es c rs) es kp mv xs ph nx) (F.jsX xs ph nx) nx)]])
 |_=>none
def zQ:ec 285 lX:=by
 intro _ _ _ h hp;dsimp only[lX,F0]at h;split at h<;>cases h
 rename_i cs us es c rs kp mv xs ph nx;obtain⟨wc,wu,we,wr,k1,k2,k3,k4,wx,lx⟩:=hp;refine cb Zi1 Tryz.func285 ?_
 intro O r F hO hr hF;cbv
 repeat' first|apply Zb|(apply bC<;>intro hb<;>cbv)
 all_goals(subst hO hr hF;(try simp only[nc]at*);(try simp only[ah,SS,sa,az]at*);(try have c1:ccB cs us es c rs=true:=Ud);(try have j1:jbOk kp mv xs ph nx=true:=Ud);(try have m1:mapB es kp=true:=Ud);(try have m2:mapB es mv=true:=Ud);(try have g1:jmB (ccB cs us es c rs) es kp mv xs ph nx=true:=ahB c1 j1 m1 m2 Ud);(try have J:=jbT j1);(try have n0:=J.n0);(try have n1:=J.n1);(try have kk0:=J.k0);(try have kk1:=J.k1);(try simp only[ahH c1]at*);(try simp only[ahI c1]at*);(try simp only[ahG c1]at*);(try simp only[ahK c1]at*);(try simp only[ahM c1]at*);(try simp only[ahL c1]at*);(try simp only[ahJ c1]at*);(try simp only[ahE c1]at*);(try have xe:=T9 wx n0 Uc (a:=nx.toNat) rfl (b:=H9 (bK .add Za nx 1) nx) (by rw[bD Uc];unfold H9;omega));(try simp only[xe]at*);(try have xm:bK .sub Za nx 1=nx-1:=dp Uc);(try simp only[xm]at*);(try have xp:bK .add Za nx 1=nx+1:=bD Uc);(try simp only[xp]at*);(try have xi:=J.x (nx-1) Uc Uc);(try have xk:bK .mul Za kp 16=kp*16:=(by first|exact Tl Uc|exact Fg Uc));(try simp only[xk]at*);(try have xa:bK .add Za (kp*16) (ag xs (nx-1) 0)=kp*16+ag xs (nx-1) 0:=bD Uc);(try simp only[xa]at*))
 all_goals first
  | (show(_:List DV)=_
     first
      |(rw[adJ (es:=es) (kp:=kp) (mv:=mv) (xs:=xs) (ph:=ph) (nx:=nx) (by assumption:ccB cs us es c rs=false)];exact rfl)
      |(rw[adK (k:=ccB cs us es c rs) (es:=es) (by assumption:jbOk kp mv xs ph nx=false)];exact rfl)
      |(rw[adL (k:=ccB cs us es c rs) (mv:=mv) (xs:=xs) (ph:=ph) (nx:=nx) (by assumption:mapB es kp=false)];exact rfl)
      |(rw[adM (k:=ccB cs us es c rs) (kp:=kp) (xs:=xs) (ph:=ph) (nx:=nx) (by assumption:mapB es mv=false)];exact rfl)
      |(rw[ahz (k:=ccB cs us es c rs) (xs:=xs) (ph:=ph) (nx:=nx) (by assumption:peF es kp=peF es mv)];exact rfl)
      |(have q:=MX (cs:=cs) (us:=us) (es:=es) (c:=c) (rs:=rs) (kp:=kp) (mv:=mv) (xs:=xs) (nx:=nx) (by assumption:ph=0);have z:=SJ (es:=es) (c:=c) (rs:=rs) (kp:=kp) (mv:=mv) (xs:=xs) (nx:=nx) (by assumption:ph=0) Ud;rw[g1];exact o7 q.1.symm q.2.1.symm q.2.2.1.symm q.2.2.2.1.symm rfl z.symm q.2.2.2.2.symm)
      |(have q:=MX (cs:=cs) (us:=us) (es:=es) (c:=c) (rs:=rs) (kp:=kp) (mv:=mv) (xs:=xs) (nx:=nx) (by assumption:ph=0);have z:=SI (es:=es) (c:=c) (rs:=rs) (kp:=kp) (mv:=mv) (xs:=xs) (nx:=nx) (by assumption:ph=0) Ud;rw[g1];exact o7 q.1.symm q.2.1.symm q.2.2.1.symm q.2.2.2.1.symm rfl z.symm q.2.2.2.2.symm)
      |(have q:=MY (cs:=cs) (us:=us) (es:=es) (c:=c) (rs:=rs) (kp:=kp) (mv:=mv) (xs:=xs) (nx:=nx) (by assumption:ph=1) Ud;have z:=q.2.2.2.2.2;rw[g1];exact o7 q.1.symm q.2.1.symm q.2.2.1.symm q.2.2.2.1.symm rfl z.symm q.2.2.2.2.1.symm)
      |(have q:=GK (cs:=cs) (us:=us) (es:=es) (c:=c) (rs:=rs) (kp:=kp) (mv:=mv) (xs:=xs) (nx:=nx) (by assumption:ph=1) Ud;have z:=q.2.2.2.2.2;rw[g1];exact o7 q.1.symm q.2.1.symm q.2.2.1.symm q.2.2.2.1.symm rfl z.symm q.2.2.2.2.1.symm)
      |(have q:=MZ (cs:=cs) (us:=us) (es:=es) (c:=c) (rs:=rs) (kp:=kp) (mv:=mv) (xs:=xs) (nx:=nx) (by assumption:ph=2);have z:=SL (es:=es) (c:=c) (rs:=rs) (kp:=kp) (mv:=mv) (xs:=xs) (nx:=nx) (by assumption:ph=2) Ud;rw[g1];exact o7 q.1.symm q.2.1.symm q.2.2.1.symm q.2.2.2.1.symm rfl z.symm q.2.2.2.2.symm)
      |(have q:=MZ (cs:=cs) (us:=us) (es:=es) (c:=c) (rs:=rs) (kp:=kp) (mv:=mv) (xs:=xs) (nx:=nx) (by assumption:ph=2);have z:=SK (es:=es) (c:=c) (rs:=rs) (kp:=kp) (mv:=mv) (xs:=xs) (nx:=nx) (by assumption:ph=2) Ud;rw[g1];exact o7 q.1.symm q.2.1.symm q.2.2.1.symm q.2.2.2.1.symm rfl z.symm q.2.2.2.2.symm)
      |(have q:=DF (cs:=cs) (us:=us) (es:=es) (c:=c) (rs:=rs) (kp:=kp) (mv:=mv) (xs:=xs) (nx:=nx) (by assumption:ph=3) Uc;have z:=q.2.2.2.2.2;rw[g1];exact o7 q.1.symm q.2.1.symm q.2.2.1.symm q.2.2.2.1.symm rfl z.symm q.2.2.2.2.1.symm)
      |(have q:=sS (cs:=cs) (us:=us) (es:=es) (c:=c) (rs:=rs) (kp:=kp) (mv:=mv) (xs:=xs) (nx:=nx) (by assumption:ph=3) Uc;have z:=M0 (es:=es) (c:=c) (rs:=rs) (kp:=kp) (mv:=mv) (xs:=xs) (nx:=nx) (by assumption:ph=3) Uc Ud;rw[g1];exact o7 q.1.symm q.2.1.symm q.2.2.1.symm q.2.2.2.1.symm rfl z.symm q.2.2.2.2.symm)
      |(have q:=sS (cs:=cs) (us:=us) (es:=es) (c:=c) (rs:=rs) (kp:=kp) (mv:=mv) (xs:=xs) (nx:=nx) (by assumption:ph=3) Uc;have z:=GL (es:=es) (c:=c) (rs:=rs) (kp:=kp) (mv:=mv) (xs:=xs) (nx:=nx) (by assumption:ph=3) Ud;rw[g1];exact o7 q.1.symm q.2.1.symm q.2.2.1.symm q.2.2.2.1.symm rfl z.symm q.2.2.2.2.symm)
      |(have q:=aa5 (cs:=cs) (us:=us) (es:=es) (c:=c) (rs:=rs) (kp:=kp) (mv:=mv) (xs:=xs) (nx:=nx) (by assumption:ph≠0) (by assumption:ph≠1) (by assumption:ph≠2) (by assumption:ph≠3);have z:=q.2.2.2.2.2;rw[g1];exact o7 q.1.symm q.2.1.symm q.2.2.1.symm q.2.2.2.1.symm rfl z.symm q.2.2.2.2.1.symm)
      |(have q:=GK (cs:=cs) (us:=us) (es:=es) (c:=c) (rs:=rs) (kp:=kp) (mv:=mv) (xs:=xs) (nx:=nx) (by assumption:ph=1) Ud;have z:=q.2.2.2.2.2;rw[g1];exact o7 q.1.symm q.2.1.symm q.2.2.1.symm q.2.2.2.1.symm rfl ((by assumption:ph=1).trans z.symm) q.2.2.2.2.1.symm)
      |(have q:=DF (cs:=cs) (us:=us) (es:=es) (c:=c) (rs:=rs) (kp:=kp) (mv:=mv) (xs:=xs) (nx:=nx) (by assumption:ph=3) Uc;have z:=q.2.2.2.2.2;rw[g1];exact o7 q.1.symm q.2.1.symm q.2.2.1.symm q.2.2.2.1.symm rfl ((by assumption:ph=3).trans z.symm) q.2.2.2.2.1.symm)
      |(have q:=sS (cs:=cs) (us:=us) (es:=es) (c:=c) (rs:=rs) (kp:=kp) (mv:=mv) (xs:=xs) (nx:=nx) (by assumption:ph=3) Uc;have z:=GL (es:=es) (c:=c) (rs:=rs) (kp:=kp) (mv:=mv) (xs:=xs) (nx:=nx) (by assumption:ph=3) Ud;rw[g1];exact o7 q.1.symm q.2.1.symm q.2.2.1.symm q.2.2.2.1.symm rfl ((by assumption:ph=3).trans z.symm) q.2.2.2.2.symm)
      |done)
  |omega
  |exact⟨wc,wu,we,wr,k1,k2,k3,k4⟩
  |exact⟨wc,wu,we,wr⟩
  |exact⟨wc,wu,we,wr,k1,k2,k3,k4,aaa wx n0 Uc,rfl⟩
  |exact⟨wc,wu,we,k1,k2,k3,Uc⟩
  |exact⟨wx,lx⟩
  |exact we
  |exact nA wx Uc Uc
  |exact⟨Uc,Uc,Rw.eta wx Uc Uc⟩
  |(show ay _ _=true;kernel_rfl)
  |exact⟨Zd,Zd⟩
  |exact Zd
  |done
abbrev Zi2:cT:=dG (fun F f=>match f with|397=>cZ F|212=>eQ F|398=>gw F|359=>bM F|_=>fun _=>none) (by
 intro f;dsimp only;split;exact sQ;exact uo;exact lV;exact gH;exact cX)
def ox:EC:=fun F=>fun
 |[.agg [.s 1 cs,.s 1 us,.s 2 es,.v (.int Za c),.s 1 rs],.agg [.v (.int Za kp),.v (.int Za mv),.s 1 xs,.v (.int Za ph),.v (.int Za nx)]]=>some (fun _=>Rw [.sl [tI]] cs/\Rw [tB] us/\Rw [tI,tI] es/\Rw [tI] rs/\Rw [tI] xs/\xs.length<=1099511627776,[.k (F.jmB (F.ccB cs us es c rs) es kp mv xs ph nx)])
 |_=>none
def CU:ec 364 ox:=by
 intro _ _ _ h hp;dsimp only[ox,F0]at h;split at h<;>cases h
 rename_i cs us es c rs kp mv xs ph nx;obtain⟨wc,wu,we,wr,wx,lx⟩:=hp;refine cb Zi2 Tryz.func364 ?_
 intro O r F hO hr hF;cbv
 repeat' first|apply Zb|(apply bC<;>intro hb<;>cbv)
 all_goals(subst hO hr hF;(try simp only[nc]at*);(try simp only[ah,SS,sa,az]at*);(try have c1:ccB cs us es c rs=true:=Ud);(try have j1:jbOk kp mv xs ph nx=true:=Ud))
 all_goals first
  | (show(_:List DV)=_
     first
      |exact aj (adJ Ud).symm
      |exact aj (adK Ud).symm
      |exact aj (adL (S9 Ud)).symm
      |exact aj (adM (S9 Ud)).symm
      |exact aj (ahA c1 j1 (aes Ud) (aes Ud))
      |done)
  |omega
  |exact⟨wc,wu,we,wr⟩
  |exact⟨wx,lx⟩
  |exact we
  |(show ay _ _=true;kernel_rfl)
  |exact⟨Zd,Zd⟩
  |exact Zd
  |done
abbrev Zi3:cT:={
 Φ:=sF
 F0:=F0
 ct:=fun F f=>match f with|415=>gL F|_=>fun _=>none
 hc:=(by
  intro f;dsimp only;split;exact EE;exact cX)
 pt:=fun F f=>match f with|399=>some (gd F)|_=>none
 hp:=(by
  intro f mk h;dsimp only at h;split at h<;>cases h
  exact nq)}
def mF:EP:=fun F=>fun
 |[.mp [.own (.s 1 cs),.own (.s 1 us),.own (.s 2 es),.own (.v (.int Za c)),.own (.s 1 rs)],.mp [.own (.v (.int Za kp)),.own (.v (.int Za mv)),.own (.s 1 xs),.own (.v (.int Za ph)),.own (.v (.int Za nx))]]=>some (fun _=>Rw [.sl [tI]] cs/\Rw [tB] us/\Rw [tI,tI] es/\Rw [tI] rs/\oR cs us es/\0<=c/\c<=100000/\Rw [tI] xs/\JbT kp mv xs ph nx/\mapB es kp=true/\mapB es mv=true/\ph=3,[[.own (.s 1 (F.jsC cs us es c rs kp mv xs ph nx)),.own (.s 1 (F.jsU us es c rs kp mv ph)),.own (.s 2 (F.jsE es c rs kp mv ph nx)),.own (.i (F.jsN c ph nx)),.own (.s 1 rs)],[.own (.i kp),.own (.i mv),.own (.s 1 xs),.own (.i (F.jsP es c rs kp mv xs ph nx)),.own (.i (F.jsX xs ph nx))]],[])
 |_=>none
def AL:ep 402 mF:=by
 intro _ _ _ _ h hp;dsimp only[mF,F0]at h;split at h<;>cases h
 rename_i cs us es c rs kp mv xs ph nx;obtain⟨wc,wu,we,wr,hm,hc0,hc1,wx,J,m1,m2,rfl⟩:=hp;have n0:=J.n0;have n1:=J.n1;have kk0:=J.k0;have kk1:=J.k1;have cc:=J8 hm wc wu we;have lx:=wx.1;simp only[maxLen]at lx;refine pb Zi3 Tryz.func402 ?_
 intro O r os F hO hr hos hF;cbv
 repeat' first|apply Zb|(apply bC<;>intro hb<;>cbv)
 all_goals((try subst hos);subst hO hr hF;(try simp only[nc]at*);(try simp only[ah,SS,sa,az]at*);(try have xm:bK .sub Za nx 1=nx-1:=dp Uc);(try simp only[xm]at*);(try simp only[gS (l:=xs) (show 0<=nx-1 by omega)]at*);(try have xi:=J.x (nx-1) Uc Uc);(try have xk:bK .mul Za kp 16=kp*16:=(by first|exact Tl Uc|exact Fg Uc));(try simp only[xk]at*);(try have xa:bK .add Za (kp*16) (ag xs (nx-1) 0)=kp*16+ag xs (nx-1) 0:=bD Uc);(try simp only[xa]at*))
 all_goals first
  | (show(_:List DV)=_
     first
      |exact rfl
      |done)
  | (show(_:List H)=_
     first
      |(have q:=DF (cs:=cs) (us:=us) (es:=es) (c:=c) (rs:=rs) (kp:=kp) (mv:=mv) (xs:=xs) (ph:=3) (nx:=nx) rfl Uc;simp only[q.1,q.2.1,q.2.2.1,q.2.2.2.1,q.2.2.2.2.1,q.2.2.2.2.2];exact rfl)
      |(have q:=sS (cs:=cs) (us:=us) (es:=es) (c:=c) (rs:=rs) (kp:=kp) (mv:=mv) (xs:=xs) (ph:=3) (nx:=nx) rfl Uc;simp only[q.1,q.2.1,q.2.2.1,q.2.2.2.1,q.2.2.2.2];exact rfl)
      |(have q:=sS (cs:=cs) (us:=us) (es:=es) (c:=c) (rs:=rs) (kp:=kp) (mv:=mv) (xs:=xs) (ph:=3) (nx:=nx) rfl Uc;have z:=M0 (es:=es) (c:=c) (rs:=rs) (kp:=kp) (mv:=mv) (xs:=xs) (ph:=3) (nx:=nx) rfl Uc Ud;simp only[q.1,q.2.1,q.2.2.1,q.2.2.2.1,q.2.2.2.2,z];exact rfl)
      |(have q:=sS (cs:=cs) (us:=us) (es:=es) (c:=c) (rs:=rs) (kp:=kp) (mv:=mv) (xs:=xs) (ph:=3) (nx:=nx) rfl Uc;have z:=GL (es:=es) (c:=c) (rs:=rs) (kp:=kp) (mv:=mv) (xs:=xs) (ph:=3) (nx:=nx) rfl Ud;simp only[q.1,q.2.1,q.2.2.1,q.2.2.2.1,q.2.2.2.2,z];exact rfl)
      |done)
  |omega
  |exact⟨wc,wu,we,wr,hm,hc0,hc1⟩
  |exact⟨wc,wu,we,Uc,Uc,Uc,Uc⟩
  |exact nA wx Uc Uc
  |(show ay _ _=true;kernel_rfl)
  |exact⟨Zd,Zd⟩
  |exact Zd
  |done
abbrev Zi4:cT:={
 Φ:=sF
 F0:=F0
 pt:=fun F f=>match f with|399=>some (gd F)|400=>some (kX F)|401=>some (pL F)|402=>some (mF F)|_=>none
 hp:=(by
  intro f mk h;dsimp only at h;split at h<;>cases h
  exact nq;exact yK;exact EF;exact AL)}
def mH:EP:=fun F=>fun
 |[.mp [.own (.s 1 cs),.own (.s 1 us),.own (.s 2 es),.own (.v (.int Za c)),.own (.s 1 rs)],.mp [.own (.v (.int Za kp)),.own (.v (.int Za mv)),.own (.s 1 xs),.own (.v (.int Za ph)),.own (.v (.int Za nx))]]=>some (fun _=>Rw [.sl [tI]] cs/\Rw [tB] us/\Rw [tI,tI] es/\Rw [tI] rs/\oR cs us es/\0<=c/\c<=100000/\Rw [tI] xs/\JbT kp mv xs ph nx/\mapB es kp=true/\mapB es mv=true,[[.own (.s 1 (F.jsC cs us es c rs kp mv xs ph nx)),.own (.s 1 (F.jsU us es c rs kp mv ph)),.own (.s 2 (F.jsE es c rs kp mv ph nx)),.own (.i (F.jsN c ph nx)),.own (.s 1 rs)],[.own (.i kp),.own (.i mv),.own (.s 1 xs),.own (.i (F.jsP es c rs kp mv xs ph nx)),.own (.i (F.jsX xs ph nx))]],[])
 |_=>none
def AN:ep 365 mH:=by
 intro _ _ _ _ h hp;dsimp only[mH,F0]at h;split at h<;>cases h
 rename_i cs us es c rs kp mv xs ph nx;obtain⟨wc,wu,we,wr,hm,hc0,hc1,wx,J,m1,m2⟩:=hp;have n0:=J.n0;have n1:=J.n1;have kk0:=J.k0;have kk1:=J.k1;have lx:=wx.1;simp only[maxLen]at lx;refine QD Zi4 BS mixed 80 _ [] [] true Tryz.func365 rfl rfl rfl rfl rfl rfl rfl (fun _=>rfl) ?_;intro O r os F hO hr hos hF;cbv
 repeat' first|apply Zb|(apply bC<;>intro hb<;>cbv)
 all_goals((try subst hos);subst hO hr hF;(try simp only[nc]at*);(try simp only[ah,SS,sa,az]at*);(try have xp:bK .add Za nx 1=nx+1:=bD Uc);(try simp only[xp]at*);(try simp only[gS (l:=xs) n0]at*);(try simp only[aiK]at*))
 all_goals first
  | (show(_:List DV)=_
     first
      |exact rfl
      |done)
  | (show(_:List H)=_
     first
      |exact rfl
      |(have q:=MX (cs:=cs) (us:=us) (es:=es) (c:=c) (rs:=rs) (kp:=kp) (mv:=mv) (xs:=xs) (nx:=nx) (by assumption:ph=0);have z:=SJ (es:=es) (c:=c) (rs:=rs) (kp:=kp) (mv:=mv) (xs:=xs) (nx:=nx) (by assumption:ph=0) Ud;rw[q.1,q.2.1,q.2.2.1,q.2.2.2.1,z,q.2.2.2.2];exact rfl)
      |(have q:=MX (cs:=cs) (us:=us) (es:=es) (c:=c) (rs:=rs) (kp:=kp) (mv:=mv) (xs:=xs) (nx:=nx) (by assumption:ph=0);have z:=SI (es:=es) (c:=c) (rs:=rs) (kp:=kp) (mv:=mv) (xs:=xs) (nx:=nx) (by assumption:ph=0) Ud;rw[q.1,q.2.1,q.2.2.1,q.2.2.2.1,z,q.2.2.2.2];exact rfl)
      |(have q:=MY (cs:=cs) (us:=us) (es:=es) (c:=c) (rs:=rs) (kp:=kp) (mv:=mv) (xs:=xs) (nx:=nx) (by assumption:ph=1) Ud;have z:=q.2.2.2.2.2;rw[q.1,q.2.1,q.2.2.1,q.2.2.2.1,z,q.2.2.2.2.1];exact rfl)
      |(have q:=GK (cs:=cs) (us:=us) (es:=es) (c:=c) (rs:=rs) (kp:=kp) (mv:=mv) (xs:=xs) (nx:=nx) (by assumption:ph=1) Ud;have z:=q.2.2.2.2.2;rw[q.1,q.2.1,q.2.2.1,q.2.2.2.1,z,q.2.2.2.2.1];exact rfl)
      |(have q:=MZ (cs:=cs) (us:=us) (es:=es) (c:=c) (rs:=rs) (kp:=kp) (mv:=mv) (xs:=xs) (nx:=nx) (by assumption:ph=2);have z:=SL (es:=es) (c:=c) (rs:=rs) (kp:=kp) (mv:=mv) (xs:=xs) (nx:=nx) (by assumption:ph=2) Ud;rw[q.1,q.2.1,q.2.2.1,q.2.2.2.1,z,q.2.2.2.2];exact rfl)
      |(have q:=MZ (cs:=cs) (us:=us) (es:=es) (c:=c) (rs:=rs) (kp:=kp) (mv:=mv) (xs:=xs) (nx:=nx) (by assumption:ph=2);have z:=SK (es:=es) (c:=c) (rs:=rs) (kp:=kp) (mv:=mv) (xs:=xs) (nx:=nx) (by assumption:ph=2) Ud;rw[q.1,q.2.1,q.2.2.1,q.2.2.2.1,z,q.2.2.2.2];exact rfl)
      |(have q:=DF (cs:=cs) (us:=us) (es:=es) (c:=c) (rs:=rs) (kp:=kp) (mv:=mv) (xs:=xs) (nx:=nx) (by assumption:ph=3) Uc;have z:=q.2.2.2.2.2;rw[q.1,q.2.1,q.2.2.1,q.2.2.2.1,z,q.2.2.2.2.1];exact rfl)
      |(have q:=sS (cs:=cs) (us:=us) (es:=es) (c:=c) (rs:=rs) (kp:=kp) (mv:=mv) (xs:=xs) (nx:=nx) (by assumption:ph=3) Uc;have z:=M0 (es:=es) (c:=c) (rs:=rs) (kp:=kp) (mv:=mv) (xs:=xs) (nx:=nx) (by assumption:ph=3) Uc Ud;rw[q.1,q.2.1,q.2.2.1,q.2.2.2.1,z,q.2.2.2.2];exact rfl)
      |(have q:=sS (cs:=cs) (us:=us) (es:=es) (c:=c) (rs:=rs) (kp:=kp) (mv:=mv) (xs:=xs) (nx:=nx) (by assumption:ph=3) Uc;have z:=GL (es:=es) (c:=c) (rs:=rs) (kp:=kp) (mv:=mv) (xs:=xs) (nx:=nx) (by assumption:ph=3) Ud;rw[q.1,q.2.1,q.2.2.1,q.2.2.2.1,z,q.2.2.2.2];exact rfl)
      |(have q:=aa5 (cs:=cs) (us:=us) (es:=es) (c:=c) (rs:=rs) (kp:=kp) (mv:=mv) (xs:=xs) (nx:=nx) (by assumption:ph≠0) (by assumption:ph≠1) (by assumption:ph≠2) (by assumption:ph≠3);have z:=q.2.2.2.2.2;rw[q.1,q.2.1,q.2.2.1,q.2.2.2.1,z,q.2.2.2.2.1];exact rfl)
      |(have q:=GK (cs:=cs) (us:=us) (es:=es) (c:=c) (rs:=rs) (kp:=kp) (mv:=mv) (xs:=xs) (nx:=nx) (by assumption:ph=1) Ud;have z:=q.2.2.2.2.2;rw[q.1,q.2.1,q.2.2.1,q.2.2.2.1,z,q.2.2.2.2.1];rw[show ph=1 by assumption];exact rfl)
      |(have q:=DF (cs:=cs) (us:=us) (es:=es) (c:=c) (rs:=rs) (kp:=kp) (mv:=mv) (xs:=xs) (nx:=nx) (by assumption:ph=3) Uc;have z:=q.2.2.2.2.2;rw[q.1,q.2.1,q.2.2.1,q.2.2.2.1,z,q.2.2.2.2.1];rw[show ph=3 by assumption];exact rfl)
      |(have q:=sS (cs:=cs) (us:=us) (es:=es) (c:=c) (rs:=rs) (kp:=kp) (mv:=mv) (xs:=xs) (nx:=nx) (by assumption:ph=3) Uc;have z:=GL (es:=es) (c:=c) (rs:=rs) (kp:=kp) (mv:=mv) (xs:=xs) (nx:=nx) (by assumption:ph=3) Ud;rw[q.1,q.2.1,q.2.2.1,q.2.2.2.1,z,q.2.2.2.2];rw[show ph=3 by assumption];exact rfl)
      |done)
  |omega
  |exact⟨wc,wu,we,wr,hm,hc0,hc1⟩
  |exact⟨wc,wu,we,wr,hm,aaa wx n0 Uc,rfl⟩
  |exact⟨wc,wu,we,wr,hm,hc0,hc1,wx,J,m1,m2,Ud⟩
  |exact nA wx Uc Uc
  |(show ay _ _=true;kernel_rfl)
  |exact⟨Zd,Zd⟩
  |exact Zd
  |done
abbrev Zi5:cT:=dG (fun F f=>match f with|397=>cZ F|_=>fun _=>none) (by
 intro f;dsimp only;split;exact sQ;exact cX)
def mG:EC:=fun F=>fun
 |[.agg [.v (.int Za kp),.v (.int Za mv),.s 1 xs,.v (.int Za ph),.v (.int Za nx)]]=>some (fun _=>True,[.k (F.ovB ph)])
 |_=>none
def AM:ec 366 mG:=by
 intro _ _ _ h hp;dsimp only[mG,F0]at h;split at h<;>cases h
 rename_i kp mv xs ph nx;refine cb Zi5 Tryz.func366 ?_
 intro O r F hO hr hF;cbv
 repeat' first|apply Zb|(apply bC<;>intro hb<;>cbv)
 all_goals(subst hO hr hF;(try simp only[nc]at*);(try simp only[ah,SS,sa,az]at*))
 all_goals first
  | (show(_:List DV)=_
     first
      |exact aj (ah1 Ud)
      |exact aj (ah2 Ud)
      |done)
  |(show ay _ _=true;kernel_rfl)
  |exact Zd
  |done
abbrev Zj0:cT:=dG (fun F f=>match f with|36=>eK F|17=>fO F|285=>lX F|_=>fun _=>none) (by
 intro f;dsimp only;split;exact ka;exact nL;exact zQ;exact cX)
def qE:EC:=fun F=>fun
 |[.agg hl_]=>hL hl_ fun a0 a1 a2 a3 a4 a5 a6 a7 a8 a9 aA aB aC aD aE aF aG aH aI aJ aK aL aM aN=>(fun _=>Jm a0 a1 a2 a4 a5 a6 a7 a8 a9 aA aB aD aL,[.agg (hpL (F.mcC (F.msB (F.hpI a0 a1 a2 a3 a4 a5 a6 a7 a8 a9 aA aB aC aD aE aF aG aH aI aJ aK aL aM aN) a3 aI) a0 a1 a2 a3 a4 aJ aK aL aM aN) (F.mcU (F.msB (F.hpI a0 a1 a2 a3 a4 a5 a6 a7 a8 a9 aA aB aC aD aE aF aG aH aI aJ aK aL aM aN) a3 aI) a0 a1 a2 a3 a4 aJ aK aL aM aN) (F.mcE (F.msB (F.hpI a0 a1 a2 a3 a4 a5 a6 a7 a8 a9 aA aB aC aD aE aF aG aH aI aJ aK aL aM aN) a3 aI) a0 a1 a2 a3 a4 aJ aK aL aM aN) (F.mcN (F.msB (F.hpI a0 a1 a2 a3 a4 a5 a6 a7 a8 a9 aA aB aC aD aE aF aG aH aI aJ aK aL aM aN) a3 aI) a0 a1 a2 a3 a4 aJ aK aL aM aN) a4 a5 a6 a7 a8 a9 aA aB aC aD aE aF aG aH (F.meB (F.moB (F.msB (F.hpI a0 a1 a2 a3 a4 a5 a6 a7 a8 a9 aA aB aC aD aE aF aG aH aI aJ aK aL aM aN) a3 aI) a0 a1 a2 a3 a4 aJ aK aL aM aN) aI) (F.ifN (F.moB (F.msB (F.hpI a0 a1 a2 a3 a4 a5 a6 a7 a8 a9 aA aB aC aD aE aF aG aH aI aJ aK aL aM aN) a3 aI) a0 a1 a2 a3 a4 aJ aK aL aM aN) 0 aJ) (F.ifN (F.moB (F.msB (F.hpI a0 a1 a2 a3 a4 a5 a6 a7 a8 a9 aA aB aC aD aE aF aG aH aI aJ aK aL aM aN) a3 aI) a0 a1 a2 a3 a4 aJ aK aL aM aN) 0 aK) (F.ifR (F.moB (F.msB (F.hpI a0 a1 a2 a3 a4 a5 a6 a7 a8 a9 aA aB aC aD aE aF aG aH aI aJ aK aL aM aN) a3 aI) a0 a1 a2 a3 a4 aJ aK aL aM aN) [] aL) (F.ifN (F.moB (F.msB (F.hpI a0 a1 a2 a3 a4 a5 a6 a7 a8 a9 aA aB aC aD aE aF aG aH aI aJ aK aL aM aN) a3 aI) a0 a1 a2 a3 a4 aJ aK aL aM aN) 0 (F.mphN (F.msB (F.hpI a0 a1 a2 a3 a4 a5 a6 a7 a8 a9 aA aB aC aD aE aF aG aH aI aJ aK aL aM aN) a3 aI) a0 a1 a2 a3 a4 aJ aK aL aM aN)) (F.ifN (F.moB (F.msB (F.hpI a0 a1 a2 a3 a4 a5 a6 a7 a8 a9 aA aB aC aD aE aF aG aH aI aJ aK aL aM aN) a3 aI) a0 a1 a2 a3 a4 aJ aK aL aM aN) 0 (F.mqhN (F.msB (F.hpI a0 a1 a2 a3 a4 a5 a6 a7 a8 a9 aA aB aC aD aE aF aG aH aI aJ aK aL aM aN) a3 aI) a0 a1 a2 a3 a4 aJ aK aL aM aN))),.j (F.mphN (F.msB (F.hpI a0 a1 a2 a3 a4 a5 a6 a7 a8 a9 aA aB aC aD aE aF aG aH aI aJ aK aL aM aN) a3 aI) a0 a1 a2 a3 a4 aJ aK aL aM aN),.k (F.msB (F.hpI a0 a1 a2 a3 a4 a5 a6 a7 a8 a9 aA aB aC aD aE aF aG aH aI aJ aK aL aM aN) a3 aI)])
 |_=>none
def xU:ec 183 qE:=by
 intro _ _ _ h hp;dsimp only[qE,F0,hL]at h;split at h;rotate_left;cases h;split at h<;>cases h
 rename_i a0 a1 a2 a3 a4 a5 a6 a7 a8 a9 aA aB aC aD aE aF aG aH aI aJ aK aL aM aN;have c0:=hp.c0;have c1:=hp.c1;have c2:=hp.c2;have c4:=hp.c4;have c21:=hp.c21;have l21:=aS (es:=aL);refine cb Zj0 Tryz.func183 ?_
 intro O r F hO hr hF;cbv
 repeat' first|apply Zb|(apply bC<;>intro hb<;>cbv)
 all_goals(subst hO hr hF;(try simp only[nc]at*);(try simp only[ah,SS,sa,az]at*);(try simp only[aen,aeQ]at*))
 all_goals first
  | (show(_:List DV)=_
     first
      |(have g0:msB (hpI a0 a1 a2 a3 a4 a5 a6 a7 a8 a9 aA aB aC aD aE aF aG aH aI aJ aK aL aM aN) a3 aI=false:=(by rw[show aI=false by assumption];exact aez);rw[g0];exact rfl)
      |(have g0:msB (hpI a0 a1 a2 a3 a4 a5 a6 a7 a8 a9 aA aB aC aD aE aF aG aH aI aJ aK aL aM aN) a3 aI=false:=aeA Uc;rw[g0];exact rfl)
      |(have g0:msB (hpI a0 a1 a2 a3 a4 a5 a6 a7 a8 a9 aA aB aC aD aE aF aG aH aI aJ aK aL aM aN) a3 aI=false:=aeB Ud;rw[g0];exact rfl)
      |(have g1:msB (hpI a0 a1 a2 a3 a4 a5 a6 a7 a8 a9 aA aB aC aD aE aF aG aH aI aJ aK aL aM aN) a3 aI=true:=Ny Ud Uc Ud;have o1:moB true a0 a1 a2 a3 a4 aJ aK aL aM aN=true:=aeq Ud;rw[g1,o1];exact rfl)
      |(have g1:msB (hpI a0 a1 a2 a3 a4 a5 a6 a7 a8 a9 aA aB aC aD aE aF aG aH aI aJ aK aL aM aN) a3 aI=true:=Ny Ud Uc Ud;have o1:moB true a0 a1 a2 a3 a4 aJ aK aL aM aN=true:=ahW Ud;rw[g1,o1];exact rfl)
      |(have g1:msB (hpI a0 a1 a2 a3 a4 a5 a6 a7 a8 a9 aA aB aC aD aE aF aG aH aI aJ aK aL aM aN) a3 aI=true:=Ny Ud Uc Ud;have o1:moB true a0 a1 a2 a3 a4 aJ aK aL aM aN=false:=ahX Ud Ud;rw[g1,o1];exact rfl)
      |done)
  | (show(_:List H)=_
     first
      |done)
  |omega
  |exact iB
  |exact⟨hp.r0,hp.r1,hp.r2,hp.r4,Uc,Uc,Uc,Uc,hp.r21,Uc⟩
  |exact⟨hp.r0,hp.r1,hp.r2,hp.r4,hp.r21,Uc⟩
  |(have j:=JR (by assumption:C6 a0 a1 a2 a3 a4 aJ aK aL aM aN=true);have k:=xf (Dg j.1).2;exact⟨hp.r0,hp.r1,hp.r2,hp.r4,k.1,Uc,Uc,hp.r21,jbT j.2.1,j.2.2.1,j.2.2.2.1⟩)
  |exact hp
  |exact hp.hp
  |(show ay _ _=true;kernel_rfl)
  |exact⟨Zd,Zd⟩
  |exact Zd
  |done
abbrev Zj2:cT:={
 Φ:=sF
 F0:=F0
 ct:=fun F f=>match f with|364=>ox F|366=>mG F|_=>fun _=>none
 hc:=(by
  intro f;dsimp only;split;exact CU;exact AM;exact cX)
 pt:=fun F f=>match f with|365=>some (mH F)|_=>none
 hp:=(by
  intro f mk h;dsimp only at h;split at h<;>cases h
  exact AN)}
def ri:EP:=fun F=>fun
 |[.mp hl_]=>hM hl_ fun a0 a1 a2 a3 a4 a5 a6 a7 a8 a9 aA aB aC aD aE aF aG aH aI aJ aK aL aM aN=>(fun _=>Jm a0 a1 a2 a4 a5 a6 a7 a8 a9 aA aB aD aL/\hpI a0 a1 a2 a3 a4 a5 a6 a7 a8 a9 aA aB aC aD aE aF aG aH aI aJ aK aL aM aN=true/\a3<=99000/\aI=true,[(hpM (F.mcC true a0 a1 a2 a3 a4 aJ aK aL aM aN) (F.mcU true a0 a1 a2 a3 a4 aJ aK aL aM aN) (F.mcE true a0 a1 a2 a3 a4 aJ aK aL aM aN) (F.mcN true a0 a1 a2 a3 a4 aJ aK aL aM aN) a4 a5 a6 a7 a8 a9 aA aB aC aD aE aF aG aH (F.meB (F.moB true a0 a1 a2 a3 a4 aJ aK aL aM aN) aI) (F.ifN (F.moB true a0 a1 a2 a3 a4 aJ aK aL aM aN) 0 aJ) (F.ifN (F.moB true a0 a1 a2 a3 a4 aJ aK aL aM aN) 0 aK) (F.ifR (F.moB true a0 a1 a2 a3 a4 aJ aK aL aM aN) [] aL) (F.ifN (F.moB true a0 a1 a2 a3 a4 aJ aK aL aM aN) 0 (F.mphN true a0 a1 a2 a3 a4 aJ aK aL aM aN)) (F.ifN (F.moB true a0 a1 a2 a3 a4 aJ aK aL aM aN) 0 (F.mqhN true a0 a1 a2 a3 a4 aJ aK aL aM aN)))],[.k (F.mdB (F.mphN true a0 a1 a2 a3 a4 aJ aK aL aM aN))])
 |_=>none
def AV:ep 309 ri:=by
 intro _ _ _ _ h hp;dsimp only[ri,F0,hM]at h;split at h;rotate_left;cases h;split at h<;>cases h
 rename_i a0 a1 a2 a3 a4 a5 a6 a7 a8 a9 aA aB aC aD aE aF aG aH aI aJ aK aL aM aN;obtain⟨hp,hk,hc,hm⟩:=hp;subst hm;have c0:=hp.c0;have c1:=hp.c1;have c2:=hp.c2;have c4:=hp.c4;have c21:=hp.c21;have l21:=aS (es:=aL);refine pb Zj2 Tryz.func309 ?_
 intro O r os F hO hr hos hF;cbv
 repeat' first|apply Zb|(apply bC<;>intro hb<;>cbv)
 all_goals((try subst hos);subst hO hr hF;(try simp only[nc]at*);(try simp only[ah,SS,sa,az]at*);(try simp only[aen,aeQ]at*))
 all_goals first
  | (show(_:List DV)=_
     first
      |(have q:=mcT (by assumption:C6 a0 a1 a2 a3 a4 aJ aK aL aM aN=true);rw[q.2.2.2.2.1];exact rfl)
      |(have q:=mcF (by assumption:C6 a0 a1 a2 a3 a4 aJ aK aL aM aN=false);rw[q.2.2.2.2.1];exact rfl)
      |done)
  | (show(_:List H)=_
     first
      |(have q:=mcT (by assumption:C6 a0 a1 a2 a3 a4 aJ aK aL aM aN=true);have o:=q.2.2.2.2.2.2;rw[show wq (jsP a2 a3 a4 aJ aK aL aM aN)=true by assumption]at o;rw[q.1,q.2.1,q.2.2.1,q.2.2.2.1,q.2.2.2.2.1,q.2.2.2.2.2.1,o];exact rfl)
      |(have q:=mcT (by assumption:C6 a0 a1 a2 a3 a4 aJ aK aL aM aN=true);have o:=q.2.2.2.2.2.2;rw[show wq (jsP a2 a3 a4 aJ aK aL aM aN)=false by assumption]at o;rw[q.1,q.2.1,q.2.2.1,q.2.2.2.1,q.2.2.2.2.1,q.2.2.2.2.2.1,o];exact rfl)
      |(have q:=mcF (by assumption:C6 a0 a1 a2 a3 a4 aJ aK aL aM aN=false);have o:=q.2.2.2.2.2.2;rw[show wq (aM)=true by assumption]at o;rw[q.1,q.2.1,q.2.2.1,q.2.2.2.1,q.2.2.2.2.1,q.2.2.2.2.2.1,o];exact rfl)
      |(have q:=mcF (by assumption:C6 a0 a1 a2 a3 a4 aJ aK aL aM aN=false);have o:=q.2.2.2.2.2.2;rw[show wq (aM)=false by assumption]at o;rw[q.1,q.2.1,q.2.2.1,q.2.2.2.1,q.2.2.2.2.1,q.2.2.2.2.2.1,o];exact rfl)
      |done)
  |omega
  |exact iB
  |exact⟨hp.r0,hp.r1,hp.r2,hp.r4,Uc,Uc,Uc,Uc,hp.r21,Uc⟩
  |exact⟨hp.r0,hp.r1,hp.r2,hp.r4,hp.r21,Uc⟩
  |(have j:=JR (by assumption:C6 a0 a1 a2 a3 a4 aJ aK aL aM aN=true);have k:=xf (Dg j.1).2;exact⟨hp.r0,hp.r1,hp.r2,hp.r4,k.1,Uc,Uc,hp.r21,jbT j.2.1,j.2.2.1,j.2.2.2.1⟩)
  |exact hp
  |exact hp.hp
  |(show ay _ _=true;kernel_rfl)
  |exact⟨Zd,Zd⟩
  |exact Zd
  |done
def dB:EC:=fun F=>fun
 |[.agg hl_]=>hL hl_ fun a0 a1 a2 a3 a4 a5 a6 a7 a8 a9 aA aB aC aD aE aF aG aH aI aJ aK aL aM aN=>(fun _=>lI (HV.mk a0 a1 a2 a3 a4 a5 a6 a7 a8 a9 aA aB aC aD aE aF aG aH aI aJ aK aL aM aN),[hvD (F.hCp (HV.mk a0 a1 a2 a3 a4 a5 a6 a7 a8 a9 aA aB aC aD aE aF aG aH aI aJ aK aL aM aN))])
 |_=>none
def tQ:ec 36 dB:=by
 intro _ _ _ h hp;dsimp only[dB,F0,hL]at h;split at h;rotate_left;cases h;split at h<;>cases h
 rename_i a0 a1 a2 a3 a4 a5 a6 a7 a8 a9 aA aB aC aD aE aF aG aH aI aJ aK aL aM aN;exact ka _ _ _ rfl hp.c
def dD:EC:=fun F=>fun
 |[.agg hl_]=>hL hl_ fun a0 a1 a2 a3 a4 a5 a6 a7 a8 a9 aA aB aC aD aE aF aG aH aI aJ aK aL aM aN=>(fun _=>lI (HV.mk a0 a1 a2 a3 a4 a5 a6 a7 a8 a9 aA aB aC aD aE aF aG aH aI aJ aK aL aM aN),[.k (F.hOk (HV.mk a0 a1 a2 a3 a4 a5 a6 a7 a8 a9 aA aB aC aD aE aF aG aH aI aJ aK aL aM aN))])
 |_=>none
def xH:ec 17 dD:=by
 intro _ _ _ h hp;dsimp only[dD,F0,hL]at h;split at h;rotate_left;cases h;split at h<;>cases h
 rename_i a0 a1 a2 a3 a4 a5 a6 a7 a8 a9 aA aB aC aD aE aF aG aH aI aJ aK aL aM aN;exact nL _ _ _ rfl hp.c.hp
def hZ:EC:=fun F=>fun
 |[.agg hl_]=>hL hl_ fun a0 a1 a2 a3 a4 a5 a6 a7 a8 a9 aA aB aC aD aE aF aG aH aI aJ aK aL aM aN=>(fun _=>lI (HV.mk a0 a1 a2 a3 a4 a5 a6 a7 a8 a9 aA aB aC aD aE aF aG aH aI aJ aK aL aM aN),[hvD (F.hMt (HV.mk a0 a1 a2 a3 a4 a5 a6 a7 a8 a9 aA aB aC aD aE aF aG aH aI aJ aK aL aM aN)),.k (F.hM1 (HV.mk a0 a1 a2 a3 a4 a5 a6 a7 a8 a9 aA aB aC aD aE aF aG aH aI aJ aK aL aM aN))])
 |_=>none
def sZ:ec 78 hZ:=by
 intro _ _ _ h hp;dsimp only[hZ,F0,hL]at h;split at h;rotate_left;cases h;split at h<;>cases h
 rename_i a0 a1 a2 a3 a4 a5 a6 a7 a8 a9 aA aB aC aD aE aF aG aH aI aJ aK aL aM aN;exact vF _ _ _ rfl hp.c
def iN:EC:=fun F=>fun
 |[.agg hl_]=>hL hl_ fun a0 a1 a2 a3 a4 a5 a6 a7 a8 a9 aA aB aC aD aE aF aG aH aI aJ aK aL aM aN=>(fun _=>lI (HV.mk a0 a1 a2 a3 a4 a5 a6 a7 a8 a9 aA aB aC aD aE aF aG aH aI aJ aK aL aM aN),[hvD (F.hMs (HV.mk a0 a1 a2 a3 a4 a5 a6 a7 a8 a9 aA aB aC aD aE aF aG aH aI aJ aK aL aM aN)),.j (F.hM2 (HV.mk a0 a1 a2 a3 a4 a5 a6 a7 a8 a9 aA aB aC aD aE aF aG aH aI aJ aK aL aM aN)),.k (F.hM3 (HV.mk a0 a1 a2 a3 a4 a5 a6 a7 a8 a9 aA aB aC aD aE aF aG aH aI aJ aK aL aM aN))])
 |_=>none
def tU:ec 183 iN:=by
 intro _ _ _ h hp;dsimp only[iN,F0,hL]at h;split at h;rotate_left;cases h;split at h<;>cases h
 rename_i a0 a1 a2 a3 a4 a5 a6 a7 a8 a9 aA aB aC aD aE aF aG aH aI aJ aK aL aM aN;exact xU _ _ _ rfl hp.c
abbrev Fj0:cT:=dG (fun F f=>match f with|183=>iN F|_=>fun _=>none) (by
 intro f;dsimp only;split;exact tU;exact cX)
attribute [local irreducible] HV.ms HV.ms1 HV.ms2 HV.mt HV.mt1 HV.hp HV.wf HV.ma HV.ma1 uD zf HK J5 Fa
def ju:EO:=fun F=>fun
 |[.agg hl_]=>hL hl_ fun a0 a1 a2 a3 a4 a5 a6 a7 a8 a9 aA aB aC aD aE aF aG aH aI aJ aK aL aM aN=>(fun _=>lI (HV.mk a0 a1 a2 a3 a4 a5 a6 a7 a8 a9 aA aB aC aD aE aF aG aH aI aJ aK aL aM aN),[hvD (F.fj1 (HV.mk a0 a1 a2 a3 a4 a5 a6 a7 a8 a9 aA aB aC aD aE aF aG aH aI aJ aK aL aM aN)),.k (F.fj2 (HV.mk a0 a1 a2 a3 a4 a5 a6 a7 a8 a9 aA aB aC aD aE aF aG aH aI aJ aK aL aM aN))])
 |_=>none
def vJ:eo 77 ju:=by
 intro _ _ _ h hp;dsimp only[ju,F0,hL]at h;split at h;rotate_left;cases h;split at h<;>cases h
 rename_i a0 a1 a2 a3 a4 a5 a6 a7 a8 a9 aA aB aC aD aE aF aG aH aI aJ aK aL aM aN;have fi:=P0 hp;refine abU Fj0 BS mixed 29 _ [53,4] [.cell 2 53,.tmp 3] Tryz.func77 rfl rfl rfl rfl rfl ?_;intro O r F hO hr hF;cbv
 repeat' first|apply Zb|(apply bC<;>intro hb<;>cbv)|(refine⟨[1,2,4],[1,2],Int×HV,fun s_=>match s_ with|(i,h)=>(.reg 4 (.j i)::hvV 1 h),fun s_=>match s_ with|(i,h)=>0<=i/\i<=100/\KQ (uD 100 (HV.mk a0 a1 a2 a3 a4 a5 a6 a7 a8 a9 aA aB aC aD aE aF aG aH aI aJ aK aL aM aN)) (zf 100 (HV.mk a0 a1 a2 a3 a4 a5 a6 a7 a8 a9 aA aB aC aD aE aF aG aH aI aJ aK aL aM aN)) h i,fun s_=>match s_ with|(i,h)=>(100-i).toNat,⟨(0,(HV.mk a0 a1 a2 a3 a4 a5 a6 a7 a8 a9 aA aB aC aD aE aF aG aH aI aJ aK aL aM aN)),?_,?_⟩,?_⟩;rotate_left;(focus (cbv;done));intro s_ hi;obtain⟨i,h⟩:=s_;replace hi:0<=i/\i<=100/\KQ (uD 100 (HV.mk a0 a1 a2 a3 a4 a5 a6 a7 a8 a9 aA aB aC aD aE aF aG aH aI aJ aK aL aM aN)) (zf 100 (HV.mk a0 a1 a2 a3 a4 a5 a6 a7 a8 a9 aA aB aC aD aE aF aG aH aI aJ aK aL aM aN)) h i:=hi;obtain⟨i0,i1,i2⟩:=hi;cbv)|(refine af (O.ar .add Za i 1,(F.hMs (SD O h))) ?_ ?_ ?_;focus (cbv;done))
 all_goals(try simp only[SD,K0]at*)
 all_goals(subst hO hr hF;(try simp only[nc]at*);(try simp only[ah,SS,sa,az]at*);(try simp only[wh]at*))
 all_goals first|omega|exact Zd|exact⟨Uc,Uc,fi⟩|exact⟨Zd,Zd⟩|(show ay _ _=true;kernel_rfl)|skip
 all_goals((try have P:KQ _ _ h i:=Ud);(try have w:=P.c);(try have z1:bK .add Za i 1=i+1:=bD Uc);(try have t:=P.step Uc Ud))
 all_goals first|omega|exact w|(rw[z1];exact t.2.2 Ud Ud)|(rw[z1];omega)|(have e:=P.end1 Uc;rw[<-e.1, <-e.2]<;>rfl)|(have e:=P.end2 Ud;rw[<-e.1, <-e.2]<;>rfl)|(have e:=t.1 Ud;rw[<-e.1, <-e.2]<;>rfl)|(have e:=t.2.1 Ud Ud;rw[<-e.1, <-e.2]<;>rfl)|done
abbrev Fj1:cT:={
 Φ:=sF
 F0:=F0
 ct:=fun F f=>match f with|36=>dB F|17=>dD F|33=>ai F|78=>hZ F|_=>fun _=>none
 hc:=(by
  intro f;dsimp only;split;exact tQ;exact xH;exact aU;exact sZ;exact cX)
 ot:=fun F f=>match f with|77=>some (ju F)|_=>none
 ho:=(by
  intro f mk h;dsimp only at h;split at h<;>cases h
  exact vJ)}
def fk:EC:=fun F=>fun
 |[.agg hl_,.one (.v (.int Za m))]=>hL hl_ fun a0 a1 a2 a3 a4 a5 a6 a7 a8 a9 aA aB aC aD aE aF aG aH aI aJ aK aL aM aN=>(fun _=>lI (HV.mk a0 a1 a2 a3 a4 a5 a6 a7 a8 a9 aA aB aC aD aE aF aG aH aI aJ aK aL aM aN)/\I64 m,[hvD (F.hMa (HV.mk a0 a1 a2 a3 a4 a5 a6 a7 a8 a9 aA aB aC aD aE aF aG aH aI aJ aK aL aM aN) m),.j (F.hMN (HV.mk a0 a1 a2 a3 a4 a5 a6 a7 a8 a9 aA aB aC aD aE aF aG aH aI aJ aK aL aM aN) m)])
 |_=>none
def zS:ec 21 fk:=by
 intro _ _ _ h hp;dsimp only[fk,F0,hL]at h;split at h;rotate_left;cases h;split at h<;>cases h
 rename_i m _ a0 a1 a2 a3 a4 a5 a6 a7 a8 a9 aA aB aC aD aE aF aG aH aI aJ aK aL aM aN;have ma1:=Qn (m:=m) hp.1;have ma0:=S5 (h:=(HV.mk a0 a1 a2 a3 a4 a5 a6 a7 a8 a9 aA aB aC aD aE aF aG aH aI aJ aK aL aM aN)) (m:=m);refine Ml Fj1 BS mixed 58 [false,false,true,false,true,true,false,false] _ [53,3] [.cell 4 53,.tmp 5] Tryz.func21 rfl rfl rfl rfl rfl ?_;intro O r F hO hr hF;cbv;have hsb:∀ x:ab,O.sub x 0 (O.ln x)=x:=by intro x;rw[hO];exact sa
 repeat' first|apply Zb|(apply bC<;>intro hb<;>cbv)|(refine⟨[1,4,6,7],[4,6],Int×Int×HV,fun s_=>match s_ with|(q,n,h)=>(.reg 1 (.j q):: .reg 7 (.j n)::hvV 6 h),fun s_=>match s_ with|(q,n,h)=>0<=q/\q<=20/\Js (HV.ma (HV.mk a0 a1 a2 a3 a4 a5 a6 a7 a8 a9 aA aB aC aD aE aF aG aH aI aJ aK aL aM aN) m) (HV.ma1 (HV.mk a0 a1 a2 a3 a4 a5 a6 a7 a8 a9 aA aB aC aD aE aF aG aH aI aJ aK aL aM aN) m) h q n,fun s_=>match s_ with|(q,n,h)=>q.toNat,⟨(m,0,F.fj1 (F.hCp (HV.mk a0 a1 a2 a3 a4 a5 a6 a7 a8 a9 aA aB aC aD aE aF aG aH aI aJ aK aL aM aN))),?_,?_⟩,?_⟩;rotate_left;(focus (cbv;done));intro s_ hq;obtain⟨q,n,h⟩:=s_;replace hq:0<=q/\q<=20/\Js (HV.ma (HV.mk a0 a1 a2 a3 a4 a5 a6 a7 a8 a9 aA aB aC aD aE aF aG aH aI aJ aK aL aM aN) m) (HV.ma1 (HV.mk a0 a1 a2 a3 a4 a5 a6 a7 a8 a9 aA aB aC aD aE aF aG aH aI aJ aK aL aM aN) m) h q n:=hq;obtain⟨q0,q1,q2⟩:=hq;cbv)|(refine⟨[1,4,6,7],[4,6],Int×Int×HV,fun s_=>match s_ with|(q,n,h)=>(.reg 1 (.j q):: .reg 7 (.j n)::hvV 6 h),fun s_=>match s_ with|(q,n,h)=>0<=q/\q<=20/\Js (HV.ma (HV.mk a0 a1 a2 a3 a4 a5 a6 a7 a8 a9 aA aB aC aD aE aF aG aH aI aJ aK aL aM aN) m) (HV.ma1 (HV.mk a0 a1 a2 a3 a4 a5 a6 a7 a8 a9 aA aB aC aD aE aF aG aH aI aJ aK aL aM aN) m) h q n,fun s_=>match s_ with|(q,n,h)=>q.toNat,⟨(m,O.ar .add Za 0 1,F.fj1 (F.hCp (HV.mk a0 a1 a2 a3 a4 a5 a6 a7 a8 a9 aA aB aC aD aE aF aG aH aI aJ aK aL aM aN))),?_,?_⟩,?_⟩;rotate_left;(focus (cbv;done));intro s_ hq;obtain⟨q,n,h⟩:=s_;replace hq:0<=q/\q<=20/\Js (HV.ma (HV.mk a0 a1 a2 a3 a4 a5 a6 a7 a8 a9 aA aB aC aD aE aF aG aH aI aJ aK aL aM aN) m) (HV.ma1 (HV.mk a0 a1 a2 a3 a4 a5 a6 a7 a8 a9 aA aB aC aD aE aF aG aH aI aJ aK aL aM aN) m) h q n:=hq;obtain⟨q0,q1,q2⟩:=hq;cbv)|(refine af (O.ar .sub Za q 1,n,(F.hMt (SD O h))) ?_ ?_ ?_;focus (cbv;done))|(refine af (O.ar .sub Za q 1,O.ar .add Za n 1,(F.fj1 (K0 (F.hMt (SD O h))))) ?_ ?_ ?_;focus (cbv;done))|(refine af (O.ar .sub Za q 1,n,(F.fj1 (K0 (F.hMt (SD O h))))) ?_ ?_ ?_;focus (cbv;done))|((try simp only[hsb,wh]);refine⟨[0,1,2,3,4,5,6,7,8,9,10],[0,1,2,3,4,5,6,7,8,9,10],?_,?_⟩;(focus (cbv;done));cbv)
 all_goals(try simp only[SD,K0]at*)
 all_goals(subst hO hr hF;(try simp only[nc]at*);(try simp only[ah,SS,sa,az]at*);(try simp only[wh,HV.cp]at*))
 all_goals first|omega|exact Zd|exact⟨Zd,Zd⟩|exact hp.1|exact lI.fj hp.1|(show ay _ _=true;kernel_rfl)|skip
 all_goals((try have P:Js _ _ h q n:=Ud);(try have w:=P.c);(try have z1:bK .sub Za q 1=q-1:=dp Uc);(try have t:=P.step Uc);(try have g:=aem (h:=(HV.mk a0 a1 a2 a3 a4 a5 a6 a7 a8 a9 aA aB aC aD aE aF aG aH aI aJ aK aL aM aN)) (m:=m) Ud (show¬ (a3:Int)>90000 by omega) Ud);(try have r:=bz.1 (show inR m 0 20=true from Ud)))
 all_goals first|omega|exact w|exact w.mt|exact lI.fj w.mt|exact(ma1 g).1 Ud|exact(ma1 g).2 Ud|(rw[z1];exact t.1 Ud)|(rw[z1];exact t.2.1 Ud Ud)|(rw[z1];exact t.2.2 Ud Ud)|(rw[z1];omega)|(have e:=P.fin Uc;rw[<-e.1, <-e.2]<;>rfl)|(have e:=ma0 (aej Ud);rw[e.1,e.2]<;>rfl)|(have e:=ma0 (aek (h:=(HV.mk a0 a1 a2 a3 a4 a5 a6 a7 a8 a9 aA aB aC aD aE aF aG aH aI aJ aK aL aM aN)) (show(a3:Int)>90000 by omega));rw[e.1,e.2]<;>rfl)|(have e:=ma0 (ael Ud);rw[e.1,e.2]<;>rfl)|done
end Go.V