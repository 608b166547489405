/- Contracts. -/
import Derived.Test.YtpldpilhgjpkjaaGreatWHoCv
set_option linter.all false
open Go
open And renaming intro->Zb
open IntKind renaming i64->Za
open List renaming length_set->ZH
open True renaming intro->Zd
namespace Go.V
open Go Go.Proofs
set_option maxRecDepth 1000000
set_option maxHeartbeats 8000000
abbrev Zg0:cT:=dG (fun F f=>match f with|133=>bY F|329=>ez F|297=>eZ F|_=>fun _=>none) (by
 intro f;dsimp only;split;exact eP;exact mY;exact gV;exact cX)
def lY:EC:=fun F=>fun
 |[.agg [.s 1 cs,.s 1 us,.s 2 es,.v (.int Za c),.s 1 rs]]=>some (fun _=>Rw [.sl [tI]] cs/\Rw [tB] us/\Rw [tI,tI] es/\Rw [tI] rs/\au cs<=1099511627776/\au us<=1099511627776/\au es<=1099511627776/\au rs<=1099511627776/\0<=c/\c<=100000,[.agg [.s 1 cs,.s 1 us,.s 2 es,.i (F.c1N c),.s 1 rs],.k (F.nhR rs c)])
 |_=>none
def zU:ec 333 lY:=by
 intro _ _ _ h hp;dsimp only[lY,F0]at h;split at h<;>cases h
 rename_i cs us es c rs;obtain⟨wc,wu,we,wr,k1,k2,k3,k4,c0,c1⟩:=hp;have l4:=aS (es:=rs);have e1:bK .add Za c 1=c+1:=bD Uc;refine cb Zg0 Tryz.func333 ?_
 intro O r F hO hr hF;cbv
 repeat' first|apply Zb|(apply bC<;>intro hb<;>cbv)
 all_goals(subst hO hr hF;(try simp only[nc]at*);(try simp only[ah,SS,sa,az]at*);(try simp only[e1]at*))
 all_goals first|(show(_:List DV)=_;exact rfl)|exact⟨wc,wu,we,wr,k1,k2,k3,k4⟩|exact⟨wr,Uc⟩|(show ay _ _=true;kernel_rfl)|exact⟨Zd,Zd⟩|exact Zd|done
def mE:EP:=fun F=>fun
 |[.mp [.own (.s 1 cs),.own (.s 1 us),.own (.s 2 es),.own (.v (.int Za c)),.own (.s 1 rs)]]=>some (fun _=>Rw [tI] rs/\0<=c/\c<=100000,[[.own (.s 1 cs),.own (.s 1 us),.own (.s 2 es),.own (.i (F.c1N c)),.own (.s 1 rs)]],[.k (F.nhR rs c)])
 |_=>none
def AI:ep 413 mE:=by
 intro _ _ _ _ h hp;dsimp only[mE,F0]at h;split at h<;>cases h
 rename_i cs us es c rs;obtain⟨wr,c0,c1⟩:=hp;have e1:bK .add Za c 1=c+1:=bD Uc;have e2:bK .sub Za (c+1) 1=c:=(dp Uc).trans Uc;refine pb Zg0 Tryz.func413 ?_
 intro O r os F hO hr hos hF;cbv
 repeat' first|apply Zb|(apply bC<;>intro hb<;>cbv)
 all_goals((try subst hos);subst hO hr hF;(try simp only[nc]at*);(try simp only[ah,SS,sa,az]at*);(try simp only[e1]at*);(try simp only[e2]at*))
 all_goals first|(show(_:List DV)=_;exact rfl)|(show(_:List H)=_;exact rfl)|exact wr|(show ay _ _=true;kernel_rfl)|exact⟨Zd,Zd⟩|exact Zd|done
abbrev Zg1:cT:={
 Φ:=sF
 F0:=F0
 ct:=fun F f=>match f with|133=>bY F|269=>cZ F|333=>lY F|170=>fR F|398=>gw F|92=>ai F|_=>fun _=>none
 hc:=(by
  intro f;dsimp only;split;exact eP;exact lO;exact zU;exact jQ;exact lV;exact bi;exact cX)
 pt:=fun F f=>match f with|270=>some (ft F)|413=>some (mE F)|414=>some (ft F)|_=>none
 hp:=(by
  intro f mk h;dsimp only at h;split at h<;>cases h
  exact zX;exact AI;exact AK)}
def kn:EC:=fun F=>fun
 |[.agg [.s 1 cs,.s 1 us,.s 2 es,.v (.int Za c),.s 1 rs],.one (.v (.int Za p)),.one (.v (.int Za m))]=>some (fun _=>Rw [.sl [tI]] cs/\Rw [tB] us/\Rw [tI,tI] es/\Rw [tI] rs/\au cs<=1099511627776/\au us<=1099511627776/\au es<=1099511627776/\au rs<=1099511627776,[.agg [.s 1 cs,.s 1 us,.s 2 (F.kqE (F.ccB cs us es c rs) es c rs p m),.i (F.kqN (F.ccB cs us es c rs) c),.s 1 rs],.k (F.kqB (F.ccB cs us es c rs) es c rs p m)])
 |_=>none
def xJ:ec 344 kn:=by
 intro _ _ _ h hp;dsimp only[kn,F0]at h;split at h<;>cases h
 rename_i cs us es c rs p m;obtain⟨wc,wu,we,wr,k1,k2,k3,k4⟩:=hp;refine cb Zg1 Tryz.func344 ?_
 intro O r F hO hr hF;cbv
 repeat' first|apply Zb|(apply bC<;>intro hb<;>cbv)
 all_goals(subst hO hr hF;(try simp only[nc]at*);(try simp only[ah,SS,sa,az]at*);(try have cc:=Dg (cs:=cs) (us:=us) (es:=es) (c:=c) (rs:=rs) Ud);(try have kr:=xf cc.2);(try have km:=kr.1);(try have c0:=kr.2.1);(try have c1:=kr.2.2.1);(try have nh:nhR rs c=true:=Ud);(try have mp:mapB es p=true:=(by first|assumption|exact VB Ud));(try have at_:=lB mp);(try have p0:=at_.1.1);(try have p1:=at_.1.2);(try have pf:=at_.2.2.1))
 all_goals first
  | (show(_:List DV)=_
     first
      |(exfalso;have q:false=true:=Ud;cases q)
      |(rw[show ccB cs us es c rs=false from Ud];exact rfl)
      |(have q:=abl (es:=es) (p:=p) (m:=m) (rs:=rs) (c:=c) Ud;rw[show ccB cs us es c rs=true from Ud];exact o8 rfl rfl (K5 q).symm rfl rfl q.symm)
      |(have q:=adT (es:=es) (p:=p) (m:=m) (rs:=rs) (c:=c) Ud;rw[show ccB cs us es c rs=true from Ud];exact o8 rfl rfl (K5 q).symm rfl rfl q.symm)
      |(have q:=abm (es:=es) (p:=p) (m:=m) (rs:=rs) (c:=c) Uc;rw[show ccB cs us es c rs=true from Ud];exact o8 rfl rfl (K5 q).symm rfl rfl q.symm)
      |(have q:=abn (m:=m) nh mp Uc;rw[show ccB cs us es c rs=true from Ud];exact o8 rfl rfl ((afS we p0 p1 pf).trans (adU q).symm) rfl rfl q.symm)
      |done)
  |omega
  |exact⟨wc,wu,we,wr,k1,k2,k3,k4,c0,c1⟩
  |exact⟨wc,wu,we,wr,k1,k2,k3,k4⟩
  |exact⟨wc,wu,we,wr⟩
  |exact we
  |exact af5 we p0 p1 (by decide)
  |(show ay _ _=true;kernel_rfl)
  |exact⟨Zd,Zd⟩
  |exact Zd
  |done
def gd:EP:=fun F=>fun
 |[.mp [.own (.s 1 cs),.own (.s 1 us),.own (.s 2 es),.own (.v (.int Za c)),.own (.s 1 rs)],.one (.v (.int Za p)),.one (.v (.int Za m))]=>some (fun _=>Rw [.sl [tI]] cs/\Rw [tB] us/\Rw [tI,tI] es/\Rw [tI] rs/\oR cs us es/\0<=c/\c<=100000,[[.own (.s 1 cs),.own (.s 1 us),.own (.s 2 (F.kpE es c rs p m)),.own (.i (F.c1N c)),.own (.s 1 rs)]],[.k (F.kpB es c rs p m)])
 |_=>none
def nq:ep 399 gd:=by
 intro _ _ _ _ h hp;dsimp only[gd,F0]at h;split at h<;>cases h
 rename_i cs us es c rs p m;obtain⟨wc,wu,we,wr,km,c0,c1⟩:=hp;refine pb Zg1 Tryz.func399 ?_
 intro O r os F hO hr hos hF;cbv
 repeat' first|apply Zb|(apply bC<;>intro hb<;>cbv)
 all_goals((try subst hos);subst hO hr hF;(try simp only[nc]at*);(try simp only[ah,SS,sa,az]at*);(try have nh:nhR rs c=true:=Ud);(try have mp:mapB es p=true:=(by first|assumption|exact VB Ud));(try have at_:=lB mp);(try have p0:=at_.1.1);(try have p1:=at_.1.2);(try have pf:=at_.2.2.1))
 all_goals first
  | (show(_:List DV)=_
     first
      |exact aj (abl Ud).symm
      |exact aj (SP Ud).symm
      |exact aj (abm (fun e=>by have r:=uJ.1 (by assumption:inR m 1 2=false);omega)).symm
      |exact aj (abn nh mp (by have:=bz.1 (by assumption:inR m 1 2=true);omega)).symm
      |done)
  | (show(_:List H)=_
     first
      |(have q:=K5 (abl (es:=es) (p:=p) (m:=m) (rs:=rs) (c:=c) Ud);rw[q];exact rfl)
      |(have q:=K5 (SP (es:=es) (p:=p) (m:=m) (rs:=rs) (c:=c) Ud);rw[q];exact rfl)
      |(have q:=K5 (abm (es:=es) (p:=p) (m:=m) (rs:=rs) (c:=c) (fun e=>by have r:=uJ.1 (by assumption:inR m 1 2=false);omega));rw[q];exact rfl)
      |(have q:=adU (abn (m:=m) nh mp (by have:=bz.1 (by assumption:inR m 1 2=true);omega));rw[q,afS we p0 p1 pf];exact rfl)
      |done)
  |omega
  |exact⟨wr,c0,c1⟩
  |exact we
  |exact af5 we p0 p1 (by decide)
  |(show ay _ _=true;kernel_rfl)
  |exact⟨Zd,Zd⟩
  |exact Zd
  |done
def nQ:EC:=fun F=>fun
 |[.agg [.s 1 cs,.s 1 us,.s 2 es,.v (.int Za c),.s 1 rs],.one (.v (.int Za p)),.one (.v (.int Za q))]=>some (fun _=>Rw [.sl [tI]] cs/\Rw [tB] us/\Rw [tI,tI] es/\Rw [tI] rs/\au cs<=1099511627776/\au us<=1099511627776/\au es<=1099511627776/\au rs<=1099511627776,[.agg [.s 1 (F.krC (F.ccB cs us es c rs) cs es c rs p q),.s 1 (F.krU (F.ccB cs us es c rs) us es c rs p q),.s 2 (F.krE (F.ccB cs us es c rs) es c rs p q),.i (F.kqN (F.ccB cs us es c rs) c),.s 1 rs],.k (F.krB (F.ccB cs us es c rs) es c rs p q)])
 |_=>none
def Cl:ec 346 nQ:=by
 intro _ _ _ h hp;dsimp only[nQ,F0]at h;split at h<;>cases h
 rename_i cs us es c rs p q;obtain⟨wc,wu,we,wr,k1,k2,k3,k4⟩:=hp;refine cb Zg1 Tryz.func346 ?_
 intro O r F hO hr hF;cbv
 repeat' first|apply Zb|(apply bC<;>intro hb<;>cbv)
 all_goals(subst hO hr hF;(try simp only[nc]at*);(try simp only[ah,SS,sa,az]at*);(try have cc:=Dg (cs:=cs) (us:=us) (es:=es) (c:=c) (rs:=rs) Ud);(try have kr:=xf cc.2);(try have km:=kr.1);(try have c0:=kr.2.1);(try have c1:=kr.2.2.1);(try have nh:nhR rs c=true:=Ud);(try have mp:mapB es p=true:=(by first|assumption|exact VB Ud));(try have at_:=lB mp);(try have p0:=at_.1.1);(try have p1:=at_.1.2);(try have pf:=at_.2.2.1);(try have mq:mapB es q=true:=(by first|assumption|exact VB Ud));(try have aq:=lB mq);(try have q0:=aq.1.1);(try have q1:=aq.1.2);(try have qf:=aq.2.2.1);(try have fr:=uO km mp);(try have fq:=uO km mq);(try have cn:=km.n1);(try have en:=km.e1);(try have ul:=km.u);(try simp only[pe (l:=es) (sz:=2) (j:=1) (i:=p) p0]at*);(try simp only[pe (l:=es) (sz:=2) (j:=1) (i:=q) q0]at*);(try have um:=TM (m:=2) (f:=ag es q 1) we p0 p1);(try simp only[um]at*);(try have rm:=QP (p:=p) (m:=2) (f:=ag es q 1) we Uc Uc);(try have ll:(so es p 2 (ag es q 1)).length=es.length:=ZH))
 all_goals first
  | (show(_:List DV)=_
     first
      |(exfalso;have q:false=true:=Ud;cases q)
      |(rw[show ccB cs us es c rs=false from Ud];exact rfl)
      |(have z:=abf (es:=es) (p:=p) (q:=q) (rs:=rs) (c:=c) Ud;have y:=GN (cs:=cs) (us:=us) z;rw[show ccB cs us es c rs=true from Ud];exact o8 y.1.symm y.2.1.symm y.2.2.symm rfl rfl z.symm)
      |(have z:=abg (es:=es) (p:=p) (q:=q) (rs:=rs) (c:=c) Ud;have y:=GN (cs:=cs) (us:=us) z;rw[show ccB cs us es c rs=true from Ud];exact o8 y.1.symm y.2.1.symm y.2.2.symm rfl rfl z.symm)
      |(have z:=abh (es:=es) (p:=p) (q:=q) (rs:=rs) (c:=c) Ud;have y:=GN (cs:=cs) (us:=us) z;rw[show ccB cs us es c rs=true from Ud];exact o8 y.1.symm y.2.1.symm y.2.2.symm rfl rfl z.symm)
      |(have z:=abi (es:=es) (p:=p) (q:=q) (rs:=rs) (c:=c) Uc;have y:=GN (cs:=cs) (us:=us) z;rw[show ccB cs us es c rs=true from Ud];exact o8 y.1.symm y.2.1.symm y.2.2.symm rfl rfl z.symm)
      |(have z:=abj nh mp mq Ud;have y:=adS (cs:=cs) (us:=us) z;rw[pf,qf]at y;rw[show ccB cs us es c rs=true from Ud];exact o8 y.1.symm y.2.1.symm y.2.2.symm rfl rfl z.symm)
      |done)
  |omega
  |exact⟨wc,wu,we,wr,k1,k2,k3,k4,c0,c1⟩
  |exact⟨wc,wu,we,wr,k1,k2,k3,k4⟩
  |exact⟨wc,wu,we,wr⟩
  |exact we
  |exact TZ we p0 p1
  |exact Ir we p0 p1 (by decide)
  |exact Ir we q0 q1 (by decide)
  |exact⟨wc,wu,rm,Uc,fr.1,fr.2,ul⟩
  |(show ay _ _=true;kernel_rfl)
  |exact⟨Zd,Zd⟩
  |exact Zd
  |done
def pL:EP:=fun F=>fun
 |[.mp [.own (.s 1 cs),.own (.s 1 us),.own (.s 2 es),.own (.v (.int Za c)),.own (.s 1 rs)],.one (.v (.int Za p)),.one (.v (.int Za q))]=>some (fun _=>Rw [.sl [tI]] cs/\Rw [tB] us/\Rw [tI,tI] es/\Rw [tI] rs/\oR cs us es/\0<=c/\c<=100000,[[.own (.s 1 (F.koC cs es c rs p q)),.own (.s 1 (F.koU us es c rs p q)),.own (.s 2 (F.koE es c rs p q)),.own (.i (F.c1N c)),.own (.s 1 rs)]],[.k (F.koB es c rs p q)])
 |_=>none
def EF:ep 401 pL:=by
 intro _ _ _ _ h hp;dsimp only[pL,F0]at h;split at h<;>cases h
 rename_i cs us es c rs p q;obtain⟨wc,wu,we,wr,km,c0,c1⟩:=hp;refine pb Zg1 Tryz.func401 ?_
 intro O r os F hO hr hos hF;cbv
 repeat' first|apply Zb|(apply bC<;>intro hb<;>cbv)
 all_goals((try subst hos);subst hO hr hF;(try simp only[nc]at*);(try simp only[ah,SS,sa,az]at*);(try have nh:nhR rs c=true:=Ud);(try have mp:mapB es p=true:=(by first|assumption|exact VB Ud));(try have at_:=lB mp);(try have p0:=at_.1.1);(try have p1:=at_.1.2);(try have pf:=at_.2.2.1);(try have mq:mapB es q=true:=(by first|assumption|exact VB Ud));(try have aq:=lB mq);(try have q0:=aq.1.1);(try have q1:=aq.1.2);(try have qf:=aq.2.2.1);(try have fr:=uO km mp);(try have fq:=uO km mq);(try have cn:=km.n1);(try have en:=km.e1);(try have ul:=km.u);(try simp only[pe (l:=es) (sz:=2) (j:=1) (i:=p) p0]at*);(try simp only[pe (l:=es) (sz:=2) (j:=1) (i:=q) q0]at*);(try have um:=TM (m:=2) (f:=ag es q 1) we p0 p1);(try simp only[um]at*);(try have rm:=QP (p:=p) (m:=2) (f:=ag es q 1) we Uc Uc);(try have ll:(so es p 2 (ag es q 1)).length=es.length:=ZH))
 all_goals first
  | (show(_:List DV)=_
     first
      |exact aj (abf Ud).symm
      |exact aj (abg (VC (fun n=>n Ud))).symm
      |exact aj (abh (VC (fun n=>n Ud))).symm
      |exact aj (abi Ud).symm
      |exact aj (abj nh mp mq Ud).symm
      |done)
  | (show(_:List H)=_
     first
      |(have y:=GN (cs:=cs) (us:=us) (abf (es:=es) (p:=p) (q:=q) (rs:=rs) (c:=c) Ud);rw[y.1,y.2.1,y.2.2];exact rfl)
      |(have y:=GN (cs:=cs) (us:=us) (abg (es:=es) (p:=p) (q:=q) (rs:=rs) (c:=c) (VC (fun n=>n Ud)));rw[y.1,y.2.1,y.2.2];exact rfl)
      |(have y:=GN (cs:=cs) (us:=us) (abh (es:=es) (p:=p) (q:=q) (rs:=rs) (c:=c) (VC (fun n=>n Ud)));rw[y.1,y.2.1,y.2.2];exact rfl)
      |(have y:=GN (cs:=cs) (us:=us) (abi (es:=es) (p:=p) (q:=q) (rs:=rs) (c:=c) Ud);rw[y.1,y.2.1,y.2.2];exact rfl)
      |(have y:=adS (cs:=cs) (us:=us) (abj nh mp mq Ud);rw[pf,qf]at y;rw[y.1,y.2.1,y.2.2];exact rfl)
      |done)
  |omega
  |exact⟨wr,c0,c1⟩
  |exact we
  |exact TZ we p0 p1
  |exact Ir we p0 p1 (by decide)
  |exact Ir we q0 q1 (by decide)
  |exact⟨wc,wu,rm,Uc,fr.1,fr.2,ul⟩
  |(show ay _ _=true;kernel_rfl)
  |exact⟨Zd,Zd⟩
  |exact Zd
  |done
abbrev Zh0:cT:=dG (fun F f=>match f with|133=>bY F|269=>cZ F|170=>fR F|282=>jT F|54=>bM F|398=>gw F|92=>ai F|_=>fun _=>none) (by
 intro f;dsimp only;split;exact eP;exact lO;exact jQ;exact sM;exact dV;exact lV;exact bi;exact cX)
def pE:EC:=fun F=>fun
 |[.agg [.s 1 cs,.s 1 us,.s 2 es,.v (.int Za c),.s 1 rs],.one (.v (.int Za p)),.one (.v (.int Za q)),.one (.s 1 xs)]=>some (fun _=>Rw [.sl [tI]] cs/\Rw [tB] us/\Rw [tI,tI] es/\Rw [tI] rs/\au cs<=1099511627776/\au us<=1099511627776/\au es<=1099511627776/\au rs<=1099511627776/\Rw [tI] xs/\xs.length=1,[.agg [.s 1 (F.kdC (F.ccB cs us es c rs) cs es p q xs),.s 1 us,.s 2 es,.i c,.s 1 rs],.k (F.kdB (F.ccB cs us es c rs) es p q xs)])
 |_=>none
def Eu:ec 345 pE:=by
 intro _ _ _ h hp;dsimp only[pE,F0]at h;split at h<;>cases h
 rename_i cs us es c rs p q xs;obtain⟨wc,wu,we,wr,k1,k2,k3,k4,wx,lx⟩:=hp;refine cb Zh0 Tryz.func345 ?_
 intro O r F hO hr hF;cbv
 repeat' first|apply Zb|(apply bC<;>intro hb<;>cbv)|(refine⟨[4,8,10,11,12,45,46,47],[4,8,10],Int×ab,fun s_=>match s_ with|(i,d)=>[.reg 47 (.j i),.leaf 10 0 ⟨0,0,none,.own (.s 1 d)⟩],fun s_=>match s_ with|(i,d)=>0<=i/\i<=(xs.length:Int)/\Rv cs es p q xs i d,fun s_=>match s_ with|(i,d)=>xs.length-i.toNat,⟨(0,cs),?_,?_⟩,?_⟩;rotate_left;(focus (cbv;done));intro s_ hi;obtain⟨i,d⟩:=s_;replace hi:0<=i/\i<=(xs.length:Int)/\Rv cs es p q xs i d:=hi;obtain⟨i0,i1,i2⟩:=hi;cbv)|(refine af (O.ar .add Za i 1,O.up (.s 1 d) [(O.ad 0 (F.peF es q),0),(O.ad 0 (O.gi xs i 0),0)] [.i (O.gi (O.gs cs (F.peF es p) 0) (O.gi xs i 0) 0)]) ?_ ?_ ?_;focus (cbv;done))
 all_goals(subst hO hr hF;(try simp only[nc]at*);(try simp only[ah,SS,sa,az]at*);(try simp only[BB]at*);(try rw[dd Uc Uc]);(try have cc:=Dg (cs:=cs) (us:=us) (es:=es) (c:=c) (rs:=rs) Ud);(try have km:=(xf cc.2).1);(try have mp:mapB es p=true:=Ud);(try have mq:mapB es q=true:=Ud);(try have fp:=uU km (VG mp));(try have fq:=uU km (VG mq));(try have xi:=bz.1 (by assumption:inR (ag xs i 0) 0 15=true));(try have lp:=km.l (peF es p) fp.1 fp.2);(try have lq:=km.l (peF es q) fq.1 fq.2);(try have d0:=i2.z Uc);(try have dw:Rw [.sl [tI]] d:=(by rw[d0];exact wc));(try have gp:=OG wc fp.1 fp.2);(try have dl:d.length=cs.length:=(by rw[d0])))
 all_goals first
  | (show(_:List DV)=_
     first
      |(rw[show ccB cs us es c rs=false from Ud];exact rfl)
      |(have z:=aa7 (es:=es) (p:=p) (q:=q) (xs:=xs) Ud;rw[show ccB cs us es c rs=true from Ud];exact o8 (K4 z).symm rfl rfl rfl rfl z.symm)
      |(have z:=aa8 (es:=es) (p:=p) (q:=q) (xs:=xs) Ud;rw[show ccB cs us es c rs=true from Ud];exact o8 (K4 z).symm rfl rfl rfl rfl z.symm)
      |(have e0:i=0:=Uc;subst e0;have z:=aa9 (es:=es) (p:=p) (q:=q) (xs:=xs) Ud;rw[show ccB cs us es c rs=true from Ud];exact o8 (K4 z).symm rfl rfl rfl rfl z.symm)
      |(have z:=aba mp mq i2 Uc;rw[show ccB cs us es c rs=true from Ud];exact o8 z.2 rfl rfl rfl rfl z.1.symm)
      |done)
  |omega
  |exact iB
  |exact⟨wc,wu,we,wr,k1,k2,k3,k4⟩
  |exact⟨wc,wu,we,wr⟩
  |exact we
  |exact SN
  |(rw[Rh dw fq.1 (by rw[d0];exact fq.2) Uc (by rw[d0];omega)];exact SO i2 i0 Uc Ud)
  |exact JK dw fq.1 (by rw[d0];exact fq.2) Uc (by rw[d0];omega)
  |exact uI dw fq.1 (by rw[d0];exact fq.2)
  |exact⟨Uc,by rw[d0];omega,rn dw fq.1 (by rw[d0];exact fq.2)⟩
  |(show ay _ _=true;kernel_rfl)
  |exact⟨Zd,Zd⟩
  |exact Zd
  |done
def kX:EP:=fun F=>fun
 |[.mp [.own (.s 1 cs),.own (.s 1 us),.own (.s 2 es),.own (.v (.int Za c)),.own (.s 1 rs)],.one (.v (.int Za p)),.one (.v (.int Za q)),.one (.s 1 xs)]=>some (fun _=>Rw [.sl [tI]] cs/\Rw [tB] us/\Rw [tI,tI] es/\Rw [tI] rs/\oR cs us es/\Rw [tI] xs/\xs.length=1,[[.own (.s 1 (F.kcC cs es p q xs)),.own (.s 1 us),.own (.s 2 es),.own (.i c),.own (.s 1 rs)]],[.k (F.kcB es p q xs)])
 |_=>none
def yK:ep 400 kX:=by
 intro _ _ _ _ h hp;dsimp only[kX,F0]at h;split at h<;>cases h
 rename_i cs us es c rs p q xs;obtain⟨wc,wu,we,wr,km,wx,lx⟩:=hp;refine pb Zh0 Tryz.func400 ?_
 intro O r os F hO hr hos hF;cbv
 repeat' first|apply Zb|(apply bC<;>intro hb<;>cbv)|(refine⟨[0,1,2,3,9],[0],Int,fun i=>[.reg 9 (.j i)],fun i=>0<=i/\i<=(xs.length:Int)/\(0<i->inR (ag xs 0 0) 0 15=true),fun i=>xs.length-i.toNat,⟨0,?_,?_⟩,?_⟩;rotate_left;(focus (cbv;done));intro i hi;replace hi:0<=i/\i<=(xs.length:Int)/\(0<i->inR (ag xs 0 0) 0 15=true):=hi;obtain⟨i0,i1,i2⟩:=hi;cbv)|(refine⟨[0,3,10,11,12],[0],Int×ab,fun s_=>match s_ with|(k,d)=>[.reg 12 (.j k),.leaf 0 0 ⟨0,0,none,.own (.s 1 d)⟩],fun s_=>match s_ with|(k,d)=>0<=k/\k<=(xs.length:Int)/\Rv cs es p q xs k d,fun s_=>match s_ with|(k,d)=>xs.length-k.toNat,⟨(0,cs),?_,?_⟩,?_⟩;rotate_left;(focus (cbv;done));intro s_ hk;obtain⟨k,d⟩:=s_;replace hk:0<=k/\k<=(xs.length:Int)/\Rv cs es p q xs k d:=hk;obtain⟨k0,k1,k2⟩:=hk;cbv)|(refine af (O.ar .add Za i 1) ?_ ?_ ?_;focus (cbv;done))|(refine af (O.ar .add Za k 1,O.up (.s 1 d) [(O.ad 0 (O.pi (.s 2 es) [(O.ad 0 q,1)]),0),(O.ad 0 (O.gi xs k 0),0)] [.i (O.pi (.s 1 d) [(O.ad 0 (O.pi (.s 2 es) [(O.ad 0 p,1)]),0),(O.ad 0 (O.gi xs k 0),0)])]) ?_ ?_ ?_;focus (cbv;done))
 all_goals((try subst hos);subst hO hr hF;(try simp only[nc]at*);(try simp only[ah,SS,sa,az]at*);(try simp only[BB]at*);(try rw[dd Uc Uc]);(try have mp:mapB es p=true:=VB Ud);(try have mq:mapB es q=true:=VB Ud);(try have ap:=lB mp);(try have aq:=lB mq);(try have p0:=ap.1.1);(try have p1:=ap.1.2);(try have q0:=aq.1.1);(try have q1:=aq.1.2);(try have ep:=ap.2.2.1);(try have eq:=aq.2.2.1);(try simp only[pe (l:=es) (sz:=2) (j:=1) (i:=p) p0]at*);(try simp only[pe (l:=es) (sz:=2) (j:=1) (i:=q) q0]at*);(try simp only[<-ep]at*);(try simp only[<-eq]at*);(try have fp:=uU km (VG mp));(try have fq:=uU km (VG mq));(try have lp:=km.l (peF es p) fp.1 fp.2);(try have lq:=km.l (peF es q) fq.1 fq.2);(try have d0:=k2.z Uc);(try subst d0);(try have k00:k=0:=Uc);(try subst k00);(try have xk:=bz.1 (i2 Uc));(try have pii:=afd wc fp.1 fp.2 xk.1 Uc);(try simp only[pii]at*))
 all_goals first
  | (show(_:List DV)=_
     first
      |exact aj (aa7 (VC (fun n=>n Ud))).symm
      |exact aj (aa8 (VC (fun n=>n Ud))).symm
      |(have e0:i=0:=Uc;subst e0;exact aj (aa9 Ud).symm)
      |exact aj (aba mp mq k2 Uc).1.symm
      |done)
  | (show(_:List H)=_
     first
      |(rw[K4 (cs:=cs) (es:=es) (p:=p) (q:=q) (xs:=xs) (aa7 (VC (fun n=>n Ud)))];exact rfl)
      |(rw[K4 (cs:=cs) (es:=es) (p:=p) (q:=q) (xs:=xs) (aa8 (VC (fun n=>n Ud)))];exact rfl)
      |(have e0:i=0:=Uc;subst e0;rw[K4 (cs:=cs) (es:=es) (p:=p) (q:=q) (xs:=xs) (aa9 Ud)];exact rfl)
      |(rw[(aba mp mq k2 Uc).2];exact rfl)
      |done)
  |omega
  |exact iB
  |exact we
  |exact SN
  |(intro _;have e0:i=0:=Uc;subst e0;assumption)
  |exact fun h=>absurd h Uc
  |exact Ir we p0 p1 (by decide)
  |exact Ir we q0 q1 (by decide)
  |exact ahO wc fp.1 fp.2 xk.1 Uc
  |exact uI wc fq.1 fq.2
  |exact uI wc fp.1 fp.2
  |exact⟨Uc,Uc,rn wc fq.1 fq.2⟩
  |exact⟨Uc,Uc,rn wc fp.1 fp.2⟩
  |exact JK wc fq.1 fq.2 xk.1 Uc
  |(rw[Rh wc fq.1 fq.2 xk.1 Uc];exact SO k2 k0 Uc (i2 Uc))
  |(show ay _ _=true;kernel_rfl)
  |exact⟨Zd,Zd⟩
  |exact Zd
  |done
end Go.V