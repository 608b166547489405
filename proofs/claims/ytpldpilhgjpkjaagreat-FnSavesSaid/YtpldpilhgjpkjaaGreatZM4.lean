/- Contracts. -/
import Derived.Test.YtpldpilhgjpkjaaGreatZM3
set_option linter.all false
open Go
open And renaming intro->Zc
open IntKind renaming i64->Za
open List renaming length_set->Zw,length_cons->Zi,length_nil->Zk
open True renaming intro->Zd
noncomputable section
namespace Go.V
open Go Go.Proofs
set_option maxRecDepth 1000000
set_option maxHeartbeats 8000000
abbrev Ka0:di:=dH (fun F f=>match f with|60=>fg F|_=>fun _=>none) (by
 intro f;dsimp only;split;exact j7;exact dp)
def dR:EC:=fun F=>fun
 |[.agg [.s 1 cs,.s 1 us,.s 2 es,.v (.int Za c),.s 1 rs]]=>some (fun _=>Rw [.sl [tI]] cs/\Rw [tB] us/\Rw [tI,tI] es/\Rw [tI] rs,[.k (F.ccB cs us es c rs)])
 |_=>none
def fO:ec 269 dR:=by
 intro _ _ _ h hp;dsimp only[dR,F0]at h;split at h<;>cases h
 rename_i cs us es c rs;refine cb Ka0 Tryz.func269 ?_
 intro O r F hO hr hF;cbv
 repeat' first|apply Zc|(apply cN<;>intro hb<;>cbv)
 all_goals(subst hO hr hF;(try simp only[nc]at*);(try simp only[aj,SS,sa,az]at*))
 all_goals first
  | (show(_:List DV)=_
     first
      |exact ax (acf Uc).symm
      |exact ax (Jz Uc).symm
      |done)
  |exact hp
  |done
abbrev Ka1:di:=dH (fun F f=>match f with|277=>fT F|_=>fun _=>none) (by
 intro f;dsimp only;split;exact k8;exact dp)
def iV:EP:=fun F=>fun
 |[.mp [.own (.s 1 cs),.own (.s 1 us),.own (.s 2 es),.own (.v (.int Za c)),.own (.s 1 rs)],.one (.v (.int Za f))]=>some (fun _=>Rw [.sl [tI]] cs/\Rw [tB] us/\Rw [tI,tI] es/\es.length<=1099511627776/\0<=f/\f<cs.length/\us.length=cs.length,[[.own (.s 1 (F.dfC cs es f)),.own (.s 1 (F.dfU us es f)),.own (.s 2 es),.own (.i c),.own (.s 1 rs)]],[])
 |_=>none
def pm:ep 270 iV:=by
 intro _ _ _ _ h hp;dsimp only[iV,F0]at h;split at h<;>cases h
 rename_i cs us es c rs f;obtain⟨wc,wu,we,el,f0,f1,ul⟩:=hp;refine pb Ka1 Tryz.func270 ?_
 intro O r os F hO hr hos hF;cbv
 repeat' first|apply Zc|(apply cN<;>intro hb<;>cbv)
 all_goals((try subst hos);subst hO hr hF;(try simp only[nc]at*);(try simp only[aj,SS,sa,az]at*))
 all_goals first
  | (show(_:List H)=_
     first
      |(have q:=ahq (cs:=cs) (us:=us) (es:=es) (f:=f) Ud;first|(rw[q.1,q.2,L4 wc f0 f1,agx wu f0 Uc];done)|(rw[q.1,q.2,L4 wc f0 f1,agx wu f0 Uc];exact rfl))
      |(have q:=ahr (cs:=cs) (us:=us) (es:=es) (f:=f) Ud;first|(rw[q.1,q.2];done)|(rw[q.1,q.2];exact rfl))
      |done)
  |omega
  |exact⟨we,el⟩
  |(show bz _ _=true;kernel_rfl)
  |exact aj9 wu f0 Uc
  |exact HN wc f0 f1
  |exact⟨Zd,Zd⟩
  |done
abbrev Ka2:di:={
 Φ:=tH
 F0:=F0
 ct:=fun F f=>match f with|133=>cM F|269=>dR F|170=>dN F|_=>fun _=>none
 hc:=(by
  intro f;dsimp only;split;exact dj;exact fO;exact fy;exact dp)
 pt:=fun F f=>match f with|270=>some (iV F)|_=>none
 hp:=(by
  intro f mk h;dsimp only at h;split at h<;>cases h
  exact pm)}
def jO:EC:=fun F=>fun
 |[.agg [.s 1 cs,.s 1 us,.s 2 es,.v (.int Za c),.s 1 rs],.one (.v (.int Za p))]=>some (fun _=>Rw [.sl [tI]] cs/\Rw [tB] us/\Rw [tI,tI] es/\Rw [tI] rs/\au cs<=1099511627776/\au us<=1099511627776/\au es<=1099511627776/\au rs<=1099511627776,[.agg [.s 1 (F.ktC (F.ccB cs us es c rs) cs es p),.s 1 (F.ktU (F.ccB cs us es c rs) us es p),.s 2 (F.ktE (F.ccB cs us es c rs) es p),.i c,.s 1 rs],.k (F.ktB (F.ccB cs us es c rs) es p)])
 |_=>none
def qO:ec 154 jO:=by
 intro _ _ _ h hp;dsimp only[jO,F0]at h;split at h<;>cases h
 rename_i cs us es c rs p;obtain⟨wc,wu,we,wr,c1,c2,c3,c4⟩:=hp;have l3:=aS (es:=es);refine cb Ka2 Tryz.func154 ?_
 intro O r F hO hr hF;cbv
 repeat' first|apply Zc|(apply cN<;>intro hb<;>cbv)
 all_goals(subst hO hr hF;(try simp only[nc]at*);(try simp only[aj,SS,sa,az]at*);(try have mp:mapB es p=true:=Ud);(try have at_:=sU mp);(try have p0:=at_.1.1);(try have p1:=at_.1.2);(try simp only[dY (l:=es) (sz:=2) (j:=1) (i:=p) p0]at*);(try have cc:=zY (cs:=cs) (us:=us) (es:=es) (c:=c) (rs:=rs) Ud);(try have km:=(gK cc.2).1);(try have fr:=wB km mp);(try have ul:=km.u);(try have um:=agw we at_.1.1 at_.1.2);(try simp only[um]at*);(try have rm:=(show Rw [tI,tI] (Cw es p)from IC (m:=0) (f:=0) we Uc Uc));(try have ll:(Cw es p).length=es.length:=Zw))
 all_goals first
  | (show(_:List DV)=_
     first
      |(have q:=adX (k:=ccB cs us es c rs) (cs:=cs) (us:=us) (es:=es) (p:=p) Ud;first|(rw[q.1,q.2.1,q.2.2.1,q.2.2.2];done)|(rw[q.1,q.2.1,q.2.2.1,q.2.2.2];exact rfl))
      |(have q:=ai7 (k:=ccB cs us es c rs) (cs:=cs) (us:=us) (es:=es) (p:=p) Ud;first|(rw[q.1,q.2.1,q.2.2.1,q.2.2.2];done)|(rw[q.1,q.2.1,q.2.2.1,q.2.2.2];exact rfl))
      |(have q:=TV (k:=ccB cs us es c rs) (cs:=cs) (us:=us) (es:=es) (p:=p) Ud;have z:=ai9 (cs:=cs) (us:=us) mp;first|(rw[q.1,q.2.1,q.2.2.1,q.2.2.2,z.1,z.2.1,z.2.2,mp,at_.2.2.1];done)|(rw[q.1,q.2.1,q.2.2.1,q.2.2.2,z.1,z.2.1,z.2.2,mp,at_.2.2.1];exact rfl))
      |done)
  |omega
  |exact⟨wc,wu,we,wr,c1,c2,c3,c4⟩
  |exact⟨wc,wu,we,wr⟩
  |exact⟨wc,wu,rm,Uc,fr.1,fr.2,ul⟩
  |exact Fq we at_.1.1 at_.1.2 (by decide)
  |exact Q8 we p0 p1
  |exact⟨Zd,Zd⟩
  |done
abbrev Ka4:di:=dH (fun F f=>match f with|61=>fm F|165=>iU F|134=>d7 F|_=>fun _=>none) (by
 intro f;dsimp only;split;exact ka;exact pk;exact iw;exact dp)
def kx:EC:=fun F=>fun
 |[.one (.v (.int Za n)),.one (.s 2 rs),.agg [.v (.int Za a),.v (.int Za l)]]=>some (fun _=>0<=n/\n<=1099511627776/\Rw [tI,tI] rs/\rs.length<=1073741824,[.one (.s 2 (F.rpL n rs a l)),.k (F.rpB n rs a l)])
 |_=>none
def vV:ec 155 kx:=by
 intro _ _ _ h hp;dsimp only[kx,F0]at h;split at h<;>cases h
 rename_i n rs a l;obtain⟨n0,n1,wr,hl⟩:=hp;refine cb Ka4 Tryz.func155 ?_
 intro O r F hO hr hF;cbv
 repeat' first|apply Zc|(apply cN<;>intro hb<;>cbv)|(refine⟨[1,5,8,9,25,26,27],[5,8],Int×af×Int×Int×Bool,fun s_=>match s_ with|(i,o,x,y,d)=>[.reg 27 (.j i),.reg 9 (.k d),.reg 8 (.one (.vw 8 0 0 0 (O.ln o))),.leaf 8 0 ⟨0,0,none,.own (.s 2 o)⟩,.leaf 5 0 ⟨0,0,none,.own (.i x)⟩,.leaf 5 1 ⟨0,0,none,.own (.i y)⟩],fun s_=>match s_ with|(i,o,x,y,d)=>0<=i/\i<=(rs.length:Int)/\Ez rs a l i o x y d/\o.length<=2*i.toNat,fun s_=>match s_ with|(i,o,x,y,d)=>rs.length-i.toNat,⟨(0,[],a,l,false),?_,?_⟩,?_⟩;rotate_left;(focus (cbv;done));intro s_ hi;obtain⟨i,o,x,y,d⟩:=s_;replace hi:0<=i/\i<=(rs.length:Int)/\Ez rs a l i o x y d/\o.length<=2*i.toNat:=hi;obtain⟨i0,i1,i2,i3⟩:=hi;cbv)|(refine ah (O.ar .add Za i 1,o,O.gi rs i 0,O.ar .add Za (O.gi rs i 1) y,d) ?_ ?_ ?_;focus (cbv;done))|(refine ah (O.ar .add Za i 1,o,x,O.ar .add Za y (O.gi rs i 1),d) ?_ ?_ ?_;focus (cbv;done))|(refine ah (O.ar .add Za i 1,O.cat o (O.sub [[.i x,.i y],[.i (O.gi rs i 0),.i (O.gi rs i 1)]] 0 (O.ln [[.i x,.i y],[.i (O.gi rs i 0),.i (O.gi rs i 1)]])),x,y,true) ?_ ?_ ?_;focus (cbv;done))|(refine ah (O.ar .add Za i 1,O.cat o (O.sub [[.i (O.gi rs i 0),.i (O.gi rs i 1)]] 0 (O.ln [[.i (O.gi rs i 0),.i (O.gi rs i 1)]])),x,y,d) ?_ ?_ ?_;focus (cbv;done))
 all_goals(subst hO hr hF;(try simp only[nc]at*);(try simp only[aj,SS,sa,az]at*);(try rw[db Uc Uc]);(try have rk:rgOk n rs=true:=Ud);(try have T:=yv rk);(try have gi:rngIn n a l=true:=Ud);(try have gb:=QN gi T);(try have ib:=i2.b);(try have xb:=T.b _ (List.mem_of_getElem? (kI (es:=rs) i0 Uc)));(try have nb:=T.n1);(try simp only at xb);(try have e1:bQ .add Za x y=x+y:=b8 Uc);(try have e2:bQ .add Za (ag rs i 0) (ag rs i 1)=ag rs i 0+ag rs i 1:=b8 Uc);(try have e3:bQ .add Za (ag rs i 1) y=ag rs i 1+y:=b8 Uc);(try have e4:bQ .add Za y (ag rs i 1)=y+ag rs i 1:=b8 Uc);(try simp only[e1,e2,e3,e4]at*))
 all_goals first
  | (show(_:List DV)=_
     first
      |(have q:rpB n rs a l=false:=(by unfold rpB;rw[show rgOk n rs=false from Ud];rfl);exact FY (Ly q).symm q.symm)
      |(have q:rpB n rs a l=false:=(by unfold rpB;rw[show rngIn n a l=false from Ud];simp);exact FY (Ly q).symm q.symm)
      |(have q:=abf T i2 i0 Uc Uc Uc;exact FY (Ly q).symm q.symm)
      |(have q:=HC rk gi i2 Uc;rw[q.1,q.2];subst_vars;rfl)
      |done)
  |omega
  |exact j4
  |exact⟨n0,n1,wr,Uc⟩
  |exact⟨wr,Uc⟩
  |exact QO gb
  |exact⟨Zd,Zd,Zd⟩
  |exact QP T i2 i0 Uc Uc Uc
  |exact QQ T i2 i0 Uc Uc Uc Uc
  |exact QR T i2 i0 Uc Uc Uc Uc Uc Ud
  |exact LA T i2 i0 Uc Uc Uc Uc Uc
  |exact LA T i2 i0 Uc Uc Uc Uc (by simp_all)
  |(simp only[List.length_append,Zi,Zk];omega)
  |exact⟨Zd,Zd⟩
  |done
abbrev Zg0:di:=dH (fun F f=>match f with|133=>cM F|329=>dq F|_=>fun _=>none) (by
 intro f;dsimp only;split;exact dj;exact gz;exact dp)
def iO:EC:=fun F=>fun
 |[.agg [.s 1 cs,.s 1 us,.s 2 es,.v (.int Za c),.s 1 rs]]=>some (fun _=>Rw [.sl [tI]] cs/\Rw [tB] us/\Rw [tI,tI] es/\Rw [tI] rs/\au cs<=1099511627776/\au us<=1099511627776/\au es<=1099511627776/\au rs<=1099511627776/\0<=c/\c<=100000,[.agg [.s 1 cs,.s 1 us,.s 2 es,.i (F.c1N c),.s 1 rs],.k (F.nhR rs c)])
 |_=>none
def pd:ec 333 iO:=by
 intro _ _ _ h hp;dsimp only[iO,F0]at h;split at h<;>cases h
 rename_i cs us es c rs;obtain⟨wc,wu,we,wr,k1,k2,k3,k4,c0,c1⟩:=hp;have l4:=aS (es:=rs);have e1:bQ .add Za c 1=c+1:=b8 Uc;refine cb Zg0 Tryz.func333 ?_
 intro O r F hO hr hF;cbv
 repeat' first|apply Zc|(apply cN<;>intro hb<;>cbv)
 all_goals(subst hO hr hF;(try simp only[nc]at*);(try simp only[aj,SS,sa,az]at*);(try simp only[e1]at*))
 all_goals first|(show(_:List DV)=_;exact rfl)|exact⟨wc,wu,we,wr,k1,k2,k3,k4⟩|exact⟨wr,Uc⟩|(show bz _ _=true;kernel_rfl)|exact⟨Zd,Zd⟩|done
abbrev Zg1:di:={
 Φ:=tH
 F0:=F0
 ct:=fun F f=>match f with|133=>cM F|269=>dR F|333=>iO F|170=>dN F|_=>fun _=>none
 hc:=(by
  intro f;dsimp only;split;exact dj;exact fO;exact pd;exact fy;exact dp)
 pt:=fun F f=>match f with|270=>some (iV F)|_=>none
 hp:=(by
  intro f mk h;dsimp only at h;split at h<;>cases h
  exact pm)}
def ko:EC:=fun F=>fun
 |[.agg [.s 1 cs,.s 1 us,.s 2 es,.v (.int Za c),.s 1 rs],.one (.v (.int Za p)),.one (.v (.int Za m))]=>some (fun _=>Rw [.sl [tI]] cs/\Rw [tB] us/\Rw [tI,tI] es/\Rw [tI] rs/\au cs<=1099511627776/\au us<=1099511627776/\au es<=1099511627776/\au rs<=1099511627776,[.agg [.s 1 cs,.s 1 us,.s 2 (F.kqE (F.ccB cs us es c rs) es c rs p m),.i (F.kqN (F.ccB cs us es c rs) c),.s 1 rs],.k (F.kqB (F.ccB cs us es c rs) es c rs p m)])
 |_=>none
def vR:ec 344 ko:=by
 intro _ _ _ h hp;dsimp only[ko,F0]at h;split at h<;>cases h
 rename_i cs us es c rs p m;obtain⟨wc,wu,we,wr,k1,k2,k3,k4⟩:=hp;refine cb Zg1 Tryz.func344 ?_
 intro O r F hO hr hF;cbv
 repeat' first|apply Zc|(apply cN<;>intro hb<;>cbv)
 all_goals(subst hO hr hF;(try simp only[nc]at*);(try simp only[aj,SS,sa,az]at*);(try have cc:=zY (cs:=cs) (us:=us) (es:=es) (c:=c) (rs:=rs) Ud);(try have kr:=gK cc.2);(try have km:=kr.1);(try have c0:=kr.2.1);(try have c1:=kr.2.2.1);(try have nh:nhR rs c=true:=Ud);(try have mp:mapB es p=true:=(by first|assumption|exact VL Ud));(try have at_:=sU mp);(try have p0:=at_.1.1);(try have p1:=at_.1.2);(try have pf:=at_.2.2.1))
 all_goals first
  | (show(_:List DV)=_
     first
      |(exfalso;have q:false=true:=Ud;cases q)
      |(rw[show ccB cs us es c rs=false from Ud];exact rfl)
      |(have q:=aiU (es:=es) (p:=p) (m:=m) (rs:=rs) (c:=c) Ud;rw[show ccB cs us es c rs=true from Ud];exact jh rfl rfl (TU q).symm rfl rfl q.symm)
      |(have q:=aiV (es:=es) (p:=p) (m:=m) (rs:=rs) (c:=c) Ud;rw[show ccB cs us es c rs=true from Ud];exact jh rfl rfl (TU q).symm rfl rfl q.symm)
      |(have q:=aiW (es:=es) (p:=p) (m:=m) (rs:=rs) (c:=c) Uc;rw[show ccB cs us es c rs=true from Ud];exact jh rfl rfl (TU q).symm rfl rfl q.symm)
      |(have q:=aiY (m:=m) nh mp Uc;rw[show ccB cs us es c rs=true from Ud];exact jh rfl rfl ((ajV we p0 p1 pf).trans (aiX q).symm) rfl rfl q.symm)
      |done)
  |omega
  |exact⟨wc,wu,we,wr,k1,k2,k3,k4,c0,c1⟩
  |exact⟨wc,wu,we,wr,k1,k2,k3,k4⟩
  |exact⟨wc,wu,we,wr⟩
  |exact abt we p0 p1 (by decide)
  |exact⟨Zd,Zd⟩
  |done
def mI:EC:=fun F=>fun
 |[.agg [.s 1 cs,.s 1 us,.s 2 es,.v (.int Za c),.s 1 rs],.one (.v (.int Za p)),.one (.v (.int Za q))]=>some (fun _=>Rw [.sl [tI]] cs/\Rw [tB] us/\Rw [tI,tI] es/\Rw [tI] rs/\au cs<=1099511627776/\au us<=1099511627776/\au es<=1099511627776/\au rs<=1099511627776,[.agg [.s 1 (F.krC (F.ccB cs us es c rs) cs es c rs p q),.s 1 (F.krU (F.ccB cs us es c rs) us es c rs p q),.s 2 (F.krE (F.ccB cs us es c rs) es c rs p q),.i (F.kqN (F.ccB cs us es c rs) c),.s 1 rs],.k (F.krB (F.ccB cs us es c rs) es c rs p q)])
 |_=>none
def zA:ec 346 mI:=by
 intro _ _ _ h hp;dsimp only[mI,F0]at h;split at h<;>cases h
 rename_i cs us es c rs p q;obtain⟨wc,wu,we,wr,k1,k2,k3,k4⟩:=hp;refine cb Zg1 Tryz.func346 ?_
 intro O r F hO hr hF;cbv
 repeat' first|apply Zc|(apply cN<;>intro hb<;>cbv)
 all_goals(subst hO hr hF;(try simp only[nc]at*);(try simp only[aj,SS,sa,az]at*);(try have cc:=zY (cs:=cs) (us:=us) (es:=es) (c:=c) (rs:=rs) Ud);(try have kr:=gK cc.2);(try have km:=kr.1);(try have c0:=kr.2.1);(try have c1:=kr.2.2.1);(try have nh:nhR rs c=true:=Ud);(try have mp:mapB es p=true:=(by first|assumption|exact VL Ud));(try have at_:=sU mp);(try have p0:=at_.1.1);(try have p1:=at_.1.2);(try have pf:=at_.2.2.1);(try have mq:mapB es q=true:=(by first|assumption|exact VL Ud));(try have aq:=sU mq);(try have q0:=aq.1.1);(try have q1:=aq.1.2);(try have qf:=aq.2.2.1);(try have fr:=wB km mp);(try have fq:=wB km mq);(try have cn:=km.n1);(try have en:=km.e1);(try have ul:=km.u);(try simp only[dY (l:=es) (sz:=2) (j:=1) (i:=p) p0]at*);(try simp only[dY (l:=es) (sz:=2) (j:=1) (i:=q) q0]at*);(try have um:=afO (m:=2) (f:=ag es q 1) we p0 p1);(try simp only[um]at*);(try have rm:=IC (p:=p) (m:=2) (f:=ag es q 1) we Uc Uc);(try have ll:(qz es p 2 (ag es q 1)).length=es.length:=Zw))
 all_goals first
  | (show(_:List DV)=_
     first
      |(rw[show ccB cs us es c rs=false from Ud];exact rfl)
      |(have z:=aiN (es:=es) (p:=p) (q:=q) (rs:=rs) (c:=c) Ud;have y:=NL (cs:=cs) (us:=us) z;rw[show ccB cs us es c rs=true from Ud];exact jh y.1.symm y.2.1.symm y.2.2.symm rfl rfl z.symm)
      |(have z:=aiO (es:=es) (p:=p) (q:=q) (rs:=rs) (c:=c) Ud;have y:=NL (cs:=cs) (us:=us) z;rw[show ccB cs us es c rs=true from Ud];exact jh y.1.symm y.2.1.symm y.2.2.symm rfl rfl z.symm)
      |(have z:=aiP (es:=es) (p:=p) (q:=q) (rs:=rs) (c:=c) Ud;have y:=NL (cs:=cs) (us:=us) z;rw[show ccB cs us es c rs=true from Ud];exact jh y.1.symm y.2.1.symm y.2.2.symm rfl rfl z.symm)
      |(have z:=aiQ (es:=es) (p:=p) (q:=q) (rs:=rs) (c:=c) Uc;have y:=NL (cs:=cs) (us:=us) z;rw[show ccB cs us es c rs=true from Ud];exact jh y.1.symm y.2.1.symm y.2.2.symm rfl rfl z.symm)
      |(have z:=aiT nh mp mq Ud;have y:=aiR (cs:=cs) (us:=us) z;rw[pf,qf]at y;rw[show ccB cs us es c rs=true from Ud];exact jh y.1.symm y.2.1.symm y.2.2.symm rfl rfl z.symm)
      |done)
  |omega
  |exact⟨wc,wu,we,wr,k1,k2,k3,k4,c0,c1⟩
  |exact⟨wc,wu,we,wr,k1,k2,k3,k4⟩
  |exact⟨wc,wu,we,wr⟩
  |exact Q8 we p0 p1
  |exact Fq we p0 p1 (by decide)
  |exact Fq we q0 q1 (by decide)
  |exact⟨wc,wu,rm,Uc,fr.1,fr.2,ul⟩
  |exact⟨Zd,Zd⟩
  |done
abbrev Ob0:di:=dH (fun F f=>match f with|188=>ff F|_=>fun _=>none) (by
 intro f;dsimp only;split;exact j6;exact dp)
def gY:EC:=fun F=>fun
 |[.agg [.s 2 es]]=>some (fun _=>Rw [tI,tI] es/\es.length<=1099511627776,[.j (F.mpT es)])
 |_=>none
def q8:ec 79 gY:=by
 intro _ _ _ h hp;dsimp only[gY,F0]at h;split at h<;>cases h
 rename_i es;obtain⟨he,hn⟩:=hp;refine cb Ob0 Tryz.func79 ?_
 intro O r F hO hr hF;cbv
 repeat' first|apply Zc|(apply cN<;>intro hb<;>cbv)|(refine⟨[3,7,8,9],[],Int×Int,fun s_=>match s_ with|(i,n)=>[.reg 9 (.j i),.reg 3 (.j n)],fun s_=>match s_ with|(i,n)=>0<=i/\i<=(es.length:Int)/\n=Io es i.toNat,fun s_=>match s_ with|(i,n)=>es.length-i.toNat,⟨(0,0),?_,?_⟩,?_⟩;rotate_left;(focus (cbv;done));intro s_ hi;obtain⟨i,n⟩:=s_;replace hi:0<=i/\i<=(es.length:Int)/\n=Io es i.toNat:=hi;obtain⟨i0,i1,i2⟩:=hi;cbv)|(refine ah (O.ar .add Za i 1,O.ar .add Za n 1) ?_ ?_ ?_;focus (cbv;done))|(refine ah (O.ar .add Za i 1,n) ?_ ?_ ?_;focus (cbv;done))
 all_goals(subst hO hr hF;(try simp only[nc]at*);(try simp only[aj,SS,sa,az]at*);(try rw[db Uc Uc]);(try(have un:=KM (es:=es) (n:=i.toNat);have en:bQ .add Za n 1=n+1:=b8 Uc;simp only[en])))
 all_goals first
  | (show(_:List DV)=_
     first
      |exact cd (i2.trans (aau i1 Uc))
      |done)
  |exact j4
  |omega
  |(rw[db Uc Uc,aav i0 Ud, <-i2])
  |exact i2.trans (aee i0 Ud).symm
  |exact rfl
  |done
def iJ:EC:=fun F=>fun
 |[.agg [.s 1 cs,.s 1 us]]=>some (fun _=>Rw [.sl [tI]] cs/\Rw [tB] us,[.j (F.ufN cs us)])
 |_=>none
def so:ec 80 iJ:=by
 intro _ _ _ h hp;dsimp only[iJ,F0]at h;split at h<;>cases h
 rename_i cs us;obtain⟨hc,hu⟩:=hp;have hm:=hu.1;unfold maxLen at hm;refine cb Ob0 Tryz.func80 ?_
 intro O r F hO hr hF;cbv
 repeat' first|apply Zc|(apply cN<;>intro hb<;>cbv)|(refine⟨[3,10,11,12],[],Int×Int,fun s_=>match s_ with|(i,n)=>[.reg 12 (.j i),.reg 3 (.j n)],fun s_=>match s_ with|(i,n)=>0<=i/\i<=(us.length:Int)/\n=Et us i.toNat,fun s_=>match s_ with|(i,n)=>us.length-i.toNat,⟨(0,0),?_,?_⟩,?_⟩;rotate_left;(focus (cbv;done));intro s_ hi;obtain⟨i,n⟩:=s_;replace hi:0<=i/\i<=(us.length:Int)/\n=Et us i.toNat:=hi;obtain⟨i0,i1,i2⟩:=hi;cbv)|(refine ah (O.ar .add Za i 1,O.ar .add Za n 1) ?_ ?_ ?_;focus (cbv;done))|(refine ah (O.ar .add Za i 1,n) ?_ ?_ ?_;focus (cbv;done))
 all_goals(subst hO hr hF;(try simp only[nc]at*);(try simp only[aj,SS,sa,az]at*);(try rw[db Uc Uc]);(try(have un:=L3 (us:=us) (n:=i.toNat);have en:bQ .add Za n 1=n+1:=b8 Uc;simp only[en])))
 all_goals first
  | (show(_:List DV)=_
     first
      |exact cd (agu Ud).symm
      |exact cd (i2.trans (abE Ud i1 Uc).symm)
      |done)
  |exact⟨hc,hu⟩
  |exact j4
  |omega
  |(rw[db Uc Uc,Pd i0 Ud, <-i2])
  |(rw[abF i0 Ud];exact i2)
  |exact rfl
  |done
abbrev Ob1:di:=dH (fun F f=>match f with|164=>gh F|54=>cD F|_=>fun _=>none) (by
 intro f;dsimp only;split;exact m9;exact de;exact dp)
def lI:EC:=fun F=>fun
 |[.agg [.s 1 cs,.s 1 us,.s 2 es],.one (.v (.int Za a))]=>some (fun _=>Rw [.sl [tI]] cs/\Rw [tB] us/\Rw [tI,tI] es/\zk a,[.agg [.i (F.smM cs us es a),.i (F.smF cs us es a)]])
 |_=>none
def xu:ec 149 lI:=by
 intro _ _ _ h hp;dsimp only[lI,F0]at h;split at h<;>cases h
 rename_i cs us es a;obtain⟨hc,hu,he,ha⟩:=hp;have hq:¬ a<0->bQ .quo Za a 16=a/16:=fun h=>vF Uc Uc Uc
 refine cb Ob1 Tryz.func149 ?_
 intro O r F hO hr hF;cbv
 repeat' first|apply Zc|(apply cN<;>intro hb<;>cbv)
 all_goals(subst hO hr hF;(try simp only[nc]at*);(try simp only[aj,SS,sa,az]at*))
 all_goals first|exact⟨hc,hu,he⟩|exact he|exact CH (AK (.inr Uc)).1.symm (AK (.inr Uc)).2.symm|exact CH (AK (.inl Ud)).1.symm (AK (.inl Ud)).2.symm|(rw[hq Uc];have hi:machOk cs us es=true:=Ud;exact CH ((yI hi).1.trans (x7 Uc).1).symm ((yI hi).2.trans (x7 Uc).2.1).symm)|trivial|trace_state
abbrev Ob4:di:=dH (fun F f=>match f with|17=>dM F|79=>gY F|80=>iJ F|_=>fun _=>none) (by
 intro f;dsimp only;split;exact eA;exact q8;exact so;exact dp)
def lG:EC:=fun F=>fun
 |[.agg hl_]=>hL hl_ fun a0 a1 a2 a3 a4 a5 a6 a7 a8 a9 aA aB aC aD aE aF aG aH aI aJ aK aL aM aN=>(fun _=>HpN a0 a1 a2 a4 a5 a6 a7 a8 a9 aA aB aD aL,[.j (F.sfI (F.hpI a0 a1 a2 a3 a4 a5 a6 a7 a8 a9 aA aB aC aD aE aF aG aH aI aJ aK aL aM aN) (F.mpT a2) (F.ufN a0 a1))])
 |_=>none
def ri:ec 22 lG:=by
 intro _ _ _ h hp;dsimp only[lG,F0,hL]at h;split at h;rotate_left;cases h;split at h<;>cases h
 rename_i a0 a1 a2 a3 a4 a5 a6 a7 a8 a9 aA aB aC aD aE aF aG aH aI aJ aK aL aM aN;refine cb Ob4 Tryz.func22 ?_
 intro O r F hO hr hF;cbv
 repeat' first|apply Zc|(apply cN<;>intro hb<;>cbv)
 all_goals(subst hO hr hF;(try simp only[nc]at*);(try simp only[aj,SS,sa,az]at*))
 all_goals first|exact hp|exact cd (ajY Ud).symm|exact cd (ajX Ud).symm|exact⟨hp.e,by have:=hp.el;omega⟩|exact⟨hp.c,hp.u⟩|(show bz _ _=true;kernel_rfl)|done
abbrev Oc0:di:=dH (fun F f=>match f with|167=>eB F|56=>cC F|273=>dy F|_=>fun _=>none) (by
 intro f;dsimp only;split;exact gF;exact dd;exact eL;exact dp)
def iT:EC:=fun F=>fun
 |[.agg hl_]=>hL hl_ fun a0 a1 a2 a3 a4 a5 a6 a7 a8 a9 aA aB aC aD aE aF aG aH aI aJ aK aL aM aN=>(fun _=>a2.length<=1073741824,[.j (F.zlI a2)])
 |_=>none
def pj:ec 156 iT:=by
 intro _ _ _ h hp;dsimp only[iT,F0,hL]at h;split at h;rotate_left;cases h;split at h<;>cases h
 rename_i a0 a1 a2 a3 a4 a5 a6 a7 a8 a9 aA aB aC aD aE aF aG aH aI aJ aK aL aM aN;refine cb Oc0 Tryz.func156 ?_
 exact zq1
def jy:EC:=fun F=>fun
 |[.agg [.v (.int Za p),.v (.int Za k),.v (.int Za b)]]=>some (fun _=>True,[.one (.s 1 (F.sclL p k b))])
 |_=>none
def t7:ec 289 jy:=by
 intro _ _ _ h hp;dsimp only[jy,F0]at h;split at h<;>cases h
 rename_i p k b;refine cb Oc0 Tryz.func289 ?_
 intro O r F hO hr hF;cbv
 repeat' first|apply Zc|(apply cN<;>intro hb<;>cbv)|(refine⟨[1,3,4],[1,3],Int×af,fun s_=>match s_ with|(i,o)=>[.reg 4 (.j i),.reg 3 (.one (.vw 3 0 0 0 (O.ln o))),.leaf 3 0 ⟨0,0,none,.own (.s 1 o)⟩],fun s_=>match s_ with|(i,o)=>0<=i/\i<=16/\AV k b i o,fun s_=>match s_ with|(i,o)=>(16-i).toNat,⟨(0,[]),?_,?_⟩,?_⟩;rotate_left;(focus (cbv;done));intro s_ hi;obtain⟨i,o⟩:=s_;replace hi:0<=i/\i<=16/\AV k b i o:=hi;obtain⟨i0,i1,i2⟩:=hi;cbv)|(refine ah (O.ar .add Za i 1,O.cat o (O.sub [[.i i]] 0 (O.ln [[.i i]]))) ?_ ?_ ?_;focus (cbv;done))|(refine ah (O.ar .add Za i 1,o) ?_ ?_ ?_;focus (cbv;done))
 all_goals(subst hO hr hF;(try simp only[nc]at*);(try simp only[aj,SS,sa,az]at*);(try rw[db Uc Uc]);(try have hs:spOk p k b=true:=Ud);(try have c1:=GG (mU hs).2.2.1);(try have qu:bQ .quo Za i (clsSz k)=i/clsSz k:=vF Uc Uc Uc);(try have w1:=OI i2 i0))
 all_goals first
  | (show(_:List DV)=_
     first
      |exact uB (OH i2 hs i1 Uc)
      |exact uB (afL Ud).symm
      |done)
  |omega
  |(show bz _ _=true;kernel_rfl)
  |exact LG i2 i0 (by rw[<-qu];assumption)
  |exact OJ i2 i0 (by rw[<-qu];assumption)
  |exact abh
  |(constructor<;>(simp only[Zi,Zk];omega))
  |exact⟨Zd,Zd⟩
  |done
end Go.V