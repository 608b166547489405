/- Contracts. -/
import Derived.Test.YtbedjnlfdopeeaaGreatM5
set_option linter.all false
open Go
open Act renaming eval->YC,put->Yl
open And renaming intro->Zb
open Departure renaming mixedOrders->Wn
open IntKind renaming i64->Zp,i64->Za
open List renaming length_set->ZE,mem_of_getElem?->Zw,length_append->Ze,length_cons->Zn,length_nil->Zr
open True renaming intro->Zh
open Value renaming int->Zi
namespace Go.V
open Go Go.Proofs
set_option maxRecDepth 1000000
set_option maxHeartbeats 8000000
abbrev Ka0:da:=ez (fun F f=>match f with|124=>dr F|164=>dr F|181=>bU F|_=>fun _=>none) (by
 intro f;dsimp only;split;exact pS;exact pY;exact jG;exact de)
def fu:EC:=fun F=>fun
 |[.agg [.s 1 cs,.s 1 us,.s 2 es,.v (.int Za c),.s 1 rs]]=>some (fun _=>Rw [.sl [tI]] cs/\Rw [tB] us/\Rw [tI,tI] es/\Rw [tI] rs,[.k (F.ccB cs us es c rs)])
 |_=>none
theorem zd:ec 279 fu:=by
 intro _ _ _ h hp;dsimp only[fu,F0]at h;split at h<;>cases h
 rename_i cs us es c rs;refine cb Ka0 Tryz.func279 ?_
 intro O r F hO hr hF;cbv
 repeat' first|apply Zb|(apply bF<;>intro hb<;>cbv)
 all_goals(subst hO hr hF;(try simp only[nc]at*);(try simp only[ah,SS,sa,az]at*))
 all_goals first
  | (show(_:List DV)=_
     first
      |exact ai (acA (by omega)).symm
      |exact ai (Rk (by omega)).symm
      |done)
  |exact hp
  |(show aP _ _=true;kernel_rfl)
  |done
theorem Cj:ec 72 fu:=by
 intro _ _ _ h hp;dsimp only[fu,F0]at h;split at h<;>cases h
 rename_i cs us es c rs;refine cb Ka0 Tryz.func72 ?_
 intro O r F hO hr hF;cbv
 repeat' first|apply Zb|(apply bF<;>intro hb<;>cbv)
 all_goals(subst hO hr hF;(try simp only[nc]at*);(try simp only[ah,SS,sa,az]at*))
 all_goals first
  | (show(_:List DV)=_
     first
      |exact ai (acB (by assumption)).symm
      |exact ai (acC (by assumption))
      |done)
  |exact hp
  |(show aP _ _=true;kernel_rfl)
  |done
def mJ:EC:=fun F=>fun
 |[.ptr [.s 1 cs,.s 1 us,.s 2 es,.v (.int Za c),.s 1 rs],.one (.v (.int Za p))]=>some (fun _=>Rw [tI,tI] es,[.j (F.peM es p)])
 |_=>none
theorem Aa:ec 336 mJ:=by
 intro _ _ _ h hp;dsimp only[mJ,F0]at h;split at h<;>cases h
 rename_i cs us es c rs p;refine cb Ka0 Tryz.func336 ?_
 intro O r F hO hr hF;cbv
 repeat' first|apply Zb|(apply bF<;>intro hb<;>cbv)
 all_goals(subst hO hr hF;(try simp only[nc]at*);(try simp only[ah,SS,sa,az]at*))
 all_goals first|(show(_:List DV)=_;exact rfl)|exact hp|(show aP _ _=true;kernel_rfl)|done
abbrev Ka1:da:=ez (fun F f=>match f with|315=>cM F|331=>cM F|_=>fun _=>none) (by
 intro f;dsimp only;split;exact lW;exact mh;exact de)
def fy:EP:=fun F=>fun
 |[.mp [.own (.s 1 cs),.own (.s 1 us),.own (.s 2 es),.own (.v (.int Za c)),.own (.s 1 rs)],.one (.v (.int Za f))]=>some (fun _=>Rw [.sl [tI]] cs/\Rw [tB] us/\Rw [tI,tI] es/\es.length<=1099511627776/\0<=f/\f<cs.length/\us.length=cs.length,[[.own (.s 1 (F.dfC cs es f)),.own (.s 1 (F.dfU us es f)),.own (.s 2 es),.own (.i c),.own (.s 1 rs)]],[])
 |_=>none
theorem zm:ep 280 fy:=by
 intro _ _ _ _ h hp;dsimp only[fy,F0]at h;split at h<;>cases h
 rename_i cs us es c rs f;obtain⟨wc,wu,we,el,f0,f1,ul⟩:=hp;refine pb Ka1 Tryz.func280 ?_
 exact agi
theorem zZ:ep 337 fy:=by
 intro _ _ _ _ h hp;dsimp only[fy,F0]at h;split at h<;>cases h
 rename_i cs us es c rs f;obtain⟨wc,wu,we,el,f0,f1,ul⟩:=hp;refine pb Ka1 Tryz.func337 ?_
 exact agi
abbrev Ka2:da:={
 Φ:=rz
 F0:=F0
 ct:=fun F f=>match f with|118=>dj F|279=>fu F|230=>j7 F|_=>fun _=>none
 hc:=(by
  intro f;dsimp only;split;exact np;exact zd;exact si;exact de)
 pt:=fun F f=>match f with|280=>some (fy F)|_=>none
 hp:=(by
  intro f mk h;dsimp only at h;split at h<;>cases h
  exact zm)}
def nO:EC:=fun F=>fun
 |[.agg [.s 1 cs,.s 1 us,.s 2 es,.v (.int Za c),.s 1 rs],.one (.v (.int Za p))]=>some (fun _=>Rw [.sl [tI]] cs/\Rw [tB] us/\Rw [tI,tI] es/\Rw [tI] rs/\ak cs<=1099511627776/\ak us<=1099511627776/\ak es<=1099511627776/\ak rs<=1099511627776,[.agg [.s 1 (F.ktC (F.ccB cs us es c rs) cs es p),.s 1 (F.ktU (F.ccB cs us es c rs) us es p),.s 2 (F.ktE (F.ccB cs us es c rs) es p),.i c,.s 1 rs],.k (F.ktB (F.ccB cs us es c rs) es p)])
 |_=>none
theorem BN:ec 190 nO:=by
 intro _ _ _ h hp;dsimp only[nO,F0]at h;split at h<;>cases h
 rename_i cs us es c rs p;obtain⟨wc,wu,we,wr,c1,c2,c3,c4⟩:=hp;have l3:=au (es:=es);refine cb Ka2 Tryz.func190 ?_
 intro O r F hO hr hF;cbv
 repeat' first|apply Zb|(apply bF<;>intro hb<;>cbv)
 all_goals(subst hO hr hF;(try simp only[nc]at*);(try simp only[ah,SS,sa,az]at*);(try have mp:mapB es p=true:=(by assumption));(try have at_:=Et mp);(try have p0:=at_.1.1);(try have p1:=at_.1.2);(try simp only[lD (l:=es) (sz:=2) (j:=1) (i:=p) p0]at*);(try have cc:=Rl (cs:=cs) (us:=us) (es:=es) (c:=c) (rs:=rs) (by assumption));(try have km:=(oR cc.2).1);(try have fr:=Eu km mp);(try have ul:=km.u);(try have um:=TE we at_.1.1 at_.1.2);(try simp only[um]at*);(try have rm:=(show Rw [tI,tI] (Dn es p)from Qm (m:=0) (f:=0) we (by omega) (by omega)));(try have ll:(Dn es p).length=es.length:=ZE))
 all_goals first
  | (show(_:List DV)=_
     first
      |(have q:=adS (k:=ccB cs us es c rs) (cs:=cs) (us:=us) (es:=es) (p:=p) (by assumption);first|(rw[q.1,q.2.1,q.2.2.1,q.2.2.2];done)|(rw[q.1,q.2.1,q.2.2.1,q.2.2.2];exact rfl))
      |(have q:=ahr (k:=ccB cs us es c rs) (cs:=cs) (us:=us) (es:=es) (p:=p) (by assumption);first|(rw[q.1,q.2.1,q.2.2.1,q.2.2.2];done)|(rw[q.1,q.2.1,q.2.2.1,q.2.2.2];exact rfl))
      |(have q:=adT (k:=ccB cs us es c rs) (cs:=cs) (us:=us) (es:=es) (p:=p) (by assumption);have z:=adW (cs:=cs) (us:=us) mp;first|(rw[q.1,q.2.1,q.2.2.1,q.2.2.2,z.1,z.2.1,z.2.2,mp,at_.2.2.1];done)|(rw[q.1,q.2.1,q.2.2.1,q.2.2.2,z.1,z.2.1,z.2.2,mp,at_.2.2.1];exact rfl))
      |done)
  |omega
  |exact⟨wc,wu,we,wr,c1,c2,c3,c4⟩
  |exact⟨wc,wu,we,wr⟩
  |exact we
  |exact⟨wc,wu,rm,by omega,fr.1,fr.2,ul⟩
  |exact afQ we at_.1.1 at_.1.2 (by decide)
  |exact abm we at_.1.1 at_.1.2 (by decide)
  |exact Tu we p0 p1
  |(show aP _ _=true;kernel_rfl)
  |exact gj
  |exact⟨Zh,Zh⟩
  |exact Zh
  |done
abbrev Ka3:da:={
 Φ:=rz
 F0:=F0
 ct:=fun F f=>match f with|336=>mJ F|_=>fun _=>none
 hc:=(by
  intro f;dsimp only;split;exact Aa;exact de)
 pt:=fun F f=>match f with|337=>some (fy F)|_=>none
 hp:=(by
  intro f mk h;dsimp only at h;split at h<;>cases h
  exact zZ)}
def ic:EP:=fun F=>fun
 |[.mp [.own (.s 1 cs),.own (.s 1 us),.own (.s 2 es),.own (.v (.int Za c)),.own (.s 1 rs)],.one (.v (.int Za p))]=>some (fun _=>Rw [.sl [tI]] cs/\Rw [tB] us/\Rw [tI,tI] es/\Rw [tI] rs/\rW cs us es,[[.own (.s 1 (F.kuC cs es p)),.own (.s 1 (F.kuU us es p)),.own (.s 2 (F.kuE es p)),.own (.i c),.own (.s 1 rs)]],[.k (F.mapB es p)])
 |_=>none
theorem qb:ep 274 ic:=by
 intro _ _ _ _ h hp;dsimp only[ic,F0]at h;split at h<;>cases h
 rename_i cs us es c rs p;obtain⟨wc,wu,we,wr,km⟩:=hp;have e1:=km.e1;refine pb Ka3 Tryz.func274 ?_
 intro O r os F hO hr hos hF;cbv
 repeat' first|apply Zb|(apply bF<;>intro hb<;>cbv)
 all_goals((try subst hos);subst hO hr hF;(try simp only[nc]at*);(try simp only[ah,SS,sa,az]at*);(try have mp:mapB es p=true:=VT (by assumption));(try have at_:=Et mp);(try have p0:=at_.1.1);(try have p1:=at_.1.2);(try simp only[lD (l:=es) (sz:=2) (j:=1) (i:=p) p0]at*);(try have fr:=Eu km mp);(try have ul:=km.u);(try have um:=TE we at_.1.1 at_.1.2);(try simp only[um]at*);(try have rm:=(show Rw [tI,tI] (Dn es p)from Qm (m:=0) (f:=0) we (by omega) (by omega)));(try have ll:(Dn es p).length=es.length:=ZE))
 all_goals first
  | (show(_:List DV)=_
     first
      |exact ai (show false=mapB es p from(VU (fun n=>n (by assumption))).symm)
      |exact ai mp.symm
      |done)
  | (show(_:List H)=_
     first
      |(have z:=adU (cs:=cs) (us:=us) (es:=es) (p:=p) (VU (fun n=>n (by assumption)));first|(rw[z.1,z.2.1,z.2.2];done)|(rw[z.1,z.2.1,z.2.2];exact rfl))
      |(have z:=adW (cs:=cs) (us:=us) mp;first|(rw[z.1,z.2.1,z.2.2,at_.2.2.1];done)|(rw[z.1,z.2.1,z.2.2,at_.2.2.1];exact rfl))
      |done)
  |omega
  |exact we
  |exact⟨wc,wu,rm,by omega,fr.1,fr.2,ul⟩
  |exact abm we at_.1.1 at_.1.2 (by decide)
  |exact Tu we p0 p1
  |(show aP _ _=true;kernel_rfl)
  |exact gj
  |exact⟨Zh,Zh⟩
  |exact Zh
  |done
abbrev Ka4:da:=ez (fun F f=>match f with|125=>cP F|225=>dk F|119=>gq F|165=>cP F|258=>dk F|_=>fun _=>none) (by
 intro f;dsimp only;split;exact pU;exact qB;exact nu;exact kE;exact pc;exact de)
def dT:EC:=fun F=>fun
 |[.one (.v (.int Za n)),.one (.s 2 rs),.agg [.v (.int Za a),.v (.int Za l)]]=>some (fun _=>0<=n/\n<=1099511627776/\Rw [tI,tI] rs/\rs.length<=1073741824,[.one (.s 2 (F.rpL n rs a l)),.k (F.rpB n rs a l)])
 |_=>none
theorem wY:ec 191 dT:=by
 intro _ _ _ h hp;dsimp only[dT,F0]at h;split at h<;>cases h
 rename_i n rs a l;obtain⟨n0,n1,wr,hl⟩:=hp;refine cb Ka4 Tryz.func191 ?_
 intro O r F hO hr hF;cbv
 repeat' first|apply Zb|(apply bF<;>intro hb<;>cbv)|(refine⟨[1,5,8,9,25,26,27],[5,8],Int×aa×Int×Int×Bool,fun s_=>match s_ with|(i,o,x,y,d)=>[.reg 27 (.j i),.reg 9 (.k d),.reg 8 (.one (.vw 8 0 0 0 (O.ln o))),.leaf 8 0 ⟨0,0,none,.own (.s 2 o)⟩,.leaf 5 0 ⟨0,0,none,.own (.i x)⟩,.leaf 5 1 ⟨0,0,none,.own (.i y)⟩],fun s_=>match s_ with|(i,o,x,y,d)=>0<=i/\i<=(rs.length:Int)/\Ho rs a l i o x y d/\o.length<=2*i.toNat,fun s_=>match s_ with|(i,o,x,y,d)=>rs.length-i.toNat,⟨(0,[],a,l,false),?_,?_⟩,?_⟩;rotate_left;(focus (cbv;done));intro s_ hi;obtain⟨i,o,x,y,d⟩:=s_;replace hi:0<=i/\i<=(rs.length:Int)/\Ho rs a l i o x y d/\o.length<=2*i.toNat:=hi;obtain⟨i0,i1,i2,i3⟩:=hi;cbv)|(refine ag (O.ar .add Za i 1,o,O.gi rs i 0,O.ar .add Za (O.gi rs i 1) y,d) ?_ ?_ ?_;focus (cbv;done))|(refine ag (O.ar .add Za i 1,o,x,O.ar .add Za y (O.gi rs i 1),d) ?_ ?_ ?_;focus (cbv;done))|(refine ag (O.ar .add Za i 1,O.cat o (O.sub [[.i x,.i y],[.i (O.gi rs i 0),.i (O.gi rs i 1)]] 0 (O.ln [[.i x,.i y],[.i (O.gi rs i 0),.i (O.gi rs i 1)]])),x,y,true) ?_ ?_ ?_;focus (cbv;done))|(refine ag (O.ar .add Za i 1,O.cat o (O.sub [[.i (O.gi rs i 0),.i (O.gi rs i 1)]] 0 (O.ln [[.i (O.gi rs i 0),.i (O.gi rs i 1)]])),x,y,d) ?_ ?_ ?_;focus (cbv;done))
 all_goals(subst hO hr hF;(try simp only[nc]at*);(try simp only[ah,SS,sa,az]at*);(try rw[db (by omega) (by omega)]);(try have rk:rgOk n rs=true:=(by assumption));(try have T:=vN rk);(try have gi:rngIn n a l=true:=(by assumption));(try have gb:=J4 gi T);(try have ib:=i2.b);(try have xb:=T.b _ (Zw (fQ (es:=rs) i0 (by omega))));(try have nb:=T.n1);(try simp only at xb);(try have e1:bO .add Za x y=x+y:=bz (by omega));(try have e2:bO .add Za (ab rs i 0) (ab rs i 1)=ab rs i 0+ab rs i 1:=bz (by omega));(try have e3:bO .add Za (ab rs i 1) y=ab rs i 1+y:=bz (by omega));(try have e4:bO .add Za y (ab rs i 1)=y+ab rs i 1:=bz (by omega));(try simp only[e1,e2,e3,e4]at*))
 all_goals first
  | (show(_:List DV)=_
     first
      |(have q:rpB n rs a l=false:=(by unfold rpB;rw[show rgOk n rs=false from(by assumption)];rfl);exact vL (GA q).symm q.symm)
      |(have q:rpB n rs a l=false:=(by unfold rpB;rw[show rngIn n a l=false from(by assumption)];simp);exact vL (GA q).symm q.symm)
      |(have q:=abZ T i2 i0 (by omega) (by omega) (by omega);exact vL (GA q).symm q.symm)
      |(have q:=yM rk gi i2 (by omega);rw[q.1,q.2];subst_vars;rfl)
      |(have q:=yM rk gi i2 (by omega);first|(rw[q.1,q.2,VW (by assumption)];done)|(rw[q.1,q.2,VW (by assumption)];exact rfl))
      |(have q:=yM rk gi i2 (by omega);first|(rw[q.1,q.2,VX (by simp_all)];done)|(rw[q.1,q.2,VX (by simp_all)];exact rfl))
      |done)
  |omega
  |exact gj
  |(show aP _ _=true;kernel_rfl)
  |exact⟨n0,n1,wr,by omega⟩
  |exact⟨n0,n1⟩
  |exact⟨wr,by omega⟩
  |exact Tg gb
  |exact⟨Zh,Zh,Zh⟩
  |exact Ti T i2 i0 (by omega) (by omega) (by omega)
  |exact Tj T i2 i0 (by omega) (by omega) (by omega) (by omega)
  |exact Tl T i2 i0 (by omega) (by omega) (by omega) (by omega) (by omega) (by assumption)
  |exact NV T i2 i0 (by omega) (by omega) (by omega) (by omega) (by omega)
  |exact NV T i2 i0 (by omega) (by omega) (by omega) (by omega) (by simp_all)
  |(simp only[Ze,Zn,Zr];omega)
  |exact Nat.zero_le _
  |exact⟨Zh,Zh⟩
  |exact Zh
  |done
def mK:EC:=fun F=>fun
 |[.one (.s 2 rs)]=>some (fun _=>SmR rs/\rs.length<=4294967296,[.one (.s 2 (F.jnR rs))])
 |_=>none
theorem Ac:ec 338 mK:=by
 intro _ _ _ h hp;dsimp only[mK,F0]at h;split at h<;>cases h
 rename_i rs;obtain⟨S,hl⟩:=hp;have wr:=S.w;refine cb Ka4 Tryz.func338 ?_
 intro O r F hO hr hF;cbv
 repeat' first|apply Zb|(apply bF<;>intro hb<;>cbv)|(refine⟨[0,3,4],[3],Int×aa×Nat,fun s_=>match s_ with|(i,o,m)=>[.reg 4 (.j i),.reg 3 (.one (.vw 3 0 0 0 m)),.leaf 3 0 ⟨0,0,none,.own (.s 2 o)⟩],fun s_=>match s_ with|(i,o,m)=>0<=i/\i<=(rs.length:Int)/\TT rs i o m,fun s_=>match s_ with|(i,o,m)=>rs.length-i.toNat,⟨(0,[],O.ln []),?_,?_⟩,?_⟩;rotate_left;(focus (cbv;done));intro s_ hi;obtain⟨i,o,m⟩:=s_;replace hi:0<=i/\i<=(rs.length:Int)/\TT rs i o m:=hi;obtain⟨i0,i1,i2⟩:=hi;cbv)|(refine ag (O.ar .add Za i 1,O.up (.s 2 o) [(O.ad 0 (O.ar .sub Za (O.zi m) 1),1)] [.i (O.ar .add Za (O.pi (.s 2 o) [(O.ad 0 (O.ar .sub Za (O.zi m) 1),1)]) (O.gi rs i 1))],m) ?_ ?_ ?_;focus (cbv;done))|(refine ag (O.ar .add Za i 1,O.cat o (O.sub [[.i (O.gi rs i 0),.i (O.gi rs i 1)]] 0 (O.ln [[.i (O.gi rs i 0),.i (O.gi rs i 1)]])),O.ln (O.cat o (O.sub [[.i (O.gi rs i 0),.i (O.gi rs i 1)]] 0 (O.ln [[.i (O.gi rs i 0),.i (O.gi rs i 1)]])))) ?_ ?_ ?_;focus (cbv;done))
 all_goals(subst hO hr hF;(try simp only[nc]at*);(try simp only[ah,SS,sa,az]at*);(try rw[db (by omega) (by omega)]);(try have q0:=i2.n);(try have q1:=i2.p.l);(try have q2:=i2.w);(try have e1:bO .sub Za (m:Int) 1=(m:Int)-1:=dG (by omega));(try simp only[e1]at*);(try have s:=S.b i i0 (by omega));(try have b:=i2.b ((m:Int)-1) (by omega) (by omega));(try simp only[lD (l:=o) (sz:=2) (j:=0) (i:=(m:Int)-1) (by omega),lD (l:=o) (sz:=2) (j:=1) (i:=(m:Int)-1) (by omega)]at*);(try have e2:bO .add Za (ab o ((m:Int)-1) 0) (ab o ((m:Int)-1) 1)=ab o ((m:Int)-1) 0+ab o ((m:Int)-1) 1:=bz (by omega));(try have e3:bO .add Za (ab o ((m:Int)-1) 1) (ab rs i 1)=ab o ((m:Int)-1) 1+ab rs i 1:=bz (by omega));(try simp only[e2]at*);(try simp only[e3]at*))
 all_goals first
  | (show(_:List DV)=_
     first
      |(rw[q0,sa];exact congrArg (fun z=>[DV.one (.s 2 z)]) (Jp i2.p (by omega)))
      |exact congrArg (fun z=>[DV.one (.s 2 z)]) (Jp i2.p (by omega))
      |done)
  |omega
  |exact gj
  |(show aP _ _=true;kernel_rfl)
  |exact adP
  |exact⟨Zh,q0⟩
  |(simp only[Zn,Zr];omega)
  |(rw[afZ q2 (by omega) (by omega)];exact adQ i2 S i0 (by omega) hl (by omega) (by omega))
  |exact adR i2 S i0 (by omega) hl (by omega)
  |exact afQ q2 (by omega) (by omega) (by decide)
  |exact abm q2 (by omega) (by omega) (by decide)
  |exact⟨Zh,Zh⟩
  |exact Zh
  |done
abbrev Ka5:da:=ez (fun F f=>match f with|165=>cP F|258=>dk F|338=>mK F|_=>fun _=>none) (by
 intro f;dsimp only;split;exact kE;exact pc;exact Ac;exact de)
theorem qa:ec 275 dT:=by
 intro _ _ _ h hp;dsimp only[dT,F0]at h;split at h<;>cases h
 rename_i n rs a l;obtain⟨n0,n1,wr,hl⟩:=hp;have hs:=wr.scal rfl;refine cb Ka5 Tryz.func275 ?_
 intro O r F hO hr hF;cbv
 repeat' first|apply Zb|(apply bF<;>intro hb<;>cbv)|(refine⟨[1,5,8,9,10,11],[5,8,9],Int×aa×Bool,fun s_=>match s_ with|(i,o,d)=>[.reg 11 (.j i),.reg 10 (.k d),.reg 9 (.one (.vw 9 0 0 0 (O.ln o))),.leaf 9 0 ⟨0,0,none,.own (.s 2 o)⟩],fun s_=>match s_ with|(i,o,d)=>0<=i/\i<=(rs.length:Int)/\BK rs a l i o d,fun s_=>match s_ with|(i,o,d)=>rs.length-i.toNat,⟨(0,[],false),?_,?_⟩,?_⟩;rotate_left;(focus (cbv;done));intro s_ hi;obtain⟨i,o,d⟩:=s_;replace hi:0<=i/\i<=(rs.length:Int)/\BK rs a l i o d:=hi;obtain⟨i0,i1,i2⟩:=hi;cbv)|(refine ag (O.ar .add Za i 1,O.cat (O.cat o (O.sub [[.i a,.i l]] 0 (O.ln [[.i a,.i l]]))) (O.sub [[.i (O.gi rs i 0),.i (O.gi rs i 1)]] 0 (O.ln [[.i (O.gi rs i 0),.i (O.gi rs i 1)]])),true) ?_ ?_ ?_;focus (cbv;done))|(refine ag (O.ar .add Za i 1,O.cat o (O.sub [[.i (O.gi rs i 0),.i (O.gi rs i 1)]] 0 (O.ln [[.i (O.gi rs i 0),.i (O.gi rs i 1)]])),d) ?_ ?_ ?_;focus (cbv;done))
 all_goals(subst hO hr hF;(try simp only[nc]at*);(try simp only[ah,SS,sa,az]at*);(try rw[db (by omega) (by omega)]);(try have rk:rgOk n rs=true:=(by assumption));(try have T:=vN rk);(try have gi:rngIn n a l=true:=(by assumption));(try have gb:=J4 gi T);(try have im:=i2.m);(try have xb:=T.b _ (Zw (fQ (es:=rs) i0 (by omega))));(try have nb:=T.n1);(try simp only at xb);(try have e1:bO .add Za a l=a+l:=bz (by omega));(try have e2:bO .add Za (ab rs i 0) (ab rs i 1)=ab rs i 0+ab rs i 1:=bz (by omega));(try simp only[e1]at*);(try simp only[e2]at*);(try have sm:=ab2 T gi i2 hl i1))
 all_goals first
  | (show(_:List DV)=_
     first
      |(have q:rpB n rs a l=false:=(by unfold rpB;rw[show rgOk n rs=false from(by assumption)];rfl);exact vL (GA q).symm q.symm)
      |(have q:rpB n rs a l=false:=(by unfold rpB;rw[show rngIn n a l=false from(by assumption)];simp);exact vL (GA q).symm q.symm)
      |(have q:=ab1 (n:=n) (rs:=rs) (a0:=a) (l0:=l) i0 (by omega) (by omega) (by omega);exact vL (GA q).symm q.symm)
      |(have q:=J8 rk gi i2 (by omega);first|(rw[q.1,q.2,VW (by assumption)];done)|(rw[q.1,q.2,VW (by assumption)];exact rfl))
      |(have q:=J8 rk gi i2 (by omega);first|(rw[q.1,q.2,VX (by simp_all)];done)|(rw[q.1,q.2,VX (by simp_all)];exact rfl))
      |done)
  |omega
  |exact gj
  |(show aP _ _=true;kernel_rfl)
  |exact hs
  |exact⟨n0,n1,wr,by omega⟩
  |exact⟨n0,n1⟩
  |exact⟨wr,by omega⟩
  |exact afs
  |exact aft i2 i0 (by omega) (by omega) (by assumption) (by omega)
  |exact NX i2 i0 (by omega) (by omega) (by simp_all)
  |exact NX i2 i0 (by omega) (by omega) (by rintro⟨u,v⟩;omega)
  |exact NX i2 i0 (by omega) (by omega) (by rintro⟨u,v⟩;simp_all)
  |(rw[VW (by assumption)]at sm;exact⟨sm,by omega⟩)
  |(rw[VX (by simp_all)]at sm;exact⟨sm,by simp only[Ze,Zn,Zr];omega⟩)
  |(simp only[Zr,Ze,Zn];omega)
  |exact⟨Zh,Zh⟩
  |exact Zh
  |done
open Go.Shelf Go.RowKit Go.Lib in
theorem FQ:OL Tryz.prog 246:=by
 refine⟨fun w=>?_,fun b off sp len cap i hc hm hi w=>?_⟩<;>(go_enter Tryz.func246,Tryz.ntmps246;go_wp2;all_goals(go_ret;exact⟨rfl,rfl⟩))
open Go.Shelf Go.RowKit Go.Lib in
theorem FR:OM Tryz.prog 246 3:=by
 intro w es b off cap i j S v1 v2 v3 F hlt;obtain⟨A,W1,zs,hA,hsrc,hcap,hm,hij,hj,s1,s2,s3,hcl,hW2,hW,hic,hjc⟩:=F.fx hlt [Zi Zp 0,Zi Zp 0,Zi Zp 0] Tryz.underlying61 Tryz.zeroValue186 rfl (List.all_eq_true.1 rfl) rfl;have mixed:Tryz.prog.follows Wn=true:=mixed;clear F
 go_enter Tryz.func246,Tryz.ntmps246
 go_wp2_with fail
 go_region_law_o (refine step_append_room rfl (.tmp 22) (.tmp 25) 61 rfl 186 _ 3 Tryz.underlying61 rfl rfl b off i cap (by simp[YC,Yl]) A (es.length-j) (cap-j) v3 (by simp[YC,Yl]) s1.out hsrc.out s2.out (by omega) s3.out ?_;rw[<-hW.out])
 go_wp2
 go_ret
 rw[hW.out];exact⟨rfl,hW2⟩
def ap:EO:=fun F=>fun
 |[.one (.s 3 es),.one (.v (.int Za i)),.one (.v (.int Za j))]=>some (fun _=>0<=i/\i<=j/\j<=es.length,[.one (.s 3 (F.delL es i j))])
 |_=>none
theorem cC:eo 246 ap:=by
 intro _ _ _ h hp;dsimp only[ap,F0]at h;split at h<;>cases h
 rename_i es i j;exact A0 FQ FR hp
def qN:EC:=fun F=>fun
 |[.agg hl_,.one (.v (.int Za p))]=>hL hl_ fun a0 a1 a2 a3 a4 a5 a6 a7 a8 a9 aA aB aC aD aE aF aG aH aI aJ aK aL aM aN=>(fun _=>True,[.k (F.bsB aI aJ aK p)])
 |_=>none
theorem FD:ec 139 qN:=by
 intro _ _ _ h hp;dsimp only[qN,F0,hL]at h;split at h;rotate_left;cases h;split at h<;>cases h
 rename_i p _ a0 a1 a2 a3 a4 a5 a6 a7 a8 a9 aA aB aC aD aE aF aG aH aI aJ aK aL aM aN;refine cb nB Tryz.func139 ?_
 intro O r F hO hr hF;cbv
 repeat' first|apply Zb|(apply bF<;>intro hb<;>cbv)
 all_goals(subst hO hr hF;(try simp only[nc]at*);(try simp only[ah,SS,sa,az]at*))
 all_goals first
  | (show(_:List DV)=_
     first
      |exact ai (acv (by assumption)).symm
      |exact ai (acs (by assumption) (by assumption)).symm
      |exact ai (acu (by assumption) (by assumption)).symm
      |done)
  |done
def oq:EC:=fun F=>fun
 |[.ptr hl_,.one (.v (.int Za p))]=>hL hl_ fun a0 a1 a2 a3 a4 a5 a6 a7 a8 a9 aA aB aC aD aE aF aG aH aI aJ aK aL aM aN=>(fun _=>True,[.k (F.bsB aI aJ aK p)])
 |_=>none
theorem Cl:ec 215 oq:=by
 intro _ _ _ h hp;dsimp only[oq,F0,hL]at h;split at h;rotate_left;cases h;split at h<;>cases h
 rename_i p _ a0 a1 a2 a3 a4 a5 a6 a7 a8 a9 aA aB aC aD aE aF aG aH aI aJ aK aL aM aN;refine cb nB Tryz.func215 ?_
 intro O r F hO hr hF;cbv
 repeat' first|apply Zb|(apply bF<;>intro hb<;>cbv)
 all_goals(subst hO hr hF;(try simp only[nc]at*);(try simp only[ah,SS,sa,az]at*))
 all_goals first
  | (show(_:List DV)=_
     first
      |exact ai (acv (by assumption)).symm
      |exact ai (acs (by assumption) (Eq.symm (by assumption))).symm
      |(rw[acu (by assumption) (fun e=>absurd e.symm (by assumption))];exact ai (decide_eq_decide.2 ⟨Eq.symm,Eq.symm⟩))
      |done)
  |done
def ie:EC:=fun F=>fun
 |[.ptr hl_]=>hL hl_ fun a0 a1 a2 a3 a4 a5 a6 a7 a8 a9 aA aB aC aD aE aF aG aH aI aJ aK aL aM aN=>(fun _=>a2.length<=1073741824,[.j (F.zlI a2)])
 |_=>none
theorem qe:ec 276 ie:=by
 intro _ _ _ h hp;dsimp only[ie,F0,hL]at h;split at h;rotate_left;cases h;split at h<;>cases h
 rename_i a0 a1 a2 a3 a4 a5 a6 a7 a8 a9 aA aB aC aD aE aF aG aH aI aJ aK aL aM aN;refine cb nB Tryz.func276 ?_
 intro O r F hO hr hF;cbv
 repeat' first|apply Zb|(apply bF<;>intro hb<;>cbv)
 all_goals(subst hO hr hF;(try simp only[nc]at*);(try simp only[ah,SS,sa,az]at*))
 all_goals first|(show(_:List DV)=_;exact rfl)|done
abbrev Zd1:da:=ez (fun F f=>match f with|190=>nO F|192=>mo F|191=>dT F|_=>fun _=>none) (by
 intro f;dsimp only;split;exact BN;exact zg;exact wY;exact de)
def gR:EP:=fun F=>fun
 |[.mp hl_,.agg [.v (.int Za t),.v (.int Za l)]]=>hM hl_ fun a0 a1 a2 a3 a4 a5 a6 a7 a8 a9 aA aB aC aD aE aF aG aH aI aJ aK aL aM aN=>(fun _=>o6 a0 a1 a2 a4 a5 a6 a7 a8 a9 aA aB aD aL/\kerOk a0 a1 a2 a3 a4=true/\a3≠100000/\a5.length<=536870911/\0<=t/\0<=l/\t+l<=1000,[(hpM (F.duC a0 a1 a2 t l) (F.duU a0 a1 a2 t l) (F.duE a0 a1 a2 t l) a3 a4 (F.rpL (F.zlI (F.duE a0 a1 a2 t l)) a5 t l) a6 a7 a8 a9 aA aB aC aD aE aF aG aH aI aJ aK aL aM aN)],[])
 |_=>none
theorem oL:ep 81 gR:=by
 intro _ _ _ _ h hp;dsimp only[gR,F0,hM]at h;split at h;rotate_left;cases h;split at h<;>cases h
 rename_i t l _ a0 a1 a2 a3 a4 a5 a6 a7 a8 a9 aA aB aC aD aE aF aG aH aI aJ aK aL aM aN;obtain⟨hp,hk,hn,h5,t0,l0,tl⟩:=hp;have km:=(oR hk).1;have e1:bO .add Za t l=t+l:=bz (by omega);have c0:=hp.c0;have c1:=hp.c1;have c2:=hp.c2;have c4:=hp.c4;have c5:=hp.c5;have q2:=au (es:=a2);refine pb Zd1 Tryz.func81 ?_
 intro O r os F hO hr hos hF;cbv
 repeat' first|apply Zb|(apply bF<;>intro hb<;>cbv)|(refine⟨[0,3,4],[0,3],Int×aa×aa×aa×aa,fun s_=>match s_ with|(p,c,u,e,r)=>[.reg 4 (.j p),.leaf 0 0 ⟨0,0,none,.own (.s 1 c)⟩,.leaf 0 1 ⟨0,0,none,.own (.s 1 u)⟩,.leaf 0 2 ⟨0,0,none,.own (.s 2 e)⟩,.leaf 0 3 ⟨0,0,none,.own (.i a3)⟩,.leaf 0 4 ⟨0,0,none,.own (.s 1 r)⟩],fun s_=>match s_ with|(p,c,u,e,r)=>t<=p/\p<=t+l/\Oy a0 a1 a2 t p c u e/\r=a4,fun s_=>match s_ with|(p,c,u,e,r)=>(t+l-p).toNat,⟨(t,a0,a1,a2,a4),?_,?_⟩,?_⟩;rotate_left;(focus (cbv;done));intro s_ hp;obtain⟨p,c,u,e,r⟩:=s_;replace hp:t<=p/\p<=t+l/\Oy a0 a1 a2 t p c u e/\r=a4:=hp;obtain⟨p0,p1,p2,p3⟩:=hp;cbv)|(refine ag (O.ar .add Za p 1,F.ktC (F.ccB (O.sub c 0 (O.ln c)) (O.sub u 0 (O.ln u)) (O.sub e 0 (O.ln e)) a3 (O.sub r 0 (O.ln r))) (O.sub c 0 (O.ln c)) (O.sub e 0 (O.ln e)) p,F.ktU (F.ccB (O.sub c 0 (O.ln c)) (O.sub u 0 (O.ln u)) (O.sub e 0 (O.ln e)) a3 (O.sub r 0 (O.ln r))) (O.sub u 0 (O.ln u)) (O.sub e 0 (O.ln e)) p,F.ktE (F.ccB (O.sub c 0 (O.ln c)) (O.sub u 0 (O.ln u)) (O.sub e 0 (O.ln e)) a3 (O.sub r 0 (O.ln r))) (O.sub e 0 (O.ln e)) p,(O.sub r 0 (O.ln r))) ?_ ?_ ?_;focus (cbv;done))
 all_goals((try subst hos);subst hO hr hF;(try simp only[nc]at*);(try simp only[ah,SS,sa,az]at*);(try simp only[e1]at*);(try rw[db (by omega) (by omega)]);(try subst p3);(try have dc:=Ja p2);(try have el:=p2.l);(try have cc:=aaj p2.m hk hn);(try have kk:=adT (cs:=c) (us:=u) (es:=e) (p:=p) cc);(try have en:=Jb (l:=l) p2 (by omega) (by omega)))
 all_goals first
  |(show(_:List DV)=_;exact rfl)
  | (show(_:List H)=_
     first
      |(first|(rw[<-en.1, <-en.2.1, <-en.2.2];done)|(rw[<-en.1, <-en.2.1, <-en.2.2];exact rfl))
      |done)
  |omega
  |exact⟨p2.rc,p2.ru,p2.re,hp.r4,by omega,by omega,by omega,by omega⟩
  |exact LR km hp.r0 hp.r1 hp.r2
  |(show(_:aa)=_;exact rfl)
  |(rw[kk.1,kk.2.1,kk.2.2.1];exact HD p2 p0)
  |exact⟨by unfold zlI;omega,by unfold zlI;omega,hp.r5,by omega⟩
  |(show aP _ _=true;kernel_rfl)
  |exact⟨Zh,Zh⟩
  |exact Zh
  |done
abbrev Zd2:da:={
 Φ:=rz
 F0:=F0
 ct:=fun F f=>match f with|275=>dT F|276=>ie F|_=>fun _=>none
 hc:=(by
  intro f;dsimp only;split;exact qa;exact qe;exact de)
 pt:=fun F f=>match f with|81=>some (gR F)|274=>some (ic F)|_=>none
 hp:=(by
  intro f mk h;dsimp only at h;split at h<;>cases h
  exact oL;exact qb)
 ot:=fun F f=>match f with|246=>some (ap F)|_=>none
 ho:=(by
  intro f mk h;dsimp only at h;split at h<;>cases h
  exact cC)}
def eU:EP:=fun F=>fun
 |[.mp hl_,.one (.v (.int Za i))]=>hM hl_ fun a0 a1 a2 a3 a4 a5 a6 a7 a8 a9 aA aB aC aD aE aF aG aH aI aJ aK aL aM aN=>(fun _=>o6 a0 a1 a2 a4 a5 a6 a7 a8 a9 aA aB aD aL/\kerOk a0 a1 a2 a3 a4=true/\a3≠100000/\a5.length<=536870911/\0<=i/\i<a6.length/\0<=ab a6 i 0/\ab a6 i 0<=31,[(hpM (F.dsC a0 a1 a2 a6 i) (F.dsU a0 a1 a2 a6 i) (F.dsE a0 a1 a2 a6 i) a3 a4 (F.dsF a0 a1 a2 a5 a6 i) (F.dsS a6 i) a7 a8 a9 aA aB aC aD aE aF aG aH aI aJ aK aL aM aN)],[])
 |_=>none
theorem xh:ep 140 eU:=by
 intro _ _ _ _ h hp;dsimp only[eU,F0,hM]at h;split at h;rotate_left;cases h;split at h<;>cases h
 rename_i i _ a0 a1 a2 a3 a4 a5 a6 a7 a8 a9 aA aB aC aD aE aF aG aH aI aJ aK aL aM aN;obtain⟨hp,hk,hn,h5,i0,i1,g0,g1⟩:=hp;have km:=(oR hk).1;have c5:=hp.c5;have c6:=hp.c6;have c2:=hp.c2;have q6:=au (es:=a6);have q2:=au (es:=a2);have q5:=au (es:=a5);have e1:bO .add Za i 1=i+1:=bz (by omega);have hs6:=hp.r6.scal rfl;have kl:=Es (es:=a2) (p:=ab a6 i 0);refine pb Zd2 Tryz.func140 ?_
 exact af7
theorem Ah:ep 216 eU:=by
 intro _ _ _ _ h hp;dsimp only[eU,F0,hM]at h;split at h;rotate_left;cases h;split at h<;>cases h
 rename_i i _ a0 a1 a2 a3 a4 a5 a6 a7 a8 a9 aA aB aC aD aE aF aG aH aI aJ aK aL aM aN;obtain⟨hp,hk,hn,h5,i0,i1,g0,g1⟩:=hp;have km:=(oR hk).1;have c5:=hp.c5;have c6:=hp.c6;have c2:=hp.c2;have q6:=au (es:=a6);have q2:=au (es:=a2);have q5:=au (es:=a5);have e1:bO .add Za i 1=i+1:=bz (by omega);have hs6:=hp.r6.scal rfl;have kl:=Es (es:=a2) (p:=ab a6 i 0);refine pb Zd2 Tryz.func216 ?_
 exact af7
abbrev Ze3:da:=ez (fun F f=>match f with|82=>bU F|_=>fun _=>none) (by
 intro f;dsimp only;split;exact fm;exact de)
def iQ:EP:=fun F=>fun
 |[.mp [.own (.s 1 cs),.own (.s 1 us),.own (.s 2 es),.own (.v (.int Za c)),.own (.s 1 rs)],.one (.v (.int Za a)),.one (.v (.int Za n))]=>some (fun _=>Rw [.sl [tI]] cs/\Rw [tI,tI] es/\rW cs us es/\0<=a/\a<=9223372036854775807/\peM es (a/16)≠0/\0<=n/\a%16+n<=16,[[.own (.s 1 (F.tcC cs es a n)),.own (.s 1 us),.own (.s 2 es),.own (.i c),.own (.s 1 rs)]],[])
 |_=>none
theorem tn:ep 83 iQ:=by
 intro _ _ _ _ h hp;dsimp only[iQ,F0]at h;split at h<;>cases h
 rename_i cs us es c rs a n;obtain⟨wc,we,km,a0,a1,hm,n0,n1⟩:=hp;have fr:=JE km hm;have e1:bO .quo Za a 16=a/16:=sv (by omega) (by omega) (by omega);have e2:bO .rem Za a 16=a%16:=De (by omega);refine pb Ze3 Tryz.func83 ?_
 intro O r os F hO hr hos hF;cbv
 repeat' first|apply Zb|(apply bF<;>intro hb<;>cbv)|(refine⟨[0,1,2,6,7],[0],Int×aa,fun s_=>match s_ with|(i,d)=>[.reg 7 (.j i),.leaf 0 0 ⟨0,0,none,.own (.s 1 d)⟩],fun s_=>match s_ with|(i,d)=>0<=i/\i<=n/\OZ cs us es (peF es (a/16)) (a%16) i d,fun s_=>match s_ with|(i,d)=>(n-i).toNat,⟨(0,cs),?_,?_⟩,?_⟩;rotate_left;(focus (cbv;done));intro s_ hi;obtain⟨i,d⟩:=s_;replace hi:0<=i/\i<=n/\OZ cs us es (peF es (a/16)) (a%16) i d:=hi;obtain⟨i0,i1,i2⟩:=hi;cbv)|(refine ag (O.ar .add Za i 1,O.up (.s 1 d) [(O.ad 0 (F.peF (O.sub es 0 (O.ln es)) (O.ar .quo Za a 16)),0),(O.ad 0 (O.ar .add Za (O.ar .rem Za a 16) i),0)] [.i 0]) ?_ ?_ ?_;focus (cbv;done))
 all_goals((try subst hos);subst hO hr hF;(try simp only[nc]at*);(try simp only[ah,SS,sa,az]at*);(try simp only[jm]at*);(try rw[db (by omega) (by omega)]);(try simp only[e1]at*);(try simp only[e2]at*);(try have e3:bO .add Za (a%16) i=a%16+i:=bz (by omega));(try simp only[e3]at*);(try have dl:=i2.m.u.symm.trans km.u);(try have lf:=i2.m.l (peF es (a/16)) fr.1 (by omega));(try have q:=Ix i2 i0 hm rfl (by omega) (by omega)))
 all_goals first
  |(show(_:List DV)=_;exact rfl)
  | (show(_:List H)=_
     first
      |(have z:=Ki i2 (n:=n) (by omega) (by omega);rw[z];exact rfl)
      |done)
  |omega
  |exact we
  |exact Oh km wc
  |(rw[afX i2.w fr.1 (by omega) (by omega) (by omega)];exact q)
  |exact RP i2.w fr.1 (by omega) (by omega) (by omega)
  |exact Eg i2.w fr.1 (by omega)
  |exact⟨by omega,by omega,AC i2.w fr.1 (by omega)⟩
  |(show aP _ _=true;kernel_rfl)
  |exact⟨Zh,Zh⟩
  |exact Zh
  |done
end Go.V