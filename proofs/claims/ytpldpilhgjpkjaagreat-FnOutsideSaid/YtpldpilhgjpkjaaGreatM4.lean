/- Contracts. -/
import Derived.Test.YtpldpilhgjpkjaaGreatM3
set_option linter.all false
open Go
open And renaming intro->Zb
open IntKind renaming i64->Za
open True renaming intro->Zd
namespace Go.V
open Go Go.Proofs
set_option maxRecDepth 1000000
set_option maxHeartbeats 8000000
abbrev Ka0:dB:=eg (fun F f=>match f with|60=>cG F|201=>cG F|359=>bU F|_=>fun _=>none) (by
 intro f;dsimp only;split;exact ja;exact jd;exact ip;exact dI)
def gO:EC:=fun F=>fun
 |[.agg [.s 1 cs,.s 1 us,.s 2 es,.v (.int Za c),.s 1 rs]]=>some (fun _=>Rw [.sl [tI]] cs/\Rw [tB] us/\Rw [tI,tI] es/\Rw [tI] rs,[.k (F.ccB cs us es c rs)])
 |_=>none
theorem ng:ec 269 gO:=by
 intro _ _ _ h hp;dsimp only[gO,F0]at h;split at h<;>cases h
 rename_i cs us es c rs;refine cb Ka0 Tryz.func269 ?_
 intro O r F hO hr hF;cbv
 repeat' first|apply Zb|(apply b8<;>intro hb<;>cbv)
 all_goals(subst hO hr hF;(try simp only[nc]at*);(try simp only[am,SS,sa,az]at*))
 all_goals first
  | (show(_:List DV)=_
     first
      |exact aj (Ra (by omega)).symm
      |exact aj (GO (by omega)).symm
      |done)
  |exact hp
  |(show aw _ _=true;kernel_rfl)
  |done
def jZ:EC:=fun F=>fun
 |[.ptr [.s 1 cs,.s 1 us,.s 2 es,.v (.int Za c),.s 1 rs],.one (.v (.int Za p))]=>some (fun _=>Rw [tI,tI] es,[.j (F.peM es p)])
 |_=>none
theorem vd:ec 398 jZ:=by
 intro _ _ _ h hp;dsimp only[jZ,F0]at h;split at h<;>cases h
 rename_i cs us es c rs p;refine cb Ka0 Tryz.func398 ?_
 intro O r F hO hr hF;cbv
 repeat' first|apply Zb|(apply b8<;>intro hb<;>cbv)
 all_goals(subst hO hr hF;(try simp only[nc]at*);(try simp only[am,SS,sa,az]at*))
 all_goals first|(show(_:List DV)=_;exact rfl)|exact hp|(show aw _ _=true;kernel_rfl)|done
abbrev Ka1:dB:=eg (fun F f=>match f with|277=>cN F|355=>cN F|_=>fun _=>none) (by
 intro f;dsimp only;split;exact jE;exact jJ;exact dI)
def jU:EP:=fun F=>fun
 |[.mp [.own (.s 1 cs),.own (.s 1 us),.own (.s 2 es),.own (.v (.int Za c)),.own (.s 1 rs)],.one (.v (.int Za f))]=>some (fun _=>Rw [.sl [tI]] cs/\Rw [tB] us/\Rw [tI,tI] es/\es.length<=1099511627776/\0<=f/\f<cs.length/\us.length=cs.length,[[.own (.s 1 (F.dfC cs es f)),.own (.s 1 (F.dfU us es f)),.own (.s 2 es),.own (.i c),.own (.s 1 rs)]],[])
 |_=>none
theorem uQ:ep 270 jU:=by
 intro _ _ _ _ h hp;dsimp only[jU,F0]at h;split at h<;>cases h
 rename_i cs us es c rs f;obtain⟨wc,wu,we,el,f0,f1,ul⟩:=hp;refine pb Ka1 Tryz.func270 ?_
 intro O r os F hO hr hos hF;cbv
 repeat' first|apply Zb|(apply b8<;>intro hb<;>cbv)
 all_goals((try subst hos);subst hO hr hF;(try simp only[nc]at*);(try simp only[am,SS,sa,az]at*))
 all_goals first
  |(show(_:List DV)=_;exact rfl)
  | (show(_:List H)=_
     first
      |(have q:=aco (cs:=cs) (us:=us) (es:=es) (f:=f) (by assumption);first|(rw[q.1,q.2,Jb wc f0 f1,abf wu f0 (by omega)];done)|(rw[q.1,q.2,Jb wc f0 f1,abf wu f0 (by omega)];exact rfl))
      |(have q:=acp (cs:=cs) (us:=us) (es:=es) (f:=f) (by assumption);first|(rw[q.1,q.2];done)|(rw[q.1,q.2];exact rfl))
      |done)
  |omega
  |exact⟨we,el⟩
  |(show aw _ _=true;kernel_rfl)
  |exact ad5 wu f0 (by omega)
  |exact I7 wc f0 f1
  |exact⟨Zd,Zd⟩
  |exact Zd
  |done
abbrev Ka2:dB:={
 Φ:=wV
 F0:=F0
 ct:=fun F f=>match f with|133=>cB F|269=>gO F|170=>gd F|_=>fun _=>none
 hc:=(by
  intro f;dsimp only;split;exact ft;exact ng;exact kM;exact dI)
 pt:=fun F f=>match f with|270=>some (jU F)|_=>none
 hp:=(by
  intro f mk h;dsimp only at h;split at h<;>cases h
  exact uQ)}
def kQ:EC:=fun F=>fun
 |[.agg [.s 1 cs,.s 1 us,.s 2 es,.v (.int Za c),.s 1 rs],.one (.v (.int Za p))]=>some (fun _=>Rw [.sl [tI]] cs/\Rw [tB] us/\Rw [tI,tI] es/\Rw [tI] rs/\bj cs<=1099511627776/\bj us<=1099511627776/\bj es<=1099511627776/\bj rs<=1099511627776,[.agg [.s 1 (F.ktC (F.ccB cs us es c rs) cs es p),.s 1 (F.ktU (F.ccB cs us es c rs) us es p),.s 2 (F.ktE (F.ccB cs us es c rs) es p),.i c,.s 1 rs],.k (F.ktB (F.ccB cs us es c rs) es p)])
 |_=>none
theorem wY:ec 154 kQ:=by
 intro _ _ _ h hp;dsimp only[kQ,F0]at h;split at h<;>cases h
 rename_i cs us es c rs p;obtain⟨wc,wu,we,wr,c1,c2,c3,c4⟩:=hp;have l3:=av (es:=es);refine cb Ka2 Tryz.func154 ?_
 intro O r F hO hr hF;cbv
 repeat' first|apply Zb|(apply b8<;>intro hb<;>cbv)
 all_goals(subst hO hr hF;(try simp only[nc]at*);(try simp only[am,SS,sa,az]at*);(try have mp:mapB es p=true:=(by assumption));(try have at_:=Eh mp);(try have p0:=at_.1.1);(try have p1:=at_.1.2);(try simp only[lH (l:=es) (sz:=2) (j:=1) (i:=p) p0]at*);(try have cc:=LV (cs:=cs) (us:=us) (es:=es) (c:=c) (rs:=rs) (by assumption));(try have km:=(qq cc.2).1);(try have fr:=KL km mp);(try have ul:=km.u);(try have um:=abe we at_.1.1 at_.1.2);(try simp only[um]at*);(try have rm:=(show Rw [tI,tI] (Ap es p)from PU (m:=0) (f:=0) we (by omega) (by omega)));(try have ll:(Ap es p).length=es.length:=List.length_set))
 all_goals first
  | (show(_:List DV)=_
     first
      |(have q:=SR (k:=ccB cs us es c rs) (cs:=cs) (us:=us) (es:=es) (p:=p) (by assumption);first|(rw[q.1,q.2.1,q.2.2.1,q.2.2.2];done)|(rw[q.1,q.2.1,q.2.2.1,q.2.2.2];exact rfl))
      |(have q:=ac9 (k:=ccB cs us es c rs) (cs:=cs) (us:=us) (es:=es) (p:=p) (by assumption);first|(rw[q.1,q.2.1,q.2.2.1,q.2.2.2];done)|(rw[q.1,q.2.1,q.2.2.1,q.2.2.2];exact rfl))
      |(have q:=SU (k:=ccB cs us es c rs) (cs:=cs) (us:=us) (es:=es) (p:=p) (by assumption);have z:=adc (cs:=cs) (us:=us) mp;first|(rw[q.1,q.2.1,q.2.2.1,q.2.2.2,z.1,z.2.1,z.2.2,mp,at_.2.2.1];done)|(rw[q.1,q.2.1,q.2.2.1,q.2.2.2,z.1,z.2.1,z.2.2,mp,at_.2.2.1];exact rfl))
      |done)
  |omega
  |exact⟨wc,wu,we,wr,c1,c2,c3,c4⟩
  |exact⟨wc,wu,we,wr⟩
  |exact we
  |exact⟨wc,wu,rm,by omega,fr.1,fr.2,ul⟩
  |exact P4 we at_.1.1 at_.1.2 (by decide)
  |exact KE we at_.1.1 at_.1.2 (by decide)
  |exact aa5 we p0 p1
  |(show aw _ _=true;kernel_rfl)
  |exact fg
  |exact⟨Zd,Zd⟩
  |exact Zd
  |done
abbrev Zg0:dB:=eg (fun F f=>match f with|133=>cB F|329=>db F|297=>eB F|_=>fun _=>none) (by
 intro f;dsimp only;split;exact ft;exact fV;exact ga;exact dI)
def jQ:EC:=fun F=>fun
 |[.agg [.s 1 cs,.s 1 us,.s 2 es,.v (.int Za c),.s 1 rs]]=>some (fun _=>Rw [.sl [tI]] cs/\Rw [tB] us/\Rw [tI,tI] es/\Rw [tI] rs/\bj cs<=1099511627776/\bj us<=1099511627776/\bj es<=1099511627776/\bj rs<=1099511627776/\0<=c/\c<=100000,[.agg [.s 1 cs,.s 1 us,.s 2 es,.i (F.c1N c),.s 1 rs],.k (F.nhR rs c)])
 |_=>none
theorem uK:ec 333 jQ:=by
 intro _ _ _ h hp;dsimp only[jQ,F0]at h;split at h<;>cases h
 rename_i cs us es c rs;obtain⟨wc,wu,we,wr,k1,k2,k3,k4,c0,c1⟩:=hp;have l4:=av (es:=rs);have e1:bK .add Za c 1=c+1:=bT (by omega);refine cb Zg0 Tryz.func333 ?_
 intro O r F hO hr hF;cbv
 repeat' first|apply Zb|(apply b8<;>intro hb<;>cbv)
 all_goals(subst hO hr hF;(try simp only[nc]at*);(try simp only[am,SS,sa,az]at*);(try simp only[e1]at*))
 all_goals first|(show(_:List DV)=_;exact rfl)|exact⟨wc,wu,we,wr,k1,k2,k3,k4⟩|exact⟨wr,by omega⟩|(show aw _ _=true;kernel_rfl)|exact⟨Zd,Zd⟩|exact Zd|done
def jY:EP:=fun F=>fun
 |[.mp [.own (.s 1 cs),.own (.s 1 us),.own (.s 2 es),.own (.v (.int Za c)),.own (.s 1 rs)]]=>some (fun _=>Rw [tI] rs/\0<=c/\c<=100000,[[.own (.s 1 cs),.own (.s 1 us),.own (.s 2 es),.own (.i (F.c1N c)),.own (.s 1 rs)]],[.k (F.nhR rs c)])
 |_=>none
theorem uZ:ep 413 jY:=by
 intro _ _ _ _ h hp;dsimp only[jY,F0]at h;split at h<;>cases h
 rename_i cs us es c rs;obtain⟨wr,c0,c1⟩:=hp;have e1:bK .add Za c 1=c+1:=bT (by omega);have e2:bK .sub Za (c+1) 1=c:=(fG (by omega)).trans (by omega);refine pb Zg0 Tryz.func413 ?_
 intro O r os F hO hr hos hF;cbv
 repeat' first|apply Zb|(apply b8<;>intro hb<;>cbv)
 all_goals((try subst hos);subst hO hr hF;(try simp only[nc]at*);(try simp only[am,SS,sa,az]at*);(try simp only[e1]at*);(try simp only[e2]at*))
 all_goals first|(show(_:List DV)=_;exact rfl)|(show(_:List H)=_;exact rfl)|exact wr|(show aw _ _=true;kernel_rfl)|exact⟨Zd,Zd⟩|exact Zd|done
abbrev Of0:dB:=eg (fun F f=>match f with|33=>ai F|_=>fun _=>none) (by
 intro f;dsimp only;split;exact aP;exact dI)
def gU:EC:=fun F=>fun
 |[.agg [.v (.int Za d0),.v (.int Za d1),.v (.int Za d2),.v (.int Za d3)],.ptr [.v (.int Za ad)]]=>some (fun _=>True,[.k (F.obD d1 d2 ad)])
 |_=>none
theorem p9:ec 266 gU:=by
 intro _ _ _ h hp;dsimp only[gU,F0]at h;split at h<;>cases h
 rename_i d0 d1 d2 d3 ad;refine cb Of0 Tryz.func266 ?_
 exact Ly
abbrev Of1:dB:=eg (fun F f=>match f with|266=>gU F|_=>fun _=>none) (by
 intro f;dsimp only;split;exact p9;exact dI)
def aZ:EC:=fun F=>fun
 |[.one (.s 4 os),.fn 266 [[.v (.int Za ad)]]]=>some (fun _=>Rw [tI,tI,tI,tI] os/\os.length<=1099511627776,[.j (F.ofI os ad)])
 |_=>none
theorem cq:ec 151 aZ:=by
 intro _ _ _ h hp;dsimp only[aZ,F0]at h;split at h<;>cases h
 rename_i os ad;obtain⟨hw,hn⟩:=hp;refine cb Of1 Tryz.func151 ?_
 intro O r F hO hr hF;cbv
 repeat' first|apply Zb|(apply b8<;>intro hb<;>cbv)|(refine⟨[0,1,7,8],[0],Int,fun i=>[.reg 8 (.j i)],fun i=>0<=i/\i<=((os.length:Nat):Int)/\upto (bR (TT os ad)) i,fun i=>(os.length)-i.toNat,⟨0,?_,?_⟩,?_⟩;rotate_left;(focus (cbv;done));intro i hi;replace hi:0<=i/\i<=((os.length:Nat):Int)/\upto (bR (TT os ad)) i:=hi;obtain⟨i0,i1,i2⟩:=hi;cbv)|(refine ah (O.ar .add Za i 1) ?_ ?_ ?_;focus (cbv;done))
 all_goals(subst hO hr hF;(try simp only[nc]at*);(try simp only[am,SS,sa,az]at*);(try rw[cJ (by omega) (by omega)]))
 all_goals first
  | (show(_:List DV)=_
     first
      |exact bV (dE i2 i0 (by assumption) (show TT os ad i=true from by assumption)).symm
      |exact bV (dF i2 (by assumption)).symm
      |done)
  |omega
  |exact fg
  |(show(lk _ _).isSome=true;kernel_rfl)
  |exact bD
  |exact aU i2 (fX (show TT os ad i=false from by assumption))
  |done
abbrev Of2:dB:=eg (fun F f=>match f with|151=>aZ F|_=>fun _=>none) (by
 intro f;dsimp only;split;exact cq;exact dI)
def jn:EC:=fun F=>fun
 |[.agg hl_,.one (.v (.int Za ad))]=>hL hl_ fun a0 a1 a2 a3 a4 a5 a6 a7 a8 a9 aA aB aC aD aE aF aG aH aI aJ aK aL aM aN=>(fun _=>Rw [tI,tI,tI,tI] a8/\a8.length<=1099511627776,[.j (F.ofI a8 ad)])
 |_=>none
theorem tD:ec 148 jn:=by
 intro _ _ _ h hp;dsimp only[jn,F0,hL]at h;split at h;rotate_left;cases h;split at h<;>cases h
 rename_i ad _ a0 a1 a2 a3 a4 a5 a6 a7 a8 a9 aA aB aC aD aE aF aG aH aI aJ aK aL aM aN;refine cb Of2 Tryz.func148 ?_
 intro O r F hO hr hF;cbv
 repeat' first|apply Zb|(apply b8<;>intro hb<;>cbv)
 all_goals(subst hO hr hF;(try simp only[nc]at*);(try simp only[am,SS,sa,az]at*))
 all_goals first|exact hp|done
abbrev Of3:dB:=eg (fun F f=>match f with|148=>jn F|17=>cV F|91=>cV F|_=>fun _=>none) (by
 intro f;dsimp only;split;exact tD;exact kL;exact kO;exact dI)
def gj:EC:=fun F=>fun
 |[.agg hl_,.one (.v (.int Za ad))]=>hL hl_ fun a0 a1 a2 a3 a4 a5 a6 a7 a8 a9 aA aB aC aD aE aF aG aH aI aJ aK aL aM aN=>(fun _=>HpN a0 a1 a2 a4 a5 a6 a7 a8 a9 aA aB aD aL,[.j (F.ooI (F.hpI a0 a1 a2 a3 a4 a5 a6 a7 a8 a9 aA aB aC aD aE aF aG aH aI aJ aK aL aM aN) a8 ad)])
 |_=>none
theorem mD:ec 44 gj:=by
 intro _ _ _ h hp;dsimp only[gj,F0,hL]at h;split at h;rotate_left;cases h;split at h<;>cases h
 rename_i ad _ a0 a1 a2 a3 a4 a5 a6 a7 a8 a9 aA aB aC aD aE aF aG aH aI aJ aK aL aM aN;have N:=hp.n;refine cb Of3 Tryz.func44 ?_
 intro O r F hO hr hF;cbv
 repeat' first|apply Zb|(apply b8<;>intro hb<;>cbv)
 all_goals(subst hO hr hF;(try simp only[nc]at*);(try simp only[am,SS,sa,az]at*))
 all_goals first|exact hp|exact bV (adr (by assumption)).symm|exact bV (adq (by assumption)).symm|exact⟨N.ow,by have:=N.ol;omega⟩|done
abbrev Ob0:dB:=eg (fun F f=>match f with|353=>cO F|188=>cO F|_=>fun _=>none) (by
 intro f;dsimp only;split;exact mL;exact iZ;exact dI)
def gx:EC:=fun F=>fun
 |[.agg [.s 2 es]]=>some (fun _=>Rw [tI,tI] es/\es.length<=1099511627776,[.j (F.mpT es)])
 |_=>none
theorem pu:ec 79 gx:=by
 intro _ _ _ h hp;dsimp only[gx,F0]at h;split at h<;>cases h
 rename_i es;obtain⟨he,hn⟩:=hp;refine cb Ob0 Tryz.func79 ?_
 intro O r F hO hr hF;cbv
 repeat' first|apply Zb|(apply b8<;>intro hb<;>cbv)|(refine⟨[3,7,8,9],[],Int×Int,fun s_=>match s_ with|(i,n)=>[.reg 9 (.j i),.reg 3 (.j n)],fun s_=>match s_ with|(i,n)=>0<=i/\i<=(es.length:Int)/\n=FH es i.toNat,fun s_=>match s_ with|(i,n)=>es.length-i.toNat,⟨(0,0),?_,?_⟩,?_⟩;rotate_left;(focus (cbv;done));intro s_ hi;obtain⟨i,n⟩:=s_;replace hi:0<=i/\i<=(es.length:Int)/\n=FH es i.toNat:=hi;obtain⟨i0,i1,i2⟩:=hi;cbv)|(refine ah (O.ar .add Za i 1,O.ar .add Za n 1) ?_ ?_ ?_;focus (cbv;done))|(refine ah (O.ar .add Za i 1,n) ?_ ?_ ?_;focus (cbv;done))
 all_goals(subst hO hr hF;(try simp only[nc]at*);(try simp only[am,SS,sa,az]at*);(try rw[cJ (by omega) (by omega)]);(try(have un:=Ic (es:=es) (n:=i.toNat);have en:bK .add Za n 1=n+1:=bT (by omega);simp only[en])))
 all_goals first
  | (show(_:List DV)=_
     first
      |exact bV (i2.trans (Pi i1 (by omega)))
      |done)
  |exact fg
  |omega
  |(rw[cJ (by omega) (by omega),Pj i0 (by assumption), <-i2])
  |exact i2.trans (TD i0 (by assumption)).symm
  |exact rfl
  |done
def gN:EC:=fun F=>fun
 |[.agg [.s 1 cs,.s 1 us]]=>some (fun _=>Rw [.sl [tI]] cs/\Rw [tB] us,[.j (F.ufN cs us)])
 |_=>none
theorem pY:ec 80 gN:=by
 intro _ _ _ h hp;dsimp only[gN,F0]at h;split at h<;>cases h
 rename_i cs us;obtain⟨hc,hu⟩:=hp;have hm:=hu.1;unfold maxLen at hm;refine cb Ob0 Tryz.func80 ?_
 intro O r F hO hr hF;cbv
 repeat' first|apply Zb|(apply b8<;>intro hb<;>cbv)|(refine⟨[3,10,11,12],[],Int×Int,fun s_=>match s_ with|(i,n)=>[.reg 12 (.j i),.reg 3 (.j n)],fun s_=>match s_ with|(i,n)=>0<=i/\i<=(us.length:Int)/\n=BW us i.toNat,fun s_=>match s_ with|(i,n)=>us.length-i.toNat,⟨(0,0),?_,?_⟩,?_⟩;rotate_left;(focus (cbv;done));intro s_ hi;obtain⟨i,n⟩:=s_;replace hi:0<=i/\i<=(us.length:Int)/\n=BW us i.toNat:=hi;obtain⟨i0,i1,i2⟩:=hi;cbv)|(refine ah (O.ar .add Za i 1,O.ar .add Za n 1) ?_ ?_ ?_;focus (cbv;done))|(refine ah (O.ar .add Za i 1,n) ?_ ?_ ?_;focus (cbv;done))
 all_goals(subst hO hr hF;(try simp only[nc]at*);(try simp only[am,SS,sa,az]at*);(try rw[cJ (by omega) (by omega)]);(try(have un:=Ja (us:=us) (n:=i.toNat);have en:bK .add Za n 1=n+1:=bT (by omega);simp only[en])))
 all_goals first
  | (show(_:List DV)=_
     first
      |exact bV (abc (by assumption)).symm
      |exact bV (i2.trans (Qe (by assumption) i1 (by omega)).symm)
      |done)
  |exact⟨hc,hu⟩
  |exact fg
  |omega
  |(rw[cJ (by omega) (by omega),Lr i0 (by assumption), <-i2])
  |(rw[Qf i0 (by assumption)];exact i2)
  |exact rfl
  |done
abbrev Ob1:dB:=eg (fun F f=>match f with|164=>dj F|54=>bU F|359=>bU F|_=>fun _=>none) (by
 intro f;dsimp only;split;exact lx;exact fI;exact ip;exact dI)
def gR:EC:=fun F=>fun
 |[.agg [.s 1 cs,.s 1 us,.s 2 es],.one (.v (.int Za a))]=>some (fun _=>Rw [.sl [tI]] cs/\Rw [tB] us/\Rw [tI,tI] es/\Gi a,[.agg [.i (F.smM cs us es a),.i (F.smF cs us es a)]])
 |_=>none
theorem ni:ec 149 gR:=by
 intro _ _ _ h hp;dsimp only[gR,F0]at h;split at h<;>cases h
 rename_i cs us es a;obtain⟨hc,hu,he,ha⟩:=hp;have hq:¬ a<0->bK .quo Za a 16=a/16:=fun h=>v9 (by omega) (by omega) (by omega)
 refine cb Ob1 Tryz.func149 ?_
 intro O r F hO hr hF;cbv
 repeat' first|apply Zb|(apply b8<;>intro hb<;>cbv)
 all_goals(subst hO hr hF;(try simp only[nc]at*);(try simp only[am,SS,sa,az]at*))
 all_goals first|exact⟨hc,hu,he⟩|exact he|exact Av (yj (.inr (by omega))).1.symm (yj (.inr (by omega))).2.symm|exact Av (yj (.inl (by assumption))).1.symm (yj (.inl (by assumption))).2.symm|(rw[hq (by omega)];have hi:machOk cs us es=true:=(by assumption);exact Av ((rY hi).1.trans (vO (by omega)).1).symm ((rY hi).2.trans (vO (by omega)).2.1).symm)|trivial|trace_state
abbrev Ob3:dB:=eg (fun F f=>match f with|149=>gR F|_=>fun _=>none) (by
 intro f;dsimp only;split;exact ni;exact dI)
def ny:EC:=fun F=>fun
 |[.agg [.s 1 cs,.s 1 us,.s 2 es],.one (.v (.int Za a))]=>some (fun _=>Rw [.sl [tI]] cs/\Rw [tB] us/\Rw [tI,tI] es/\Gi a,[.j (F.ldV cs us es a),.j (F.ldK cs us es a)])
 |_=>none
theorem AB:ec 45 ny:=by
 intro _ _ _ h hp;dsimp only[ny,F0]at h;split at h<;>cases h
 rename_i cs us es a;obtain⟨hc,hu,he,hb⟩:=hp;have lk:=OU (a:=a);have hr:¬ a<0->bK .rem Za a 16=a%16:=fun h=>wg (by omega)
 refine cb Ob3 Tryz.func45 ?_
 intro O r F hO hr hF;cbv
 repeat' first|apply Zb|(apply b8<;>intro hb<;>cbv)
 all_goals(subst hO hr hF;(try simp only[nc]at*);(try simp only[am,SS,sa,az]at*);(try have hz:smM cs us es a≠0:=(by assumption));(try have fr:=M5 hz);(try have ok:=EZ hz);(try have hrr:Rw [tI] (ax cs (smF cs us es a) 0):=Rw.sub (fs:=[.sl [tI]]) hc (by omega) rfl);(try rw[hr (by omega)]))
 all_goals first
  | (show(_:List DV)=_
     first
      |(have q:=OQ (by assumption);exact kE q.1.symm q.2.symm)
      |(have q:=OR hz;exact kE q.1.symm q.2.symm)
      |done)
  |exact fg
  |exact⟨hc,hu,he,hb⟩
  |omega
  |done
abbrev Ob4:dB:=eg (fun F f=>match f with|17=>cV F|91=>cV F|79=>gx F|80=>gN F|44=>gj F|45=>ny F|_=>fun _=>none) (by
 intro f;dsimp only;split;exact kL;exact kO;exact pu;exact pY;exact mD;exact AB;exact dI)
def jh:EC:=fun F=>fun
 |[.agg hl_,.one (.v (.int Za a))]=>hL hl_ fun a0 a1 a2 a3 a4 a5 a6 a7 a8 a9 aA aB aC aD aE aF aG aH aI aJ aK aL aM aN=>(fun _=>HpN a0 a1 a2 a4 a5 a6 a7 a8 a9 aA aB aD aL/\Gi a,[.j (F.hlV (F.ooI (F.hpI a0 a1 a2 a3 a4 a5 a6 a7 a8 a9 aA aB aC aD aE aF aG aH aI aJ aK aL aM aN) a8 a) (F.ldV a0 a1 a2 a)),.j (F.hlK (F.ooI (F.hpI a0 a1 a2 a3 a4 a5 a6 a7 a8 a9 aA aB aC aD aE aF aG aH aI aJ aK aL aM aN) a8 a))])
 |_=>none
theorem tg:ec 13 jh:=by
 intro _ _ _ h hp;dsimp only[jh,F0,hL]at h;split at h;rotate_left;cases h;split at h<;>cases h
 rename_i a _ a0 a1 a2 a3 a4 a5 a6 a7 a8 a9 aA aB aC aD aE aF aG aH aI aJ aK aL aM aN;obtain⟨hp,hB⟩:=hp;refine cb Ob4 Tryz.func13 ?_
 intro O r F hO hr hF;cbv
 repeat' first|apply Zb|(apply b8<;>intro hb<;>cbv)
 all_goals(subst hO hr hF;(try simp only[nc]at*);(try simp only[am,SS,sa,az]at*))
 all_goals first|exact hp|exact kE (Ho (by omega)).1.symm (Ho (v:=0) (by omega)).2.symm|exact kE (Mm (by omega)).1.symm (Mm (v:=0) (by omega)).2.symm|exact⟨hp.c,hp.u,hp.e,hB⟩|done
abbrev Oc0:dB:=eg (fun F f=>match f with|167=>co F|296=>co F|56=>bC F|43=>bC F|273=>cF F|361=>cF F|_=>fun _=>none) (by
 intro f;dsimp only;split;exact iO;exact fZ;exact de;exact dO;exact gH;exact jI;exact dI)
def jS:EC:=fun F=>fun
 |[.agg hl_]=>hL hl_ fun a0 a1 a2 a3 a4 a5 a6 a7 a8 a9 aA aB aC aD aE aF aG aH aI aJ aK aL aM aN=>(fun _=>a2.length<=1073741824,[.j (F.zlI a2)])
 |_=>none
theorem uM:ec 156 jS:=by
 intro _ _ _ h hp;dsimp only[jS,F0,hL]at h;split at h;rotate_left;cases h;split at h<;>cases h
 rename_i a0 a1 a2 a3 a4 a5 a6 a7 a8 a9 aA aB aC aD aE aF aG aH aI aJ aK aL aM aN;refine cb Oc0 Tryz.func156 ?_
 exact Ly
end Go.V