/- Contracts. -/
import Derived.Test.YtcbcfelbafccpaaGreatXM3
set_option linter.all false
open Go
open And renaming intro->Zc
open IntKind renaming i64->Za
open True renaming intro->Zd
namespace Go.V
open Go Go.Proofs
set_option maxRecDepth 1000000
set_option maxHeartbeats 8000000
abbrev Ka0:dq:=dP (fun F f=>match f with|40=>eg F|_=>fun _=>none) (by
 intro f;dsimp only;split;exact jd;exact dy)
def gI:EC:=fun F=>fun
 |[.agg [.s 1 cs,.s 1 us,.s 2 es,.v (.int Za c),.s 1 rs]]=>some (fun _=>Rw [.sl [tI]] cs/\Rw [tB] us/\Rw [tI,tI] es/\Rw [tI] rs,[.k (F.ccB cs us es c rs)])
 |_=>none
def ni:ec 120 gI:=by
 intro _ _ _ h hp;dsimp only[gI,F0]at h;split at h<;>cases h
 rename_i cs us es c rs;refine cb Ka0 Tryz.func120 ?_
 intro O r F hO hr hF;cbv
 repeat' first|apply Zc|(apply cN<;>intro hb<;>cbv)
 all_goals(subst hO hr hF;(try simp only[nc]at*);(try simp only[am,SS,sa,az]at*))
 all_goals first
  | (show(_:List DV)=_
     first
      |exact au (Q6 Uc).symm
      |exact au (Ga Uc).symm
      |done)
  |exact hp
  |(show ay _ _=true;kernel_rfl)
  |done
abbrev Ka1:dq:=dP (fun F f=>match f with|124=>eW F|_=>fun _=>none) (by
 intro f;dsimp only;split;exact jR;exact dy)
def j7:EP:=fun F=>fun
 |[.mp [.own (.s 1 cs),.own (.s 1 us),.own (.s 2 es),.own (.v (.int Za c)),.own (.s 1 rs)],.one (.v (.int Za f))]=>some (fun _=>Rw [.sl [tI]] cs/\Rw [tB] us/\Rw [tI,tI] es/\es.length<=1099511627776/\0<=f/\f<cs.length/\us.length=cs.length,[[.own (.s 1 (F.dfC cs es f)),.own (.s 1 (F.dfU us es f)),.own (.s 2 es),.own (.i c),.own (.s 1 rs)]],[])
 |_=>none
def uR:ep 121 j7:=by
 intro _ _ _ _ h hp;dsimp only[j7,F0]at h;split at h<;>cases h
 rename_i cs us es c rs f;obtain⟨wc,wu,we,el,f0,f1,ul⟩:=hp;refine pb Ka1 Tryz.func121 ?_
 intro O r os F hO hr hos hF;cbv
 repeat' first|apply Zc|(apply cN<;>intro hb<;>cbv)
 all_goals((try subst hos);subst hO hr hF;(try simp only[nc]at*);(try simp only[am,SS,sa,az]at*))
 all_goals first
  |(show(_:List DV)=_;exact rfl)
  | (show(_:List H)=_
     first
      |(have q:=abN (cs:=cs) (us:=us) (es:=es) (f:=f) Ud;first|(rw[q.1,q.2,Iq wc f0 f1,aaV wu f0 Uc];done)|(rw[q.1,q.2,Iq wc f0 f1,aaV wu f0 Uc];exact rfl))
      |(have q:=abO (cs:=cs) (us:=us) (es:=es) (f:=f) Ud;first|(rw[q.1,q.2];done)|(rw[q.1,q.2];exact rfl))
      |done)
  |omega
  |exact⟨we,el⟩
  |(show ay _ _=true;kernel_rfl)
  |exact adw wu f0 Uc
  |exact Ie wc f0 f1
  |exact⟨Zd,Zd⟩
  |exact Zd
  |done
abbrev Ka2:dq:={
 Φ:=wC
 F0:=F0
 ct:=fun F f=>match f with|56=>dn F|120=>gI F|86=>fG F|_=>fun _=>none
 hc:=(by
  intro f;dsimp only;split;exact eM;exact ni;exact kL;exact dy)
 pt:=fun F f=>match f with|121=>some (j7 F)|_=>none
 hp:=(by
  intro f mk h;dsimp only at h;split at h<;>cases h
  exact uR)}
def iL:EC:=fun F=>fun
 |[.agg [.s 1 cs,.s 1 us,.s 2 es,.v (.int Za c),.s 1 rs],.one (.v (.int Za p))]=>some (fun _=>Rw [.sl [tI]] cs/\Rw [tB] us/\Rw [tI,tI] es/\Rw [tI] rs/\bC cs<=1099511627776/\bC us<=1099511627776/\bC es<=1099511627776/\bC rs<=1099511627776,[.agg [.s 1 (F.ktC (F.ccB cs us es c rs) cs es p),.s 1 (F.ktU (F.ccB cs us es c rs) us es p),.s 2 (F.ktE (F.ccB cs us es c rs) es p),.i c,.s 1 rs],.k (F.ktB (F.ccB cs us es c rs) es p)])
 |_=>none
def oY:ec 78 iL:=by
 intro _ _ _ h hp;dsimp only[iL,F0]at h;split at h<;>cases h
 rename_i cs us es c rs p;obtain⟨wc,wu,we,wr,c1,c2,c3,c4⟩:=hp;have l3:=bj (es:=es);refine cb Ka2 Tryz.func78 ?_
 intro O r F hO hr hF;cbv
 repeat' first|apply Zc|(apply cN<;>intro hb<;>cbv)
 all_goals(subst hO hr hF;(try simp only[nc]at*);(try simp only[am,SS,sa,az]at*);(try have mp:mapB es p=true:=Ud);(try have at_:=D1 mp);(try have p0:=at_.1.1);(try have p1:=at_.1.2);(try simp only[lG (l:=es) (sz:=2) (j:=1) (i:=p) p0]at*);(try have cc:=Lg (cs:=cs) (us:=us) (es:=es) (c:=c) (rs:=rs) Ud);(try have km:=(lA cc.2).1);(try have fr:=D2 km mp);(try have ul:=km.u);(try have um:=aaT we at_.1.1 at_.1.2);(try simp only[um]at*);(try have rm:=(show Rw [tI,tI] (zV es p)from PD (m:=0) (f:=0) we Uc Uc));(try have ll:(zV es p).length=es.length:=List.length_set))
 all_goals first
  | (show(_:List DV)=_
     first
      |(have q:=SK (k:=ccB cs us es c rs) (cs:=cs) (us:=us) (es:=es) (p:=p) Ud;first|(rw[q.1,q.2.1,q.2.2.1,q.2.2.2];done)|(rw[q.1,q.2.1,q.2.2.1,q.2.2.2];exact rfl))
      |(have q:=acI (k:=ccB cs us es c rs) (cs:=cs) (us:=us) (es:=es) (p:=p) Ud;first|(rw[q.1,q.2.1,q.2.2.1,q.2.2.2];done)|(rw[q.1,q.2.1,q.2.2.1,q.2.2.2];exact rfl))
      |(have q:=Of (k:=ccB cs us es c rs) (cs:=cs) (us:=us) (es:=es) (p:=p) Ud;have z:=acL (cs:=cs) (us:=us) mp;first|(rw[q.1,q.2.1,q.2.2.1,q.2.2.2,z.1,z.2.1,z.2.2,mp,at_.2.2.1];done)|(rw[q.1,q.2.1,q.2.2.1,q.2.2.2,z.1,z.2.1,z.2.2,mp,at_.2.2.1];exact rfl))
      |done)
  |omega
  |exact⟨wc,wu,we,wr,c1,c2,c3,c4⟩
  |exact⟨wc,wu,we,wr⟩
  |exact we
  |exact⟨wc,wu,rm,Uc,fr.1,fr.2,ul⟩
  |exact PP we at_.1.1 at_.1.2 (by decide)
  |exact J9 we at_.1.1 at_.1.2 (by decide)
  |exact aaE we p0 p1
  |(show ay _ _=true;kernel_rfl)
  |exact ga
  |exact⟨Zd,Zd⟩
  |exact Zd
  |done
abbrev Ka4:dq:=dP (fun F f=>match f with|41=>eh F|82=>gR F|57=>dK F|_=>fun _=>none) (by
 intro f;dsimp only;split;exact jf;exact np;exact gx;exact dy)
def js:EC:=fun F=>fun
 |[.one (.v (.int Za n)),.one (.s 2 rs),.agg [.v (.int Za a),.v (.int Za l)]]=>some (fun _=>0<=n/\n<=1099511627776/\Rw [tI,tI] rs/\rs.length<=1073741824,[.one (.s 2 (F.rpL n rs a l)),.k (F.rpB n rs a l)])
 |_=>none
def tL:ec 79 js:=by
 intro _ _ _ h hp;dsimp only[js,F0]at h;split at h<;>cases h
 rename_i n rs a l;obtain⟨n0,n1,wr,hl⟩:=hp;refine cb Ka4 Tryz.func79 ?_
 intro O r F hO hr hF;cbv
 repeat' first|apply Zc|(apply cN<;>intro hb<;>cbv)|(refine⟨[1,5,8,9,25,26,27],[5,8],Int×af×Int×Int×Bool,fun s_=>match s_ with|(i,o,x,y,d)=>[.reg 27 (.j i),.reg 9 (.k d),.reg 8 (.one (.vw 8 0 0 0 (O.ln o))),.leaf 8 0 ⟨0,0,none,.own (.s 2 o)⟩,.leaf 5 0 ⟨0,0,none,.own (.i x)⟩,.leaf 5 1 ⟨0,0,none,.own (.i y)⟩],fun s_=>match s_ with|(i,o,x,y,d)=>0<=i/\i<=(rs.length:Int)/\BJ rs a l i o x y d/\o.length<=2*i.toNat,fun s_=>match s_ with|(i,o,x,y,d)=>rs.length-i.toNat,⟨(0,[],a,l,false),?_,?_⟩,?_⟩;rotate_left;(focus (cbv;done));intro s_ hi;obtain⟨i,o,x,y,d⟩:=s_;replace hi:0<=i/\i<=(rs.length:Int)/\BJ rs a l i o x y d/\o.length<=2*i.toNat:=hi;obtain⟨i0,i1,i2,i3⟩:=hi;cbv)|(refine ai (O.ar .add Za i 1,o,O.gi rs i 0,O.ar .add Za (O.gi rs i 1) y,d) ?_ ?_ ?_;focus (cbv;done))|(refine ai (O.ar .add Za i 1,o,x,O.ar .add Za y (O.gi rs i 1),d) ?_ ?_ ?_;focus (cbv;done))|(refine ai (O.ar .add Za i 1,O.cat o (O.sub [[.i x,.i y],[.i (O.gi rs i 0),.i (O.gi rs i 1)]] 0 (O.ln [[.i x,.i y],[.i (O.gi rs i 0),.i (O.gi rs i 1)]])),x,y,true) ?_ ?_ ?_;focus (cbv;done))|(refine ai (O.ar .add Za i 1,O.cat o (O.sub [[.i (O.gi rs i 0),.i (O.gi rs i 1)]] 0 (O.ln [[.i (O.gi rs i 0),.i (O.gi rs i 1)]])),x,y,d) ?_ ?_ ?_;focus (cbv;done))
 all_goals(subst hO hr hF;(try simp only[nc]at*);(try simp only[am,SS,sa,az]at*);(try rw[di Uc Uc]);(try have rk:rgOk n rs=true:=Ud);(try have T:=yS rk);(try have gi:rngIn n a l=true:=Ud);(try have gb:=Ma gi T);(try have ib:=i2.b);(try have xb:=T.b _ (List.mem_of_getElem? (jE (es:=rs) i0 Uc)));(try have nb:=T.n1);(try simp only at xb);(try have e1:bK .add Za x y=x+y:=cu Uc);(try have e2:bK .add Za (ag rs i 0) (ag rs i 1)=ag rs i 0+ag rs i 1:=cu Uc);(try have e3:bK .add Za (ag rs i 1) y=ag rs i 1+y:=cu Uc);(try have e4:bK .add Za y (ag rs i 1)=y+ag rs i 1:=cu Uc);(try simp only[e1,e2,e3,e4]at*))
 all_goals first
  | (show(_:List DV)=_
     first
      |(have q:rpB n rs a l=false:=(by unfold rpB;rw[show rgOk n rs=false from Ud];rfl);exact CN (HZ q).symm q.symm)
      |(have q:rpB n rs a l=false:=(by unfold rpB;rw[show rngIn n a l=false from Ud];simp);exact CN (HZ q).symm q.symm)
      |(have q:=Pz T i2 i0 Uc Uc Uc;exact CN (HZ q).symm q.symm)
      |(have q:=uo rk gi i2 Uc;rw[q.1,q.2];subst_vars;rfl)
      |(have q:=uo rk gi i2 Uc;first|(rw[q.1,q.2,VJ Ud];done)|(rw[q.1,q.2,VJ Ud];exact rfl))
      |(have q:=uo rk gi i2 Uc;first|(rw[q.1,q.2,VK (by simp_all)];done)|(rw[q.1,q.2,VK (by simp_all)];exact rfl))
      |done)
  |omega
  |exact ga
  |(show ay _ _=true;kernel_rfl)
  |exact⟨n0,n1,wr,Uc⟩
  |exact⟨n0,n1⟩
  |exact⟨wr,Uc⟩
  |exact Mb gb
  |exact⟨Zd,Zd,Zd⟩
  |exact Mc T i2 i0 Uc Uc Uc
  |exact Md T i2 i0 Uc Uc Uc Uc
  |exact Me T i2 i0 Uc Uc Uc Uc Uc Ud
  |exact H0 T i2 i0 Uc Uc Uc Uc Uc
  |exact H0 T i2 i0 Uc Uc Uc Uc (by simp_all)
  |(simp only[List.length_append,List.length_cons,List.length_nil];omega)
  |exact Nat.zero_le _
  |exact⟨Zd,Zd⟩
  |exact Zd
  |done
abbrev Zg0:dq:=dP (fun F f=>match f with|56=>dn F|136=>cS F|_=>fun _=>none) (by
 intro f;dsimp only;split;exact eM;exact fA;exact dy)
def j4:EC:=fun F=>fun
 |[.agg [.s 1 cs,.s 1 us,.s 2 es,.v (.int Za c),.s 1 rs]]=>some (fun _=>Rw [.sl [tI]] cs/\Rw [tB] us/\Rw [tI,tI] es/\Rw [tI] rs/\bC cs<=1099511627776/\bC us<=1099511627776/\bC es<=1099511627776/\bC rs<=1099511627776/\0<=c/\c<=100000,[.agg [.s 1 cs,.s 1 us,.s 2 es,.i (F.c1N c),.s 1 rs],.k (F.nhR rs c)])
 |_=>none
def uN:ec 140 j4:=by
 intro _ _ _ h hp;dsimp only[j4,F0]at h;split at h<;>cases h
 rename_i cs us es c rs;obtain⟨wc,wu,we,wr,k1,k2,k3,k4,c0,c1⟩:=hp;have l4:=bj (es:=rs);have e1:bK .add Za c 1=c+1:=cu Uc;refine cb Zg0 Tryz.func140 ?_
 intro O r F hO hr hF;cbv
 repeat' first|apply Zc|(apply cN<;>intro hb<;>cbv)
 all_goals(subst hO hr hF;(try simp only[nc]at*);(try simp only[am,SS,sa,az]at*);(try simp only[e1]at*))
 all_goals first|(show(_:List DV)=_;exact rfl)|exact⟨wc,wu,we,wr,k1,k2,k3,k4⟩|exact⟨wr,Uc⟩|(show ay _ _=true;kernel_rfl)|exact⟨Zd,Zd⟩|exact Zd|done
abbrev Of0:dq:=dP (fun F f=>match f with|19=>ah F|_=>fun _=>none) (by
 intro f;dsimp only;split;exact aw;exact dy)
def gP:EC:=fun F=>fun
 |[.agg [.v (.int Za d0),.v (.int Za d1),.v (.int Za d2),.v (.int Za d3)],.ptr [.v (.int Za ad)]]=>some (fun _=>True,[.k (F.obD d1 d2 ad)])
 |_=>none
def p9:ec 117 gP:=by
 intro _ _ _ h hp;dsimp only[gP,F0]at h;split at h<;>cases h
 rename_i d0 d1 d2 d3 ad;refine cb Of0 Tryz.func117 ?_
 exact zq1
abbrev Of1:dq:=dP (fun F f=>match f with|117=>gP F|_=>fun _=>none) (by
 intro f;dsimp only;split;exact p9;exact dy)
def aZ:EC:=fun F=>fun
 |[.one (.s 4 os),.fn 117 [[.v (.int Za ad)]]]=>some (fun _=>Rw [tI,tI,tI,tI] os/\os.length<=1099511627776,[.j (F.ofI os ad)])
 |_=>none
def cp:ec 36 aZ:=by
 intro _ _ _ h hp;dsimp only[aZ,F0]at h;split at h<;>cases h
 rename_i os ad;obtain⟨hw,hn⟩:=hp;refine cb Of1 Tryz.func36 ?_
 intro O r F hO hr hF;cbv
 repeat' first|apply Zc|(apply cN<;>intro hb<;>cbv)|(refine⟨[0,1,7,8],[0],Int,fun i=>[.reg 8 (.j i)],fun i=>0<=i/\i<=((os.length:Nat):Int)/\upto (cI (TL os ad)) i,fun i=>(os.length)-i.toNat,⟨0,?_,?_⟩,?_⟩;rotate_left;(focus (cbv;done));intro i hi;replace hi:0<=i/\i<=((os.length:Nat):Int)/\upto (cI (TL os ad)) i:=hi;obtain⟨i0,i1,i2⟩:=hi;cbv)|(refine ai (O.ar .add Za i 1) ?_ ?_ ?_;focus (cbv;done))
 all_goals(subst hO hr hF;(try simp only[nc]at*);(try simp only[am,SS,sa,az]at*);(try rw[di Uc Uc]))
 all_goals first
  | (show(_:List DV)=_
     first
      |exact cg (dB i2 i0 Ud (show TL os ad i=true from by assumption)).symm
      |exact cg (dL i2 Ud).symm
      |done)
  |omega
  |exact ga
  |(show(lk _ _).isSome=true;kernel_rfl)
  |exact bR
  |exact bL i2 (fE (show TL os ad i=false from by assumption))
  |done
abbrev Of2:dq:=dP (fun F f=>match f with|36=>aZ F|_=>fun _=>none) (by
 intro f;dsimp only;split;exact cp;exact dy)
def jB:EC:=fun F=>fun
 |[.agg hl_,.one (.v (.int Za ad))]=>hL hl_ fun a0 a1 a2 a3 a4 a5 a6 a7 a8 a9 aA aB aC aD aE aF aG aH aI aJ aK aL aM aN=>(fun _=>Rw [tI,tI,tI,tI] a8/\a8.length<=1099511627776,[.j (F.ofI a8 ad)])
 |_=>none
def tV:ec 72 jB:=by
 intro _ _ _ h hp;dsimp only[jB,F0,hL]at h;split at h;rotate_left;cases h;split at h<;>cases h
 rename_i ad _ a0 a1 a2 a3 a4 a5 a6 a7 a8 a9 aA aB aC aD aE aF aG aH aI aJ aK aL aM aN;refine cb Of2 Tryz.func72 ?_
 intro O r F hO hr hF;cbv
 repeat' first|apply Zc|(apply cN<;>intro hb<;>cbv)
 all_goals(subst hO hr hF;(try simp only[nc]at*);(try simp only[am,SS,sa,az]at*))
 all_goals first|exact hp|done
abbrev Of3:dq:=dP (fun F f=>match f with|72=>jB F|12=>dS F|_=>fun _=>none) (by
 intro f;dsimp only;split;exact tV;exact eC;exact dy)
def fS:EC:=fun F=>fun
 |[.agg hl_,.one (.v (.int Za ad))]=>hL hl_ fun a0 a1 a2 a3 a4 a5 a6 a7 a8 a9 aA aB aC aD aE aF aG aH aI aJ aK aL aM aN=>(fun _=>QM a0 a1 a2 a4 a5 a6 a7 a8 a9 aA aB aD aL,[.j (F.ooI (F.hpI a0 a1 a2 a3 a4 a5 a6 a7 a8 a9 aA aB aC aD aE aF aG aH aI aJ aK aL aM aN) a8 ad)])
 |_=>none
def mL:ec 28 fS:=by
 intro _ _ _ h hp;dsimp only[fS,F0,hL]at h;split at h;rotate_left;cases h;split at h<;>cases h
 rename_i ad _ a0 a1 a2 a3 a4 a5 a6 a7 a8 a9 aA aB aC aD aE aF aG aH aI aJ aK aL aM aN;have N:=hp.n;refine cb Of3 Tryz.func28 ?_
 intro O r F hO hr hF;cbv
 repeat' first|apply Zc|(apply cN<;>intro hb<;>cbv)
 all_goals(subst hO hr hF;(try simp only[nc]at*);(try simp only[am,SS,sa,az]at*))
 all_goals first|exact hp|exact cg (adb Ud).symm|exact cg (ada Ud).symm|exact⟨N.ow,by have:=N.ol;omega⟩|done
abbrev Ob1:dq:=dP (fun F f=>match f with|81=>fj F|77=>cO F|_=>fun _=>none) (by
 intro f;dsimp only;split;exact lh;exact dx;exact dy)
def gM:EC:=fun F=>fun
 |[.agg [.s 1 cs,.s 1 us,.s 2 es],.one (.v (.int Za a))]=>some (fun _=>Rw [.sl [tI]] cs/\Rw [tB] us/\Rw [tI,tI] es/\Dl a,[.agg [.i (F.smM cs us es a),.i (F.smF cs us es a)]])
 |_=>none
def nk:ec 74 gM:=by
 intro _ _ _ h hp;dsimp only[gM,F0]at h;split at h<;>cases h
 rename_i cs us es a;obtain⟨hc,hu,he,ha⟩:=hp;have hq:¬ a<0->bK .quo Za a 16=a/16:=fun h=>xE Uc Uc Uc
 refine cb Ob1 Tryz.func74 ?_
 intro O r F hO hr hF;cbv
 repeat' first|apply Zc|(apply cN<;>intro hb<;>cbv)
 all_goals(subst hO hr hF;(try simp only[nc]at*);(try simp only[am,SS,sa,az]at*))
 all_goals first|exact⟨hc,hu,he⟩|exact he|exact Aa (xI (.inr Uc)).1.symm (xI (.inr Uc)).2.symm|exact Aa (xI (.inl Ud)).1.symm (xI (.inl Ud)).2.symm|(rw[hq Uc];have hi:machOk cs us es=true:=Ud;exact Aa ((sk hi).1.trans (vA Uc).1).symm ((sk hi).2.trans (vA Uc).2.1).symm)|trivial|trace_state
abbrev Ob3:dq:=dP (fun F f=>match f with|74=>gM F|_=>fun _=>none) (by
 intro f;dsimp only;split;exact nk;exact dy)
def nC:EC:=fun F=>fun
 |[.agg [.s 1 cs,.s 1 us,.s 2 es],.one (.v (.int Za a))]=>some (fun _=>Rw [.sl [tI]] cs/\Rw [tB] us/\Rw [tI,tI] es/\Dl a,[.j (F.ldV cs us es a),.j (F.ldK cs us es a)])
 |_=>none
def Af:ec 39 nC:=by
 intro _ _ _ h hp;dsimp only[nC,F0]at h;split at h<;>cases h
 rename_i cs us es a;obtain⟨hc,hu,he,hb⟩:=hp;have lk:=On (a:=a);have hr:¬ a<0->bK .rem Za a 16=a%16:=fun h=>tp Uc
 refine cb Ob3 Tryz.func39 ?_
 intro O r F hO hr hF;cbv
 repeat' first|apply Zc|(apply cN<;>intro hb<;>cbv)
 all_goals(subst hO hr hF;(try simp only[nc]at*);(try simp only[am,SS,sa,az]at*);(try have hz:smM cs us es a≠0:=Ud);(try have fr:=Ml hz);(try have ok:=Ev hz);(try have hrr:Rw [tI] (aO cs (smF cs us es a) 0):=Rw.sub (fs:=[.sl [tI]]) hc Uc rfl);(try rw[hr Uc]))
 all_goals first
  | (show(_:List DV)=_
     first
      |(have q:=Oj Ud;exact o9 q.1.symm q.2.symm)
      |(have q:=Ol hz;exact o9 q.1.symm q.2.symm)
      |done)
  |exact ga
  |exact⟨hc,hu,he,hb⟩
  |omega
  |done
abbrev Ob4:dq:=dP (fun F f=>match f with|12=>dS F|28=>fS F|39=>nC F|_=>fun _=>none) (by
 intro f;dsimp only;split;exact eC;exact mL;exact Af;exact dy)
def mQ:EC:=fun F=>fun
 |[.agg hl_,.one (.v (.int Za a))]=>hL hl_ fun a0 a1 a2 a3 a4 a5 a6 a7 a8 a9 aA aB aC aD aE aF aG aH aI aJ aK aL aM aN=>(fun _=>QM a0 a1 a2 a4 a5 a6 a7 a8 a9 aA aB aD aL/\Dl a,[.j (F.hlV (F.ooI (F.hpI a0 a1 a2 a3 a4 a5 a6 a7 a8 a9 aA aB aC aD aE aF aG aH aI aJ aK aL aM aN) a8 a) (F.ldV a0 a1 a2 a)),.j (F.hlK (F.ooI (F.hpI a0 a1 a2 a3 a4 a5 a6 a7 a8 a9 aA aB aC aD aE aF aG aH aI aJ aK aL aM aN) a8 a))])
 |_=>none
def tD:ec 11 mQ:=by
 intro _ _ _ h hp;dsimp only[mQ,F0,hL]at h;split at h;rotate_left;cases h;split at h<;>cases h
 rename_i a _ a0 a1 a2 a3 a4 a5 a6 a7 a8 a9 aA aB aC aD aE aF aG aH aI aJ aK aL aM aN;obtain⟨hp,hB⟩:=hp;refine cb Ob4 Tryz.func11 ?_
 intro O r F hO hr hF;cbv
 repeat' first|apply Zc|(apply cN<;>intro hb<;>cbv)
 all_goals(subst hO hr hF;(try simp only[nc]at*);(try simp only[am,SS,sa,az]at*))
 all_goals first|exact hp|exact o9 (GN Uc).1.symm (GN (v:=0) Uc).2.symm|exact o9 (LG Uc).1.symm (LG (v:=0) Uc).2.symm|exact⟨hp.c,hp.u,hp.e,hB⟩|done
abbrev Oc0:dq:=dP (fun F f=>match f with|84=>eD F|62=>cH F|130=>dX F|_=>fun _=>none) (by
 intro f;dsimp only;split;exact iI;exact cV;exact gw;exact dy)
def gQ:EC:=fun F=>fun
 |[.agg hl_]=>hL hl_ fun a0 a1 a2 a3 a4 a5 a6 a7 a8 a9 aA aB aC aD aE aF aG aH aI aJ aK aL aM aN=>(fun _=>a2.length<=1073741824,[.j (F.zlI a2)])
 |_=>none
def nm:ec 80 gQ:=by
 intro _ _ _ h hp;dsimp only[gQ,F0,hL]at h;split at h;rotate_left;cases h;split at h<;>cases h
 rename_i a0 a1 a2 a3 a4 a5 a6 a7 a8 a9 aA aB aC aD aE aF aG aH aI aJ aK aL aM aN;refine cb Oc0 Tryz.func80 ?_
 exact zq1
end Go.V