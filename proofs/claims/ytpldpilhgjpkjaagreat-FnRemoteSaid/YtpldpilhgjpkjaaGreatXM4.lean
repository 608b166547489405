/- Contracts. -/
import Derived.Test.YtpldpilhgjpkjaaGreatXM3
set_option linter.all false
open Go
open And renaming intro->Zd
open IntKind renaming i64->Za
open True renaming intro->Zb
namespace Go.V
open Go Go.Proofs
set_option maxRecDepth 1000000
set_option maxHeartbeats 8000000
abbrev Ka0:dp:=d4 (fun F f=>match f with|60=>eI F|_=>fun _=>none) (by
 intro f;dsimp only;split;exact jD;exact dB)
def ia:EC:=fun F=>fun
 |[.agg [.s 1 cs,.s 1 us,.s 2 es,.v (.int Za c),.s 1 rs]]=>some (fun _=>Rw [.sl [tI]] cs/\Rw [tB] us/\Rw [tI,tI] es/\Rw [tI] rs,[.k (F.ccB cs us es c rs)])
 |_=>none
theorem oc:ec 269 ia:=by
 intro _ _ _ h hp;dsimp only[ia,F0]at h;split at h<;>cases h
 rename_i cs us es c rs;refine cb Ka0 Tryz.func269 ?_
 intro O r F hO hr hF;cbv
 repeat' first|apply Zd|(apply cP<;>intro hb<;>cbv)
 all_goals(subst hO hr hF;(try simp only[nc]at*);(try simp only[aj,SS,sa,az]at*))
 all_goals first
  | (show(_:List DV)=_
     first
      |exact av (Tq (by omega)).symm
      |exact av (Hp (by omega)).symm
      |done)
  |exact hp
  |(show ax _ _=true;kernel_rfl)
  |done
abbrev Ka1:dp:=d4 (fun F f=>match f with|277=>fA F|_=>fun _=>none) (by
 intro f;dsimp only;split;exact ku;exact dB)
def kM:EP:=fun F=>fun
 |[.mp [.own (.s 1 cs),.own (.s 1 us),.own (.s 2 es),.own (.v (.int Za c)),.own (.s 1 rs)],.one (.v (.int Za f))]=>some (fun _=>Rw [.sl [tI]] cs/\Rw [tB] us/\Rw [tI,tI] es/\es.length<=1099511627776/\0<=f/\f<cs.length/\us.length=cs.length,[[.own (.s 1 (F.dfC cs es f)),.own (.s 1 (F.dfU us es f)),.own (.s 2 es),.own (.i c),.own (.s 1 rs)]],[])
 |_=>none
theorem vD:ep 270 kM:=by
 intro _ _ _ _ h hp;dsimp only[kM,F0]at h;split at h<;>cases h
 rename_i cs us es c rs f;obtain⟨wc,wu,we,el,f0,f1,ul⟩:=hp;refine pb Ka1 Tryz.func270 ?_
 intro O r os F hO hr hos hF;cbv
 repeat' first|apply Zd|(apply cP<;>intro hb<;>cbv)
 all_goals((try subst hos);subst hO hr hF;(try simp only[nc]at*);(try simp only[aj,SS,sa,az]at*))
 all_goals first
  |(show(_:List DV)=_;exact rfl)
  | (show(_:List H)=_
     first
      |(have q:=ad3 (cs:=cs) (us:=us) (es:=es) (f:=f) (by assumption);first|(rw[q.1,q.2,FP wc f0 f1,ac5 wu f0 (by omega)];done)|(rw[q.1,q.2,FP wc f0 f1,ac5 wu f0 (by omega)];exact rfl))
      |(have q:=ad4 (cs:=cs) (us:=us) (es:=es) (f:=f) (by assumption);first|(rw[q.1,q.2];done)|(rw[q.1,q.2];exact rfl))
      |done)
  |omega
  |exact⟨we,el⟩
  |(show ax _ _=true;kernel_rfl)
  |exact af2 wu f0 (by omega)
  |exact yE wc f0 f1
  |exact⟨Zb,Zb⟩
  |exact Zb
  |done
abbrev Ka2:dp:={
 Φ:=tW
 F0:=F0
 ct:=fun F f=>match f with|133=>dr F|269=>ia F|170=>gy F|_=>fun _=>none
 hc:=(by
  intro f;dsimp only;split;exact fc;exact oc;exact lO;exact dB)
 pt:=fun F f=>match f with|270=>some (kM F)|_=>none
 hp:=(by
  intro f mk h;dsimp only at h;split at h<;>cases h
  exact vD)}
def jk:EC:=fun F=>fun
 |[.agg [.s 1 cs,.s 1 us,.s 2 es,.v (.int Za c),.s 1 rs],.one (.v (.int Za p))]=>some (fun _=>Rw [.sl [tI]] cs/\Rw [tB] us/\Rw [tI,tI] es/\Rw [tI] rs/\ap cs<=1099511627776/\ap us<=1099511627776/\ap es<=1099511627776/\ap rs<=1099511627776,[.agg [.s 1 (F.ktC (F.ccB cs us es c rs) cs es p),.s 1 (F.ktU (F.ccB cs us es c rs) us es p),.s 2 (F.ktE (F.ccB cs us es c rs) es p),.i c,.s 1 rs],.k (F.ktB (F.ccB cs us es c rs) es p)])
 |_=>none
theorem pC:ec 154 jk:=by
 intro _ _ _ h hp;dsimp only[jk,F0]at h;split at h<;>cases h
 rename_i cs us es c rs p;obtain⟨wc,wu,we,wr,c1,c2,c3,c4⟩:=hp;have l3:=aO (es:=es);refine cb Ka2 Tryz.func154 ?_
 intro O r F hO hr hF;cbv
 repeat' first|apply Zd|(apply cP<;>intro hb<;>cbv)
 all_goals(subst hO hr hF;(try simp only[nc]at*);(try simp only[aj,SS,sa,az]at*);(try have mp:mapB es p=true:=(by assumption));(try have at_:=Ff mp);(try have p0:=at_.1.1);(try have p1:=at_.1.2);(try simp only[gV (l:=es) (sz:=2) (j:=1) (i:=p) p0]at*);(try have cc:=MQ (cs:=cs) (us:=us) (es:=es) (c:=c) (rs:=rs) (by assumption));(try have km:=(jt cc.2).1);(try have fr:=Fg km mp);(try have ul:=km.u);(try have um:=ac4 we at_.1.1 at_.1.2);(try simp only[um]at*);(try have rm:=(show Rw [tI,tI] (AJ es p)from Rx (m:=0) (f:=0) we (by omega) (by omega)));(try have ll:(AJ es p).length=es.length:=List.length_set))
 all_goals first
  | (show(_:List DV)=_
     first
      |(have q:=abt (k:=ccB cs us es c rs) (cs:=cs) (us:=us) (es:=es) (p:=p) (by assumption);first|(rw[q.1,q.2.1,q.2.2.1,q.2.2.2];done)|(rw[q.1,q.2.1,q.2.2.1,q.2.2.2];exact rfl))
      |(have q:=aff (k:=ccB cs us es c rs) (cs:=cs) (us:=us) (es:=es) (p:=p) (by assumption);first|(rw[q.1,q.2.1,q.2.2.1,q.2.2.2];done)|(rw[q.1,q.2.1,q.2.2.1,q.2.2.2];exact rfl))
      |(have q:=Qt (k:=ccB cs us es c rs) (cs:=cs) (us:=us) (es:=es) (p:=p) (by assumption);have z:=afh (cs:=cs) (us:=us) mp;first|(rw[q.1,q.2.1,q.2.2.1,q.2.2.2,z.1,z.2.1,z.2.2,mp,at_.2.2.1];done)|(rw[q.1,q.2.1,q.2.2.1,q.2.2.2,z.1,z.2.1,z.2.2,mp,at_.2.2.1];exact rfl))
      |done)
  |omega
  |exact⟨wc,wu,we,wr,c1,c2,c3,c4⟩
  |exact⟨wc,wu,we,wr⟩
  |exact we
  |exact⟨wc,wu,rm,by omega,fr.1,fr.2,ul⟩
  |exact RJ we at_.1.1 at_.1.2 (by decide)
  |exact Lu we at_.1.1 at_.1.2 (by decide)
  |exact acT we p0 p1
  |(show ax _ _=true;kernel_rfl)
  |exact fK
  |exact⟨Zb,Zb⟩
  |exact Zb
  |done
abbrev Ka4:dp:=d4 (fun F f=>match f with|61=>eK F|165=>ir F|134=>dQ F|_=>fun _=>none) (by
 intro f;dsimp only;split;exact jF;exact oi;exact hC;exact dB)
def jR:EC:=fun F=>fun
 |[.one (.v (.int Za n)),.one (.s 2 rs),.agg [.v (.int Za a),.v (.int Za l)]]=>some (fun _=>0<=n/\n<=1099511627776/\Rw [tI,tI] rs/\rs.length<=1073741824,[.one (.s 2 (F.rpL n rs a l)),.k (F.rpB n rs a l)])
 |_=>none
theorem ue:ec 155 jR:=by
 intro _ _ _ h hp;dsimp only[jR,F0]at h;split at h<;>cases h
 rename_i n rs a l;obtain⟨n0,n1,wr,hl⟩:=hp;refine cb Ka4 Tryz.func155 ?_
 intro O r F hO hr hF;cbv
 repeat' first|apply Zd|(apply cP<;>intro hb<;>cbv)|(refine⟨[1,5,8,9,25,26,27],[5,8],Int×af×Int×Int×Bool,fun s_=>match s_ with|(i,o,x,y,d)=>[.reg 27 (.j i),.reg 9 (.k d),.reg 8 (.one (.vw 8 0 0 0 (O.ln o))),.leaf 8 0 ⟨0,0,none,.own (.s 2 o)⟩,.leaf 5 0 ⟨0,0,none,.own (.i x)⟩,.leaf 5 1 ⟨0,0,none,.own (.i y)⟩],fun s_=>match s_ with|(i,o,x,y,d)=>0<=i/\i<=(rs.length:Int)/\CI rs a l i o x y d/\o.length<=2*i.toNat,fun s_=>match s_ with|(i,o,x,y,d)=>rs.length-i.toNat,⟨(0,[],a,l,false),?_,?_⟩,?_⟩;rotate_left;(focus (cbv;done));intro s_ hi;obtain⟨i,o,x,y,d⟩:=s_;replace hi:0<=i/\i<=(rs.length:Int)/\CI rs a l i o x y d/\o.length<=2*i.toNat:=hi;obtain⟨i0,i1,i2,i3⟩:=hi;cbv)|(refine ah (O.ar .add Za i 1,o,O.gi rs i 0,O.ar .add Za (O.gi rs i 1) y,d) ?_ ?_ ?_;focus (cbv;done))|(refine ah (O.ar .add Za i 1,o,x,O.ar .add Za y (O.gi rs i 1),d) ?_ ?_ ?_;focus (cbv;done))|(refine ah (O.ar .add Za i 1,O.cat o (O.sub [[.i x,.i y],[.i (O.gi rs i 0),.i (O.gi rs i 1)]] 0 (O.ln [[.i x,.i y],[.i (O.gi rs i 0),.i (O.gi rs i 1)]])),x,y,true) ?_ ?_ ?_;focus (cbv;done))|(refine ah (O.ar .add Za i 1,O.cat o (O.sub [[.i (O.gi rs i 0),.i (O.gi rs i 1)]] 0 (O.ln [[.i (O.gi rs i 0),.i (O.gi rs i 1)]])),x,y,d) ?_ ?_ ?_;focus (cbv;done))
 all_goals(subst hO hr hF;(try simp only[nc]at*);(try simp only[aj,SS,sa,az]at*);(try rw[dx (by omega) (by omega)]);(try have rk:rgOk n rs=true:=(by assumption));(try have T:=wB rk);(try have gi:rngIn n a l=true:=(by assumption));(try have gb:=NU gi T);(try have ib:=i2.b);(try have xb:=T.b _ (List.mem_of_getElem? (j4 (es:=rs) i0 (by omega))));(try have nb:=T.n1);(try simp only at xb);(try have e1:bO .add Za x y=x+y:=cG (by omega));(try have e2:bO .add Za (ag rs i 0) (ag rs i 1)=ag rs i 0+ag rs i 1:=cG (by omega));(try have e3:bO .add Za (ag rs i 1) y=ag rs i 1+y:=cG (by omega));(try have e4:bO .add Za y (ag rs i 1)=y+ag rs i 1:=cG (by omega));(try simp only[e1,e2,e3,e4]at*))
 all_goals first
  | (show(_:List DV)=_
     first
      |(have q:rpB n rs a l=false:=(by unfold rpB;rw[show rgOk n rs=false from(by assumption)];rfl);exact D3 (Jr q).symm q.symm)
      |(have q:rpB n rs a l=false:=(by unfold rpB;rw[show rngIn n a l=false from(by assumption)];simp);exact D3 (Jr q).symm q.symm)
      |(have q:=Ru T i2 i0 (by omega) (by omega) (by omega);exact D3 (Jr q).symm q.symm)
      |(have q:=uQ rk gi i2 (by omega);rw[q.1,q.2];subst_vars;rfl)
      |(have q:=uQ rk gi i2 (by omega);first|(rw[q.1,q.2,VT (by assumption)];done)|(rw[q.1,q.2,VT (by assumption)];exact rfl))
      |(have q:=uQ rk gi i2 (by omega);first|(rw[q.1,q.2,VU (by simp_all)];done)|(rw[q.1,q.2,VU (by simp_all)];exact rfl))
      |done)
  |omega
  |exact fK
  |(show ax _ _=true;kernel_rfl)
  |exact⟨n0,n1,wr,by omega⟩
  |exact⟨n0,n1⟩
  |exact⟨wr,by omega⟩
  |exact NV gb
  |exact⟨Zb,Zb,Zb⟩
  |exact NW T i2 i0 (by omega) (by omega) (by omega)
  |exact NX T i2 i0 (by omega) (by omega) (by omega) (by omega)
  |exact NY T i2 i0 (by omega) (by omega) (by omega) (by omega) (by omega) (by assumption)
  |exact Js T i2 i0 (by omega) (by omega) (by omega) (by omega) (by omega)
  |exact Js T i2 i0 (by omega) (by omega) (by omega) (by omega) (by simp_all)
  |(simp only[List.length_append,List.length_cons,List.length_nil];omega)
  |exact Nat.zero_le _
  |exact⟨Zb,Zb⟩
  |exact Zb
  |done
abbrev Zg0:dp:=d4 (fun F f=>match f with|133=>dr F|329=>cV F|_=>fun _=>none) (by
 intro f;dsimp only;split;exact fc;exact gd;exact dB)
def kK:EC:=fun F=>fun
 |[.agg [.s 1 cs,.s 1 us,.s 2 es,.v (.int Za c),.s 1 rs]]=>some (fun _=>Rw [.sl [tI]] cs/\Rw [tB] us/\Rw [tI,tI] es/\Rw [tI] rs/\ap cs<=1099511627776/\ap us<=1099511627776/\ap es<=1099511627776/\ap rs<=1099511627776/\0<=c/\c<=100000,[.agg [.s 1 cs,.s 1 us,.s 2 es,.i (F.c1N c),.s 1 rs],.k (F.nhR rs c)])
 |_=>none
theorem vB:ec 333 kK:=by
 intro _ _ _ h hp;dsimp only[kK,F0]at h;split at h<;>cases h
 rename_i cs us es c rs;obtain⟨wc,wu,we,wr,k1,k2,k3,k4,c0,c1⟩:=hp;have l4:=aO (es:=rs);have e1:bO .add Za c 1=c+1:=cG (by omega);refine cb Zg0 Tryz.func333 ?_
 intro O r F hO hr hF;cbv
 repeat' first|apply Zd|(apply cP<;>intro hb<;>cbv)
 all_goals(subst hO hr hF;(try simp only[nc]at*);(try simp only[aj,SS,sa,az]at*);(try simp only[e1]at*))
 all_goals first|(show(_:List DV)=_;exact rfl)|exact⟨wc,wu,we,wr,k1,k2,k3,k4⟩|exact⟨wr,by omega⟩|(show ax _ _=true;kernel_rfl)|exact⟨Zb,Zb⟩|exact Zb|done
abbrev Oc0:dp:=d4 (fun F f=>match f with|167=>dX F|56=>cn F|273=>dF F|_=>fun _=>none) (by
 intro f;dsimp only;split;exact gv;exact cS;exact fm;exact dB)
def iq:EC:=fun F=>fun
 |[.agg hl_]=>hL hl_ fun a0 a1 a2 a3 a4 a5 a6 a7 a8 a9 aA aB aC aD aE aF aG aH aI aJ aK aL aM aN=>(fun _=>a2.length<=1073741824,[.j (F.zlI a2)])
 |_=>none
theorem oh:ec 156 iq:=by
 intro _ _ _ h hp;dsimp only[iq,F0,hL]at h;split at h;rotate_left;cases h;split at h<;>cases h
 rename_i a0 a1 a2 a3 a4 a5 a6 a7 a8 a9 aA aB aC aD aE aF aG aH aI aJ aK aL aM aN;refine cb Oc0 Tryz.func156 ?_
 exact zq1
end Go.V