/- Contracts. -/
import Derived.Test.YtpldpilhgjpkjaaGreatXM2
import Derived.Test.YtpldpilhgjpkjaaGreatXM1
set_option linter.all false
open Go
open And renaming intro->Zd
open IntKind renaming i64->Za
open List renaming length_take->Zh
namespace Go.V
open Go Go.Proofs
set_option maxRecDepth 1000000
set_option maxHeartbeats 8000000
abbrev Ma0:dp:=d4 (fun F f=>match f with|33=>ay F|_=>fun _=>none) (by
 intro f;dsimp only;split;exact aS;exact dB)
def ir:EC:=fun F=>fun
 |[.one (.v (.int Za n)),.agg [.v (.int Za a),.v (.int Za l)]]=>some (fun _=>0<=n/\n<=1099511627776,[.k (F.rngIn n a l)])
 |_=>none
theorem oi:ec 165 ir:=by
 intro _ _ _ h hp;dsimp only[ir,F0]at h;split at h<;>cases h
 rename_i n a l;refine cb Ma0 Tryz.func165 ?_
 intro O r F hO hr hF;cbv
 repeat' first|apply Zd|(apply cP<;>intro hb<;>cbv)
 all_goals(subst hO hr hF;(try simp only[nc]at*);(try simp only[aj,SS,sa,az]at*);(try have t:=be.1 hb);(try have z:bO .sub Za n l=n-l:=gg (by omega));(try simp only[z]at*))
 all_goals first|(show(_:List DV)=_;refine av ?_;unfold rngIn;simp[hb];done)|done
abbrev Ma1:dp:=d4 (fun F f=>match f with|33=>ay F|165=>ir F|_=>fun _=>none) (by
 intro f;dsimp only;split;exact aS;exact oi;exact dB)
def eK:EC:=fun F=>fun
 |[.one (.v (.int Za n)),.one (.s 2 rs)]=>some (fun _=>0<=n/\n<=1099511627776/\Rw [tI,tI] rs/\rs.length<=1099511627776,[.k (F.rgOk n rs)])
 |_=>none
theorem jF:ec 61 eK:=by
 intro _ _ _ h hp;dsimp only[eK,F0]at h;split at h<;>cases h
 rename_i n rs;obtain⟨n0,n1,hw,hl⟩:=hp;refine cb Ma1 Tryz.func61 ?_
 intro O r F hO hr hF;cbv
 repeat' first|apply Zd|(apply cP<;>intro hb<;>cbv)|(refine⟨[0,1,7,8,9],[],Int,fun i=>[.reg 9 (.j i)],fun i=>0<=i/\i<=((rs.length:Nat):Int)/\upto (wC n rs) i,fun i=>(rs.length)-i.toNat,⟨0,?_,?_⟩,?_⟩;rotate_left;(focus (cbv;done));intro i hi;replace hi:0<=i/\i<=((rs.length:Nat):Int)/\upto (wC n rs) i:=hi;obtain⟨i0,i1,i2⟩:=hi;cbv)|(refine ah (O.ar .add Za i 1) ?_ ?_ ?_;focus (cbv;done))
 all_goals(subst hO hr hF;(try simp only[nc]at*);(try simp only[aj,SS,sa,az]at*);(try rw[dx (by omega) (by omega)]);(try have z:=JJ i0 (by omega));(try simp only[z]at*))
 all_goals first
  | (show(_:List DV)=_
     first
      |(refine av ?_;symm;exact Rp i0 (by assumption) (by assumption))
      |(refine av ?_;symm;exact Rq i0 (by assumption) (by assumption) (by assumption))
      |(refine av ?_;exact Ro i2 (by omega))
      |(have q:false=true:=(by assumption);cases q)
      |done)
  |omega
  |exact fK
  |(show ax _ _=true;kernel_rfl)
  |exact cg
  |exact bN i2 (L8 (by assumption) (by omega))
  |exact bN i2 (L9 (by assumption) (by assumption))
  |done
def hZ:EC:=fun F=>fun
 |[.agg [.v (.int Za a),.v (.int Za l)],.ptr [.v (.int Za p)]]=>some (fun _=>True,[.k (F.rh1 a l p)])
 |_=>none
theorem qu:ec 280 hZ:=by
 intro _ _ _ h hp;dsimp only[hZ,F0]at h;split at h<;>cases h
 rename_i a l p;refine cb nB Tryz.func280 ?_
 intro O r F hO hr hF;cbv
 repeat' first|apply Zd|(apply cP<;>intro hb<;>cbv)
 all_goals(subst hO hr hF;(try simp only[nc]at*);(try simp only[aj,SS,sa,az]at*))
 all_goals first|(show(_:List DV)=_;refine av ?_;unfold rh1;rw[VP hb];rfl)|(show(_:List DV)=_;refine av ?_;unfold rh1;rw[VQ (by omega)];rfl)|done
abbrev Ma3:dp:=d4 (fun F f=>match f with|280=>hZ F|_=>fun _=>none) (by
 intro f;dsimp only;split;exact qu;exact dB)
def ba:EC:=fun F=>fun
 |[.one (.s 2 os),.fn 280 [[.v (.int Za id)]]]=>some (fun _=>Rw [tI,tI] os/\os.length<=1099511627776,[.j (F.rhI os id)])
 |_=>none
theorem cd:ec 341 ba:=by
 intro _ _ _ h hp;dsimp only[ba,F0]at h;split at h<;>cases h
 rename_i os id;obtain⟨hw,hn⟩:=hp;refine cb Ma3 Tryz.func341 ?_
 intro O r F hO hr hF;cbv
 repeat' first|apply Zd|(apply cP<;>intro hb<;>cbv)|(refine⟨[0,1,7,8],[0],Int,fun i=>[.reg 8 (.j i)],fun i=>0<=i/\i<=((os.length:Nat):Int)/\upto (cR (Iu os id)) i,fun i=>(os.length)-i.toNat,⟨0,?_,?_⟩,?_⟩;rotate_left;(focus (cbv;done));intro i hi;replace hi:0<=i/\i<=((os.length:Nat):Int)/\upto (cR (Iu os id)) i:=hi;obtain⟨i0,i1,i2⟩:=hi;cbv)|(refine ah (O.ar .add Za i 1) ?_ ?_ ?_;focus (cbv;done))
 all_goals(subst hO hr hF;(try simp only[nc]at*);(try simp only[aj,SS,sa,az]at*);(try rw[dx (by omega) (by omega)]))
 all_goals first
  | (show(_:List DV)=_
     first
      |exact cB (dI i2 i0 (by assumption) (show Iu os id i=true from by assumption)).symm
      |exact cB (eN i2 (by assumption)).symm
      |done)
  |omega
  |exact fK
  |(show(lk _ _).isSome=true;kernel_rfl)
  |exact cg
  |exact bN i2 (gj (show Iu os id i=false from by assumption))
  |done
abbrev Ma4:dp:=d4 (fun F f=>match f with|341=>ba F|_=>fun _=>none) (by
 intro f;dsimp only;split;exact cd;exact dB)
def aV:EC:=fun F=>fun
 |[.one (.s 2 os),.fn 280 [[.v (.int Za id)]]]=>some (fun _=>Rw [tI,tI] os/\os.length<=1099511627776,[.k (F.rhB os id)])
 |_=>none
theorem bT:ec 279 aV:=by
 intro _ _ _ h hp;dsimp only[aV,F0]at h;split at h<;>cases h
 rename_i os id;refine cb Ma4 Tryz.func279 ?_
 intro O r F hO hr hF;cbv
 repeat' first|apply Zd|(apply cP<;>intro hb<;>cbv)
 all_goals(subst hO hr hF;(try simp only[nc]at*);(try simp only[aj,SS,sa,az]at*))
 all_goals first
  | (show(_:List DV)=_
     first
      |exact av (lB (by unfold rhB;simp only[SS,VR]))
      |done)
  |exact hp
  |done
abbrev Ma5:dp:=d4 (fun F f=>match f with|279=>aV F|_=>fun _=>none) (by
 intro f;dsimp only;split;exact bT;exact dB)
def jQ:EC:=fun F=>fun
 |[.one (.s 2 os),.one (.v (.int Za id))]=>some (fun _=>Rw [tI,tI] os/\os.length<=1099511627776,[.k (F.rhB os id)])
 |_=>none
theorem uc:ec 171 jQ:=by
 intro _ _ _ h hp;dsimp only[jQ,F0]at h;split at h<;>cases h
 rename_i os id;refine cb Ma5 Tryz.func171 ?_
 exact zq3
abbrev Ma6:dp:=d4 (fun F f=>match f with|167=>dX F|_=>fun _=>none) (by
 intro f;dsimp only;split;exact gv;exact dB)
def jO:EC:=fun F=>fun
 |[.agg [.v (.int Za p1),.v (.int Za k1),.v (.int Za b1)],.agg [.v (.int Za p2),.v (.int Za k2),.v (.int Za b2)]]=>some (fun _=>True,[.k (F.mshB p1 k1 b1 p2 k2 b2)])
 |_=>none
theorem t9:ec 172 jO:=by
 intro _ _ _ h hp;dsimp only[jO,F0]at h;split at h<;>cases h
 rename_i p1 k1 b1 p2 k2 b2;refine cb Ma6 Tryz.func172 ?_
 intro O r F hO hr hF;cbv
 repeat' first|apply Zd|(apply cP<;>intro hb<;>cbv)
 all_goals(subst hO hr hF;(try simp only[nc]at*);(try simp only[aj,SS,sa,az]at*))
 all_goals first|(show(_:List DV)=_;refine av ?_;unfold mshB;simp[*];done)|(show(_:List DV)=_;refine av ?_;unfold mshB;subst_vars;rw[cmp_eq];simp[*];done)|done
abbrev Ma7:dp:=d4 (fun F f=>match f with|56=>cn F|_=>fun _=>none) (by
 intro f;dsimp only;split;exact cS;exact dB)
def fT:EC:=fun F=>fun
 |[.one (.s 3 qs)]=>some (fun _=>Rw [tI,tI,tI] qs/\qs.length<=1073741824,[.j (F.qcI qs)])
 |_=>none
theorem mr:ec 160 fT:=by
 intro _ _ _ h hp;dsimp only[fT,F0]at h;split at h<;>cases h
 rename_i qs;obtain⟨hw,hl⟩:=hp;refine cb Ma7 Tryz.func160 ?_
 intro O r F hO hr hF;cbv
 repeat' first|apply Zd|(apply cP<;>intro hb<;>cbv)|(refine⟨[3,6,7,8],[],Int×Int,fun s_=>match s_ with|(i,t)=>[.reg 8 (.j i),.reg 3 (.j t)],fun s_=>match s_ with|(i,t)=>0<=i/\i<=(qs.length:Int)/\OM qs i t,fun s_=>match s_ with|(i,t)=>qs.length-i.toNat,⟨(0,0),?_,?_⟩,?_⟩;rotate_left;(focus (cbv;done));intro s_ hi;obtain⟨i,t⟩:=s_;replace hi:0<=i/\i<=(qs.length:Int)/\OM qs i t:=hi;obtain⟨i0,i1,i2⟩:=hi;cbv)|(refine ah (O.ar .add Za i 1,O.ar .add Za t (F.clsSz (O.gi qs i 1))) ?_ ?_ ?_;focus (cbv;done))
 all_goals(subst hO hr hF;(try simp only[nc]at*);(try simp only[aj,SS,sa,az]at*);(try rw[dx (by omega) (by omega)]))
 all_goals first|(show(_:List DV)=_;exact cB (Rf i2 i1 (by omega)))|omega|exact fK|exact afJ|exact acu i2 i0 (by omega)|done
abbrev Ma8:dp:=d4 (fun F f=>match f with|157=>dj F|271=>jX F|_=>fun _=>none) (by
 intro f;dsimp only;split;exact d9;exact uk;exact dB)
def iw:EC:=fun F=>fun
 |[.one (.s 3 b),.agg [.v (.int Za a),.v (.int Za c),.v (.int Za s)]]=>some (fun _=>Rw [tI,tI,tI] b/\b.length<=1073741824,[.k (F.stlOk b a c s)])
 |_=>none
theorem om:ec 159 iw:=by
 intro _ _ _ h hp;dsimp only[iw,F0]at h;split at h<;>cases h
 rename_i b a c s;obtain⟨hw,hl⟩:=hp;have hs:bO .sub Za (b.length:Int) 1=b.length-1:=gg (by omega);refine cb Ma8 Tryz.func159 ?_
 intro O r F hO hr hF;cbv
 repeat' first|apply Zd|(apply cP<;>intro hb<;>cbv)
 all_goals(subst hO hr hF;(try simp only[nc]at*);(try simp only[aj,SS,sa,az]at*);(try simp only[hs]at*))
 all_goals first|exact fK|(show ax _ _=true;kernel_rfl)|exact⟨hw,by omega⟩|(show(_:List DV)=_;refine av ?_;unfold stlOk;simp[*,cW];done)|(show(_:List DV)=_;refine av ?_;unfold stlOk;rw[VQ (p:=0<=a) (by omega)];simp;done)|(show(_:List DV)=_;refine av ?_;unfold stlOk;rw[VQ (p:=0<=s) (by omega)];simp;done)|(show(_:List DV)=_;refine av ?_;unfold stlOk;rw[VQ (p:=b.length=0) (by omega)];simp[*,cW];done)|(show(_:List DV)=_;refine av ?_;unfold stlOk;simp_all;done)|done
abbrev Ma9:dp:=d4 (fun F f=>match f with|33=>ay F|159=>iw F|160=>fT F|_=>fun _=>none) (by
 intro f;dsimp only;split;exact aS;exact om;exact mr;exact dB)
def jm:EC:=fun F=>fun
 |[.agg [.v (.int Za rm),.s 3 qs]]=>some (fun _=>Rw [tI,tI,tI] qs/\qs.length<=1073741824,[.k (F.quarOk rm qs)])
 |_=>none
theorem pD:ec 65 jm:=by
 intro _ _ _ h hp;dsimp only[jm,F0]at h;split at h<;>cases h
 rename_i rm qs;obtain⟨hw,hl⟩:=hp;refine cb Ma9 Tryz.func65 ?_
 intro O r F hO hr hF;cbv
 repeat' first|apply Zd|(apply cP<;>intro hb<;>cbv)|(refine⟨[1,6,7,8],[1],Int,fun i=>[.reg 8 (.j i)],fun i=>0<=i/\i<=((qs.length:Nat):Int)/\upto (Rk qs) i,fun i=>(qs.length)-i.toNat,⟨0,?_,?_⟩,?_⟩;rotate_left;(focus (cbv;done));intro i hi;replace hi:0<=i/\i<=((qs.length:Nat):Int)/\upto (Rk qs) i:=hi;obtain⟨i0,i1,i2⟩:=hi;cbv)|(refine ah (O.ar .add Za i 1) ?_ ?_ ?_;focus (cbv;done))
 all_goals(subst hO hr hF;(try simp only[nc]at*);(try simp only[aj,SS,sa,az]at*);(try rw[dx (by omega) (by omega)]);(try simp only[Eb]at*))
 all_goals first
  | (show(_:List DV)=_
     first
      |(refine av ?_;symm;exact acy i0 (by assumption) (by assumption))
      |(refine av ?_;rw[Rj i2 (by omega)];simp[*,cW];done)
      |done)
  |omega
  |exact fK
  |(show ax _ _=true;kernel_rfl)
  |exact⟨hw,hl⟩
  |exact⟨Rw.take hw _,by rw[Zh];omega⟩
  |exact cg
  |exact bN i2 (by assumption)
  |done
def lU:EC:=fun F=>fun
 |[.one (.v (.int Za c))]=>some (fun _=>True,[.k (F.inR c 0 15)])
 |_=>none
theorem xD:ec 282 lU:=by
 intro _ _ _ h hp;dsimp only[lU,F0]at h;split at h<;>cases h
 rename_i c;refine cb Ma0 Tryz.func282 ?_
 exact zq1
def gz:EC:=fun F=>fun
 |[.one (.v (.int Za c))]=>some (fun _=>True,[.k (F.inR c 0 1073741823)])
 |_=>none
theorem lP:ec 69 gz:=by
 intro _ _ _ h hp;dsimp only[gz,F0]at h;split at h<;>cases h
 rename_i c;refine cb Ma0 Tryz.func69 ?_
 exact zq1
abbrev Mb1:dp:=d4 (fun F f=>match f with|33=>ay F|282=>lU F|_=>fun _=>none) (by
 intro f;dsimp only;split;exact aS;exact xD;exact dB)
def lR:EC:=fun F=>fun
 |[.agg [.v (.int Za k),.v (.int Za m),.s 1 cs]]=>some (fun _=>Rw [tI] cs/\cs.length<=1099511627776,[.k (F.plOk k m cs)])
 |_=>none
theorem xA:ec 178 lR:=by
 intro _ _ _ h hp;dsimp only[lR,F0]at h;split at h<;>cases h
 rename_i k m cs;obtain⟨hw,hl⟩:=hp;refine cb Mb1 Tryz.func178 ?_
 intro O r F hO hr hF;cbv
 repeat' first|apply Zd|(apply cP<;>intro hb<;>cbv)|(refine⟨[1,6,7,8],[1],Int,fun i=>[.reg 8 (.j i)],fun i=>0<=i/\i<=((cs.length:Nat):Int)/\upto (Kc cs) i,fun i=>(cs.length)-i.toNat,⟨0,?_,?_⟩,?_⟩;rotate_left;(focus (cbv;done));intro i hi;replace hi:0<=i/\i<=((cs.length:Nat):Int)/\upto (Kc cs) i:=hi;obtain⟨i0,i1,i2⟩:=hi;cbv)|(refine ah (O.ar .add Za i 1) ?_ ?_ ?_;focus (cbv;done))
 all_goals(subst hO hr hF;(try simp only[nc]at*);(try simp only[aj,SS,sa,az]at*);(try rw[dx (by omega) (by omega)]);(try have z:=JJ i0 (by omega));(try simp only[z]at*))
 all_goals first
  | (show(_:List DV)=_
     first
      |(refine av ?_;symm;exact Q8 i0 (by assumption) (by assumption))
      |(refine av ?_;symm;exact Q9 i0 (by assumption) (by omega) (by assumption))
      |(refine av ?_;rw[Jc i2 (by omega)];simp[*,cW];done)
      |(refine av ?_;rw[Jc i2 (by omega),Hz];simp[*];done)
      |(have q:false=true:=(by assumption);cases q)
      |done)
  |omega
  |exact fK
  |exact cg
  |exact bN i2 (LU (by assumption) (by omega))
  |exact bN i2 (LV (by assumption) (by assumption))
  |done
abbrev Mb2:dp:=d4 (fun F f=>match f with|178=>lR F|33=>ay F|_=>fun _=>none) (by
 intro f;dsimp only;split;exact xA;exact aS;exact dB)
def mW:EC:=fun F=>fun
 |[.agg [.v (.int Za k),.v (.int Za m),.s 1 cs,.v (.int Za ph),.v (.int Za nx)]]=>some (fun _=>Rw [tI] cs/\cs.length<=1099511627776,[.k (F.jbOk k m cs ph nx)])
 |_=>none
theorem yT:ec 70 mW:=by
 intro _ _ _ h hp;dsimp only[mW,F0]at h;split at h<;>cases h
 rename_i k m cs ph nx;refine cb Mb2 Tryz.func70 ?_
 intro O r F hO hr hF;cbv
 repeat' first|apply Zd|(apply cP<;>intro hb<;>cbv)
 all_goals(subst hO hr hF;(try simp only[nc]at*);(try simp only[aj,SS,sa,az]at*))
 all_goals first|exact hp|(show(_:List DV)=_;refine av ?_;unfold jbOk;simp[*];done)|done
abbrev Mb3:dp:=d4 (fun F f=>match f with|157=>dj F|33=>ay F|56=>cn F|_=>fun _=>none) (by
 intro f;dsimp only;split;exact d9;exact aS;exact cS;exact dB)
def fv:EC:=fun F=>fun
 |[.agg [.s 1 ls]]=>some (fun _=>OI ls,[.k (F.caOk ls)])
 |_=>none
theorem ko:ec 66 fv:=by
 intro _ _ _ h hp;dsimp only[fv,F0]at h;split at h<;>cases h
 rename_i ls;have hw:=hp.w;have hl:=hp.l;have hn:=hp.n;refine cb Mb3 Tryz.func66 ?_
 intro O r F hO hr hF;cbv
 repeat' first|apply Zd|(apply cP<;>intro hb<;>cbv)|(refine⟨[1,3,10,11,12],[1,8],Int×af,fun s_=>match s_ with|(i,es)=>[.reg 12 (.j i),.leaf 8 0 ⟨0,0,none,.own (.m true es)⟩],fun s_=>match s_ with|(i,es)=>0<=i/\i<=(ls.length:Int)/\Cv ls i es,fun s_=>match s_ with|(i,es)=>ls.length-i.toNat,⟨(0,[]),?_,?_⟩,?_⟩;rotate_left;(focus (cbv;done));intro s_ hi;obtain⟨i,es⟩:=s_;replace hi:0<=i/\i<=(ls.length:Int)/\Cv ls i es:=hi;obtain⟨i0,i1,i2⟩:=hi;cbv)|(refine⟨[1,3,4,10,11,12,25,26,27],[1,8],Int×af,fun s_=>match s_ with|(k,es1)=>[.reg 27 (.j k),.leaf 8 0 ⟨0,0,none,.own (.m true es1)⟩],fun s_=>match s_ with|(k,es1)=>0<=k/\k<=((aw ls i 0).length:Int)/\Cw ls i k es1,fun s_=>match s_ with|(k,es1)=>(aw ls i 0).length-k.toNat,⟨(0,es),?_,?_⟩,?_⟩;rotate_left;(focus (cbv;done));intro s_ hk;obtain⟨k,es1⟩:=s_;replace hk:0<=k/\k<=((aw ls i 0).length:Int)/\Cw ls i k es1:=hk;obtain⟨k0,k1,k2⟩:=hk;cbv)|(refine ah (O.ar .add Za k 1,O.mu es1 (O.gi (O.gs ls i 0) k 0) (.v (.bool true))) ?_ ?_ ?_;focus (cbv;done))|(refine ah (O.ar .add Za i 1,es1) ?_ ?_ ?_;focus (cbv;done))
 all_goals(subst hO hr hF;(try simp only[nc]at*);(try simp only[aj,SS,sa,az]at*);(try rw[dx (by omega) (by omega)]);(try have z6:bO .add Za k 1=k+1:=cG (by have:=hn i;omega));(try simp only[z6]at*);(try have w2:=hp.el i0 (by omega));(try have w3:=w2.1);(try have w4:=k2.p.l))
 all_goals first
  | (show(_:List DV)=_
     first
      |(refine av ?_;exact O2 i2.p i1 (by omega))
      |(refine av ?_;symm;exact Le i2 i0 (by omega) (by assumption))
      |(refine av ?_;symm;exact Lf i2 i0 (by assumption) (by assumption))
      |(refine av ?_;symm;exact Hn i0 (by omega) k0 (by assumption) (Tn (by assumption)))
      |(refine av ?_;symm;exact Hn i0 (by omega) k0 (by assumption) (To (by assumption)))
      |(refine av ?_;symm;exact Lg k2 i0 k0 (by assumption) (by assumption))
      |done)
  |omega
  |exact fK
  |(have c:=(mz (be.2 (by omega:0<=i/\i<=3))).1;omega)
  |exact Qi k2 k0 (by assumption) (by assumption) (by assumption)
  |exact Qh k2 i0 k1 (by omega)
  |exact abe i2 i0 (by assumption) (by omega)
  |exact abd
  |done
def jY:EC:=fun F=>fun
 |[.agg [.v (.int Za d0),.v (.int Za d1),.v (.int Za d2),.v (.int Za d3)],.ptr [.v (.int Za e0),.v (.int Za e1),.v (.int Za e2),.v (.int Za e3)]]=>some (fun _=>True,[.k (F.eqB d0 e0)])
 |_=>none
theorem uo:ec 174 jY:=by
 intro _ _ _ h hp;dsimp only[jY,F0]at h;split at h<;>cases h
 rename_i d0 d1 d2 d3 e0 e1 e2 e3;refine cb nB Tryz.func174 ?_
 exact zq2
abbrev Na1:dp:=d4 (fun F f=>match f with|174=>jY F|_=>fun _=>none) (by
 intro f;dsimp only;split;exact uo;exact dB)
def bg:EC:=fun F=>fun
 |[.one (.s 4 os),.fn 174 [[.v (.int Za e0),.v (.int Za e1),.v (.int Za e2),.v (.int Za e3)]]]=>some (fun _=>Rw [tI,tI,tI,tI] os/\os.length<=1099511627776,[.j (F.oiI os e0)])
 |_=>none
theorem cq:ec 151 bg:=by
 intro _ _ _ h hp;dsimp only[bg,F0]at h;split at h<;>cases h
 rename_i os e0 e1 e2 e3;obtain⟨hw,hn⟩:=hp;refine cb Na1 Tryz.func151 ?_
 intro O r F hO hr hF;cbv
 repeat' first|apply Zd|(apply cP<;>intro hb<;>cbv)|(refine⟨[0,1,7,8],[0],Int,fun i=>[.reg 8 (.j i)],fun i=>0<=i/\i<=((os.length:Nat):Int)/\upto (cR (Is os e0)) i,fun i=>(os.length)-i.toNat,⟨0,?_,?_⟩,?_⟩;rotate_left;(focus (cbv;done));intro i hi;replace hi:0<=i/\i<=((os.length:Nat):Int)/\upto (cR (Is os e0)) i:=hi;obtain⟨i0,i1,i2⟩:=hi;cbv)|(refine ah (O.ar .add Za i 1) ?_ ?_ ?_;focus (cbv;done))
 all_goals(subst hO hr hF;(try simp only[nc]at*);(try simp only[aj,SS,sa,az]at*);(try rw[dx (by omega) (by omega)]))
 all_goals first
  | (show(_:List DV)=_
     first
      |exact cB (dI i2 i0 (by assumption) (show Is os e0 i=true from by assumption)).symm
      |exact cB (eN i2 (by assumption)).symm
      |done)
  |omega
  |exact fK
  |(show(lk _ _).isSome=true;kernel_rfl)
  |exact cg
  |exact bN i2 (gj (show Is os e0 i=false from by assumption))
  |done
abbrev Na2:dp:=d4 (fun F f=>match f with|151=>bg F|_=>fun _=>none) (by
 intro f;dsimp only;split;exact cq;exact dB)
def aX:EC:=fun F=>fun
 |[.one (.s 4 os),.fn 174 [[.v (.int Za e0),.v (.int Za e1),.v (.int Za e2),.v (.int Za e3)]]]=>some (fun _=>Rw [tI,tI,tI,tI] os/\os.length<=1099511627776,[.k (F.oiB os e0)])
 |_=>none
theorem bV:ec 173 aX:=by
 intro _ _ _ h hp;dsimp only[aX,F0]at h;split at h<;>cases h
 rename_i os e0 e1 e2 e3;refine cb Na2 Tryz.func173 ?_
 intro O r F hO hr hF;cbv
 repeat' first|apply Zd|(apply cP<;>intro hb<;>cbv)
 all_goals(subst hO hr hF;(try simp only[nc]at*);(try simp only[aj,SS,sa,az]at*))
 all_goals first
  | (show(_:List DV)=_
     first
      |exact av (lB (by unfold oiB;simp only[SS,VR]))
      |done)
  |exact hp
  |done
abbrev Na3:dp:=d4 (fun F f=>match f with|33=>ay F|173=>aX F|162=>dG F|38=>ea F|_=>fun _=>none) (by
 intro f;dsimp only;split;exact aS;exact bV;exact fq;exact gZ;exact dB)
def lV:EC:=fun F=>fun
 |[.agg hl_]=>hL hl_ fun a0 a1 a2 a3 a4 a5 a6 a7 a8 a9 aA aB aC aD aE aF aG aH aI aJ aK aL aM aN=>(fun _=>NsH a6 a7 a8 a9 aA aB aD/\layOk a6 a7=true,[.k (F.objOk a6 a7 a8 a9 aH)])
 |_=>none
theorem xE:ec 67 lV:=by
 intro _ _ _ h hp;dsimp only[lV,F0,hL]at h;split at h;rotate_left;cases h;split at h<;>cases h
 rename_i a0 a1 a2 a3 a4 a5 a6 a7 a8 a9 aA aB aC aD aE aF aG aH aI aJ aK aL aM aN;obtain⟨N,hlay⟩:=hp;have how:=N.ow;have hol:=N.ol;have hsw:=N.sw;have hlw:=N.lw;have hsl:=N.sl;have hll:=N.ll;have hcl:=N.cl;have hlc:=aO (es:=a9);have hsb:bO .sub Za (a9.length:Int) 1=a9.length-1:=gg (by omega);refine cb Na3 Tryz.func67 ?_
 intro O r F hO hr hF;cbv
 repeat' first|apply Zd|(apply cP<;>intro hb<;>cbv)|(refine⟨[1,9,10,11],[1],Int,fun i=>[.reg 11 (.j i)],fun i=>0<=i/\i<=((a8.length:Nat):Int)/\upto (yv a6 a7 a8 a9 aH) i,fun i=>(a8.length)-i.toNat,⟨0,?_,?_⟩,?_⟩;rotate_left;(focus (cbv;done));intro i hi;replace hi:0<=i/\i<=((a8.length:Nat):Int)/\upto (yv a6 a7 a8 a9 aH) i:=hi;obtain⟨i0,i1,i2⟩:=hi;cbv)|(refine ah (O.ar .add Za i 1) ?_ ?_ ?_;focus (cbv;done))
 all_goals(subst hO hr hF;(try simp only[nc]at*);(try simp only[aj,SS,sa,az]at*);(try rw[dx (by omega) (by omega)]);(try have z:=JJ i0 (by omega));(try simp only[z,hsb,Eb]at*);(try have d1:=fun h=>HJ (sp:=a6) (lg:=a7) (a:=ag a8 i 1) h);(try have d3:=fun h=>M2 (sp:=a6) (lg:=a7) (a:=ag a8 i 1) h))
 all_goals first
  |(exfalso;omega)
  | (show(_:List DV)=_
     first
      |(refine av ?_;symm;exact yx i0 (by assumption) (abV (by assumption) (by assumption)))
      |(refine av ?_;symm;exact yx i0 (by assumption) (abW (by assumption)))
      |(refine av ?_;symm;exact yx i0 (by assumption) (abX (by assumption)))
      |(refine av ?_;symm;exact yx i0 (by assumption) (abY (by assumption)))
      |(refine av ?_;symm;exact yx i0 (by assumption) (NE (ab3 (by assumption))))
      |(refine av ?_;symm;exact yx i0 (by assumption) (NE (afD (by first|exact .inl (by assumption)|exact .inr (by assumption)|exact .inl (by omega)) (by first|exact .inl (by assumption)|exact .inr (by assumption)|exact .inl (by omega)))))
      |(refine av ?_;symm;exact Q3 i2 (by omega))
      |(have q:false=true:=(by assumption);cases q)
      |done)
  |omega
  |exact fK
  |(show ax _ _=true;kernel_rfl)
  |exact⟨hsw,hlw⟩
  |exact⟨Rw.take how _,by rw[Zh];omega⟩
  |exact cg
  |exact bN i2 (abZ (by first|exact .inl (by omega)|exact .inr (by assumption)) (by assumption) (by assumption) (by assumption) (ab5 (by assumption) (by assumption) (by assumption)))
  |exact bN i2 (abZ (by first|exact .inl (by omega)|exact .inr (by assumption)) (by assumption) (by assumption) (by assumption) (ab6 (by assumption) (by assumption) (by assumption)))
  |(have q:false=true:=(by assumption);cases q)
  |done
abbrev Oa1:dp:=d4 (fun F f=>match f with|162=>dG F|_=>fun _=>none) (by
 intro f;dsimp only;split;exact fq;exact dB)
def gO:EP:=fun F=>fun
 |[.one (.v (.int Za ad)),.one (.v (.int Za k)),.mp [.own (.m false es)],.mp [.ro (.s 1 a0),.ro (.s 1 a1),.ro (.s 2 a2),.own (.v (.int Za a3)),.ro (.s 1 a4),.ro (.s 2 a5),.ro (.s 3 a6),.ro (.s 3 a7),.ro (.s 4 a8),.ro (.s 1 a9),.ro (.s 1 aA),.ro (.s 1 aB),.own (.v (.int Za aC)),.ro (.s 3 aD),.own (.v (.int Za aE)),.own (.v (.int Za aF)),.own (.v (.int Za aG)),.own (.v (.int Za aH)),.own (.v (.bool aI)),.own (.v (.int Za aJ)),.own (.v (.int Za aK)),.ro (.s 1 aL),.own (.v (.int Za aM)),.own (.v (.int Za aN))]]=>some (fun _=>Rw [tI,tI,tI] a6/\Rw [tI,tI,tI] a7,[[.own (.m false (F.huI es ad))],[.ro (.s 1 a0),.ro (.s 1 a1),.ro (.s 2 a2),.own (.i a3),.ro (.s 1 a4),.ro (.s 2 a5),.ro (.s 3 a6),.ro (.s 3 a7),.ro (.s 4 a8),.ro (.s 1 a9),.ro (.s 1 aA),.ro (.s 1 aB),.own (.i aC),.ro (.s 3 aD),.own (.i aE),.own (.i aF),.own (.i aG),.own (.i aH),.own (.v (.bool aI)),.own (.i aJ),.own (.i aK),.ro (.s 1 aL),.own (.i aM),.own (.i aN)]],[.k (F.hlB a6 a7 ad k)])
 |_=>none
theorem pP:ep 175 gO:=by
 intro _ _ _ _ h hp;dsimp only[gO,F0]at h;split at h<;>cases h
 rename_i ad k es a0 a1 a2 a3 a4 a5 a6 a7 a8 a9 aA aB aC aD aE aF aG aH aI aJ aK aL aM aN;obtain⟨hsw,hlw⟩:=hp;refine pb Oa1 Tryz.func175 ?_
 intro O r os F hO hr hos hF;cbv
 repeat' first|apply Zd|(apply cP<;>intro hb<;>cbv)
 all_goals((try subst hos);subst hO hr hF;(try simp only[nc]at*);(try simp only[aj,SS,sa,az]at*);(try have d1:=fun h=>HJ (sp:=a6) (lg:=a7) (a:=ad) h))
 all_goals first|(show(_:List DV)=_;refine av ?_;unfold hlB;simp[*];done)|(show(_:List DV)=_;refine av ?_;unfold hlB;rw[VQ (p:=k<0) (by omega),cmp_eq];simp[*];done)|(show(_:List H)=_;exact rfl)|exact⟨hsw,hlw⟩|(have e:=d1 (by assumption);exact fK)|done
abbrev Oa2:dp:={
 Φ:=tW
 F0:=F0
 ct:=fun F f=>match f with|176=>jN F|177=>iR F|_=>fun _=>none
 hc:=(by
  intro f;dsimp only;split;exact t8;exact rX;exact dB)
 pt:=fun F f=>match f with|175=>some (gO F)|_=>none
 hp:=(by
  intro f mk h;dsimp only at h;split at h<;>cases h
  exact pP)}
def iW:EC:=fun F=>fun
 |[.agg hl_]=>hL hl_ fun a0 a1 a2 a3 a4 a5 a6 a7 a8 a9 aA aB aC aD aE aF aG aH aI aJ aK aL aM aN=>(fun _=>NsH a6 a7 a8 a9 aA aB aD/\layOk a6 a7=true,[.k (F.hoI a6 a7 a8 a9 aA aB aD aF)])
 |_=>none
theorem si:ec 68 iW:=by
 intro _ _ _ h hp;dsimp only[iW,F0,hL]at h;split at h;rotate_left;cases h;split at h<;>cases h
 rename_i a0 a1 a2 a3 a4 a5 a6 a7 a8 a9 aA aB aC aD aE aF aG aH aI aJ aK aL aM aN;obtain⟨N,hlay⟩:=hp;have hsw:=N.sw;have hlw:=N.lw;have hsl:=N.sl;have hll:=N.ll;have how:=N.ow;have hol:=N.ol;have hcw:=N.cw;have hcl:=N.cl;have hqw:=N.qw;have hql:=N.ql;have hcc:=N.c;have hlc:=aO (es:=a9);have hfr:=abf N.m;have hfl:=Im (b:=aA) (x:=aB);have hlr:=abw (sp:=a6) (lg:=a7);have hla:=Iz (sp:=a6) (lg:=a7);refine cb Oa2 Tryz.func68 ?_
 intro O r F hO hr hF;cbv
 repeat' first|apply Zd|(apply cP<;>intro hb<;>cbv)|(refine⟨[1,3,4,22,23,24],[1,3],Int×af,fun s_=>match s_ with|(i,es)=>[.reg 24 (.j i),.leaf 3 0 ⟨0,0,none,.own (.m false es)⟩],fun s_=>match s_ with|(i,es)=>0<=i/\i<=(a9.length:Int)/\Si a6 a7 a9 i es,fun s_=>match s_ with|(i,es)=>a9.length-i.toNat,⟨(0,[]),?_,?_⟩,?_⟩;rotate_left;(focus (cbv;done));intro s_ hi;obtain⟨i,es⟩:=s_;replace hi:0<=i/\i<=(a9.length:Int)/\Si a6 a7 a9 i es:=hi;obtain⟨i0,i1,i2⟩:=hi;cbv)|(refine⟨[1,3,4,22,23,24,29,30,31],[1,3],Int×af,fun s_=>match s_ with|(k,es1)=>[.reg 31 (.j k),.leaf 3 0 ⟨0,0,none,.own (.m false es1)⟩],fun s_=>match s_ with|(k,es1)=>0<=k/\k<=((aw a9 i 0).length:Int)/\Sk a6 a7 a9 i k es1,fun s_=>match s_ with|(k,es1)=>(aw a9 i 0).length-k.toNat,⟨(0,es),?_,?_⟩,?_⟩;rotate_left;(focus (cbv;done));intro s_ hk;obtain⟨k,es1⟩:=s_;replace hk:0<=k/\k<=((aw a9 i 0).length:Int)/\Sk a6 a7 a9 i k es1:=hk;obtain⟨k0,k1,k2⟩:=hk;cbv)|(refine⟨[1,3,4,7,22,23,24,29,30,31,36,37,38],[1,3],Int×af,fun s_=>match s_ with|(j,es2)=>[.reg 38 (.j j),.leaf 3 0 ⟨0,0,none,.own (.m false es2)⟩],fun s_=>match s_ with|(j,es2)=>0<=j/\j<=((aw (aw a9 i 0) k 0).length:Int)/\Sj a6 a7 a9 i k j es2,fun s_=>match s_ with|(j,es2)=>(aw (aw a9 i 0) k 0).length-j.toNat,⟨(0,es1),?_,?_⟩,?_⟩;rotate_left;(focus (cbv;done));intro s_ hj;obtain⟨j,es2⟩:=s_;replace hj:0<=j/\j<=((aw (aw a9 i 0) k 0).length:Int)/\Sj a6 a7 a9 i k j es2:=hj;obtain⟨j0,j1,j2⟩:=hj;cbv)|(refine⟨[1,3,4,52,53,54],[1,3],Int×af,fun s_=>match s_ with|(q,es3)=>[.reg 54 (.j q),.leaf 3 0 ⟨0,0,none,.own (.m false es3)⟩],fun s_=>match s_ with|(q,es3)=>0<=q/\q<=(aD.length:Int)/\Sl a6 a7 a9 aD aF q es3,fun s_=>match s_ with|(q,es3)=>aD.length-q.toNat,⟨(0,es),?_,?_⟩,?_⟩;rotate_left;(focus (cbv;done));intro s_ hq;obtain⟨q,es3⟩:=s_;replace hq:0<=q/\q<=(aD.length:Int)/\Sl a6 a7 a9 aD aF q es3:=hq;obtain⟨q0,q1,q2⟩:=hq;cbv)|(refine⟨[1,3,4,75,76,77],[1,3,75],Int×af,fun s_=>match s_ with|(f,es4)=>[.reg 77 (.j f),.leaf 3 0 ⟨0,0,none,.own (.m false es4)⟩],fun s_=>match s_ with|(f,es4)=>0<=f/\f<=((ifL aA aB).length:Int)/\Sg a6 a7 a9 aD (ifL aA aB) aF f es4,fun s_=>match s_ with|(f,es4)=>(ifL aA aB).length-f.toNat,⟨(0,es3),?_,?_⟩,?_⟩;rotate_left;(focus (cbv;done));intro s_ hf;obtain⟨f,es4⟩:=s_;replace hf:0<=f/\f<=((ifL aA aB).length:Int)/\Sg a6 a7 a9 aD (ifL aA aB) aF f es4:=hf;obtain⟨f0,f1,f2⟩:=hf;cbv)|(refine⟨[1,3,87,88,89],[1,3],Int×af,fun s_=>match s_ with|(p,es5)=>[.reg 89 (.j p),.leaf 3 0 ⟨0,0,none,.own (.m false es5)⟩],fun s_=>match s_ with|(p,es5)=>0<=p/\p<=(a8.length:Int)/\OB a6 a7 a8 a9 aD (ifL aA aB) aF p es5,fun s_=>match s_ with|(p,es5)=>a8.length-p.toNat,⟨(0,es4),?_,?_⟩,?_⟩;rotate_left;(focus (cbv;done));intro s_ hp;obtain⟨p,es5⟩:=s_;replace hp:0<=p/\p<=(a8.length:Int)/\OB a6 a7 a8 a9 aD (ifL aA aB) aF p es5:=hp;obtain⟨p0,p1,p2⟩:=hp;cbv)|(refine⟨[3,103,104,105],[3,103],Int×af,fun s_=>match s_ with|(t,es6)=>[.reg 105 (.j t),.leaf 3 0 ⟨0,0,none,.own (.m false es6)⟩],fun s_=>match s_ with|(t,es6)=>0<=t/\t<=((iaL a6 a7).length:Int)/\MD a6 a7 a8 a9 aD (ifL aA aB) aF t es6,fun s_=>match s_ with|(t,es6)=>(iaL a6 a7).length-t.toNat,⟨(0,es5),?_,?_⟩,?_⟩;rotate_left;(focus (cbv;done));intro s_ ht;obtain⟨t,es6⟩:=s_;replace ht:0<=t/\t<=((iaL a6 a7).length:Int)/\MD a6 a7 a8 a9 aD (ifL aA aB) aF t es6:=ht;obtain⟨t0,t1,t2⟩:=ht;cbv)|(refine ah (O.ar .add Za j 1,F.huI es2 (O.gi (O.gs (O.gs a9 i 0) k 0) j 0)) ?_ ?_ ?_;focus (cbv;done))|(refine ah (O.ar .add Za k 1,es2) ?_ ?_ ?_;focus (cbv;done))|(refine ah (O.ar .add Za i 1,es1) ?_ ?_ ?_;focus (cbv;done))|(refine ah (O.ar .add Za t 1,es6) ?_ ?_ ?_;focus (cbv;done))|(refine ah (O.ar .add Za p 1,O.mu es5 (O.gi a8 p 1) (.i (O.ar .add Za (O.mgi es5 (O.gi a8 p 1)) 1))) ?_ ?_ ?_;focus (cbv;done))|(refine ah (O.ar .add Za f 1,F.huI es4 (O.pi (.s 1 (F.ifL aA aB)) [(O.ad 0 f,0)])) ?_ ?_ ?_;focus (cbv;done))|(refine ah (O.ar .add Za q 1,F.huI es3 (O.gi aD q 0)) ?_ ?_ ?_;focus (cbv;done))
 all_goals(subst hO hr hF;(try simp only[nc]at*);(try simp only[aj,SS,sa,az]at*);(try rw[dx (by omega) (by omega)]);(try simp only[DT f0]at*);(try simp only[DT t0,LB]at*);(try have z8:bO .add Za t 1=t+1:=cG (by omega));(try simp only[z8]at*);(try have w6:=hcc.n i i0 (by assumption));(try have w7:=w6.el k0 (by assumption));(try have w8:=w7.1);(try have z6:bO .add Za k 1=k+1:=cG (by have:=w6.l;omega));(try simp only[z6]at*);(try have z7:bO .add Za j 1=j+1:=cG (by have:=w7.2;omega));(try simp only[z7]at*))
 all_goals first
  | (show(_:List DV)=_
     first
      |(refine av ?_;symm;exact P7 i0 (by assumption) (aeV k0 (by assumption) j0 (by assumption) (by assumption)))
      |(refine av ?_;symm;exact H9 q0 (by assumption) (acB (by assumption)))
      |(refine av ?_;symm;exact H9 q0 (by assumption) (acC (by assumption)))
      |(refine av ?_;symm;exact P8 f0 (by assumption) (by assumption))
      |(refine av ?_;symm;exact aez t2 t0 (by assumption) (by assumption))
      |(refine av ?_;symm;exact P4 t2 (by omega))
      |done)
  |omega
  |exact fK
  |exact⟨hsw,hlw⟩
  |exact⟨hsw,hlw,hsl,hll⟩
  |exact N.m
  |exact NF hfr f0 (by assumption)
  |exact NF hlr t0 (by assumption)
  |exact aaQ j2 i0 (by assumption) k0 (by assumption) j0 (by assumption) hcl (by assumption)
  |exact aaR j2 k0 j1 (by omega)
  |exact aaP k2 i0 k1 (by omega)
  |exact aew k2
  |exact aex i2
  |exact aev
  |exact aeR i2 i1 (by omega)
  |exact aa2 q2 q0 (by assumption) hcl hql (afM (by assumption) (by omega))
  |exact aeu q2 q1 (by omega)
  |exact aaH f2 f0 (by assumption) hcl hql hfl (by assumption)
  |exact aeC f2 f1 (by omega)
  |exact aaW p2 p0 (by assumption) hcl hql hol hfl
  |exact aey p2 p1 (by omega)
  |exact aaT t2 (by assumption)
  |done
abbrev Pa0:dp:=d4 (fun F f=>match f with|54=>cZ F|_=>fun _=>none) (by
 intro f;dsimp only;split;exact d7;exact dB)
def gy:EC:=fun F=>fun
 |[.agg [.s 1 a0,.s 1 a1,.s 2 a2,.v (.int Za a3),.s 1 a4],.one (.v (.int Za p))]=>some (fun _=>Rw [tI,tI] a2,[.k (F.mapB a2 p)])
 |_=>none
theorem lO:ec 170 gy:=by
 intro _ _ _ h hp;dsimp only[gy,F0]at h;split at h<;>cases h
 rename_i a0 a1 a2 a3 a4 p;refine cb Pa0 Tryz.func170 ?_
 intro O r F hO hr hF;cbv
 repeat' first|apply Zd|(apply cP<;>intro hb<;>cbv)
 all_goals(subst hO hr hF;(try simp only[nc]at*);(try simp only[aj,SS,sa,az]at*))
 all_goals first|(show(_:List DV)=_;refine av ?_;unfold mapB;rw[Hz];done)|exact hp|done
abbrev Pa1:dp:=d4 (fun F f=>match f with|169=>ff F|170=>gy F|171=>jQ F|54=>cZ F|172=>jO F|_=>fun _=>none) (by
 intro f;dsimp only;split;exact lC;exact lO;exact uc;exact d7;exact t9;exact dB)
def kL:EC:=fun F=>fun
 |[.agg hl_]=>hL hl_ fun a0 a1 a2 a3 a4 a5 a6 a7 a8 a9 aA aB aC aD aE aF aG aH aI aJ aK aL aM aN=>(fun _=>NsH a6 a7 a8 a9 aA aB aD/\layOk a6 a7=true/\Rw [tI,tI] a2/\a2.length<=1099511627776/\Rw [tI,tI] a5/\a5.length<=1099511627776,[.k (F.pgI a2 a5 a6 a7)])
 |_=>none
theorem vC:ec 63 kL:=by
 intro _ _ _ h hp;dsimp only[kL,F0,hL]at h;split at h;rotate_left;cases h;split at h<;>cases h
 rename_i a0 a1 a2 a3 a4 a5 a6 a7 a8 a9 aA aB aC aD aE aF aG aH aI aJ aK aL aM aN;obtain⟨N,hlay,hew,hel,hfw,hfl⟩:=hp;have hsw:=N.sw;have hlw:=N.lw;have hsl:=N.sl;have hll:=N.ll;have F:=LC hlay;have lgF:∀ j:Int,0<=j->j<a7.length->0<=ag a7 j 0/\1<=ag a7 j 1/\ag a7 j 0+ag a7 j 1<=32:=fun j h0 h1=>by
  have t:=ma (F.l j.toNat (by omega));rw[Int.toNat_of_nonneg h0]at t;have b:=oP t.1;omega
 refine cb Pa1 Tryz.func63 ?_
 intro O r F hO hr hF;cbv
 repeat' first|apply Zd|(apply cP<;>intro hb<;>cbv)|(refine⟨[1,18,19,20],[1],Int,fun i=>[.reg 20 (.j i)],fun i=>0<=i/\i<=(a6.length:Int)/\upto (AH a6) i,fun i=>a6.length-i.toNat,⟨0,?_,?_⟩,?_⟩;rotate_left;(focus (cbv;done));intro i hi;replace hi:0<=i/\i<=(a6.length:Int)/\upto (AH a6) i:=hi;obtain⟨i0,i1,i2⟩:=hi;cbv)|(refine⟨[1,5,42,43,44],[1,40],Int×af,fun s_=>match s_ with|(q,m)=>[.reg 44 (.j q),.leaf 40 0 ⟨0,0,none,.own (.m true m)⟩],fun s_=>match s_ with|(q,m)=>0<=q/\q<=(a6.length:Int)/\uX m (mP a6 q.toNat),fun s_=>match s_ with|(q,m)=>a6.length-q.toNat,⟨(0,[]),?_,?_⟩,?_⟩;rotate_left;(focus (cbv;done));intro s_ hq;obtain⟨q,m⟩:=s_;replace hq:0<=q/\q<=(a6.length:Int)/\uX m (mP a6 q.toNat):=hq;obtain⟨q0,q1,q2⟩:=hq;cbv)|(refine⟨[1,5,53,54,55],[1,40],Int×af,fun s_=>match s_ with|(j,m1)=>[.reg 55 (.j j),.leaf 40 0 ⟨0,0,none,.own (.m true m1)⟩],fun s_=>match s_ with|(j,m1)=>0<=j/\j<=(a7.length:Int)/\SA a2 a6 a7 j m1,fun s_=>match s_ with|(j,m1)=>a7.length-j.toNat,⟨(0,m),?_,?_⟩,?_⟩;rotate_left;(focus (cbv;done));intro s_ hj;obtain⟨j,m1⟩:=s_;replace hj:0<=j/\j<=(a7.length:Int)/\SA a2 a6 a7 j m1:=hj;obtain⟨j0,j1,j2⟩:=hj;cbv)|(refine⟨[1,5,9,10,53,54,55],[1,40,9],Int×af,fun s_=>match s_ with|(p,m2)=>[.reg 10 (.j p),.leaf 40 0 ⟨0,0,none,.own (.m true m2)⟩],fun s_=>match s_ with|(p,m2)=>ag a7 j 0<=p/\p<=ag a7 j 0+ag a7 j 1/\Sw a2 a6 a7 j (p-ag a7 j 0) m2,fun s_=>match s_ with|(p,m2)=>(ag a7 j 0+ag a7 j 1-p).toNat,⟨(O.gi a7 j 0,m1),?_,?_⟩,?_⟩;rotate_left;(focus (cbv;done));intro s_ hp;obtain⟨p,m2⟩:=s_;replace hp:ag a7 j 0<=p/\p<=ag a7 j 0+ag a7 j 1/\Sw a2 a6 a7 j (p-ag a7 j 0) m2:=hp;obtain⟨p0,p1,p2⟩:=hp;cbv)|(refine⟨[1,5,98,99],[1,40],Int,fun e=>[.reg 99 (.j e)],fun e=>0<=e/\e<=(a2.length:Int)/\upto (GR a2 a5 a6 a7) e,fun e=>a2.length-e.toNat,⟨0,?_,?_⟩,?_⟩;rotate_left;(focus (cbv;done));intro e he;replace he:0<=e/\e<=(a2.length:Int)/\upto (GR a2 a5 a6 a7) e:=he;obtain⟨e0,e1,e2⟩:=he;cbv)|(refine⟨[1,122],[1],List Int,fun vs=>[.reg 122 (.one (.it m1 vs))],fun vs=>True/\∀ k∈vs,k<(a2.length:Int),fun vs=>m1.length-vs.length,⟨[],?_,?_⟩,?_⟩;rotate_left;(focus (cbv;done));intro vs uu;replace uu:True/\∀ k∈vs,k<(a2.length:Int):=uu;obtain⟨vs0,vs1⟩:=uu;cbv)|(refine⟨[1,136,137,138],[1],Int,fun u=>[.reg 138 (.j u)],fun u=>0<=u/\u<=(a6.length:Int)/\upto (Kb a2 a6) u,fun u=>a6.length-u.toNat,⟨0,?_,?_⟩,?_⟩;rotate_left;(focus (cbv;done));intro u hu;replace hu:0<=u/\u<=(a6.length:Int)/\upto (Kb a2 a6) u:=hu;obtain⟨u0,u1,u2⟩:=hu;cbv)|(refine⟨[1,14,136,137,138,146,147,148],[1,14],Int,fun v=>[.reg 148 (.j v)],fun v=>0<=v/\v<=u/\upto (Ka a2 a6 u) v,fun v=>(u-v).toNat,⟨0,?_,?_⟩,?_⟩;rotate_left;(focus (cbv;done));intro v hv;replace hv:0<=v/\v<=u/\upto (Ka a2 a6 u) v:=hv;obtain⟨v0,v1,v2⟩:=hv;cbv)|(refine ah (O.ar .add Za p 1,O.mu m2 p (.v (.bool true))) ?_ ?_ ?_;focus (cbv;done))|(refine ah (O.ar .add Za j 1,m2) ?_ ?_ ?_;focus (cbv;done))|(refine ah (O.ar .add Za q 1,O.mu m (O.gi a6 q 0) (.v (.bool true))) ?_ ?_ ?_;focus (cbv;done))|(refine ah (O.ar .add Za v 1) ?_ ?_ ?_;focus (cbv;done))|(refine ah (O.ar .add Za u 1) ?_ ?_ ?_;focus (cbv;done))|(refine ah (O.ar .add Za e 1) ?_ ?_ ?_;focus (cbv;done))|(refine ah (O.ar .add Za i 1) ?_ ?_ ?_;focus (cbv;done))|(refine ah (kk::vs) ?_ ?_ ?_;focus (cbv;done))|((intro(kk:Int) (hkk:O.pr _);cbv))|((intro(hkk:O.pr _);cbv))
 all_goals(subst hO hr hF;(try simp only[nc]at*);(try simp only[aj,SS,sa,az]at*);(try rw[dx (by omega) (by omega)]);(try have zi:=JJ i0 (by omega));(try simp only[zi]at*);(try have zj:=JJ j0 (by omega));(try simp only[zj]at*);(try have lf:=lgF j j0 (by assumption));(try have zl:bO .add Za (ag a7 j 0) (ag a7 j 1)=ag a7 j 0+ag a7 j 1:=cG (by omega));(try simp only[zl]at*);(try have zp:bO .add Za p 1=p+1:=cG (by omega));(try simp only[zp]at*);(try have zv:bO .add Za v 1=v+1:=cG (by omega));(try simp only[zv]at*);(try simp only[aca (Ra j2 j1 (by assumption))]at*);(try simp only[Eb]at*);(try have tl:(List.take u.toNat a6).length=u.toNat:=by(rw[Zh];omega));(try have hwt:=Rw.take hsw u.toNat);(try simp only[K7 (es:=a6) (n:=u.toNat) (i:=v) (by omega)]at*))
 all_goals first
  | (show(_:List DV)=_
     first
      |(refine av ?_;symm;exact ach i0 (by assumption) (N7 (by assumption) (by assumption)))
      |(refine av ?_;symm;exact NH j0 (by assumption) (abx (N7 (by assumption) (by assumption))))
      |(refine av ?_;symm;exact NH j0 (by assumption) (acl p0 (by assumption) (by omega)))
      |(refine av ?_;symm;exact NI e0 (by assumption) (aaa (by assumption)))
      |(refine av ?_;symm;exact NI e0 (by assumption) (aab (by assumption)))
      |(refine av ?_;symm;exact aci (afB (((Ra j2 j1 (by assumption)).k _).1 hkk.1) (by assumption)))
      |(refine av ?_;symm;exact acj u0 (by assumption) (afn v0 (by omega) (by assumption) (by assumption)))
      |(refine av ?_;symm;exact afH i2 (by omega) j2.ok (by omega) e2 (by omega) (afC (Ra j2 j1 (by assumption)) vs1 hkk) u2 (by omega))
      |done)
  |omega
  |exact fK
  |(show ax _ _=true;kernel_rfl)
  |exact⟨hew,hel⟩
  |exact⟨hfw,hfl⟩
  |exact cg
  |exact bN i2 (N8 (by omega))
  |exact bN i2 (N9 (by assumption))
  |(rw[zY q0];exact I4 q2)
  |exact ab9
  |exact afI q2 q1 (by omega)
  |exact ack j2 (N8 (by omega))
  |exact ack j2 (N9 (by assumption))
  |exact acm p2 p0 (by omega)
  |exact acn p2 j0 (by omega) p1 (by omega)
  |exact bN e2 (aec (by assumption) (by assumption))
  |exact ada vs1 (by assumption)
  |exact fun k hk=>by cases hk
  |(have q:=hkk.2;simp only[List.length_cons];omega)
  |exact bN v2 (abF (by assumption))
  |exact bN v2 (abG (by assumption))
  |exact bN u2 (afo v2 (by omega) u0)
  |done
abbrev Qa1:dp:=d4 (fun F f=>match f with|60=>eI F|61=>eK F|62=>eJ F|63=>kL F|64=>eQ F|65=>jm F|66=>fv F|67=>lV F|68=>iW F|69=>gz F|33=>ay F|70=>mW F|71=>lT F|_=>fun _=>none) (by
 intro f;dsimp only;split;exact jD;exact jF;exact jE;exact vC;exact jg;exact pD;exact ko;exact xE;exact si;exact lP;exact aS;exact yT;exact xC;exact dB)
def eP:EC:=fun F=>fun
 |[.agg hl_]=>hL hl_ fun a0 a1 a2 a3 a4 a5 a6 a7 a8 a9 aA aB aC aD aE aF aG aH aI aJ aK aL aM aN=>(fun _=>HpN a0 a1 a2 a4 a5 a6 a7 a8 a9 aA aB aD aL,[.k (F.hpI a0 a1 a2 a3 a4 a5 a6 a7 a8 a9 aA aB aC aD aE aF aG aH aI aJ aK aL aM aN)])
 |_=>none
theorem gu:ec 17 eP:=by
 intro _ _ _ h hp;dsimp only[eP,F0,hL]at h;split at h;rotate_left;cases h;split at h<;>cases h
 rename_i a0 a1 a2 a3 a4 a5 a6 a7 a8 a9 aA aB aC aD aE aF aG aH aI aJ aK aL aM aN;have N:=hp.n;have hcc:=N.c;have hcw:=N.cw;have hel:=hp.el;have hfl:=hp.fl;have hsl:=N.sl;have hcl:=N.cl;have hlc:=aO (es:=a9);refine cb Qa1 Tryz.func17 ?_
 intro O r F hO hr hF;cbv
 repeat' first|apply Zd|(apply cP<;>intro hb<;>cbv)|(refine⟨[1,57,58,59],[1],Int,fun i=>[.reg 59 (.j i)],fun i=>0<=i/\i<=((a9.length:Nat):Int)/\upto (SC a9) i,fun i=>(a9.length)-i.toNat,⟨0,?_,?_⟩,?_⟩;rotate_left;(focus (cbv;done));intro i hi;replace hi:0<=i/\i<=((a9.length:Nat):Int)/\upto (SC a9) i:=hi;obtain⟨i0,i1,i2⟩:=hi;cbv)|(refine ah (O.ar .add Za i 1) ?_ ?_ ?_;focus (cbv;done))
 all_goals(subst hO hr hF;(try simp only[nc]at*);(try simp only[aj,SS,sa,az]at*);(try rw[dx (by omega) (by omega)]))
 all_goals first
  | (show(_:List DV)=_
     first
      |(refine av ?_;symm;exact aeF (by assumption))
      |(refine av ?_;symm;exact aeM (by assumption))
      |(refine av ?_;symm;exact aeG (by assumption))
      |(refine av ?_;symm;exact aeK (by assumption))
      |(refine av ?_;symm;exact aeH (by assumption))
      |(refine av ?_;symm;exact aa1 (by assumption))
      |(refine av ?_;symm;exact aeL (by assumption))
      |(refine av ?_;symm;exact aaX i0 (by assumption) (by assumption))
      |(refine av ?_;symm;exact aeJ (by assumption))
      |(refine av ?_;symm;exact aeE (by assumption))
      |(refine av ?_;symm;exact aeN (by assumption))
      |(refine av ?_;symm;exact aeO (by assumption))
      |(refine av ?_;symm;exact aeP (by assumption))
      |(refine av ?_;symm;exact aeQ (by assumption))
      |(refine av ?_;rw[Qa (by assumption) (by assumption) (by assumption) (by assumption) (by assumption) (VP (by omega)) (by assumption) (cu i2 (by omega)) (by assumption) (by assumption) (by assumption) (by assumption) (by assumption) (by assumption)];subst_vars;first|exact abm (by assumption)|exact abn (by assumption)|exact abo (by assumption) (by assumption)|exact rfl|((try rw[cmp_eq]);unfold xJ abl;simp[*];done))
      |done)
  |omega
  |exact fK
  |exact⟨hp.c,hp.u,hp.e,hp.r⟩
  |exact⟨by omega,by omega,hp.f,by omega⟩
  |exact⟨N.sw,N.lw,N.sl,N.ll⟩
  |exact⟨N,by assumption,hp.e,by omega,hp.f,by omega⟩
  |exact N.m
  |exact⟨N.qw,N.ql⟩
  |exact hcc.n i i0 (by assumption)
  |exact⟨N,by assumption⟩
  |exact⟨hp.j,by have:=hp.jl;omega⟩
  |exact⟨N.sw,by omega⟩
  |exact cg
  |exact bN i2 (by assumption)
  |done
end Go.V