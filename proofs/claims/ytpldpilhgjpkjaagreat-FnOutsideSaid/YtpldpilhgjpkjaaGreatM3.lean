/- Contracts. -/
import Derived.Test.YtpldpilhgjpkjaaGreatM2
import Derived.Test.YtpldpilhgjpkjaaGreatM1
set_option linter.all false
open Go
open And renaming intro->Zb
open Int renaming toNat_of_nonneg->Zp
open IntKind renaming i64->Za
open List renaming length_take->Zh,length_cons->Zr,length_nil->Zt
open True renaming intro->Zd
namespace Go.V
open Go Go.Proofs
set_option maxRecDepth 1000000
set_option maxHeartbeats 8000000
abbrev Ma0:dB:=eg (fun F f=>match f with|33=>ai F|92=>ai F|_=>fun _=>none) (by
 intro f;dsimp only;split;exact aP;exact bc;exact dI)
def eI:EC:=fun F=>fun
 |[.one (.v (.int Za n)),.agg [.v (.int Za a),.v (.int Za l)]]=>some (fun _=>0<=n/\n<=1099511627776,[.k (F.rngIn n a l)])
 |_=>none
theorem uO:ec 165 eI:=by
 intro _ _ _ h hp;dsimp only[eI,F0]at h;split at h<;>cases h
 rename_i n a l;refine cb Ma0 Tryz.func165 ?_
 exact abY
theorem yB:ec 295 eI:=by
 intro _ _ _ h hp;dsimp only[eI,F0]at h;split at h<;>cases h
 rename_i n a l;refine cb Ma0 Tryz.func295 ?_
 exact abY
abbrev Ma1:dB:=eg (fun F f=>match f with|33=>ai F|92=>ai F|165=>eI F|295=>eI F|_=>fun _=>none) (by
 intro f;dsimp only;split;exact aP;exact bc;exact uO;exact yB;exact dI)
def da:EC:=fun F=>fun
 |[.one (.v (.int Za n)),.one (.s 2 rs)]=>some (fun _=>0<=n/\n<=1099511627776/\Rw [tI,tI] rs/\rs.length<=1099511627776,[.k (F.rgOk n rs)])
 |_=>none
theorem mF:ec 61 da:=by
 intro _ _ _ h hp;dsimp only[da,F0]at h;split at h<;>cases h
 rename_i n rs;obtain⟨n0,n1,hw,hl⟩:=hp;refine cb Ma1 Tryz.func61 ?_
 intro O r F hO hr hF;cbv
 repeat' first|apply Zb|(apply b8<;>intro hb<;>cbv)|(refine⟨[0,1,7,8,9],[],Int,fun i=>[.reg 9 (.j i)],fun i=>0<=i/\i<=((rs.length:Nat):Int)/\upto (rS n rs) i,fun i=>(rs.length)-i.toNat,⟨0,?_,?_⟩,?_⟩;rotate_left;(focus (cbv;done));intro i hi;replace hi:0<=i/\i<=((rs.length:Nat):Int)/\upto (rS n rs) i:=hi;obtain⟨i0,i1,i2⟩:=hi;cbv)|(refine ah (O.ar .add Za i 1) ?_ ?_ ?_;focus (cbv;done))
 all_goals exact zq6
theorem mN:ec 202 da:=by
 intro _ _ _ h hp;dsimp only[da,F0]at h;split at h<;>cases h
 rename_i n rs;obtain⟨n0,n1,hw,hl⟩:=hp;refine cb Ma1 Tryz.func202 ?_
 intro O r F hO hr hF;cbv
 repeat' first|apply Zb|(apply b8<;>intro hb<;>cbv)|(refine⟨[0,1,5],[],Int,fun i=>[.reg 5 (.j i)],fun i=>0<=i/\i<=((rs.length:Nat):Int)/\upto (rS n rs) i,fun i=>(rs.length)-i.toNat,⟨0,?_,?_⟩,?_⟩;rotate_left;(focus (cbv;done));intro i hi;replace hi:0<=i/\i<=((rs.length:Nat):Int)/\upto (rS n rs) i:=hi;obtain⟨i0,i1,i2⟩:=hi;cbv)|(refine ah (O.ar .add Za i 1) ?_ ?_ ?_;focus (cbv;done))
 all_goals exact zq6
def gM:EC:=fun F=>fun
 |[.agg [.v (.int Za a),.v (.int Za l)],.ptr [.v (.int Za p)]]=>some (fun _=>True,[.k (F.rh1 a l p)])
 |_=>none
theorem pX:ec 280 gM:=by
 intro _ _ _ h hp;dsimp only[gM,F0]at h;split at h<;>cases h
 rename_i a l p;refine cb nB Tryz.func280 ?_
 intro O r F hO hr hF;cbv
 repeat' first|apply Zb|(apply b8<;>intro hb<;>cbv)
 all_goals(subst hO hr hF;(try simp only[nc]at*);(try simp only[am,SS,sa,az]at*))
 all_goals first|(show(_:List DV)=_;refine aj ?_;unfold rh1;rw[VK hb];rfl)|(show(_:List DV)=_;refine aj ?_;unfold rh1;rw[VL (by omega)];rfl)|done
abbrev Ma3:dB:=eg (fun F f=>match f with|280=>gM F|_=>fun _=>none) (by
 intro f;dsimp only;split;exact pX;exact dI)
def aW:EC:=fun F=>fun
 |[.one (.s 2 os),.fn 280 [[.v (.int Za id)]]]=>some (fun _=>Rw [tI,tI] os/\os.length<=1099511627776,[.j (F.rhI os id)])
 |_=>none
theorem ce:ec 341 aW:=by
 intro _ _ _ h hp;dsimp only[aW,F0]at h;split at h<;>cases h
 rename_i os id;obtain⟨hw,hn⟩:=hp;refine cb Ma3 Tryz.func341 ?_
 intro O r F hO hr hF;cbv
 repeat' first|apply Zb|(apply b8<;>intro hb<;>cbv)|(refine⟨[0,1,7,8],[0],Int,fun i=>[.reg 8 (.j i)],fun i=>0<=i/\i<=((os.length:Nat):Int)/\upto (bR (qo os id)) i,fun i=>(os.length)-i.toNat,⟨0,?_,?_⟩,?_⟩;rotate_left;(focus (cbv;done));intro i hi;replace hi:0<=i/\i<=((os.length:Nat):Int)/\upto (bR (qo os id)) i:=hi;obtain⟨i0,i1,i2⟩:=hi;cbv)|(refine ah (O.ar .add Za i 1) ?_ ?_ ?_;focus (cbv;done))
 all_goals(subst hO hr hF;(try simp only[nc]at*);(try simp only[am,SS,sa,az]at*);(try rw[cJ (by omega) (by omega)]))
 all_goals first
  | (show(_:List DV)=_
     first
      |exact bV (dE i2 i0 (by assumption) (show qo os id i=true from by assumption)).symm
      |exact bV (dF i2 (by assumption)).symm
      |done)
  |omega
  |exact fg
  |(show(lk _ _).isSome=true;kernel_rfl)
  |exact bD
  |exact aU i2 (fX (show qo os id i=false from by assumption))
  |done
abbrev Ma4:dB:=eg (fun F f=>match f with|341=>aW F|_=>fun _=>none) (by
 intro f;dsimp only;split;exact ce;exact dI)
def aeE:EC:=fun F=>fun
 |[.one (.s 2 os),.fn 280 [[.v (.int Za id)]]]=>some (fun _=>Rw [tI,tI] os/\os.length<=1099511627776,[.k (F.rhB os id)])
 |_=>none
theorem bW:ec 279 aeE:=by
 intro _ _ _ h hp;dsimp only[aeE,F0]at h;split at h<;>cases h
 rename_i os id;refine cb Ma4 Tryz.func279 ?_
 intro O r F hO hr hF;cbv
 repeat' first|apply Zb|(apply b8<;>intro hb<;>cbv)
 all_goals(subst hO hr hF;(try simp only[nc]at*);(try simp only[am,SS,sa,az]at*))
 all_goals first
  | (show(_:List DV)=_
     first
      |exact aj (fU (by unfold rhB;simp only[SS,VM]))
      |done)
  |exact hp
  |done
abbrev Ma5:dB:=eg (fun F f=>match f with|279=>aeE F|_=>fun _=>none) (by
 intro f;dsimp only;split;exact bW;exact dI)
def d7:EC:=fun F=>fun
 |[.one (.s 2 os),.one (.v (.int Za id))]=>some (fun _=>Rw [tI,tI] os/\os.length<=1099511627776,[.k (F.rhB os id)])
 |_=>none
theorem tu:ec 171 d7:=by
 intro _ _ _ h hp;dsimp only[d7,F0]at h;split at h<;>cases h
 rename_i os id;refine cb Ma5 Tryz.func171 ?_
 exact ab9
theorem tK:ec 300 d7:=by
 intro _ _ _ h hp;dsimp only[d7,F0]at h;split at h<;>cases h
 rename_i os id;obtain⟨hw,hn⟩:=hp;refine cb nB Tryz.func300 ?_
 intro O r F hO hr hF;cbv
 repeat' first|apply Zb|(apply b8<;>intro hb<;>cbv)|(refine⟨[0,1,5],[],Int,fun i=>[.reg 5 (.j i)],fun i=>0<=i/\i<=((os.length:Nat):Int)/\upto (bR (qo os id)) i,fun i=>(os.length)-i.toNat,⟨0,?_,?_⟩,?_⟩;rotate_left;(focus (cbv;done));intro i hi;replace hi:0<=i/\i<=((os.length:Nat):Int)/\upto (bR (qo os id)) i:=hi;obtain⟨i0,i1,i2⟩:=hi;cbv)|(refine ah (O.ar .add Za i 1) ?_ ?_ ?_;focus (cbv;done))
 all_goals(subst hO hr hF;(try simp only[nc]at*);(try simp only[am,SS,sa,az]at*);(try rw[cJ (by omega) (by omega)]))
 all_goals first
  | (show(_:List DV)=_
     first
      |(refine aj ?_;symm;exact PQ i2 i0 (by assumption) (by assumption) (by assumption))
      |(refine aj ?_;symm;exact aaE i2 (by omega))
      |done)
  |omega
  |exact fg
  |(show aw _ _=true;kernel_rfl)
  |exact bD
  |exact aU i2 (aaC (by omega))
  |exact aU i2 (aaD (by omega))
  |done
abbrev Ma6:dB:=eg (fun F f=>match f with|167=>co F|296=>co F|_=>fun _=>none) (by
 intro f;dsimp only;split;exact iO;exact fZ;exact dI)
def d5:EC:=fun F=>fun
 |[.agg [.v (.int Za p1),.v (.int Za k1),.v (.int Za b1)],.agg [.v (.int Za p2),.v (.int Za k2),.v (.int Za b2)]]=>some (fun _=>True,[.k (F.mshB p1 k1 b1 p2 k2 b2)])
 |_=>none
theorem tp:ec 172 d5:=by
 intro _ _ _ h hp;dsimp only[d5,F0]at h;split at h<;>cases h
 rename_i p1 k1 b1 p2 k2 b2;refine cb Ma6 Tryz.func172 ?_
 exact ab3
theorem tG:ec 301 d5:=by
 intro _ _ _ h hp;dsimp only[d5,F0]at h;split at h<;>cases h
 rename_i p1 k1 b1 p2 k2 b2;refine cb Ma6 Tryz.func301 ?_
 exact ab3
abbrev Ma7:dB:=eg (fun F f=>match f with|56=>bC F|43=>bC F|_=>fun _=>none) (by
 intro f;dsimp only;split;exact de;exact dO;exact dI)
def dQ:EC:=fun F=>fun
 |[.one (.s 3 qs)]=>some (fun _=>Rw [tI,tI,tI] qs/\qs.length<=1073741824,[.j (F.qcI qs)])
 |_=>none
theorem rt:ec 160 dQ:=by
 intro _ _ _ h hp;dsimp only[dQ,F0]at h;split at h<;>cases h
 rename_i qs;obtain⟨hw,hl⟩:=hp;refine cb Ma7 Tryz.func160 ?_
 intro O r F hO hr hF;cbv
 repeat' first|apply Zb|(apply b8<;>intro hb<;>cbv)|(refine⟨[3,6,7,8],[],Int×Int,fun s_=>match s_ with|(i,t)=>[.reg 8 (.j i),.reg 3 (.j t)],fun s_=>match s_ with|(i,t)=>0<=i/\i<=(qs.length:Int)/\JN qs i t,fun s_=>match s_ with|(i,t)=>qs.length-i.toNat,⟨(0,0),?_,?_⟩,?_⟩;rotate_left;(focus (cbv;done));intro s_ hi;obtain⟨i,t⟩:=s_;replace hi:0<=i/\i<=(qs.length:Int)/\JN qs i t:=hi;obtain⟨i0,i1,i2⟩:=hi;cbv)|(refine ah (O.ar .add Za i 1,O.ar .add Za t (F.clsSz (O.gi qs i 1))) ?_ ?_ ?_;focus (cbv;done))
 all_goals exact abX
theorem tM:ec 303 dQ:=by
 intro _ _ _ h hp;dsimp only[dQ,F0]at h;split at h<;>cases h
 rename_i qs;obtain⟨hw,hl⟩:=hp;refine cb Ma7 Tryz.func303 ?_
 intro O r F hO hr hF;cbv
 repeat' first|apply Zb|(apply b8<;>intro hb<;>cbv)|(refine⟨[0,3,4],[],Int×Int,fun s_=>match s_ with|(i,t)=>[.reg 4 (.j i),.reg 3 (.j t)],fun s_=>match s_ with|(i,t)=>0<=i/\i<=(qs.length:Int)/\JN qs i t,fun s_=>match s_ with|(i,t)=>qs.length-i.toNat,⟨(0,0),?_,?_⟩,?_⟩;rotate_left;(focus (cbv;done));intro s_ hi;obtain⟨i,t⟩:=s_;replace hi:0<=i/\i<=(qs.length:Int)/\JN qs i t:=hi;obtain⟨i0,i1,i2⟩:=hi;cbv)|(refine ah (O.ar .add Za i 1,O.ar .add Za t (F.clsSz (O.gi qs i 1))) ?_ ?_ ?_;focus (cbv;done))
 all_goals exact abX
abbrev Ma8:dB:=eg (fun F f=>match f with|157=>dr F|271=>gq F|92=>ai F|_=>fun _=>none) (by
 intro f;dsimp only;split;exact eG;exact mJ;exact bc;exact dI)
def jV:EC:=fun F=>fun
 |[.one (.s 3 b),.agg [.v (.int Za a),.v (.int Za c),.v (.int Za s)]]=>some (fun _=>Rw [tI,tI,tI] b/\b.length<=1073741824,[.k (F.stlOk b a c s)])
 |_=>none
theorem uR:ec 159 jV:=by
 intro _ _ _ h hp;dsimp only[jV,F0]at h;split at h<;>cases h
 rename_i b a c s;obtain⟨hw,hl⟩:=hp;have hs:bK .sub Za (b.length:Int) 1=b.length-1:=fG (by omega);refine cb Ma8 Tryz.func159 ?_
 intro O r F hO hr hF;cbv
 repeat' first|apply Zb|(apply b8<;>intro hb<;>cbv)
 all_goals(subst hO hr hF;(try simp only[nc]at*);(try simp only[am,SS,sa,az]at*);(try simp only[hs]at*))
 all_goals first|exact fg|(show aw _ _=true;kernel_rfl)|exact⟨hw,by omega⟩|(show(_:List DV)=_;refine aj ?_;unfold stlOk;simp[*,cU];done)|(show(_:List DV)=_;refine aj ?_;unfold stlOk;rw[VL (p:=0<=a) (by omega)];simp;done)|(show(_:List DV)=_;refine aj ?_;unfold stlOk;rw[VL (p:=0<=s) (by omega)];simp;done)|(show(_:List DV)=_;refine aj ?_;unfold stlOk;rw[VL (p:=b.length=0) (by omega)];simp[*,cU];done)|(show(_:List DV)=_;refine aj ?_;unfold stlOk;simp_all;done)|done
def kV:EC:=fun F=>fun
 |[.agg [.v (.int Za a),.v (.int Za c),.v (.int Za s)]]=>some (fun _=>True,[.k (F.staB a c s)])
 |_=>none
theorem xo:ec 302 kV:=by
 intro _ _ _ h hp;dsimp only[kV,F0]at h;split at h<;>cases h
 rename_i a c s;refine cb Ma8 Tryz.func302 ?_
 intro O r F hO hr hF;cbv
 repeat' first|apply Zb|(apply b8<;>intro hb<;>cbv)
 all_goals(subst hO hr hF;(try simp only[nc]at*);(try simp only[am,SS,sa,az]at*))
 all_goals first|(show(_:List DV)=_;refine aj ?_;unfold staB;simp[*,cU];done)|(show(_:List DV)=_;refine aj ?_;unfold staB;rw[VL (p:=0<=a) (by omega)];simp;done)|done
abbrev Ma9:dB:=eg (fun F f=>match f with|33=>ai F|159=>jV F|160=>dQ F|92=>ai F|302=>kV F|16=>jW F|303=>dQ F|_=>fun _=>none) (by
 intro f;dsimp only;split;exact aP;exact uR;exact rt;exact bc;exact xo;exact uT;exact tM;exact dI)
def eZ:EC:=fun F=>fun
 |[.agg [.v (.int Za rm),.s 3 qs]]=>some (fun _=>Rw [tI,tI,tI] qs/\qs.length<=1073741824,[.k (F.quarOk rm qs)])
 |_=>none
theorem xc:ec 65 eZ:=by
 intro _ _ _ h hp;dsimp only[eZ,F0]at h;split at h<;>cases h
 rename_i rm qs;obtain⟨hw,hl⟩:=hp;refine cb Ma9 Tryz.func65 ?_
 intro O r F hO hr hF;cbv
 repeat' first|apply Zb|(apply b8<;>intro hb<;>cbv)|(refine⟨[1,6,7,8],[1],Int,fun i=>[.reg 8 (.j i)],fun i=>0<=i/\i<=((qs.length:Nat):Int)/\upto (Bc qs) i,fun i=>(qs.length)-i.toNat,⟨0,?_,?_⟩,?_⟩;rotate_left;(focus (cbv;done));intro i hi;replace hi:0<=i/\i<=((qs.length:Nat):Int)/\upto (Bc qs) i:=hi;obtain⟨i0,i1,i2⟩:=hi;cbv)|(refine ah (O.ar .add Za i 1) ?_ ?_ ?_;focus (cbv;done))
 all_goals(subst hO hr hF;(try simp only[nc]at*);(try simp only[am,SS,sa,az]at*);(try rw[cJ (by omega) (by omega)]);(try simp only[ww]at*))
 all_goals first
  | (show(_:List DV)=_
     first
      |(refine aj ?_;symm;exact EH i0 (by assumption) (by assumption))
      |(refine aj ?_;rw[IG i2 (by omega)];simp[*,cU];done)
      |done)
  |omega
  |exact fg
  |(show aw _ _=true;kernel_rfl)
  |exact⟨hw,hl⟩
  |exact⟨Rw.take hw _,by rw[Zh];omega⟩
  |exact bD
  |exact aU i2 (by assumption)
  |done
theorem xj:ec 207 eZ:=by
 intro _ _ _ h hp;dsimp only[eZ,F0]at h;split at h<;>cases h
 rename_i rm qs;obtain⟨hw,hl⟩:=hp;refine cb Ma9 Tryz.func207 ?_
 intro O r F hO hr hF;cbv
 repeat' first|apply Zb|(apply b8<;>intro hb<;>cbv)|(refine⟨[1,3],[1],Int,fun i=>[.reg 3 (.j i)],fun i=>0<=i/\i<=((qs.length:Nat):Int)/\upto (Bc qs) i,fun i=>(qs.length)-i.toNat,⟨0,?_,?_⟩,?_⟩;rotate_left;(focus (cbv;done));intro i hi;replace hi:0<=i/\i<=((qs.length:Nat):Int)/\upto (Bc qs) i:=hi;obtain⟨i0,i1,i2⟩:=hi;cbv)|(refine ah (O.ar .add Za i 1) ?_ ?_ ?_;focus (cbv;done))
 all_goals(subst hO hr hF;(try simp only[nc]at*);(try simp only[am,SS,sa,az]at*);(try rw[cJ (by omega) (by omega)]);(try simp only[ww]at*);(try have z:=xA i0 (by omega));(try simp only[z]at*))
 all_goals first
  | (show(_:List DV)=_
     first
      |(refine aj ?_;symm;exact EH i0 (by assumption) (aan (by assumption)))
      |(refine aj ?_;symm;exact EH i0 (by assumption) (aao (by omega) (by assumption) (by assumption)))
      |(refine aj ?_;symm;exact EH i0 (by assumption) (aap (by assumption)))
      |(refine aj ?_;rw[IG i2 (by omega)];simp[*,cU];done)
      |(have q:false=true:=(by assumption);cases q)
      |done)
  |omega
  |exact fg
  |(show aw _ _=true;kernel_rfl)
  |exact⟨hw,hl⟩
  |exact⟨Rw.take hw _,by rw[Zh];omega⟩
  |exact bD
  |exact aU i2 (aaq (by assumption) (by assumption) i0 (by omega))
  |exact aU i2 (aar (by assumption) (by assumption) (by omega) (by assumption) (by assumption))
  |done
def kS:EC:=fun F=>fun
 |[.one (.v (.int Za c))]=>some (fun _=>True,[.k (F.inR c 0 15)])
 |_=>none
theorem xg:ec 282 kS:=by
 intro _ _ _ h hp;dsimp only[kS,F0]at h;split at h<;>cases h
 rename_i c;refine cb Ma0 Tryz.func282 ?_
 exact Ly
def gg:EC:=fun F=>fun
 |[.one (.v (.int Za c))]=>some (fun _=>True,[.k (F.inR c 0 1073741823)])
 |_=>none
theorem kN:ec 69 gg:=by
 intro _ _ _ h hp;dsimp only[gg,F0]at h;split at h<;>cases h
 rename_i c;refine cb Ma0 Tryz.func69 ?_
 exact Ly
abbrev Mb1:dB:=eg (fun F f=>match f with|33=>ai F|282=>kS F|92=>ai F|_=>fun _=>none) (by
 intro f;dsimp only;split;exact aP;exact xg;exact bc;exact dI)
def eY:EC:=fun F=>fun
 |[.agg [.v (.int Za k),.v (.int Za m),.s 1 cs]]=>some (fun _=>Rw [tI] cs/\cs.length<=1099511627776,[.k (F.plOk k m cs)])
 |_=>none
theorem wZ:ec 178 eY:=by
 intro _ _ _ h hp;dsimp only[eY,F0]at h;split at h<;>cases h
 rename_i k m cs;obtain⟨hw,hl⟩:=hp;refine cb Mb1 Tryz.func178 ?_
 intro O r F hO hr hF;cbv
 repeat' first|apply Zb|(apply b8<;>intro hb<;>cbv)|(refine⟨[1,6,7,8],[1],Int,fun i=>[.reg 8 (.j i)],fun i=>0<=i/\i<=((cs.length:Nat):Int)/\upto (Gf cs) i,fun i=>(cs.length)-i.toNat,⟨0,?_,?_⟩,?_⟩;rotate_left;(focus (cbv;done));intro i hi;replace hi:0<=i/\i<=((cs.length:Nat):Int)/\upto (Gf cs) i:=hi;obtain⟨i0,i1,i2⟩:=hi;cbv)|(refine ah (O.ar .add Za i 1) ?_ ?_ ?_;focus (cbv;done))
 all_goals(subst hO hr hF;(try simp only[nc]at*);(try simp only[am,SS,sa,az]at*);(try rw[cJ (by omega) (by omega)]);(try have z:=xA i0 (by omega));(try simp only[z]at*))
 all_goals first
  | (show(_:List DV)=_
     first
      |(refine aj ?_;symm;exact ID i0 (by assumption) (by assumption))
      |(refine aj ?_;symm;exact IE i0 (by assumption) (by omega) (by assumption))
      |(refine aj ?_;rw[zo i2 (by omega)];simp[*,cU];done)
      |(refine aj ?_;rw[zo i2 (by omega),yF];simp[*];done)
      |(have q:false=true:=(by assumption);cases q)
      |done)
  |omega
  |exact fg
  |exact bD
  |exact aU i2 (EB (by assumption) (by omega))
  |exact aU i2 (ED (by assumption) (by assumption))
  |done
theorem xi:ec 308 eY:=by
 intro _ _ _ h hp;dsimp only[eY,F0]at h;split at h<;>cases h
 rename_i k m cs;obtain⟨hw,hl⟩:=hp;refine cb Mb1 Tryz.func308 ?_
 intro O r F hO hr hF;cbv
 repeat' first|apply Zb|(apply b8<;>intro hb<;>cbv)|(refine⟨[1,3],[1],Int,fun i=>[.reg 3 (.j i)],fun i=>0<=i/\i<=((cs.length:Nat):Int)/\upto (Gf cs) i,fun i=>(cs.length)-i.toNat,⟨0,?_,?_⟩,?_⟩;rotate_left;(focus (cbv;done));intro i hi;replace hi:0<=i/\i<=((cs.length:Nat):Int)/\upto (Gf cs) i:=hi;obtain⟨i0,i1,i2⟩:=hi;cbv)|(refine ah (O.ar .add Za i 1) ?_ ?_ ?_;focus (cbv;done))
 all_goals(subst hO hr hF;(try simp only[nc]at*);(try simp only[am,SS,sa,az]at*);(try rw[cJ (by omega) (by omega)]);(try have z:=xA i0 (by omega));(try simp only[z]at*))
 all_goals first
  | (show(_:List DV)=_
     first
      |(refine aj ?_;symm;exact ID i0 (by assumption) (by assumption))
      |(refine aj ?_;symm;exact IE i0 (by assumption) (by omega) (by assumption))
      |(refine aj ?_;rw[zo i2 (by omega)];simp[*,cU];done)
      |(refine aj ?_;rw[zo i2 (by omega),yF];simp[*];done)
      |(have q:false=true:=(by assumption);cases q)
      |done)
  |omega
  |exact fg
  |(show aw _ _=true;kernel_rfl)
  |exact bD
  |exact aU i2 (EB (by assumption) (by omega))
  |exact aU i2 (ED (by assumption) (by assumption))
  |done
abbrev Mb2:dB:=eg (fun F f=>match f with|178=>eY F|33=>ai F|308=>eY F|92=>ai F|_=>fun _=>none) (by
 intro f;dsimp only;split;exact wZ;exact aP;exact xi;exact bc;exact dI)
def fM:EC:=fun F=>fun
 |[.agg [.v (.int Za k),.v (.int Za m),.s 1 cs,.v (.int Za ph),.v (.int Za nx)]]=>some (fun _=>Rw [tI] cs/\cs.length<=1099511627776,[.k (F.jbOk k m cs ph nx)])
 |_=>none
theorem yy:ec 70 fM:=by
 intro _ _ _ h hp;dsimp only[fM,F0]at h;split at h<;>cases h
 rename_i k m cs ph nx;refine cb Mb2 Tryz.func70 ?_
 exact ab8
theorem yA:ec 212 fM:=by
 intro _ _ _ h hp;dsimp only[fM,F0]at h;split at h<;>cases h
 rename_i k m cs ph nx;refine cb Mb2 Tryz.func212 ?_
 exact ab8
abbrev Mb3:dB:=eg (fun F f=>match f with|157=>dr F|33=>ai F|56=>bC F|92=>ai F|43=>bC F|297=>eB F|_=>fun _=>none) (by
 intro f;dsimp only;split;exact eG;exact aP;exact de;exact bc;exact dO;exact ga;exact dI)
def dt:EC:=fun F=>fun
 |[.agg [.s 1 ls]]=>some (fun _=>Ns ls,[.k (F.caOk ls)])
 |_=>none
theorem nj:ec 208 dt:=by
 intro _ _ _ h hp;dsimp only[dt,F0]at h;split at h<;>cases h
 rename_i ls;have hw:=hp.w;have hl:=hp.l;have hn:=hp.n;refine cb Mb3 Tryz.func208 ?_
 intro O r F hO hr hF;cbv
 repeat' first|apply Zb|(apply b8<;>intro hb<;>cbv)|(refine⟨[1,3,4],[1,3],Int×af,fun s_=>match s_ with|(i,o)=>[.reg 4 (.j i),.reg 3 (.one (.vw 3 0 0 0 (O.ln o))),.leaf 3 0 ⟨0,0,none,.own (.s 1 o)⟩],fun s_=>match s_ with|(i,o)=>0<=i/\i<=4/\QX ls i o,fun s_=>match s_ with|(i,o)=>(4-i).toNat,⟨(0,[]),?_,?_⟩,?_⟩;rotate_left;(focus (cbv;done));intro s_ hi;obtain⟨i,o⟩:=s_;replace hi:0<=i/\i<=4/\QX ls i o:=hi;obtain⟨i0,i1,i2⟩:=hi;cbv)|(refine⟨[1,3,4,5],[1,3],Int×af,fun s_=>match s_ with|(k,o1)=>[.reg 5 (.j k),.reg 3 (.one (.vw 3 0 0 0 (O.ln o1))),.leaf 3 0 ⟨0,0,none,.own (.s 1 o1)⟩],fun s_=>match s_ with|(k,o1)=>0<=k/\k<=((ax ls i 0).length:Int)/\LI ls i k o1,fun s_=>match s_ with|(k,o1)=>(ax ls i 0).length-k.toNat,⟨(0,o),?_,?_⟩,?_⟩;rotate_left;(focus (cbv;done));intro s_ hk;obtain⟨k,o1⟩:=s_;replace hk:0<=k/\k<=((ax ls i 0).length:Int)/\LI ls i k o1:=hk;obtain⟨k0,k1,k2⟩:=hk;cbv)|(refine ah (O.ar .add Za k 1,O.cat o1 (O.sub [[.i (O.gi (O.gs ls i 0) k 0)]] 0 (O.ln [[.i (O.gi (O.gs ls i 0) k 0)]]))) ?_ ?_ ?_;focus (cbv;done))|(refine ah (O.ar .add Za i 1,o1) ?_ ?_ ?_;focus (cbv;done))
 all_goals(subst hO hr hF;(try simp only[nc]at*);(try simp only[am,SS,sa,az]at*);(try rw[cJ (by omega) (by omega)]);(try have z6:bK .add Za k 1=k+1:=bT (by have:=hn i;omega));(try simp only[z6]at*);(try have w1:=PY k2 k0);(try have w2:=hp.el i0 (by omega));(try have w3:=w2.1))
 all_goals first
  | (show(_:List DV)=_
     first
      |(refine aj ?_;symm;exact yC (by assumption))
      |(refine aj ?_;symm;exact GL i0 (by omega) (by omega))
      |(refine aj ?_;symm;exact yD i0 (by omega) k0 (by assumption) (LQ (by assumption)))
      |(refine aj ?_;symm;exact yD i0 (by omega) k0 (by assumption) (LR (by assumption)))
      |(refine aj ?_;symm;exact PX k2 i0 k0 (by assumption) (by assumption))
      |(refine aj ?_;symm;exact GM i2.p (by omega) (by omega))
      |done)
  |omega
  |exact fg
  |exact w1.2
  |(constructor<;>(simp only[Zr,Zt];omega))
  |(have c:=(jr (bz.2 (by omega:0<=i/\i<=3))).1;omega)
  |exact aaT k2 k0 (by assumption) (by assumption) (by assumption)
  |exact aaS k2 i0 k1 (by omega)
  |exact ad3 i2 i0 (by omega) (by omega)
  |exact ad2
  |exact⟨Zd,Zd⟩
  |done
theorem m9:ec 66 dt:=by
 intro _ _ _ h hp;dsimp only[dt,F0]at h;split at h<;>cases h
 rename_i ls;have hw:=hp.w;have hl:=hp.l;have hn:=hp.n;refine cb Mb3 Tryz.func66 ?_
 intro O r F hO hr hF;cbv
 repeat' first|apply Zb|(apply b8<;>intro hb<;>cbv)|(refine⟨[1,3,10,11,12],[1,8],Int×af,fun s_=>match s_ with|(i,es)=>[.reg 12 (.j i),.leaf 8 0 ⟨0,0,none,.own (.m true es)⟩],fun s_=>match s_ with|(i,es)=>0<=i/\i<=(ls.length:Int)/\aey ls i es,fun s_=>match s_ with|(i,es)=>ls.length-i.toNat,⟨(0,[]),?_,?_⟩,?_⟩;rotate_left;(focus (cbv;done));intro s_ hi;obtain⟨i,es⟩:=s_;replace hi:0<=i/\i<=(ls.length:Int)/\aey ls i es:=hi;obtain⟨i0,i1,i2⟩:=hi;cbv)|(refine⟨[1,3,4,10,11,12,25,26,27],[1,8],Int×af,fun s_=>match s_ with|(k,es1)=>[.reg 27 (.j k),.leaf 8 0 ⟨0,0,none,.own (.m true es1)⟩],fun s_=>match s_ with|(k,es1)=>0<=k/\k<=((ax ls i 0).length:Int)/\BZ ls i k es1,fun s_=>match s_ with|(k,es1)=>(ax ls i 0).length-k.toNat,⟨(0,es),?_,?_⟩,?_⟩;rotate_left;(focus (cbv;done));intro s_ hk;obtain⟨k,es1⟩:=s_;replace hk:0<=k/\k<=((ax ls i 0).length:Int)/\BZ ls i k es1:=hk;obtain⟨k0,k1,k2⟩:=hk;cbv)|(refine ah (O.ar .add Za k 1,O.mu es1 (O.gi (O.gs ls i 0) k 0) (.v (.bool true))) ?_ ?_ ?_;focus (cbv;done))|(refine ah (O.ar .add Za i 1,es1) ?_ ?_ ?_;focus (cbv;done))
 all_goals(subst hO hr hF;(try simp only[nc]at*);(try simp only[am,SS,sa,az]at*);(try rw[cJ (by omega) (by omega)]);(try have z6:bK .add Za k 1=k+1:=bT (by have:=hn i;omega));(try simp only[z6]at*);(try have w2:=hp.el i0 (by omega));(try have w3:=w2.1);(try have w4:=k2.p.l))
 all_goals first
  | (show(_:List DV)=_
     first
      |(refine aj ?_;exact NG i2.p i1 (by omega))
      |(refine aj ?_;symm;exact Kt i2 i0 (by omega) (by assumption))
      |(refine aj ?_;symm;exact Ku i2 i0 (by assumption) (by assumption))
      |(refine aj ?_;symm;exact yD i0 (by omega) k0 (by assumption) (LQ (by assumption)))
      |(refine aj ?_;symm;exact yD i0 (by omega) k0 (by assumption) (LR (by assumption)))
      |(refine aj ?_;symm;exact Kv k2 i0 k0 (by assumption) (by assumption))
      |done)
  |omega
  |exact fg
  |(have c:=(jr (bz.2 (by omega:0<=i/\i<=3))).1;omega)
  |exact Oy k2 k0 (by assumption) (by assumption) (by assumption)
  |exact Ox k2 i0 k1 (by omega)
  |exact SH i2 i0 (by assumption) (by omega)
  |exact SG
  |done
def jo:EC:=fun F=>fun
 |[.agg [.v (.int Za d0),.v (.int Za d1),.v (.int Za d2),.v (.int Za d3)],.ptr [.v (.int Za e0),.v (.int Za e1),.v (.int Za e2),.v (.int Za e3)]]=>some (fun _=>True,[.k (F.eqB d0 e0)])
 |_=>none
theorem tE:ec 174 jo:=by
 intro _ _ _ h hp;dsimp only[jo,F0]at h;split at h<;>cases h
 rename_i d0 d1 d2 d3 e0 e1 e2 e3;refine cb nB Tryz.func174 ?_
 exact ab7
abbrev Na1:dB:=eg (fun F f=>match f with|174=>jo F|_=>fun _=>none) (by
 intro f;dsimp only;split;exact tE;exact dI)
def aY:EC:=fun F=>fun
 |[.one (.s 4 os),.fn 174 [[.v (.int Za e0),.v (.int Za e1),.v (.int Za e2),.v (.int Za e3)]]]=>some (fun _=>Rw [tI,tI,tI,tI] os/\os.length<=1099511627776,[.j (F.oiI os e0)])
 |_=>none
theorem cp:ec 151 aY:=by
 intro _ _ _ h hp;dsimp only[aY,F0]at h;split at h<;>cases h
 rename_i os e0 e1 e2 e3;obtain⟨hw,hn⟩:=hp;refine cb Na1 Tryz.func151 ?_
 intro O r F hO hr hF;cbv
 repeat' first|apply Zb|(apply b8<;>intro hb<;>cbv)|(refine⟨[0,1,7,8],[0],Int,fun i=>[.reg 8 (.j i)],fun i=>0<=i/\i<=((os.length:Nat):Int)/\upto (bR (CC os e0)) i,fun i=>(os.length)-i.toNat,⟨0,?_,?_⟩,?_⟩;rotate_left;(focus (cbv;done));intro i hi;replace hi:0<=i/\i<=((os.length:Nat):Int)/\upto (bR (CC os e0)) i:=hi;obtain⟨i0,i1,i2⟩:=hi;cbv)|(refine ah (O.ar .add Za i 1) ?_ ?_ ?_;focus (cbv;done))
 all_goals(subst hO hr hF;(try simp only[nc]at*);(try simp only[am,SS,sa,az]at*);(try rw[cJ (by omega) (by omega)]))
 all_goals first
  | (show(_:List DV)=_
     first
      |exact bV (dE i2 i0 (by assumption) (show CC os e0 i=true from by assumption)).symm
      |exact bV (dF i2 (by assumption)).symm
      |done)
  |omega
  |exact fg
  |(show(lk _ _).isSome=true;kernel_rfl)
  |exact bD
  |exact aU i2 (fX (show CC os e0 i=false from by assumption))
  |done
abbrev Na2:dB:=eg (fun F f=>match f with|151=>aY F|_=>fun _=>none) (by
 intro f;dsimp only;split;exact cp;exact dI)
def aV:EC:=fun F=>fun
 |[.one (.s 4 os),.fn 174 [[.v (.int Za e0),.v (.int Za e1),.v (.int Za e2),.v (.int Za e3)]]]=>some (fun _=>Rw [tI,tI,tI,tI] os/\os.length<=1099511627776,[.k (F.oiB os e0)])
 |_=>none
theorem b9:ec 173 aV:=by
 intro _ _ _ h hp;dsimp only[aV,F0]at h;split at h<;>cases h
 rename_i os e0 e1 e2 e3;refine cb Na2 Tryz.func173 ?_
 intro O r F hO hr hF;cbv
 repeat' first|apply Zb|(apply b8<;>intro hb<;>cbv)
 all_goals(subst hO hr hF;(try simp only[nc]at*);(try simp only[am,SS,sa,az]at*))
 all_goals first
  | (show(_:List DV)=_
     first
      |exact aj (fU (by unfold oiB;simp only[SS,VM]))
      |done)
  |exact hp
  |done
abbrev Na3:dB:=eg (fun F f=>match f with|33=>ai F|173=>aV F|162=>gQ F|38=>cM F|92=>ai F|304=>fB F|42=>cM F|_=>fun _=>none) (by
 intro f;dsimp only;split;exact aP;exact b9;exact nh;exact jD;exact bc;exact jH;exact jG;exact dI)
def fa:EC:=fun F=>fun
 |[.agg hl_]=>hL hl_ fun a0 a1 a2 a3 a4 a5 a6 a7 a8 a9 aA aB aC aD aE aF aG aH aI aJ aK aL aM aN=>(fun _=>JM a6 a7 a8 a9 aA aB aD/\layOk a6 a7=true,[.k (F.objOk a6 a7 a8 a9 aH)])
 |_=>none
theorem xh:ec 67 fa:=by
 intro _ _ _ h hp;dsimp only[fa,F0,hL]at h;split at h;rotate_left;cases h;split at h<;>cases h
 rename_i a0 a1 a2 a3 a4 a5 a6 a7 a8 a9 aA aB aC aD aE aF aG aH aI aJ aK aL aM aN;obtain⟨N,hlay⟩:=hp;have how:=N.ow;have hol:=N.ol;have hsw:=N.sw;have hlw:=N.lw;have hsl:=N.sl;have hll:=N.ll;have hcl:=N.cl;have hlc:=av (es:=a9);have hsb:bK .sub Za (a9.length:Int) 1=a9.length-1:=fG (by omega);refine cb Na3 Tryz.func67 ?_
 intro O r F hO hr hF;cbv
 repeat' first|apply Zb|(apply b8<;>intro hb<;>cbv)|(refine⟨[1,9,10,11],[1],Int,fun i=>[.reg 11 (.j i)],fun i=>0<=i/\i<=((a8.length:Nat):Int)/\upto (x7 a6 a7 a8 a9 aH) i,fun i=>(a8.length)-i.toNat,⟨0,?_,?_⟩,?_⟩;rotate_left;(focus (cbv;done));intro i hi;replace hi:0<=i/\i<=((a8.length:Nat):Int)/\upto (x7 a6 a7 a8 a9 aH) i:=hi;obtain⟨i0,i1,i2⟩:=hi;cbv)|(refine ah (O.ar .add Za i 1) ?_ ?_ ?_;focus (cbv;done))
 all_goals(subst hO hr hF;(try simp only[nc]at*);(try simp only[am,SS,sa,az]at*);(try rw[cJ (by omega) (by omega)]);(try have z:=xA i0 (by omega));(try simp only[z,hsb,ww]at*);(try have d1:=fun h=>DI (sp:=a6) (lg:=a7) (a:=ag a8 i 1) h);(try have d3:=fun h=>L4 (sp:=a6) (lg:=a7) (a:=ag a8 i 1) h))
 all_goals first
  |(exfalso;omega)
  | (show(_:List DV)=_
     first
      |(refine aj ?_;symm;exact mQ i0 (by assumption) (MH (by assumption) (by assumption)))
      |(refine aj ?_;symm;exact mQ i0 (by assumption) (MI (by assumption)))
      |(refine aj ?_;symm;exact mQ i0 (by assumption) (MJ (by assumption)))
      |(refine aj ?_;symm;exact mQ i0 (by assumption) (ML (by assumption)))
      |(refine aj ?_;symm;exact mQ i0 (by assumption) (Et (MM (by assumption))))
      |(refine aj ?_;symm;exact mQ i0 (by assumption) (Et (TW (by first|exact .inl (by assumption)|exact .inr (by assumption)|exact .inl (by omega)) (by first|exact .inl (by assumption)|exact .inr (by assumption)|exact .inl (by omega)))))
      |(refine aj ?_;symm;exact Ir i2 (by omega))
      |(have q:false=true:=(by assumption);cases q)
      |done)
  |omega
  |exact fg
  |(show aw _ _=true;kernel_rfl)
  |exact⟨hsw,hlw⟩
  |exact⟨Rw.take how _,by rw[Zh];omega⟩
  |exact bD
  |exact aU i2 (KV (by first|exact .inl (by omega)|exact .inr (by assumption)) (by assumption) (by assumption) (by assumption) (MN (by assumption) (by assumption) (by assumption)))
  |exact aU i2 (KV (by first|exact .inl (by omega)|exact .inr (by assumption)) (by assumption) (by assumption) (by assumption) (MO (by assumption) (by assumption) (by assumption)))
  |(have q:false=true:=(by assumption);cases q)
  |done
theorem vi:ec 209 fa:=by
 intro _ _ _ h hp;dsimp only[fa,F0,hL]at h;split at h;rotate_left;cases h;split at h<;>cases h
 rename_i a0 a1 a2 a3 a4 a5 a6 a7 a8 a9 aA aB aC aD aE aF aG aH aI aJ aK aL aM aN;obtain⟨N,hlay⟩:=hp;have how:=N.ow;have hol:=N.ol;have hsw:=N.sw;have hlw:=N.lw;have hsl:=N.sl;have hll:=N.ll;have hcl:=N.cl;have hlc:=av (es:=a9);have hsb:bK .sub Za (a9.length:Int) 1=a9.length-1:=fG (by omega);refine cb Na3 Tryz.func209 ?_
 intro O r F hO hr hF;cbv
 repeat' first|apply Zb|(apply b8<;>intro hb<;>cbv)|(refine⟨[1,3],[1],Int,fun i=>[.reg 3 (.j i)],fun i=>0<=i/\i<=(a8.length:Int)/\upto (x7 a6 a7 a8 a9 aH) i,fun i=>a8.length-i.toNat,⟨0,?_,?_⟩,?_⟩;rotate_left;(focus (cbv;done));intro i hi;replace hi:0<=i/\i<=(a8.length:Int)/\upto (x7 a6 a7 a8 a9 aH) i:=hi;obtain⟨i0,i1,i2⟩:=hi;cbv)|(refine⟨[1,3,4,5],[1,4],Int,fun k=>[.reg 5 (.j k)],fun k=>0<=k/\k<=i/\upto (fun j=> !eqB (ag a8 j 0) (ag a8 i 0)) k,fun k=>(i-k).toNat,⟨0,?_,?_⟩,?_⟩;rotate_left;(focus (cbv;done));intro k hk;replace hk:0<=k/\k<=i/\upto (fun j=> !eqB (ag a8 j 0) (ag a8 i 0)) k:=hk;obtain⟨k0,k1,k2⟩:=hk;cbv)|(refine ah (O.ar .add Za k 1) ?_ ?_ ?_;focus (cbv;done))|(refine ah (O.ar .add Za i 1) ?_ ?_ ?_;focus (cbv;done))
 all_goals(subst hO hr hF;(try simp only[nc]at*);(try simp only[am,SS,sa,az]at*);(try rw[cJ (by omega) (by omega)]);(try have z:=xA i0 (by omega));(try simp only[z,hsb]at*);(try simp only[L6 hlay,L8 hlay,L9 hlay]at*);(try have z6:bK .add Za k 1=k+1:=bT (by omega));(try simp only[z6]at*);(try have d1:=fun h=>DI (sp:=a6) (lg:=a7) (a:=ag a8 i 1) h);(try have d3:=fun h=>L4 (sp:=a6) (lg:=a7) (a:=ag a8 i 1) h);(try have d4:=TV (os:=a8) (i:=i) k2 (by omega) i0))
 all_goals first
  |(exfalso;omega)
  | (show(_:List DV)=_
     first
      |(refine aj ?_;symm;exact mQ i0 (by assumption) (MH (by assumption) (by assumption)))
      |(refine aj ?_;symm;exact mQ i0 (by assumption) (MI (by assumption)))
      |(refine aj ?_;symm;exact mQ i0 (by assumption) (MJ (by assumption)))
      |(refine aj ?_;symm;exact mQ i0 (by assumption) (ML (Pw k0 (by assumption) (by assumption) (by assumption))))
      |(refine aj ?_;symm;exact mQ i0 (by assumption) (Et (MM (by assumption))))
      |(refine aj ?_;symm;exact mQ i0 (by assumption) (Et (TW (by first|exact .inl (by assumption)|exact .inr (by assumption)|exact .inl (by omega)) (by first|exact .inl (by assumption)|exact .inr (by assumption)|exact .inl (by omega)))))
      |(refine aj ?_;symm;exact Ir i2 (by omega))
      |(have q:false=true:=(by assumption);cases q)
      |done)
  |omega
  |exact fg
  |(show aw _ _=true;kernel_rfl)
  |exact⟨hsw,hlw,hsl,hll,qn how rfl (by omega)⟩
  |exact bD
  |exact aU k2 (by show(!eqB _ _)=true;rw[sJ (by assumption)];rfl)
  |exact aU i2 (KV (by first|exact .inl (by omega)|exact .inr (by assumption)) (by assumption) (by assumption) (by assumption) (MN (by assumption) (by assumption) (by assumption)))
  |exact aU i2 (KV (by first|exact .inl (by omega)|exact .inr (by assumption)) (by assumption) (by assumption) (by assumption) (MO (by assumption) (by assumption) (by assumption)))
  |(have q:false=true:=(by assumption);cases q)
  |done
abbrev Oa1:dB:=eg (fun F f=>match f with|162=>gQ F|304=>fB F|_=>fun _=>none) (by
 intro f;dsimp only;split;exact nh;exact jH;exact dI)
def gy:EP:=fun F=>fun
 |[.one (.v (.int Za ad)),.one (.v (.int Za k)),.mp [.own (.m false es)],.mp [.ro (.s 1 a0),.ro (.s 1 a1),.ro (.s 2 a2),.own (.v (.int Za a3)),.ro (.s 1 a4),.ro (.s 2 a5),.ro (.s 3 a6),.ro (.s 3 a7),.ro (.s 4 a8),.ro (.s 1 a9),.ro (.s 1 aA),.ro (.s 1 aB),.own (.v (.int Za aC)),.ro (.s 3 aD),.own (.v (.int Za aE)),.own (.v (.int Za aF)),.own (.v (.int Za aG)),.own (.v (.int Za aH)),.own (.v (.bool aI)),.own (.v (.int Za aJ)),.own (.v (.int Za aK)),.ro (.s 1 aL),.own (.v (.int Za aM)),.own (.v (.int Za aN))]]=>some (fun _=>Rw [tI,tI,tI] a6/\Rw [tI,tI,tI] a7,[[.own (.m false (F.huI es ad))],[.ro (.s 1 a0),.ro (.s 1 a1),.ro (.s 2 a2),.own (.i a3),.ro (.s 1 a4),.ro (.s 2 a5),.ro (.s 3 a6),.ro (.s 3 a7),.ro (.s 4 a8),.ro (.s 1 a9),.ro (.s 1 aA),.ro (.s 1 aB),.own (.i aC),.ro (.s 3 aD),.own (.i aE),.own (.i aF),.own (.i aG),.own (.i aH),.own (.v (.bool aI)),.own (.i aJ),.own (.i aK),.ro (.s 1 aL),.own (.i aM),.own (.i aN)]],[.k (F.hlB a6 a7 ad k)])
 |_=>none
theorem pv:ep 175 gy:=by
 intro _ _ _ _ h hp;dsimp only[gy,F0]at h;split at h<;>cases h
 rename_i ad k es a0 a1 a2 a3 a4 a5 a6 a7 a8 a9 aA aB aC aD aE aF aG aH aI aJ aK aL aM aN;obtain⟨hsw,hlw⟩:=hp;refine pb Oa1 Tryz.func175 ?_
 intro O r os F hO hr hos hF;cbv
 repeat' first|apply Zb|(apply b8<;>intro hb<;>cbv)
 all_goals((try subst hos);subst hO hr hF;(try simp only[nc]at*);(try simp only[am,SS,sa,az]at*);(try have d1:=fun h=>DI (sp:=a6) (lg:=a7) (a:=ad) h))
 all_goals first|(show(_:List DV)=_;refine aj ?_;unfold hlB;simp[*];done)|(show(_:List DV)=_;refine aj ?_;unfold hlB;rw[VL (p:=k<0) (by omega),cmp_eq];simp[*];done)|(show(_:List H)=_;exact rfl)|exact⟨hsw,hlw⟩|(have e:=d1 (by assumption);exact fg)|done
def j4:EC:=fun F=>fun
 |[.agg hl_,.one (.v (.int Za ad)),.one (.v (.int Za k))]=>hL hl_ fun a0 a1 a2 a3 a4 a5 a6 a7 a8 a9 aA aB aC aD aE aF aG aH aI aJ aK aL aM aN=>(fun _=>JM a6 a7 a8 a9 aA aB aD/\layOk a6 a7=true/\ -9223372036854775808<=ad/\ad<=9223372036854775807,[.k (F.hlB a6 a7 ad k)])
 |_=>none
theorem vk:ec 305 j4:=by
 intro _ _ _ h hp;dsimp only[j4,F0,hL]at h;split at h;rotate_left;cases h;split at h<;>cases h
 rename_i ad k _ a0 a1 a2 a3 a4 a5 a6 a7 a8 a9 aA aB aC aD aE aF aG aH aI aJ aK aL aM aN;obtain⟨N,hlay,ad0,ad1⟩:=hp;have hsw:=N.sw;have hlw:=N.lw;have hsl:=N.sl;have hll:=N.ll;refine cb Oa1 Tryz.func305 ?_
 intro O r F hO hr hF;cbv
 repeat' first|apply Zb|(apply b8<;>intro hb<;>cbv)
 all_goals(subst hO hr hF;(try simp only[nc]at*);(try simp only[am,SS,sa,az]at*);(try simp only[L6 hlay,L8 hlay,L9 hlay]at*);(try have d1:=fun h=>DI (sp:=a6) (lg:=a7) (a:=ad) h))
 all_goals first|(show(_:List DV)=_;refine aj ?_;unfold hlB;simp[*];done)|(show(_:List DV)=_;refine aj ?_;unfold hlB;rw[VL (p:=k<0) (by omega),cmp_eq];simp[*];done)|exact⟨hsw,hlw,hsl,hll,ad0,ad1⟩|(have e:=d1 (by assumption);exact fg)|done
abbrev Oa2:dB:={
 Φ:=wV
 F0:=F0
 ct:=fun F f=>match f with|176=>dZ F|177=>iB F|_=>fun _=>none
 hc:=(by
  intro f;dsimp only;split;exact tj;exact rk;exact dI)
 pt:=fun F f=>match f with|175=>some (gy F)|_=>none
 hp:=(by
  intro f mk h;dsimp only at h;split at h<;>cases h
  exact pv)}
def iE:EC:=fun F=>fun
 |[.agg hl_]=>hL hl_ fun a0 a1 a2 a3 a4 a5 a6 a7 a8 a9 aA aB aC aD aE aF aG aH aI aJ aK aL aM aN=>(fun _=>JM a6 a7 a8 a9 aA aB aD/\layOk a6 a7=true,[.k (F.hoI a6 a7 a8 a9 aA aB aD aF)])
 |_=>none
theorem rr:ec 68 iE:=by
 intro _ _ _ h hp;dsimp only[iE,F0,hL]at h;split at h;rotate_left;cases h;split at h<;>cases h
 rename_i a0 a1 a2 a3 a4 a5 a6 a7 a8 a9 aA aB aC aD aE aF aG aH aI aJ aK aL aM aN;obtain⟨N,hlay⟩:=hp;have hsw:=N.sw;have hlw:=N.lw;have hsl:=N.sl;have hll:=N.ll;have how:=N.ow;have hol:=N.ol;have hcw:=N.cw;have hcl:=N.cl;have hqw:=N.qw;have hql:=N.ql;have hcc:=N.c;have hlc:=av (es:=a9);have hfr:=HB N.m;have hfl:=Cr (b:=aA) (x:=aB);have hlr:=SZ (sp:=a6) (lg:=a7);have hla:=HN (sp:=a6) (lg:=a7);refine cb Oa2 Tryz.func68 ?_
 intro O r F hO hr hF;cbv
 repeat' first|apply Zb|(apply b8<;>intro hb<;>cbv)|(refine⟨[1,3,4,22,23,24],[1,3],Int×af,fun s_=>match s_ with|(i,es)=>[.reg 24 (.j i),.leaf 3 0 ⟨0,0,none,.own (.m false es)⟩],fun s_=>match s_ with|(i,es)=>0<=i/\i<=(a9.length:Int)/\Qs a6 a7 a9 i es,fun s_=>match s_ with|(i,es)=>a9.length-i.toNat,⟨(0,[]),?_,?_⟩,?_⟩;rotate_left;(focus (cbv;done));intro s_ hi;obtain⟨i,es⟩:=s_;replace hi:0<=i/\i<=(a9.length:Int)/\Qs a6 a7 a9 i es:=hi;obtain⟨i0,i1,i2⟩:=hi;cbv)|(refine⟨[1,3,4,22,23,24,29,30,31],[1,3],Int×af,fun s_=>match s_ with|(k,es1)=>[.reg 31 (.j k),.leaf 3 0 ⟨0,0,none,.own (.m false es1)⟩],fun s_=>match s_ with|(k,es1)=>0<=k/\k<=((ax a9 i 0).length:Int)/\Qu a6 a7 a9 i k es1,fun s_=>match s_ with|(k,es1)=>(ax a9 i 0).length-k.toNat,⟨(0,es),?_,?_⟩,?_⟩;rotate_left;(focus (cbv;done));intro s_ hk;obtain⟨k,es1⟩:=s_;replace hk:0<=k/\k<=((ax a9 i 0).length:Int)/\Qu a6 a7 a9 i k es1:=hk;obtain⟨k0,k1,k2⟩:=hk;cbv)|(refine⟨[1,3,4,7,22,23,24,29,30,31,36,37,38],[1,3],Int×af,fun s_=>match s_ with|(j,es2)=>[.reg 38 (.j j),.leaf 3 0 ⟨0,0,none,.own (.m false es2)⟩],fun s_=>match s_ with|(j,es2)=>0<=j/\j<=((ax (ax a9 i 0) k 0).length:Int)/\Qt a6 a7 a9 i k j es2,fun s_=>match s_ with|(j,es2)=>(ax (ax a9 i 0) k 0).length-j.toNat,⟨(0,es1),?_,?_⟩,?_⟩;rotate_left;(focus (cbv;done));intro s_ hj;obtain⟨j,es2⟩:=s_;replace hj:0<=j/\j<=((ax (ax a9 i 0) k 0).length:Int)/\Qt a6 a7 a9 i k j es2:=hj;obtain⟨j0,j1,j2⟩:=hj;cbv)|(refine⟨[1,3,4,52,53,54],[1,3],Int×af,fun s_=>match s_ with|(q,es3)=>[.reg 54 (.j q),.leaf 3 0 ⟨0,0,none,.own (.m false es3)⟩],fun s_=>match s_ with|(q,es3)=>0<=q/\q<=(aD.length:Int)/\Qv a6 a7 a9 aD aF q es3,fun s_=>match s_ with|(q,es3)=>aD.length-q.toNat,⟨(0,es),?_,?_⟩,?_⟩;rotate_left;(focus (cbv;done));intro s_ hq;obtain⟨q,es3⟩:=s_;replace hq:0<=q/\q<=(aD.length:Int)/\Qv a6 a7 a9 aD aF q es3:=hq;obtain⟨q0,q1,q2⟩:=hq;cbv)|(refine⟨[1,3,4,75,76,77],[1,3,75],Int×af,fun s_=>match s_ with|(f,es4)=>[.reg 77 (.j f),.leaf 3 0 ⟨0,0,none,.own (.m false es4)⟩],fun s_=>match s_ with|(f,es4)=>0<=f/\f<=((ifL aA aB).length:Int)/\Qr a6 a7 a9 aD (ifL aA aB) aF f es4,fun s_=>match s_ with|(f,es4)=>(ifL aA aB).length-f.toNat,⟨(0,es3),?_,?_⟩,?_⟩;rotate_left;(focus (cbv;done));intro s_ hf;obtain⟨f,es4⟩:=s_;replace hf:0<=f/\f<=((ifL aA aB).length:Int)/\Qr a6 a7 a9 aD (ifL aA aB) aF f es4:=hf;obtain⟨f0,f1,f2⟩:=hf;cbv)|(refine⟨[1,3,87,88,89],[1,3],Int×af,fun s_=>match s_ with|(p,es5)=>[.reg 89 (.j p),.leaf 3 0 ⟨0,0,none,.own (.m false es5)⟩],fun s_=>match s_ with|(p,es5)=>0<=p/\p<=(a8.length:Int)/\Nn a6 a7 a8 a9 aD (ifL aA aB) aF p es5,fun s_=>match s_ with|(p,es5)=>a8.length-p.toNat,⟨(0,es4),?_,?_⟩,?_⟩;rotate_left;(focus (cbv;done));intro s_ hp;obtain⟨p,es5⟩:=s_;replace hp:0<=p/\p<=(a8.length:Int)/\Nn a6 a7 a8 a9 aD (ifL aA aB) aF p es5:=hp;obtain⟨p0,p1,p2⟩:=hp;cbv)|(refine⟨[3,103,104,105],[3,103],Int×af,fun s_=>match s_ with|(t,es6)=>[.reg 105 (.j t),.leaf 3 0 ⟨0,0,none,.own (.m false es6)⟩],fun s_=>match s_ with|(t,es6)=>0<=t/\t<=((iaL a6 a7).length:Int)/\LD a6 a7 a8 a9 aD (ifL aA aB) aF t es6,fun s_=>match s_ with|(t,es6)=>(iaL a6 a7).length-t.toNat,⟨(0,es5),?_,?_⟩,?_⟩;rotate_left;(focus (cbv;done));intro s_ ht;obtain⟨t,es6⟩:=s_;replace ht:0<=t/\t<=((iaL a6 a7).length:Int)/\LD a6 a7 a8 a9 aD (ifL aA aB) aF t es6:=ht;obtain⟨t0,t1,t2⟩:=ht;cbv)|(refine ah (O.ar .add Za j 1,F.huI es2 (O.gi (O.gs (O.gs a9 i 0) k 0) j 0)) ?_ ?_ ?_;focus (cbv;done))|(refine ah (O.ar .add Za k 1,es2) ?_ ?_ ?_;focus (cbv;done))|(refine ah (O.ar .add Za i 1,es1) ?_ ?_ ?_;focus (cbv;done))|(refine ah (O.ar .add Za t 1,es6) ?_ ?_ ?_;focus (cbv;done))|(refine ah (O.ar .add Za p 1,O.mu es5 (O.gi a8 p 1) (.i (O.ar .add Za (O.mgi es5 (O.gi a8 p 1)) 1))) ?_ ?_ ?_;focus (cbv;done))|(refine ah (O.ar .add Za f 1,F.huI es4 (O.pi (.s 1 (F.ifL aA aB)) [(O.ad 0 f,0)])) ?_ ?_ ?_;focus (cbv;done))|(refine ah (O.ar .add Za q 1,F.huI es3 (O.gi aD q 0)) ?_ ?_ ?_;focus (cbv;done))
 all_goals(subst hO hr hF;(try simp only[nc]at*);(try simp only[am,SS,sa,az]at*);(try rw[cJ (by omega) (by omega)]);(try simp only[pK f0]at*);(try simp only[pK t0,KJ]at*);(try have z8:bK .add Za t 1=t+1:=bT (by omega));(try simp only[z8]at*);(try have w6:=hcc.n i i0 (by assumption));(try have w7:=w6.el k0 (by assumption));(try have w8:=w7.1);(try have z6:bK .add Za k 1=k+1:=bT (by have:=w6.l;omega));(try simp only[z6]at*);(try have z7:bK .add Za j 1=j+1:=bT (by have:=w7.2;omega));(try simp only[z7]at*))
 all_goals first
  | (show(_:List DV)=_
     first
      |(refine aj ?_;symm;exact Of i0 (by assumption) (SC k0 (by assumption) j0 (by assumption) (by assumption)))
      |(refine aj ?_;symm;exact Hp q0 (by assumption) (aay (by assumption)))
      |(refine aj ?_;symm;exact Hp q0 (by assumption) (aaz (by assumption)))
      |(refine aj ?_;symm;exact Og f0 (by assumption) (by assumption))
      |(refine aj ?_;symm;exact acE t2 t0 (by assumption) (by assumption))
      |(refine aj ?_;symm;exact Oc t2 (by omega))
      |done)
  |omega
  |exact fg
  |exact⟨hsw,hlw⟩
  |exact⟨hsw,hlw,hsl,hll⟩
  |exact N.m
  |exact ya hfr f0 (by assumption)
  |exact ya hlr t0 (by assumption)
  |exact R1 j2 i0 (by assumption) k0 (by assumption) j0 (by assumption) hcl (by assumption)
  |exact R2 j2 k0 j1 (by omega)
  |exact R0 k2 i0 k1 (by omega)
  |exact acB k2
  |exact acC i2
  |exact acA
  |exact acL i2 i1 (by omega)
  |exact Sw q2 q0 (by assumption) hcl hql (adJ (by assumption) (by omega))
  |exact acz q2 q1 (by omega)
  |exact RZ f2 f0 (by assumption) hcl hql hfl (by assumption)
  |exact acH f2 f1 (by omega)
  |exact R6 p2 p0 (by assumption) hcl hql hol hfl
  |exact acD p2 p1 (by omega)
  |exact R4 t2 (by assumption)
  |done
abbrev Oa3:dB:=eg (fun F f=>match f with|305=>j4 F|306=>dZ F|307=>iH F|297=>eB F|_=>fun _=>none) (by
 intro f;dsimp only;split;exact vk;exact tF;exact rC;exact ga;exact dI)
def j3:EC:=fun F=>fun
 |[.agg hl_]=>hL hl_ fun a0 a1 a2 a3 a4 a5 a6 a7 a8 a9 aA aB aC aD aE aF aG aH aI aJ aK aL aM aN=>(fun _=>JM a6 a7 a8 a9 aA aB aD/\layOk a6 a7=true,[.k (F.hoS a6 a7 a8 a9 aA aB aD)])
 |_=>none
theorem vj:ec 210 j3:=by
 intro _ _ _ h hp;dsimp only[j3,F0,hL]at h;split at h;rotate_left;cases h;split at h<;>cases h
 rename_i a0 a1 a2 a3 a4 a5 a6 a7 a8 a9 aA aB aC aD aE aF aG aH aI aJ aK aL aM aN;obtain⟨N,hlay⟩:=hp;have hsw:=N.sw;have hlw:=N.lw;have hsl:=N.sl;have hll:=N.ll;have how:=N.ow;have hol:=N.ol;have hcw:=N.cw;have hcl:=N.cl;have hqw:=N.qw;have hql:=N.ql;have hcc:=N.c;have hlc:=av (es:=a9);have hfr:=HB N.m;have hfl:=Cr (b:=aA) (x:=aB);refine cb Oa3 Tryz.func210 ?_
 intro O r F hO hr hF;cbv
 repeat' first|apply Zb|(apply b8<;>intro hb<;>cbv)|(refine⟨[1,3,4],[1,3],Int×af,fun s_=>match s_ with|(i,o)=>[.reg 4 (.j i),.reg 3 (.one (.vw 3 0 0 0 (O.ln o))),.leaf 3 0 ⟨0,0,none,.own (.s 1 o)⟩],fun s_=>match s_ with|(i,o)=>0<=i/\i<=(a8.length:Int)/\Nx a8 i o,fun s_=>match s_ with|(i,o)=>a8.length-i.toNat,⟨(0,[]),?_,?_⟩,?_⟩;rotate_left;(focus (cbv;done));intro s_ hi;obtain⟨i,o⟩:=s_;replace hi:0<=i/\i<=(a8.length:Int)/\Nx a8 i o:=hi;obtain⟨i0,i1,i2⟩:=hi;cbv)|(refine⟨[1,3,5],[1,3],Int×af,fun s_=>match s_ with|(j,o1)=>[.reg 5 (.j j),.reg 3 (.one (.vw 3 0 0 0 (O.ln o1))),.leaf 3 0 ⟨0,0,none,.own (.s 1 o1)⟩],fun s_=>match s_ with|(j,o1)=>0<=j/\j<=(a9.length:Int)/\QD a6 a7 a8 a9 j o1,fun s_=>match s_ with|(j,o1)=>a9.length-j.toNat,⟨(0,o),?_,?_⟩,?_⟩;rotate_left;(focus (cbv;done));intro s_ hj;obtain⟨j,o1⟩:=s_;replace hj:0<=j/\j<=(a9.length:Int)/\QD a6 a7 a8 a9 j o1:=hj;obtain⟨j0,j1,j2⟩:=hj;cbv)|(refine⟨[1,3,5,6],[1,3],Int×af,fun s_=>match s_ with|(k,o2)=>[.reg 6 (.j k),.reg 3 (.one (.vw 3 0 0 0 (O.ln o2))),.leaf 3 0 ⟨0,0,none,.own (.s 1 o2)⟩],fun s_=>match s_ with|(k,o2)=>0<=k/\k<=((ax a9 j 0).length:Int)/\QE a6 a7 a8 a9 j k o2,fun s_=>match s_ with|(k,o2)=>(ax a9 j 0).length-k.toNat,⟨(0,o1),?_,?_⟩,?_⟩;rotate_left;(focus (cbv;done));intro s_ hk;obtain⟨k,o2⟩:=s_;replace hk:0<=k/\k<=((ax a9 j 0).length:Int)/\QE a6 a7 a8 a9 j k o2:=hk;obtain⟨k0,k1,k2⟩:=hk;cbv)|(refine⟨[1,3,5,6,7,8],[1,3],Int×af,fun s_=>match s_ with|(m,o3)=>[.reg 8 (.j m),.reg 3 (.one (.vw 3 0 0 0 (O.ln o3))),.leaf 3 0 ⟨0,0,none,.own (.s 1 o3)⟩],fun s_=>match s_ with|(m,o3)=>0<=m/\m<=((ax (ax a9 j 0) k 0).length:Int)/\Ny a6 a7 a8 a9 j k m o3,fun s_=>match s_ with|(m,o3)=>(ax (ax a9 j 0) k 0).length-m.toNat,⟨(0,o2),?_,?_⟩,?_⟩;rotate_left;(focus (cbv;done));intro s_ hm;obtain⟨m,o3⟩:=s_;replace hm:0<=m/\m<=((ax (ax a9 j 0) k 0).length:Int)/\Ny a6 a7 a8 a9 j k m o3:=hm;obtain⟨m0,m1,m2⟩:=hm;cbv)|(refine⟨[1,3,9],[1,3],Int×af,fun s_=>match s_ with|(q,o4)=>[.reg 9 (.j q),.reg 3 (.one (.vw 3 0 0 0 (O.ln o4))),.leaf 3 0 ⟨0,0,none,.own (.s 1 o4)⟩],fun s_=>match s_ with|(q,o4)=>0<=q/\q<=(aD.length:Int)/\Nz a6 a7 a8 a9 aD q o4,fun s_=>match s_ with|(q,o4)=>aD.length-q.toNat,⟨(0,o1),?_,?_⟩,?_⟩;rotate_left;(focus (cbv;done));intro s_ hq;obtain⟨q,o4⟩:=s_;replace hq:0<=q/\q<=(aD.length:Int)/\Nz a6 a7 a8 a9 aD q o4:=hq;obtain⟨q0,q1,q2⟩:=hq;cbv)|(refine⟨[1,3,10,11],[1,3,10],Int×af,fun s_=>match s_ with|(f,o5)=>[.reg 11 (.j f),.reg 3 (.one (.vw 3 0 0 0 (O.ln o5))),.leaf 3 0 ⟨0,0,none,.own (.s 1 o5)⟩],fun s_=>match s_ with|(f,o5)=>0<=f/\f<=((ifL aA aB).length:Int)/\NA a6 a7 a8 a9 aD (ifL aA aB) f o5,fun s_=>match s_ with|(f,o5)=>(ifL aA aB).length-f.toNat,⟨(0,o4),?_,?_⟩,?_⟩;rotate_left;(focus (cbv;done));intro s_ hf;obtain⟨f,o5⟩:=s_;replace hf:0<=f/\f<=((ifL aA aB).length:Int)/\NA a6 a7 a8 a9 aD (ifL aA aB) f o5:=hf;obtain⟨f0,f1,f2⟩:=hf;cbv)|(refine⟨[1,3,12],[1,3],Int,fun t=>[.reg 12 (.j t)],fun t=>0<=t/\t<=(o5.length:Int)/\JO a6 a7 a8 a9 aD (ifL aA aB) t o5,fun t=>o5.length-t.toNat,⟨0,?_,?_⟩,?_⟩;rotate_left;(focus (cbv;done));intro t ht;replace ht:0<=t/\t<=(o5.length:Int)/\JO a6 a7 a8 a9 aD (ifL aA aB) t o5:=ht;obtain⟨t0,t1,t2⟩:=ht;cbv)|(refine ah (O.ar .add Za m 1,O.cat o3 (O.sub [[.i (O.gi (O.gs (O.gs a9 j 0) k 0) m 0)]] 0 (O.ln [[.i (O.gi (O.gs (O.gs a9 j 0) k 0) m 0)]]))) ?_ ?_ ?_;focus (cbv;done))|(refine ah (O.ar .add Za k 1,o3) ?_ ?_ ?_;focus (cbv;done))|(refine ah (O.ar .add Za j 1,o2) ?_ ?_ ?_;focus (cbv;done))|(refine ah (O.ar .add Za t 1) ?_ ?_ ?_;focus (cbv;done))|(refine ah (O.ar .add Za f 1,O.cat o5 (O.sub [[.i (O.pi (.s 1 (F.ifL aA aB)) [(O.ad 0 f,0)])]] 0 (O.ln [[.i (O.pi (.s 1 (F.ifL aA aB)) [(O.ad 0 f,0)])]]))) ?_ ?_ ?_;focus (cbv;done))|(refine ah (O.ar .add Za q 1,O.cat o4 (O.sub [[.i (O.gi aD q 0)]] 0 (O.ln [[.i (O.gi aD q 0)]]))) ?_ ?_ ?_;focus (cbv;done))|(refine ah (O.ar .add Za i 1,O.cat o (O.sub [[.i (O.gi a8 i 1)]] 0 (O.ln [[.i (O.gi a8 i 1)]]))) ?_ ?_ ?_;focus (cbv;done))
 all_goals(subst hO hr hF;(try simp only[nc]at*);(try simp only[am,SS,sa,az]at*);(try rw[cJ (by omega) (by omega)]);(try simp only[pK f0]at*);(try simp only[pK t0]at*);(try simp only[ww]at*);(try have w6:=hcc.n j j0 (by assumption));(try have w7:=w6.el k0 (by assumption));(try have w8:=w7.1);(try have z6:bK .add Za k 1=k+1:=bT (by have:=w6.l;omega));(try simp only[z6]at*);(try have z7:bK .add Za m 1=m+1:=bT (by have:=w7.2;omega));(try simp only[z7]at*);(try have w1:=adO (by assumption));(try have w4:=adS m2 j0 (by assumption) k0 (by assumption) m0 (by omega) hcl hol);(try have w5:=adU q2 (by omega) hcl hol hql);(try have w9:=adW f2 (by omega) hcl hol hql hfl);(try have wa:=aaN t2 hcl hol hql hfl);(try have wb:=aaO N t2);(try have z8:bK .add Za t 1=t+1:=bT (by omega));(try simp only[z8]at*))
 all_goals first
  | (show(_:List DV)=_
     first
      |(refine aj ?_;symm;exact Oi j0 (by assumption) (SC k0 (by assumption) m0 (by assumption) (by assumption)))
      |(refine aj ?_;symm;exact Oj q0 (by assumption) (by assumption))
      |(refine aj ?_;symm;exact Ol f0 (by assumption) (by assumption))
      |(refine aj ?_;symm;exact adY t2 t0 (by assumption) (by assumption))
      |(refine aj ?_;rw[cmp_eq];exact PV t2 (by omega))
      |done)
  |omega
  |exact fg
  |(show aw _ _=true;kernel_rfl)
  |exact⟨hsw,hlw,hsl,hll⟩
  |exact N.m
  |exact⟨N,hlay,qn (fs:=[tI]) w8 rfl (by omega)⟩
  |exact⟨N,hlay,qn hqw rfl (by omega)⟩
  |exact⟨N,hlay,qn hfr rfl (by omega)⟩
  |exact wb _
  |exact ya hfr f0 (by assumption)
  |exact ya (by have q:=wb o5.length;rwa [List.take_length]at q) t0 (by assumption)
  |(constructor<;>(simp only[Zr,Zt];omega))
  |exact aaK m2 m0 (by assumption)
  |exact aaJ m2 k0 m1 (by omega)
  |exact aaH k2 j0 k1 (by omega)
  |exact adR k2
  |exact adQ j2
  |exact adP i2 i1 (by omega)
  |exact aaG i2 i0
  |exact adN
  |exact adT j2 j1 (by omega)
  |exact aaL q2 q0 (by assumption)
  |exact adV q2 q1 (by omega)
  |exact aaM f2 f0 (by assumption)
  |exact adX f2 f1 (by omega)
  |exact aaP t2 t0 (by assumption) (by assumption)
  |exact⟨Zd,Zd⟩
  |done
abbrev Pa0:dB:=eg (fun F f=>match f with|54=>bU F|_=>fun _=>none) (by
 intro f;dsimp only;split;exact fI;exact dI)
def gd:EC:=fun F=>fun
 |[.agg [.s 1 a0,.s 1 a1,.s 2 a2,.v (.int Za a3),.s 1 a4],.one (.v (.int Za p))]=>some (fun _=>Rw [tI,tI] a2,[.k (F.mapB a2 p)])
 |_=>none
theorem kM:ec 170 gd:=by
 intro _ _ _ h hp;dsimp only[gd,F0]at h;split at h<;>cases h
 rename_i a0 a1 a2 a3 a4 p;refine cb Pa0 Tryz.func170 ?_
 intro O r F hO hr hF;cbv
 repeat' first|apply Zb|(apply b8<;>intro hb<;>cbv)
 all_goals(subst hO hr hF;(try simp only[nc]at*);(try simp only[am,SS,sa,az]at*))
 all_goals first|(show(_:List DV)=_;refine aj ?_;unfold mapB;rw[yF];done)|exact hp|done
abbrev Pa1:dB:=eg (fun F f=>match f with|169=>cA F|170=>gd F|171=>d7 F|54=>bU F|172=>d5 F|_=>fun _=>none) (by
 intro f;dsimp only;split;exact ky;exact kM;exact tu;exact fI;exact tp;exact dI)
def jT:EC:=fun F=>fun
 |[.agg hl_]=>hL hl_ fun a0 a1 a2 a3 a4 a5 a6 a7 a8 a9 aA aB aC aD aE aF aG aH aI aJ aK aL aM aN=>(fun _=>JM a6 a7 a8 a9 aA aB aD/\layOk a6 a7=true/\Rw [tI,tI] a2/\a2.length<=1099511627776/\Rw [tI,tI] a5/\a5.length<=1099511627776,[.k (F.pgI a2 a5 a6 a7)])
 |_=>none
theorem uN:ec 63 jT:=by
 intro _ _ _ h hp;dsimp only[jT,F0,hL]at h;split at h;rotate_left;cases h;split at h<;>cases h
 rename_i a0 a1 a2 a3 a4 a5 a6 a7 a8 a9 aA aB aC aD aE aF aG aH aI aJ aK aL aM aN;obtain⟨N,hlay,hew,hel,hfw,hfl⟩:=hp;have hsw:=N.sw;have hlw:=N.lw;have hsl:=N.sl;have hll:=N.ll;have F:=O4 hlay;have lgF:∀ j:Int,0<=j->j<a7.length->0<=ag a7 j 0/\1<=ag a7 j 1/\ag a7 j 0+ag a7 j 1<=32:=fun j h0 h1=>by
  have t:=k7 (F.l j.toNat (by omega));rw[Zp h0]at t;have b:=ku t.1;omega
 refine cb Pa1 Tryz.func63 ?_
 intro O r F hO hr hF;cbv
 repeat' first|apply Zb|(apply b8<;>intro hb<;>cbv)|(refine⟨[1,18,19,20],[1],Int,fun i=>[.reg 20 (.j i)],fun i=>0<=i/\i<=(a6.length:Int)/\upto (ut a6) i,fun i=>a6.length-i.toNat,⟨0,?_,?_⟩,?_⟩;rotate_left;(focus (cbv;done));intro i hi;replace hi:0<=i/\i<=(a6.length:Int)/\upto (ut a6) i:=hi;obtain⟨i0,i1,i2⟩:=hi;cbv)|(refine⟨[1,5,42,43,44],[1,40],Int×af,fun s_=>match s_ with|(q,m)=>[.reg 44 (.j q),.leaf 40 0 ⟨0,0,none,.own (.m true m)⟩],fun s_=>match s_ with|(q,m)=>0<=q/\q<=(a6.length:Int)/\ux m (lm a6 q.toNat),fun s_=>match s_ with|(q,m)=>a6.length-q.toNat,⟨(0,[]),?_,?_⟩,?_⟩;rotate_left;(focus (cbv;done));intro s_ hq;obtain⟨q,m⟩:=s_;replace hq:0<=q/\q<=(a6.length:Int)/\ux m (lm a6 q.toNat):=hq;obtain⟨q0,q1,q2⟩:=hq;cbv)|(refine⟨[1,5,53,54,55],[1,40],Int×af,fun s_=>match s_ with|(j,m1)=>[.reg 55 (.j j),.leaf 40 0 ⟨0,0,none,.own (.m true m1)⟩],fun s_=>match s_ with|(j,m1)=>0<=j/\j<=(a7.length:Int)/\QB a2 a6 a7 j m1,fun s_=>match s_ with|(j,m1)=>a7.length-j.toNat,⟨(0,m),?_,?_⟩,?_⟩;rotate_left;(focus (cbv;done));intro s_ hj;obtain⟨j,m1⟩:=s_;replace hj:0<=j/\j<=(a7.length:Int)/\QB a2 a6 a7 j m1:=hj;obtain⟨j0,j1,j2⟩:=hj;cbv)|(refine⟨[1,5,9,10,53,54,55],[1,40,9],Int×af,fun s_=>match s_ with|(p,m2)=>[.reg 10 (.j p),.leaf 40 0 ⟨0,0,none,.own (.m true m2)⟩],fun s_=>match s_ with|(p,m2)=>ag a7 j 0<=p/\p<=ag a7 j 0+ag a7 j 1/\QA a2 a6 a7 j (p-ag a7 j 0) m2,fun s_=>match s_ with|(p,m2)=>(ag a7 j 0+ag a7 j 1-p).toNat,⟨(O.gi a7 j 0,m1),?_,?_⟩,?_⟩;rotate_left;(focus (cbv;done));intro s_ hp;obtain⟨p,m2⟩:=s_;replace hp:ag a7 j 0<=p/\p<=ag a7 j 0+ag a7 j 1/\QA a2 a6 a7 j (p-ag a7 j 0) m2:=hp;obtain⟨p0,p1,p2⟩:=hp;cbv)|(refine⟨[1,5,98,99],[1,40],Int,fun e=>[.reg 99 (.j e)],fun e=>0<=e/\e<=(a2.length:Int)/\upto (xP a2 a5 a6 a7) e,fun e=>a2.length-e.toNat,⟨0,?_,?_⟩,?_⟩;rotate_left;(focus (cbv;done));intro e he;replace he:0<=e/\e<=(a2.length:Int)/\upto (xP a2 a5 a6 a7) e:=he;obtain⟨e0,e1,e2⟩:=he;cbv)|(refine⟨[1,122],[1],List Int,fun vs=>[.reg 122 (.one (.it m1 vs))],fun vs=>True/\∀ k∈vs,k<(a2.length:Int),fun vs=>m1.length-vs.length,⟨[],?_,?_⟩,?_⟩;rotate_left;(focus (cbv;done));intro vs tO;replace tO:True/\∀ k∈vs,k<(a2.length:Int):=tO;obtain⟨vs0,vs1⟩:=tO;cbv)|(refine⟨[1,136,137,138],[1],Int,fun u=>[.reg 138 (.j u)],fun u=>0<=u/\u<=(a6.length:Int)/\upto (JA a2 a6) u,fun u=>a6.length-u.toNat,⟨0,?_,?_⟩,?_⟩;rotate_left;(focus (cbv;done));intro u hu;replace hu:0<=u/\u<=(a6.length:Int)/\upto (JA a2 a6) u:=hu;obtain⟨u0,u1,u2⟩:=hu;cbv)|(refine⟨[1,14,136,137,138,146,147,148],[1,14],Int,fun v=>[.reg 148 (.j v)],fun v=>0<=v/\v<=u/\upto (Gd a2 a6 u) v,fun v=>(u-v).toNat,⟨0,?_,?_⟩,?_⟩;rotate_left;(focus (cbv;done));intro v hv;replace hv:0<=v/\v<=u/\upto (Gd a2 a6 u) v:=hv;obtain⟨v0,v1,v2⟩:=hv;cbv)|(refine ah (O.ar .add Za p 1,O.mu m2 p (.v (.bool true))) ?_ ?_ ?_;focus (cbv;done))|(refine ah (O.ar .add Za j 1,m2) ?_ ?_ ?_;focus (cbv;done))|(refine ah (O.ar .add Za q 1,O.mu m (O.gi a6 q 0) (.v (.bool true))) ?_ ?_ ?_;focus (cbv;done))|(refine ah (O.ar .add Za v 1) ?_ ?_ ?_;focus (cbv;done))|(refine ah (O.ar .add Za u 1) ?_ ?_ ?_;focus (cbv;done))|(refine ah (O.ar .add Za e 1) ?_ ?_ ?_;focus (cbv;done))|(refine ah (O.ar .add Za i 1) ?_ ?_ ?_;focus (cbv;done))|(refine ah (kk::vs) ?_ ?_ ?_;focus (cbv;done))|((intro(kk:Int) (hkk:O.pr _);cbv))|((intro(hkk:O.pr _);cbv))
 all_goals(subst hO hr hF;(try simp only[nc]at*);(try simp only[am,SS,sa,az]at*);(try rw[cJ (by omega) (by omega)]);(try have zi:=xA i0 (by omega));(try simp only[zi]at*);(try have zj:=xA j0 (by omega));(try simp only[zj]at*);(try have lf:=lgF j j0 (by assumption));(try have zl:bK .add Za (ag a7 j 0) (ag a7 j 1)=ag a7 j 0+ag a7 j 1:=bT (by omega));(try simp only[zl]at*);(try have zp:bK .add Za p 1=p+1:=bT (by omega));(try simp only[zp]at*);(try have zv:bK .add Za v 1=v+1:=bT (by omega));(try simp only[zv]at*);(try simp only[T6 (PD j2 j1 (by assumption))]at*);(try simp only[ww]at*);(try have tl:(List.take u.toNat a6).length=u.toNat:=by(rw[Zh];omega));(try have hwt:=Rw.take hsw u.toNat);(try simp only[ue (es:=a6) (n:=u.toNat) (i:=v) (by omega)]at*))
 all_goals first
  | (show(_:List DV)=_
     first
      |(refine aj ?_;symm;exact aad i0 (by assumption) (EV (by assumption) (by assumption)))
      |(refine aj ?_;symm;exact MR j0 (by assumption) (Mx (EV (by assumption) (by assumption))))
      |(refine aj ?_;symm;exact MR j0 (by assumption) (aah p0 (by assumption) (by omega)))
      |(refine aj ?_;symm;exact MS e0 (by assumption) (Ma (by assumption)))
      |(refine aj ?_;symm;exact MS e0 (by assumption) (Mb (by assumption)))
      |(refine aj ?_;symm;exact aae (TU (((PD j2 j1 (by assumption)).k _).1 hkk.1) (by assumption)))
      |(refine aj ?_;symm;exact aaf u0 (by assumption) (adi v0 (by omega) (by assumption) (by assumption)))
      |(refine aj ?_;symm;exact adw i2 (by omega) j2.ok (by omega) e2 (by omega) (adp (PD j2 j1 (by assumption)) vs1 hkk) u2 (by omega))
      |done)
  |omega
  |exact fg
  |(show aw _ _=true;kernel_rfl)
  |exact⟨hew,hel⟩
  |exact⟨hfw,hfl⟩
  |exact bD
  |exact aU i2 (EW (by omega))
  |exact aU i2 (EX (by assumption))
  |(rw[oc q0];exact Iw q2)
  |exact T0
  |exact adx q2 q1 (by omega)
  |exact aag j2 (EW (by omega))
  |exact aag j2 (EX (by assumption))
  |exact aai p2 p0 (by omega)
  |exact aaj p2 j0 (by omega) p1 (by omega)
  |exact aU e2 (Ry (by assumption) (by assumption))
  |exact abi vs1 (by assumption)
  |exact fun k hk=>by cases hk
  |(have q:=hkk.2;simp only[Zr];omega)
  |exact aU v2 (Tt (by assumption))
  |exact aU v2 (Tu (by assumption))
  |exact aU u2 (adj v2 (by omega) u0)
  |done
abbrev Pa2:dB:=eg (fun F f=>match f with|299=>cA F|297=>eB F|300=>d7 F|_=>fun _=>none) (by
 intro f;dsimp only;split;exact gI;exact ga;exact tK;exact dI)
def jq:EC:=fun F=>fun
 |[.agg hl_]=>hL hl_ fun a0 a1 a2 a3 a4 a5 a6 a7 a8 a9 aA aB aC aD aE aF aG aH aI aJ aK aL aM aN=>(fun _=>JM a6 a7 a8 a9 aA aB aD/\layOk a6 a7=true/\Rw [tI,tI] a2/\a2.length<=1099511627776/\Rw [tI,tI] a5/\a5.length<=1099511627776,[.k (F.pgS a2 a5 a6 a7)])
 |_=>none
theorem tN:ec 204 jq:=by
 intro _ _ _ h hp;dsimp only[jq,F0,hL]at h;split at h;rotate_left;cases h;split at h<;>cases h
 rename_i a0 a1 a2 a3 a4 a5 a6 a7 a8 a9 aA aB aC aD aE aF aG aH aI aJ aK aL aM aN;obtain⟨N,hlay,hew,hel,hfw,hfl⟩:=hp;have hsw:=N.sw;have hlw:=N.lw;have hsl:=N.sl;have hll:=N.ll;have F:=O4 hlay;have lgF:∀ j:Int,0<=j->j<a7.length->0<=ag a7 j 0/\1<=ag a7 j 1/\ag a7 j 0+ag a7 j 1<=32:=fun j h0 h1=>by
  have t:=k7 (F.l j.toNat (by omega));rw[Zp h0]at t;have b:=ku t.1;omega
 refine cb Pa2 Tryz.func204 ?_
 intro O r F hO hr hF;cbv
 repeat' first|apply Zb|(apply b8<;>intro hb<;>cbv)|(refine⟨[1,3,4,5,6],[1,3,5],Int×af,fun s_=>match s_ with|(i,o)=>[.reg 6 (.j i),.reg 5 (.one (.vw 5 0 0 0 (O.ln o))),.leaf 5 0 ⟨0,0,none,.own (.s 1 o)⟩],fun s_=>match s_ with|(i,o)=>0<=i/\i<=(a6.length:Int)/\Nw a6 i o,fun s_=>match s_ with|(i,o)=>a6.length-i.toNat,⟨(0,[]),?_,?_⟩,?_⟩;rotate_left;(focus (cbv;done));intro s_ hi;obtain⟨i,o⟩:=s_;replace hi:0<=i/\i<=(a6.length:Int)/\Nw a6 i o:=hi;obtain⟨i0,i1,i2⟩:=hi;cbv)|(refine⟨[1,3,4,5,7],[1,3,5],Int×af,fun s_=>match s_ with|(j,o1)=>[.reg 7 (.j j),.reg 5 (.one (.vw 5 0 0 0 (O.ln o1))),.leaf 5 0 ⟨0,0,none,.own (.s 1 o1)⟩],fun s_=>match s_ with|(j,o1)=>0<=j/\j<=(a7.length:Int)/\Jv a2 a6 a7 j o1,fun s_=>match s_ with|(j,o1)=>a7.length-j.toNat,⟨(0,o),?_,?_⟩,?_⟩;rotate_left;(focus (cbv;done));intro s_ hj;obtain⟨j,o1⟩:=s_;replace hj:0<=j/\j<=(a7.length:Int)/\Jv a2 a6 a7 j o1:=hj;obtain⟨j0,j1,j2⟩:=hj;cbv)|(refine⟨[1,3,4,5,7,8],[1,3,5],Int×af,fun s_=>match s_ with|(k,o2)=>[.reg 8 (.j k),.reg 5 (.one (.vw 5 0 0 0 (O.ln o2))),.leaf 5 0 ⟨0,0,none,.own (.s 1 o2)⟩],fun s_=>match s_ with|(k,o2)=>0<=k/\k<=ag a7 j 1/\Nv a2 a6 a7 j k o2,fun s_=>match s_ with|(k,o2)=>(ag a7 j 1-k).toNat,⟨(0,o1),?_,?_⟩,?_⟩;rotate_left;(focus (cbv;done));intro s_ hk;obtain⟨k,o2⟩:=s_;replace hk:0<=k/\k<=ag a7 j 1/\Nv a2 a6 a7 j k o2:=hk;obtain⟨k0,k1,k2⟩:=hk;cbv)|(refine⟨[1,3,4,5,10],[1,3,5],Int,fun t=>[.reg 10 (.j t)],fun t=>0<=t/\t<=(o1.length:Int)/\upto (fun t=>decide (ag o1 t 0<a2.length)) t,fun t=>o1.length-t.toNat,⟨0,?_,?_⟩,?_⟩;rotate_left;(focus (cbv;done));intro t ht;replace ht:0<=t/\t<=(o1.length:Int)/\upto (fun t=>decide (ag o1 t 0<a2.length)) t:=ht;obtain⟨t0,t1,t2⟩:=ht;cbv)|(refine⟨[1,3,4,5,11],[1,3,5],Int,fun e=>[.reg 11 (.j e)],fun e=>0<=e/\e<=(a2.length:Int)/\upto (xP a2 a5 a6 a7) e,fun e=>a2.length-e.toNat,⟨0,?_,?_⟩,?_⟩;rotate_left;(focus (cbv;done));intro e he;replace he:0<=e/\e<=(a2.length:Int)/\upto (xP a2 a5 a6 a7) e:=he;obtain⟨e0,e1,e2⟩:=he;cbv)|(refine ah (O.ar .add Za k 1,O.cat o2 (O.sub [[.i (O.ar .add Za (O.gi a7 j 0) k)]] 0 (O.ln [[.i (O.ar .add Za (O.gi a7 j 0) k)]]))) ?_ ?_ ?_;focus (cbv;done))|(refine ah (O.ar .add Za j 1,o2) ?_ ?_ ?_;focus (cbv;done))|(refine ah (O.ar .add Za e 1) ?_ ?_ ?_;focus (cbv;done))|(refine ah (O.ar .add Za t 1) ?_ ?_ ?_;focus (cbv;done))|(refine ah (O.ar .add Za i 1,O.cat o (O.sub [[.i (O.gi a6 i 0)]] 0 (O.ln [[.i (O.gi a6 i 0)]]))) ?_ ?_ ?_;focus (cbv;done))
 all_goals(subst hO hr hF;(try simp only[nc]at*);(try simp only[am,SS,sa,az]at*);(try rw[cJ (by omega) (by omega)]);(try have zi:=xA i0 (by omega));(try simp only[zi]at*);(try have zj:=xA j0 (by omega));(try simp only[zj]at*);(try have lf:=lgF j j0 (by assumption));(try have z6:bK .add Za k 1=k+1:=bT (by omega));(try simp only[z6]at*);(try have z5:bK .add Za (ag a7 j 0) k=ag a7 j 0+k:=bT (by omega));(try simp only[z5]at*);(try have w1:=adH (by assumption));(try have w2:=adB k2 (by omega));(try have w3:=aav hlay j2 j1 (by assumption) hsl hll);(try simp only[pK t0]at*);(try have w4:=w3.1);(try unfold maxLen at w4);(try have z7:bK .add Za t 1=t+1:=bT (by omega));(try simp only[z7]at*);(try simp only[adE j2 j1 (by assumption)]at*);(try simp only[Tx e0 (by assumption)]at*))
 all_goals first
  | (show(_:List DV)=_
     first
      |(refine aj ?_;symm;exact aal i0 (by assumption) (EV (by assumption) (by assumption)))
      |(refine aj ?_;symm;exact MU j0 (by assumption) (Mx (EV (by assumption) (by assumption))))
      |(refine aj ?_;symm;exact MU j0 (by assumption) (My k0 (by assumption) (by omega)))
      |(refine aj ?_;symm;exact aam (adD j2 j1 (by assumption) t0 (by assumption) (by assumption)))
      |(refine aj ?_;symm;exact MV e0 (by assumption) (Ma (by assumption)))
      |(refine aj ?_;symm;exact MV e0 (by assumption) (NQ (by assumption) (by assumption)))
      |(refine aj ?_;symm;exact ady i2.ok (by omega) j2.ok (by omega) e2 (by omega) (adF j2 j1 (by assumption) t2 (by omega)))
      |done)
  |omega
  |exact fg
  |(show aw _ _=true;kernel_rfl)
  |exact⟨hew,hel⟩
  |exact⟨hfw,hfl⟩
  |exact ya w3 t0 (by assumption)
  |(constructor<;>(simp only[Zr,Zt];omega))
  |exact MY i2 i0 (EW (by omega))
  |exact MY i2 i0 (EX (by assumption))
  |exact adG
  |exact adC i2 i1 (by omega)
  |exact aat j2 (EW (by omega))
  |exact aat j2 (EX (by assumption))
  |exact aau k2 k0 (by omega)
  |exact aaw k2 j0 (by omega) (by omega) k1 (by omega)
  |exact bD
  |exact aU t2 (VK (by assumption))
  |exact aU e2 (Rz (by assumption) (by assumption))
  |exact⟨Zd,Zd⟩
  |done
abbrev Pa3:dB:=eg (fun F f=>match f with|299=>cA F|213=>eA F|301=>d5 F|_=>fun _=>none) (by
 intro f;dsimp only;split;exact gI;exact pd;exact tG;exact dI)
def iI:EC:=fun F=>fun
 |[.agg hl_]=>hL hl_ fun a0 a1 a2 a3 a4 a5 a6 a7 a8 a9 aA aB aC aD aE aF aG aH aI aJ aK aL aM aN=>(fun _=>JM a6 a7 a8 a9 aA aB aD/\Rw [tI,tI] a2/\a2.length<=1099511627776,[.k (F.smS a2 a6)])
 |_=>none
theorem rE:ec 205 iI:=by
 intro _ _ _ h hp;dsimp only[iI,F0,hL]at h;split at h;rotate_left;cases h;split at h<;>cases h
 rename_i a0 a1 a2 a3 a4 a5 a6 a7 a8 a9 aA aB aC aD aE aF aG aH aI aJ aK aL aM aN;obtain⟨N,hew,hel⟩:=hp;have hsw:=N.sw;have hsl:=N.sl;have fr:=fun p=>Hf (es:=a2) (p:=p) hel
 refine cb Pa3 Tryz.func205 ?_
 intro O r F hO hr hF;cbv
 repeat' first|apply Zb|(apply b8<;>intro hb<;>cbv)|(refine⟨[1,3],[1],Int,fun i=>[.reg 3 (.j i)],fun i=>0<=i/\i<=(a6.length:Int)/\upto (msA a2 a6) i,fun i=>a6.length-i.toNat,⟨0,?_,?_⟩,?_⟩;rotate_left;(focus (cbv;done));intro i hi;replace hi:0<=i/\i<=(a6.length:Int)/\upto (msA a2 a6) i:=hi;obtain⟨i0,i1,i2⟩:=hi;cbv)|(refine⟨[1,3,4,5],[1,4],Int,fun k=>[.reg 5 (.j k)],fun k=>0<=k/\k<=((fpg a2 (ag a6 i 0)).length:Int)/\upto (H6 a2 a6 i) k,fun k=>(fpg a2 (ag a6 i 0)).length-k.toNat,⟨0,?_,?_⟩,?_⟩;rotate_left;(focus (cbv;done));intro k hk;replace hk:0<=k/\k<=((fpg a2 (ag a6 i 0)).length:Int)/\upto (H6 a2 a6 i) k:=hk;obtain⟨k0,k1,k2⟩:=hk;cbv)|(refine ah (O.ar .add Za k 1) ?_ ?_ ?_;focus (cbv;done))|(refine ah (O.ar .add Za i 1) ?_ ?_ ?_;focus (cbv;done))
 all_goals(subst hO hr hF;(try simp only[nc]at*);(try simp only[am,SS,sa,az]at*);(try rw[cJ (by omega) (by omega)]);(try simp only[pK k0]at*);(try have w1:=fr (ag a6 i 0));(try have w2:=w1.1);(try have w3:=w1.2);(try have z6:bK .add Za k 1=k+1:=bT (by omega));(try simp only[z6]at*);(try have w4:=fun h=>aa0 (sp:=a6) (p:=ag (fpg a2 (ag a6 i 0)) k 0) h))
 all_goals first
  | (show(_:List DV)=_
     first
      |(refine aj ?_;symm;exact bP (p:=msA a2 a6) i0 (by assumption) (TE k0 (by assumption) (by assumption) (by assumption)))
      |(refine aj ?_;symm;exact bP (p:=msA a2 a6) i0 (by assumption) (TF k0 (by assumption) (by assumption) (by assumption)))
      |(refine aj ?_;symm;exact bJ i2 (by omega))
      |done)
  |omega
  |exact fg
  |(show aw _ _=true;kernel_rfl)
  |exact⟨hew,hel⟩
  |exact⟨hsw,by omega⟩
  |exact ya w2 k0 (by assumption)
  |exact bD
  |exact aU k2 (Tv (by assumption))
  |exact aU k2 (Tw (by assumption) (by assumption))
  |exact aU i2 (bJ k2 (by omega))
  |(have q:true=false:=(by assumption);cases q)
  |exact⟨Zd,Zd⟩
  |done
def kW:EC:=fun F=>fun
 |[.agg [.v (.int Za k),.v (.int Za m),.s 1 cs,.v (.int Za ph),.v (.int Za nx)]]=>some (fun _=>True,[.k (F.jobZ k m cs ph nx)])
 |_=>none
theorem xp:ec 211 kW:=by
 intro _ _ _ h hp;dsimp only[kW,F0]at h;split at h<;>cases h
 rename_i k m cs ph nx;refine cb nB Tryz.func211 ?_
 intro O r F hO hr hF;cbv
 repeat' first|apply Zb|(apply b8<;>intro hb<;>cbv)
 all_goals(subst hO hr hF;(try simp only[nc]at*);(try simp only[am,SS,sa,az]at*))
 all_goals first|(show(_:List DV)=_;refine aj ?_;unfold jobZ;simp[*,cmp_eq];done)|(show(_:List DV)=_;refine aj ?_;unfold jobZ;rw[VK (p:=cs.length=0) (by omega),cmp_eq];simp[*];done)|(show(_:List DV)=_;refine aj ?_;unfold jobZ;rw[VL (p:=cs.length=0) (by omega)];simp;done)|done
abbrev Qa1:dB:=eg (fun F f=>match f with|60=>cG F|61=>da F|62=>cP F|63=>jT F|64=>dK F|65=>eZ F|66=>dt F|67=>fa F|68=>iE F|69=>gg F|33=>ai F|70=>fM F|71=>eA F|_=>fun _=>none) (by
 intro f;dsimp only;split;exact ja;exact mF;exact mC;exact uN;exact o8;exact xc;exact m9;exact xh;exact rr;exact kN;exact aP;exact yy;exact xf;exact dI)
def cV:EC:=fun F=>fun
 |[.agg hl_]=>hL hl_ fun a0 a1 a2 a3 a4 a5 a6 a7 a8 a9 aA aB aC aD aE aF aG aH aI aJ aK aL aM aN=>(fun _=>HpN a0 a1 a2 a4 a5 a6 a7 a8 a9 aA aB aD aL,[.k (F.hpI a0 a1 a2 a3 a4 a5 a6 a7 a8 a9 aA aB aC aD aE aF aG aH aI aJ aK aL aM aN)])
 |_=>none
theorem kL:ec 17 cV:=by
 intro _ _ _ h hp;dsimp only[cV,F0,hL]at h;split at h;rotate_left;cases h;split at h<;>cases h
 rename_i a0 a1 a2 a3 a4 a5 a6 a7 a8 a9 aA aB aC aD aE aF aG aH aI aJ aK aL aM aN;have N:=hp.n;have hcc:=N.c;have hcw:=N.cw;have hel:=hp.el;have hfl:=hp.fl;have hsl:=N.sl;have hcl:=N.cl;have hlc:=av (es:=a9);refine cb Qa1 Tryz.func17 ?_
 intro O r F hO hr hF;cbv
 repeat' first|apply Zb|(apply b8<;>intro hb<;>cbv)|(refine⟨[1,57,58,59],[1],Int,fun i=>[.reg 59 (.j i)],fun i=>0<=i/\i<=((a9.length:Nat):Int)/\upto (LU a9) i,fun i=>(a9.length)-i.toNat,⟨0,?_,?_⟩,?_⟩;rotate_left;(focus (cbv;done));intro i hi;replace hi:0<=i/\i<=((a9.length:Nat):Int)/\upto (LU a9) i:=hi;obtain⟨i0,i1,i2⟩:=hi;cbv)|(refine ah (O.ar .add Za i 1) ?_ ?_ ?_;focus (cbv;done))
 all_goals(subst hO hr hF;(try simp only[nc]at*);(try simp only[am,SS,sa,az]at*);(try rw[cJ (by omega) (by omega)]))
 all_goals first
  | (show(_:List DV)=_
     first
      |(refine aj ?_;symm;exact R9 (by assumption))
      |(refine aj ?_;symm;exact Si (by assumption))
      |(refine aj ?_;symm;exact Sc (by assumption))
      |(refine aj ?_;symm;exact Oo (by assumption))
      |(refine aj ?_;symm;exact Sd (by assumption))
      |(refine aj ?_;symm;exact Mp (by assumption))
      |(refine aj ?_;symm;exact Sg (by assumption))
      |(refine aj ?_;symm;exact Mn i0 (by assumption) (by assumption))
      |(refine aj ?_;symm;exact On (by assumption))
      |(refine aj ?_;symm;exact Om (by assumption))
      |(refine aj ?_;symm;exact Sj (by assumption))
      |(refine aj ?_;symm;exact Sl (by assumption))
      |(refine aj ?_;symm;exact Sn (by assumption))
      |(refine aj ?_;symm;exact Sv (by assumption))
      |(refine aj ?_;rw[Hs (by assumption) (by assumption) (by assumption) (by assumption) (by assumption) (VK (by omega)) (by assumption) (bJ i2 (by omega)) (by assumption) (by assumption) (by assumption) (by assumption) (by assumption) (by assumption)];subst_vars;first|exact Mr (by assumption)|exact Ms (by assumption)|exact Mt (by assumption) (by assumption)|exact rfl|((try rw[cmp_eq]);unfold vM jobZ;simp[*];done))
      |done)
  |omega
  |exact fg
  |exact⟨hp.c,hp.u,hp.e,hp.r⟩
  |exact⟨by omega,by omega,hp.f,by omega⟩
  |exact⟨N.sw,N.lw,N.sl,N.ll⟩
  |exact⟨N,by assumption,hp.e,by omega,hp.f,by omega⟩
  |exact N.m
  |exact⟨N.qw,N.ql⟩
  |exact hcc.n i i0 (by assumption)
  |exact⟨N,by assumption⟩
  |exact⟨hp.j,by have:=hp.jl;omega⟩
  |exact⟨N.sw,by omega⟩
  |exact bD
  |exact aU i2 (by assumption)
  |done
abbrev Qa2:dB:=eg (fun F f=>match f with|201=>cG F|202=>da F|203=>cP F|204=>jq F|205=>iI F|206=>dK F|207=>eZ F|208=>dt F|209=>fa F|210=>j3 F|92=>ai F|212=>fM F|213=>eA F|211=>kW F|_=>fun _=>none) (by
 intro f;dsimp only;split;exact jd;exact mN;exact je;exact tN;exact rE;exact pc;exact xj;exact nj;exact vi;exact vj;exact bc;exact yA;exact pd;exact xp;exact dI)
theorem kO:ec 91 cV:=by
 intro _ _ _ h hp;dsimp only[cV,F0,hL]at h;split at h;rotate_left;cases h;split at h<;>cases h
 rename_i a0 a1 a2 a3 a4 a5 a6 a7 a8 a9 aA aB aC aD aE aF aG aH aI aJ aK aL aM aN;have N:=hp.n;have hcc:=N.c;have hcw:=N.cw;have hqw:=N.qw;have hql:=N.ql;have hel:=hp.el;have hfl:=hp.fl;have hsl:=N.sl;have hcl:=N.cl;have hlc:=av (es:=a9);refine cb Qa2 Tryz.func91 ?_
 intro O r F hO hr hF;cbv
 repeat' first|apply Zb|(apply b8<;>intro hb<;>cbv)|(refine⟨[1,3],[1],Int,fun q=>[.reg 3 (.j q)],fun q=>0<=q/\q<=(aD.length:Int)/\upto (sA aD aF) q,fun q=>aD.length-q.toNat,⟨0,?_,?_⟩,?_⟩;rotate_left;(focus (cbv;done));intro q hq;replace hq:0<=q/\q<=(aD.length:Int)/\upto (sA aD aF) q:=hq;obtain⟨q0,q1,q2⟩:=hq;cbv)|(refine⟨[1,4],[1],Int,fun i=>[.reg 4 (.j i)],fun i=>0<=i/\i<=(a9.length:Int)/\upto (LU a9) i,fun i=>a9.length-i.toNat,⟨0,?_,?_⟩,?_⟩;rotate_left;(focus (cbv;done));intro i hi;replace hi:0<=i/\i<=(a9.length:Int)/\upto (LU a9) i:=hi;obtain⟨i0,i1,i2⟩:=hi;cbv)|(refine ah (O.ar .add Za i 1) ?_ ?_ ?_;focus (cbv;done))|(refine ah (O.ar .add Za q 1) ?_ ?_ ?_;focus (cbv;done))
 all_goals(subst hO hr hF;(try simp only[nc]at*);(try simp only[am,SS,sa,az]at*);(try rw[cJ (by omega) (by omega)]))
 all_goals first
  | (show(_:List DV)=_
     first
      |(refine aj ?_;symm;exact R9 (by assumption))
      |(refine aj ?_;symm;exact Si (by assumption))
      |(refine aj ?_;symm;exact Sc (by assumption))
      |(refine aj ?_;symm;exact Sf (by assumption) (by assumption))
      |(refine aj ?_;symm;exact Se (by assumption) (by assumption))
      |(refine aj ?_;symm;exact Sd (by assumption))
      |(refine aj ?_;symm;exact Mp (by assumption))
      |(refine aj ?_;symm;exact Sg (by assumption))
      |(refine aj ?_;symm;exact Sk q0 (by assumption) (by assumption) (by assumption))
      |(refine aj ?_;symm;exact Mn i0 (by assumption) (by assumption))
      |(refine aj ?_;symm;exact On (by assumption))
      |(refine aj ?_;symm;exact R8 (by assumption) (by assumption) (by assumption))
      |(refine aj ?_;symm;exact Sj (by assumption))
      |(refine aj ?_;symm;exact Sl (by assumption))
      |(refine aj ?_;symm;exact Sn (by assumption))
      |(refine aj ?_;symm;exact Sv (by assumption))
      |(refine aj ?_;rw[Hs (by assumption) (by assumption) (by assumption) (adu (by assumption) (by assumption) (by assumption)) (by assumption) (VK (by omega)) (by assumption) (bJ i2 (by omega)) (by assumption) (acI (by assumption) (by assumption) (by assumption) (by omega) q2) (by assumption) (by assumption) (by assumption) (by assumption)];subst_vars;first|exact Mr (by assumption)|exact Ms (by assumption)|exact Mt (by assumption) (by assumption)|exact rfl|((try rw[cmp_eq]);unfold vM jobZ;simp[*];done))
      |done)
  |omega
  |exact fg
  |(show aw _ _=true;kernel_rfl)
  |exact⟨hp.c,hp.u,hp.e,hp.r⟩
  |exact⟨by omega,by omega,hp.f,by omega⟩
  |exact⟨N.sw,N.lw,N.sl,N.ll⟩
  |exact⟨N,by assumption,hp.e,by omega,hp.f,by omega⟩
  |exact⟨N,hp.e,by omega⟩
  |exact N.m
  |exact⟨N.qw,N.ql⟩
  |exact hcc.n i i0 (by assumption)
  |exact⟨N,by assumption⟩
  |exact⟨hp.j,by have:=hp.jl;omega⟩
  |exact⟨N.sw,by omega⟩
  |exact bD
  |exact aU i2 (by assumption)
  |exact aU q2 (adZ (by assumption))
  |done
end Go.V