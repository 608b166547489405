/- Contracts. -/
import Derived.Test.YtpldpilhgjpkjaaGreatWM2
import Derived.Test.YtpldpilhgjpkjaaGreatWM1
set_option linter.all false
open Go
open And renaming intro->Zb
open Int renaming toNat_of_nonneg->Zo
open IntKind renaming i64->Za
open List renaming length_take->Zm,length_cons->Zp,length_nil->Zt
open True renaming intro->Zd
namespace Go.V
open Go Go.Proofs
set_option maxRecDepth 1000000
set_option maxHeartbeats 8000000
abbrev Ma0:cT:=dG (fun F f=>match f with|33=>ai F|92=>ai F|_=>fun _=>none) (by
 intro f;dsimp only;split;exact aU;exact bi;exact cX)
def fo:EC:=fun F=>fun
 |[.one (.v (.int Za n)),.agg [.v (.int Za a),.v (.int Za l)]]=>some (fun _=>0<=n/\n<=1099511627776,[.k (F.rngIn n a l)])
 |_=>none
def zW:ec 165 fo:=by
 intro _ _ _ h hp;dsimp only[fo,F0]at h;split at h<;>cases h
 rename_i n a l;refine cb Ma0 Tryz.func165 ?_
 exact agF
def EG:ec 295 fo:=by
 intro _ _ _ h hp;dsimp only[fo,F0]at h;split at h<;>cases h
 rename_i n a l;refine cb Ma0 Tryz.func295 ?_
 exact agF
abbrev Ma1:cT:=dG (fun F f=>match f with|33=>ai F|92=>ai F|165=>fo F|295=>fo F|_=>fun _=>none) (by
 intro f;dsimp only;split;exact aU;exact bi;exact zW;exact EG;exact cX)
def eI:EC:=fun F=>fun
 |[.one (.v (.int Za n)),.one (.s 2 rs)]=>some (fun _=>0<=n/\n<=1099511627776/\Rw [tI,tI] rs/\rs.length<=1099511627776,[.k (F.rgOk n rs)])
 |_=>none
def xO:ec 61 eI:=by
 intro _ _ _ h hp;dsimp only[eI,F0]at h;split at h<;>cases h
 rename_i n rs;obtain⟨n0,n1,hw,hl⟩:=hp;refine cb Ma1 Tryz.func61 ?_
 intro O r F hO hr hF;cbv
 repeat' first|apply Zb|(apply bC<;>intro hb<;>cbv)|(refine⟨[0,1,7,8,9],[],Int,fun i=>[.reg 9 (.j i)],fun i=>0<=i/\i<=((rs.length:Nat):Int)/\upto (yS n rs) i,fun i=>(rs.length)-i.toNat,⟨0,?_,?_⟩,?_⟩;rotate_left;(focus (cbv;done));intro i hi;replace hi:0<=i/\i<=((rs.length:Nat):Int)/\upto (yS n rs) i:=hi;obtain⟨i0,i1,i2⟩:=hi;cbv)|(refine af (O.ar .add Za i 1) ?_ ?_ ?_;focus (cbv;done))
 all_goals exact ags
def yH:ec 202 eI:=by
 intro _ _ _ h hp;dsimp only[eI,F0]at h;split at h<;>cases h
 rename_i n rs;obtain⟨n0,n1,hw,hl⟩:=hp;refine cb Ma1 Tryz.func202 ?_
 intro O r F hO hr hF;cbv
 repeat' first|apply Zb|(apply bC<;>intro hb<;>cbv)|(refine⟨[0,1,5],[],Int,fun i=>[.reg 5 (.j i)],fun i=>0<=i/\i<=((rs.length:Nat):Int)/\upto (yS n rs) i,fun i=>(rs.length)-i.toNat,⟨0,?_,?_⟩,?_⟩;rotate_left;(focus (cbv;done));intro i hi;replace hi:0<=i/\i<=((rs.length:Nat):Int)/\upto (yS n rs) i:=hi;obtain⟨i0,i1,i2⟩:=hi;cbv)|(refine af (O.ar .add Za i 1) ?_ ?_ ?_;focus (cbv;done))
 all_goals exact ags
def iI:EC:=fun F=>fun
 |[.agg [.v (.int Za a),.v (.int Za l)],.ptr [.v (.int Za p)]]=>some (fun _=>True,[.k (F.rh1 a l p)])
 |_=>none
def tN:ec 280 iI:=by
 intro _ _ _ h hp;dsimp only[iI,F0]at h;split at h<;>cases h
 rename_i a l p;refine cb nB Tryz.func280 ?_
 intro O r F hO hr hF;cbv
 repeat' first|apply Zb|(apply bC<;>intro hb<;>cbv)
 all_goals(subst hO hr hF;(try simp only[nc]at*);(try simp only[ah,SS,sa,az]at*))
 all_goals first|(show(_:List DV)=_;refine aj ?_;unfold rh1;rw[VB hb];rfl)|(show(_:List DV)=_;refine aj ?_;unfold rh1;rw[VC Uc];rfl)|done
abbrev Ma3:cT:=dG (fun F f=>match f with|280=>iI F|_=>fun _=>none) (by
 intro f;dsimp only;split;exact tN;exact cX)
def aZ:EC:=fun F=>fun
 |[.one (.s 2 os),.fn 280 [[.v (.int Za id)]]]=>some (fun _=>Rw [tI,tI] os/\os.length<=1099511627776,[.j (F.rhI os id)])
 |_=>none
def cf:ec 341 aZ:=by
 intro _ _ _ h hp;dsimp only[aZ,F0]at h;split at h<;>cases h
 rename_i os id;obtain⟨hw,hn⟩:=hp;refine cb Ma3 Tryz.func341 ?_
 intro O r F hO hr hF;cbv
 repeat' first|apply Zb|(apply bC<;>intro hb<;>cbv)|(refine⟨[0,1,7,8],[0],Int,fun i=>[.reg 8 (.j i)],fun i=>0<=i/\i<=((os.length:Nat):Int)/\upto (cY (uK os id)) i,fun i=>(os.length)-i.toNat,⟨0,?_,?_⟩,?_⟩;rotate_left;(focus (cbv;done));intro i hi;replace hi:0<=i/\i<=((os.length:Nat):Int)/\upto (cY (uK os id)) i:=hi;obtain⟨i0,i1,i2⟩:=hi;cbv)|(refine af (O.ar .add Za i 1) ?_ ?_ ?_;focus (cbv;done))
 all_goals(subst hO hr hF;(try simp only[nc]at*);(try simp only[ah,SS,sa,az]at*);(try rw[dd Uc Uc]))
 all_goals first
  | (show(_:List DV)=_
     first
      |exact dH (gx i2 i0 Ud (show uK os id i=true from by assumption)).symm
      |exact dH (fK i2 Ud).symm
      |done)
  |omega
  |exact iB
  |(show(lk _ _).isSome=true;kernel_rfl)
  |exact bI
  |exact bu i2 (rE (show uK os id i=false from by assumption))
  |done
abbrev Ma4:cT:=dG (fun F f=>match f with|341=>aZ F|_=>fun _=>none) (by
 intro f;dsimp only;split;exact cf;exact cX)
def aV:EC:=fun F=>fun
 |[.one (.s 2 os),.fn 280 [[.v (.int Za id)]]]=>some (fun _=>Rw [tI,tI] os/\os.length<=1099511627776,[.k (F.rhB os id)])
 |_=>none
def bZ:ec 279 aV:=by
 intro _ _ _ h hp;dsimp only[aV,F0]at h;split at h<;>cases h
 rename_i os id;refine cb Ma4 Tryz.func279 ?_
 intro O r F hO hr hF;cbv
 repeat' first|apply Zb|(apply bC<;>intro hb<;>cbv)
 all_goals(subst hO hr hF;(try simp only[nc]at*);(try simp only[ah,SS,sa,az]at*))
 all_goals first
  | (show(_:List DV)=_
     first
      |exact aj (ij (by unfold rhB;simp only[SS,VD]))
      |done)
  |exact hp
  |done
abbrev Ma5:cT:=dG (fun F f=>match f with|279=>aV F|_=>fun _=>none) (by
 intro f;dsimp only;split;exact bZ;exact cX)
def eH:EC:=fun F=>fun
 |[.one (.s 2 os),.one (.v (.int Za id))]=>some (fun _=>Rw [tI,tI] os/\os.length<=1099511627776,[.k (F.rhB os id)])
 |_=>none
def xN:ec 171 eH:=by
 intro _ _ _ h hp;dsimp only[eH,F0]at h;split at h<;>cases h
 rename_i os id;refine cb Ma5 Tryz.func171 ?_
 exact agV
def yG:ec 300 eH:=by
 intro _ _ _ h hp;dsimp only[eH,F0]at h;split at h<;>cases h
 rename_i os id;obtain⟨hw,hn⟩:=hp;refine cb nB Tryz.func300 ?_
 intro O r F hO hr hF;cbv
 repeat' first|apply Zb|(apply bC<;>intro hb<;>cbv)|(refine⟨[0,1,5],[],Int,fun i=>[.reg 5 (.j i)],fun i=>0<=i/\i<=((os.length:Nat):Int)/\upto (cY (uK os id)) i,fun i=>(os.length)-i.toNat,⟨0,?_,?_⟩,?_⟩;rotate_left;(focus (cbv;done));intro i hi;replace hi:0<=i/\i<=((os.length:Nat):Int)/\upto (cY (uK os id)) i:=hi;obtain⟨i0,i1,i2⟩:=hi;cbv)|(refine af (O.ar .add Za i 1) ?_ ?_ ?_;focus (cbv;done))
 all_goals(subst hO hr hF;(try simp only[nc]at*);(try simp only[ah,SS,sa,az]at*);(try rw[dd Uc Uc]))
 all_goals first
  | (show(_:List DV)=_
     first
      |(refine aj ?_;symm;exact ab9 i2 i0 Ud Ud Ud)
      |(refine aj ?_;symm;exact afE i2 Uc)
      |done)
  |omega
  |exact iB
  |(show ay _ _=true;kernel_rfl)
  |exact bI
  |exact bu i2 (afC Uc)
  |exact bu i2 (afD Uc)
  |done
abbrev Ma6:cT:=dG (fun F f=>match f with|167=>cI F|296=>cI F|_=>fun _=>none) (by
 intro f;dsimp only;split;exact jP;exact jR;exact cX)
def cH:EC:=fun F=>fun
 |[.agg [.v (.int Za p1),.v (.int Za k1),.v (.int Za b1)],.agg [.v (.int Za p2),.v (.int Za k2),.v (.int Za b2)]]=>some (fun _=>True,[.k (F.mshB p1 k1 b1 p2 k2 b2)])
 |_=>none
def j9:ec 172 cH:=by
 intro _ _ _ h hp;dsimp only[cH,F0]at h;split at h<;>cases h
 rename_i p1 k1 b1 p2 k2 b2;refine cb Ma6 Tryz.func172 ?_
 exact agK
def ki:ec 301 cH:=by
 intro _ _ _ h hp;dsimp only[cH,F0]at h;split at h<;>cases h
 rename_i p1 k1 b1 p2 k2 b2;refine cb Ma6 Tryz.func301 ?_
 exact agK
abbrev Ma7:cT:=dG (fun F f=>match f with|56=>bL F|43=>bL F|_=>fun _=>none) (by
 intro f;dsimp only;split;exact dU;exact gG;exact cX)
def d5:EC:=fun F=>fun
 |[.one (.s 3 qs)]=>some (fun _=>Rw [tI,tI,tI] qs/\qs.length<=1073741824,[.j (F.qcI qs)])
 |_=>none
def vL:ec 160 d5:=by
 intro _ _ _ h hp;dsimp only[d5,F0]at h;split at h<;>cases h
 rename_i qs;obtain⟨hw,hl⟩:=hp;refine cb Ma7 Tryz.func160 ?_
 intro O r F hO hr hF;cbv
 repeat' first|apply Zb|(apply bC<;>intro hb<;>cbv)|(refine⟨[3,6,7,8],[],Int×Int,fun s_=>match s_ with|(i,t)=>[.reg 8 (.j i),.reg 3 (.j t)],fun s_=>match s_ with|(i,t)=>0<=i/\i<=(qs.length:Int)/\Pj qs i t,fun s_=>match s_ with|(i,t)=>qs.length-i.toNat,⟨(0,0),?_,?_⟩,?_⟩;rotate_left;(focus (cbv;done));intro s_ hi;obtain⟨i,t⟩:=s_;replace hi:0<=i/\i<=(qs.length:Int)/\Pj qs i t:=hi;obtain⟨i0,i1,i2⟩:=hi;cbv)|(refine af (O.ar .add Za i 1,O.ar .add Za t (F.clsSz (O.gi qs i 1))) ?_ ?_ ?_;focus (cbv;done))
 all_goals exact agE
def yL:ec 303 d5:=by
 intro _ _ _ h hp;dsimp only[d5,F0]at h;split at h<;>cases h
 rename_i qs;obtain⟨hw,hl⟩:=hp;refine cb Ma7 Tryz.func303 ?_
 intro O r F hO hr hF;cbv
 repeat' first|apply Zb|(apply bC<;>intro hb<;>cbv)|(refine⟨[0,3,4],[],Int×Int,fun s_=>match s_ with|(i,t)=>[.reg 4 (.j i),.reg 3 (.j t)],fun s_=>match s_ with|(i,t)=>0<=i/\i<=(qs.length:Int)/\Pj qs i t,fun s_=>match s_ with|(i,t)=>qs.length-i.toNat,⟨(0,0),?_,?_⟩,?_⟩;rotate_left;(focus (cbv;done));intro s_ hi;obtain⟨i,t⟩:=s_;replace hi:0<=i/\i<=(qs.length:Int)/\Pj qs i t:=hi;obtain⟨i0,i1,i2⟩:=hi;cbv)|(refine af (O.ar .add Za i 1,O.ar .add Za t (F.clsSz (O.gi qs i 1))) ?_ ?_ ?_;focus (cbv;done))
 all_goals exact agE
abbrev Ma8:cT:=dG (fun F f=>match f with|157=>ed F|271=>hH F|92=>ai F|_=>fun _=>none) (by
 intro f;dsimp only;split;exact gg;exact qy;exact bi;exact cX)
def l9:EC:=fun F=>fun
 |[.one (.s 3 b),.agg [.v (.int Za a),.v (.int Za c),.v (.int Za s)]]=>some (fun _=>Rw [tI,tI,tI] b/\b.length<=1073741824,[.k (F.stlOk b a c s)])
 |_=>none
def zY:ec 159 l9:=by
 intro _ _ _ h hp;dsimp only[l9,F0]at h;split at h<;>cases h
 rename_i b a c s;obtain⟨hw,hl⟩:=hp;have hs:bK .sub Za (b.length:Int) 1=b.length-1:=dp Uc;refine cb Ma8 Tryz.func159 ?_
 intro O r F hO hr hF;cbv
 repeat' first|apply Zb|(apply bC<;>intro hb<;>cbv)
 all_goals(subst hO hr hF;(try simp only[nc]at*);(try simp only[ah,SS,sa,az]at*);(try simp only[hs]at*))
 all_goals first|exact iB|(show ay _ _=true;kernel_rfl)|exact⟨hw,Uc⟩|(show(_:List DV)=_;refine aj ?_;unfold stlOk;simp[*,cM];done)|(show(_:List DV)=_;refine aj ?_;unfold stlOk;rw[VC (p:=0<=a) Uc];simp;done)|(show(_:List DV)=_;refine aj ?_;unfold stlOk;rw[VC (p:=0<=s) Uc];simp;done)|(show(_:List DV)=_;refine aj ?_;unfold stlOk;rw[VC (p:=b.length=0) Uc];simp[*,cM];done)|(show(_:List DV)=_;refine aj ?_;unfold stlOk;simp_all;done)|done
def oy:EC:=fun F=>fun
 |[.agg [.v (.int Za a),.v (.int Za c),.v (.int Za s)]]=>some (fun _=>True,[.k (F.staB a c s)])
 |_=>none
def CV:ec 302 oy:=by
 intro _ _ _ h hp;dsimp only[oy,F0]at h;split at h<;>cases h
 rename_i a c s;refine cb Ma8 Tryz.func302 ?_
 intro O r F hO hr hF;cbv
 repeat' first|apply Zb|(apply bC<;>intro hb<;>cbv)
 all_goals(subst hO hr hF;(try simp only[nc]at*);(try simp only[ah,SS,sa,az]at*))
 all_goals first|(show(_:List DV)=_;refine aj ?_;unfold staB;simp[*,cM];done)|(show(_:List DV)=_;refine aj ?_;unfold staB;rw[VC (p:=0<=a) Uc];simp;done)|done
abbrev Ma9:cT:=dG (fun F f=>match f with|33=>ai F|159=>l9 F|160=>d5 F|92=>ai F|302=>oy F|16=>mD F|303=>d5 F|_=>fun _=>none) (by
 intro f;dsimp only;split;exact aU;exact zY;exact vL;exact bi;exact CV;exact AD;exact yL;exact cX)
def fQ:EC:=fun F=>fun
 |[.agg [.v (.int Za rm),.s 3 qs]]=>some (fun _=>Rw [tI,tI,tI] qs/\qs.length<=1073741824,[.k (F.quarOk rm qs)])
 |_=>none
def Cm:ec 65 fQ:=by
 intro _ _ _ h hp;dsimp only[fQ,F0]at h;split at h<;>cases h
 rename_i rm qs;obtain⟨hw,hl⟩:=hp;refine cb Ma9 Tryz.func65 ?_
 intro O r F hO hr hF;cbv
 repeat' first|apply Zb|(apply bC<;>intro hb<;>cbv)|(refine⟨[1,6,7,8],[1],Int,fun i=>[.reg 8 (.j i)],fun i=>0<=i/\i<=((qs.length:Nat):Int)/\upto (G0 qs) i,fun i=>(qs.length)-i.toNat,⟨0,?_,?_⟩,?_⟩;rotate_left;(focus (cbv;done));intro i hi;replace hi:0<=i/\i<=((qs.length:Nat):Int)/\upto (G0 qs) i:=hi;obtain⟨i0,i1,i2⟩:=hi;cbv)|(refine af (O.ar .add Za i 1) ?_ ?_ ?_;focus (cbv;done))
 all_goals(subst hO hr hF;(try simp only[nc]at*);(try simp only[ah,SS,sa,az]at*);(try rw[dd Uc Uc]);(try simp only[wG]at*))
 all_goals first
  | (show(_:List DV)=_
     first
      |(refine aj ?_;symm;exact Kt i0 Ud Ud)
      |(refine aj ?_;rw[N8 i2 Uc];simp[*,cM];done)
      |done)
  |omega
  |exact iB
  |(show ay _ _=true;kernel_rfl)
  |exact⟨hw,hl⟩
  |exact⟨Rw.take hw _,by rw[Zm];omega⟩
  |exact bI
  |exact bu i2 Ud
  |done
def CQ:ec 207 fQ:=by
 intro _ _ _ h hp;dsimp only[fQ,F0]at h;split at h<;>cases h
 rename_i rm qs;obtain⟨hw,hl⟩:=hp;refine cb Ma9 Tryz.func207 ?_
 intro O r F hO hr hF;cbv
 repeat' first|apply Zb|(apply bC<;>intro hb<;>cbv)|(refine⟨[1,3],[1],Int,fun i=>[.reg 3 (.j i)],fun i=>0<=i/\i<=((qs.length:Nat):Int)/\upto (G0 qs) i,fun i=>(qs.length)-i.toNat,⟨0,?_,?_⟩,?_⟩;rotate_left;(focus (cbv;done));intro i hi;replace hi:0<=i/\i<=((qs.length:Nat):Int)/\upto (G0 qs) i:=hi;obtain⟨i0,i1,i2⟩:=hi;cbv)|(refine af (O.ar .add Za i 1) ?_ ?_ ?_;focus (cbv;done))
 all_goals(subst hO hr hF;(try simp only[nc]at*);(try simp only[ah,SS,sa,az]at*);(try rw[dd Uc Uc]);(try simp only[wG]at*);(try have z:=C9 i0 Uc);(try simp only[z]at*))
 all_goals first
  | (show(_:List DV)=_
     first
      |(refine aj ?_;symm;exact Kt i0 Ud (afn Ud))
      |(refine aj ?_;symm;exact Kt i0 Ud (afo Uc Ud Ud))
      |(refine aj ?_;symm;exact Kt i0 Ud (afp Ud))
      |(refine aj ?_;rw[N8 i2 Uc];simp[*,cM];done)
      |(have q:false=true:=Ud;cases q)
      |done)
  |omega
  |exact iB
  |(show ay _ _=true;kernel_rfl)
  |exact⟨hw,hl⟩
  |exact⟨Rw.take hw _,by rw[Zm];omega⟩
  |exact bI
  |exact bu i2 (afq Ud Ud i0 Uc)
  |exact bu i2 (afs Ud Ud Uc Ud Ud)
  |done
def jT:EC:=fun F=>fun
 |[.one (.v (.int Za c))]=>some (fun _=>True,[.k (F.inR c 0 15)])
 |_=>none
def sM:ec 282 jT:=by
 intro _ _ _ h hp;dsimp only[jT,F0]at h;split at h<;>cases h
 rename_i c;refine cb Ma0 Tryz.func282 ?_
 exact agW
def eY:EC:=fun F=>fun
 |[.one (.v (.int Za c))]=>some (fun _=>True,[.k (F.inR c 0 1073741823)])
 |_=>none
def gU:ec 69 eY:=by
 intro _ _ _ h hp;dsimp only[eY,F0]at h;split at h<;>cases h
 rename_i c;refine cb Ma0 Tryz.func69 ?_
 exact agW
abbrev Mb1:cT:=dG (fun F f=>match f with|33=>ai F|282=>jT F|92=>ai F|_=>fun _=>none) (by
 intro f;dsimp only;split;exact aU;exact sM;exact bi;exact cX)
def dR:EC:=fun F=>fun
 |[.agg [.v (.int Za k),.v (.int Za m),.s 1 cs]]=>some (fun _=>Rw [tI] cs/\cs.length<=1099511627776,[.k (F.plOk k m cs)])
 |_=>none
def sL:ec 178 dR:=by
 intro _ _ _ h hp;dsimp only[dR,F0]at h;split at h<;>cases h
 rename_i k m cs;obtain⟨hw,hl⟩:=hp;refine cb Mb1 Tryz.func178 ?_
 intro O r F hO hr hF;cbv
 repeat' first|apply Zb|(apply bC<;>intro hb<;>cbv)|(refine⟨[1,6,7,8],[1],Int,fun i=>[.reg 8 (.j i)],fun i=>0<=i/\i<=((cs.length:Nat):Int)/\upto (IS cs) i,fun i=>(cs.length)-i.toNat,⟨0,?_,?_⟩,?_⟩;rotate_left;(focus (cbv;done));intro i hi;replace hi:0<=i/\i<=((cs.length:Nat):Int)/\upto (IS cs) i:=hi;obtain⟨i0,i1,i2⟩:=hi;cbv)|(refine af (O.ar .add Za i 1) ?_ ?_ ?_;focus (cbv;done))
 all_goals(subst hO hr hF;(try simp only[nc]at*);(try simp only[ah,SS,sa,az]at*);(try rw[dd Uc Uc]);(try have z:=C9 i0 Uc);(try simp only[z]at*))
 all_goals first
  | (show(_:List DV)=_
     first
      |(refine aj ?_;symm;exact N4 i0 Ud Ud)
      |(refine aj ?_;symm;exact N5 i0 Ud Uc Ud)
      |(refine aj ?_;rw[Fq i2 Uc];simp[*,cM];done)
      |(refine aj ?_;rw[Fq i2 Uc,EK];simp[*];done)
      |(have q:false=true:=Ud;cases q)
      |done)
  |omega
  |exact iB
  |exact bI
  |exact bu i2 (Ko Ud Uc)
  |exact bu i2 (Kp Ud Ud)
  |done
def sO:ec 308 dR:=by
 intro _ _ _ h hp;dsimp only[dR,F0]at h;split at h<;>cases h
 rename_i k m cs;obtain⟨hw,hl⟩:=hp;refine cb Mb1 Tryz.func308 ?_
 intro O r F hO hr hF;cbv
 repeat' first|apply Zb|(apply bC<;>intro hb<;>cbv)|(refine⟨[1,3],[1],Int,fun i=>[.reg 3 (.j i)],fun i=>0<=i/\i<=((cs.length:Nat):Int)/\upto (IS cs) i,fun i=>(cs.length)-i.toNat,⟨0,?_,?_⟩,?_⟩;rotate_left;(focus (cbv;done));intro i hi;replace hi:0<=i/\i<=((cs.length:Nat):Int)/\upto (IS cs) i:=hi;obtain⟨i0,i1,i2⟩:=hi;cbv)|(refine af (O.ar .add Za i 1) ?_ ?_ ?_;focus (cbv;done))
 all_goals(subst hO hr hF;(try simp only[nc]at*);(try simp only[ah,SS,sa,az]at*);(try rw[dd Uc Uc]);(try have z:=C9 i0 Uc);(try simp only[z]at*))
 all_goals first
  | (show(_:List DV)=_
     first
      |(refine aj ?_;symm;exact N4 i0 Ud Ud)
      |(refine aj ?_;symm;exact N5 i0 Ud Uc Ud)
      |(refine aj ?_;rw[Fq i2 Uc];simp[*,cM];done)
      |(refine aj ?_;rw[Fq i2 Uc,EK];simp[*];done)
      |(have q:false=true:=Ud;cases q)
      |done)
  |omega
  |exact iB
  |(show ay _ _=true;kernel_rfl)
  |exact bI
  |exact bu i2 (Ko Ud Uc)
  |exact bu i2 (Kp Ud Ud)
  |done
abbrev Mb2:cT:=dG (fun F f=>match f with|178=>dR F|33=>ai F|308=>dR F|92=>ai F|_=>fun _=>none) (by
 intro f;dsimp only;split;exact sL;exact aU;exact sO;exact bi;exact cX)
def eQ:EC:=fun F=>fun
 |[.agg [.v (.int Za k),.v (.int Za m),.s 1 cs,.v (.int Za ph),.v (.int Za nx)]]=>some (fun _=>Rw [tI] cs/\cs.length<=1099511627776,[.k (F.jbOk k m cs ph nx)])
 |_=>none
def tL:ec 70 eQ:=by
 intro _ _ _ h hp;dsimp only[eQ,F0]at h;split at h<;>cases h
 rename_i k m cs ph nx;refine cb Mb2 Tryz.func70 ?_
 exact agT
def uo:ec 212 eQ:=by
 intro _ _ _ h hp;dsimp only[eQ,F0]at h;split at h<;>cases h
 rename_i k m cs ph nx;refine cb Mb2 Tryz.func212 ?_
 exact agT
abbrev Mb3:cT:=dG (fun F f=>match f with|157=>ed F|33=>ai F|56=>bL F|92=>ai F|43=>bL F|297=>eZ F|_=>fun _=>none) (by
 intro f;dsimp only;split;exact gg;exact aU;exact dU;exact bi;exact gG;exact gV;exact cX)
def fA:EC:=fun F=>fun
 |[.agg [.s 1 ls]]=>some (fun _=>NsL ls,[.k (F.caOk ls)])
 |_=>none
def AA:ec 208 fA:=by
 intro _ _ _ h hp;dsimp only[fA,F0]at h;split at h<;>cases h
 rename_i ls;have hw:=hp.w;have hl:=hp.l;have hn:=hp.n;refine cb Mb3 Tryz.func208 ?_
 intro O r F hO hr hF;cbv
 repeat' first|apply Zb|(apply bC<;>intro hb<;>cbv)|(refine⟨[1,3,4],[1,3],Int×ab,fun s_=>match s_ with|(i,o)=>[.reg 4 (.j i),.reg 3 (.one (.vw 3 0 0 0 (O.ln o))),.leaf 3 0 ⟨0,0,none,.own (.s 1 o)⟩],fun s_=>match s_ with|(i,o)=>0<=i/\i<=4/\ScP ls i o,fun s_=>match s_ with|(i,o)=>(4-i).toNat,⟨(0,[]),?_,?_⟩,?_⟩;rotate_left;(focus (cbv;done));intro s_ hi;obtain⟨i,o⟩:=s_;replace hi:0<=i/\i<=4/\ScP ls i o:=hi;obtain⟨i0,i1,i2⟩:=hi;cbv)|(refine⟨[1,3,4,5],[1,3],Int×ab,fun s_=>match s_ with|(k,o1)=>[.reg 5 (.j k),.reg 3 (.one (.vw 3 0 0 0 (O.ln o1))),.leaf 3 0 ⟨0,0,none,.own (.s 1 o1)⟩],fun s_=>match s_ with|(k,o1)=>0<=k/\k<=((aw ls i 0).length:Int)/\RD ls i k o1,fun s_=>match s_ with|(k,o1)=>(aw ls i 0).length-k.toNat,⟨(0,o),?_,?_⟩,?_⟩;rotate_left;(focus (cbv;done));intro s_ hk;obtain⟨k,o1⟩:=s_;replace hk:0<=k/\k<=((aw ls i 0).length:Int)/\RD ls i k o1:=hk;obtain⟨k0,k1,k2⟩:=hk;cbv)|(refine af (O.ar .add Za k 1,O.cat o1 (O.sub [[.i (O.gi (O.gs ls i 0) k 0)]] 0 (O.ln [[.i (O.gi (O.gs ls i 0) k 0)]]))) ?_ ?_ ?_;focus (cbv;done))|(refine af (O.ar .add Za i 1,o1) ?_ ?_ ?_;focus (cbv;done))
 all_goals(subst hO hr hF;(try simp only[nc]at*);(try simp only[ah,SS,sa,az]at*);(try rw[dd Uc Uc]);(try have z6:bK .add Za k 1=k+1:=bD (by have:=hn i;omega));(try simp only[z6]at*);(try have w1:=acg k2 k0);(try have w2:=hp.el i0 Uc);(try have w3:=w2.1))
 all_goals first
  | (show(_:List DV)=_
     first
      |(refine aj ?_;symm;exact EH Ud)
      |(refine aj ?_;symm;exact Mc i0 Uc Uc)
      |(refine aj ?_;symm;exact EI i0 Uc k0 Ud (RP Ud))
      |(refine aj ?_;symm;exact EI i0 Uc k0 Ud (RQ Ud))
      |(refine aj ?_;symm;exact acf k2 i0 k0 Ud Ud)
      |(refine aj ?_;symm;exact Md i2.p Uc Uc)
      |done)
  |omega
  |exact iB
  |exact w1.2
  |(constructor<;>(simp only[Zp,Zt];omega))
  |(have c:=(lW (bz.2 (by omega:0<=i/\i<=3))).1;omega)
  |exact afR k2 k0 Ud Ud Ud
  |exact afQ k2 i0 k1 Uc
  |exact aiB i2 i0 Uc Uc
  |exact aiA
  |exact⟨Zd,Zd⟩
  |done
def zO:ec 66 fA:=by
 intro _ _ _ h hp;dsimp only[fA,F0]at h;split at h<;>cases h
 rename_i ls;have hw:=hp.w;have hl:=hp.l;have hn:=hp.n;refine cb Mb3 Tryz.func66 ?_
 intro O r F hO hr hF;cbv
 repeat' first|apply Zb|(apply bC<;>intro hb<;>cbv)|(refine⟨[1,3,10,11,12],[1,8],Int×ab,fun s_=>match s_ with|(i,es)=>[.reg 12 (.j i),.leaf 8 0 ⟨0,0,none,.own (.m true es)⟩],fun s_=>match s_ with|(i,es)=>0<=i/\i<=(ls.length:Int)/\HR ls i es,fun s_=>match s_ with|(i,es)=>ls.length-i.toNat,⟨(0,[]),?_,?_⟩,?_⟩;rotate_left;(focus (cbv;done));intro s_ hi;obtain⟨i,es⟩:=s_;replace hi:0<=i/\i<=(ls.length:Int)/\HR ls i es:=hi;obtain⟨i0,i1,i2⟩:=hi;cbv)|(refine⟨[1,3,4,10,11,12,25,26,27],[1,8],Int×ab,fun s_=>match s_ with|(k,es1)=>[.reg 27 (.j k),.leaf 8 0 ⟨0,0,none,.own (.m true es1)⟩],fun s_=>match s_ with|(k,es1)=>0<=k/\k<=((aw ls i 0).length:Int)/\HS ls i k es1,fun s_=>match s_ with|(k,es1)=>(aw ls i 0).length-k.toNat,⟨(0,es),?_,?_⟩,?_⟩;rotate_left;(focus (cbv;done));intro s_ hk;obtain⟨k,es1⟩:=s_;replace hk:0<=k/\k<=((aw ls i 0).length:Int)/\HS ls i k es1:=hk;obtain⟨k0,k1,k2⟩:=hk;cbv)|(refine af (O.ar .add Za k 1,O.mu es1 (O.gi (O.gs ls i 0) k 0) (.v (.bool true))) ?_ ?_ ?_;focus (cbv;done))|(refine af (O.ar .add Za i 1,es1) ?_ ?_ ?_;focus (cbv;done))
 all_goals(subst hO hr hF;(try simp only[nc]at*);(try simp only[ah,SS,sa,az]at*);(try rw[dd Uc Uc]);(try have z6:bK .add Za k 1=k+1:=bD (by have:=hn i;omega));(try simp only[z6]at*);(try have w2:=hp.el i0 Uc);(try have w3:=w2.1);(try have w4:=k2.p.l))
 all_goals first
  | (show(_:List DV)=_
     first
      |(refine aj ?_;exact aak i2.p i1 Uc)
      |(refine aj ?_;symm;exact Qa i2 i0 Uc Ud)
      |(refine aj ?_;symm;exact Qb i2 i0 Ud Ud)
      |(refine aj ?_;symm;exact EI i0 Uc k0 Ud (RP Ud))
      |(refine aj ?_;symm;exact EI i0 Uc k0 Ud (RQ Ud))
      |(refine aj ?_;symm;exact Qc k2 i0 k0 Ud Ud)
      |done)
  |omega
  |exact iB
  |(have c:=(lW (bz.2 (by omega:0<=i/\i<=3))).1;omega)
  |exact aaV k2 k0 Ud Ud Ud
  |exact aaU k2 i0 k1 Uc
  |exact adE i2 i0 Ud Uc
  |exact adD
  |done
def ku:EC:=fun F=>fun
 |[.agg [.v (.int Za d0),.v (.int Za d1),.v (.int Za d2),.v (.int Za d3)],.ptr [.v (.int Za e0),.v (.int Za e1),.v (.int Za e2),.v (.int Za e3)]]=>some (fun _=>True,[.k (F.eqB d0 e0)])
 |_=>none
def xV:ec 174 ku:=by
 intro _ _ _ h hp;dsimp only[ku,F0]at h;split at h<;>cases h
 rename_i d0 d1 d2 d3 e0 e1 e2 e3;refine cb nB Tryz.func174 ?_
 exact agQ
abbrev Na1:cT:=dG (fun F f=>match f with|174=>ku F|_=>fun _=>none) (by
 intro f;dsimp only;split;exact xV;exact cX)
def be:EC:=fun F=>fun
 |[.one (.s 4 os),.fn 174 [[.v (.int Za e0),.v (.int Za e1),.v (.int Za e2),.v (.int Za e3)]]]=>some (fun _=>Rw [tI,tI,tI,tI] os/\os.length<=1099511627776,[.j (F.oiI os e0)])
 |_=>none
def cu:ec 151 be:=by
 intro _ _ _ h hp;dsimp only[be,F0]at h;split at h<;>cases h
 rename_i os e0 e1 e2 e3;obtain⟨hw,hn⟩:=hp;refine cb Na1 Tryz.func151 ?_
 intro O r F hO hr hF;cbv
 repeat' first|apply Zb|(apply bC<;>intro hb<;>cbv)|(refine⟨[0,1,7,8],[0],Int,fun i=>[.reg 8 (.j i)],fun i=>0<=i/\i<=((os.length:Nat):Int)/\upto (cY (Io os e0)) i,fun i=>(os.length)-i.toNat,⟨0,?_,?_⟩,?_⟩;rotate_left;(focus (cbv;done));intro i hi;replace hi:0<=i/\i<=((os.length:Nat):Int)/\upto (cY (Io os e0)) i:=hi;obtain⟨i0,i1,i2⟩:=hi;cbv)|(refine af (O.ar .add Za i 1) ?_ ?_ ?_;focus (cbv;done))
 all_goals(subst hO hr hF;(try simp only[nc]at*);(try simp only[ah,SS,sa,az]at*);(try rw[dd Uc Uc]))
 all_goals first
  | (show(_:List DV)=_
     first
      |exact dH (gx i2 i0 Ud (show Io os e0 i=true from by assumption)).symm
      |exact dH (fK i2 Ud).symm
      |done)
  |omega
  |exact iB
  |(show(lk _ _).isSome=true;kernel_rfl)
  |exact bI
  |exact bu i2 (rE (show Io os e0 i=false from by assumption))
  |done
abbrev Na2:cT:=dG (fun F f=>match f with|151=>be F|_=>fun _=>none) (by
 intro f;dsimp only;split;exact cu;exact cX)
def aX:EC:=fun F=>fun
 |[.one (.s 4 os),.fn 174 [[.v (.int Za e0),.v (.int Za e1),.v (.int Za e2),.v (.int Za e3)]]]=>some (fun _=>Rw [tI,tI,tI,tI] os/\os.length<=1099511627776,[.k (F.oiB os e0)])
 |_=>none
def cd:ec 173 aX:=by
 intro _ _ _ h hp;dsimp only[aX,F0]at h;split at h<;>cases h
 rename_i os e0 e1 e2 e3;refine cb Na2 Tryz.func173 ?_
 intro O r F hO hr hF;cbv
 repeat' first|apply Zb|(apply bC<;>intro hb<;>cbv)
 all_goals(subst hO hr hF;(try simp only[nc]at*);(try simp only[ah,SS,sa,az]at*))
 all_goals first
  | (show(_:List DV)=_
     first
      |exact aj (ij (by unfold oiB;simp only[SS,VD]))
      |done)
  |exact hp
  |done
abbrev Na3:cT:=dG (fun F f=>match f with|33=>ai F|173=>aX F|162=>iK F|38=>fh F|92=>ai F|304=>gu F|42=>fh F|_=>fun _=>none) (by
 intro f;dsimp only;split;exact aU;exact cd;exact qW;exact zP;exact bi;exact lS;exact AB;exact cX)
def fS:EC:=fun F=>fun
 |[.agg hl_]=>hL hl_ fun a0 a1 a2 a3 a4 a5 a6 a7 a8 a9 aA aB aC aD aE aF aG aH aI aJ aK aL aM aN=>(fun _=>Pi a6 a7 a8 a9 aA aB aD/\layOk a6 a7=true,[.k (F.objOk a6 a7 a8 a9 aH)])
 |_=>none
def Cp:ec 67 fS:=by
 intro _ _ _ h hp;dsimp only[fS,F0,hL]at h;split at h;rotate_left;cases h;split at h<;>cases h
 rename_i a0 a1 a2 a3 a4 a5 a6 a7 a8 a9 aA aB aC aD aE aF aG aH aI aJ aK aL aM aN;obtain⟨N,hlay⟩:=hp;have how:=N.ow;have hol:=N.ol;have hsw:=N.sw;have hlw:=N.lw;have hsl:=N.sl;have hll:=N.ll;have hcl:=N.cl;have hlc:=aS (es:=a9);have hsb:bK .sub Za (a9.length:Int) 1=a9.length-1:=dp Uc;refine cb Na3 Tryz.func67 ?_
 intro O r F hO hr hF;cbv
 repeat' first|apply Zb|(apply bC<;>intro hb<;>cbv)|(refine⟨[1,9,10,11],[1],Int,fun i=>[.reg 11 (.j i)],fun i=>0<=i/\i<=((a8.length:Nat):Int)/\upto (DN a6 a7 a8 a9 aH) i,fun i=>(a8.length)-i.toNat,⟨0,?_,?_⟩,?_⟩;rotate_left;(focus (cbv;done));intro i hi;replace hi:0<=i/\i<=((a8.length:Nat):Int)/\upto (DN a6 a7 a8 a9 aH) i:=hi;obtain⟨i0,i1,i2⟩:=hi;cbv)|(refine af (O.ar .add Za i 1) ?_ ?_ ?_;focus (cbv;done))
 all_goals(subst hO hr hF;(try simp only[nc]at*);(try simp only[ah,SS,sa,az]at*);(try rw[dd Uc Uc]);(try have z:=C9 i0 Uc);(try simp only[z,hsb,wG]at*);(try have d1:=fun h=>JG (sp:=a6) (lg:=a7) (a:=ag a8 i 1) h);(try have d3:=fun h=>R2 (sp:=a6) (lg:=a7) (a:=ag a8 i 1) h))
 all_goals first
  |(exfalso;omega)
  | (show(_:List DV)=_
     first
      |(refine aj ?_;symm;exact qK i0 Ud (Tm Ud Ud))
      |(refine aj ?_;symm;exact qK i0 Ud (Tn Ud))
      |(refine aj ?_;symm;exact qK i0 Ud (To Ud))
      |(refine aj ?_;symm;exact qK i0 Ud (Tp Ud))
      |(refine aj ?_;symm;exact qK i0 Ud (Kh (Tq Ud)))
      |(refine aj ?_;symm;exact qK i0 Ud (Kh (aeZ (by first|exact .inl Ud|exact .inr Ud|exact .inl Uc) (by first|exact .inl Ud|exact .inr Ud|exact .inl Uc))))
      |(refine aj ?_;symm;exact NO i2 Uc)
      |(have q:false=true:=Ud;cases q)
      |done)
  |omega
  |exact iB
  |(show ay _ _=true;kernel_rfl)
  |exact⟨hsw,hlw⟩
  |exact⟨Rw.take how _,by rw[Zm];omega⟩
  |exact bI
  |exact bu i2 (QA (by first|exact .inl Uc|exact .inr Ud) Ud Ud Ud (Ts Ud Ud Ud))
  |exact bu i2 (QA (by first|exact .inl Uc|exact .inr Ud) Ud Ud Ud (Tt Ud Ud Ud))
  |(have q:false=true:=Ud;cases q)
  |done
def AS:ec 209 fS:=by
 intro _ _ _ h hp;dsimp only[fS,F0,hL]at h;split at h;rotate_left;cases h;split at h<;>cases h
 rename_i a0 a1 a2 a3 a4 a5 a6 a7 a8 a9 aA aB aC aD aE aF aG aH aI aJ aK aL aM aN;obtain⟨N,hlay⟩:=hp;have how:=N.ow;have hol:=N.ol;have hsw:=N.sw;have hlw:=N.lw;have hsl:=N.sl;have hll:=N.ll;have hcl:=N.cl;have hlc:=aS (es:=a9);have hsb:bK .sub Za (a9.length:Int) 1=a9.length-1:=dp Uc;refine cb Na3 Tryz.func209 ?_
 intro O r F hO hr hF;cbv
 repeat' first|apply Zb|(apply bC<;>intro hb<;>cbv)|(refine⟨[1,3],[1],Int,fun i=>[.reg 3 (.j i)],fun i=>0<=i/\i<=(a8.length:Int)/\upto (DN a6 a7 a8 a9 aH) i,fun i=>a8.length-i.toNat,⟨0,?_,?_⟩,?_⟩;rotate_left;(focus (cbv;done));intro i hi;replace hi:0<=i/\i<=(a8.length:Int)/\upto (DN a6 a7 a8 a9 aH) i:=hi;obtain⟨i0,i1,i2⟩:=hi;cbv)|(refine⟨[1,3,4,5],[1,4],Int,fun k=>[.reg 5 (.j k)],fun k=>0<=k/\k<=i/\upto (fun j=> !eqB (ag a8 j 0) (ag a8 i 0)) k,fun k=>(i-k).toNat,⟨0,?_,?_⟩,?_⟩;rotate_left;(focus (cbv;done));intro k hk;replace hk:0<=k/\k<=i/\upto (fun j=> !eqB (ag a8 j 0) (ag a8 i 0)) k:=hk;obtain⟨k0,k1,k2⟩:=hk;cbv)|(refine af (O.ar .add Za k 1) ?_ ?_ ?_;focus (cbv;done))|(refine af (O.ar .add Za i 1) ?_ ?_ ?_;focus (cbv;done))
 all_goals(subst hO hr hF;(try simp only[nc]at*);(try simp only[ah,SS,sa,az]at*);(try rw[dd Uc Uc]);(try have z:=C9 i0 Uc);(try simp only[z,hsb]at*);(try simp only[R4 hlay,R5 hlay,R6 hlay]at*);(try have z6:bK .add Za k 1=k+1:=bD Uc);(try simp only[z6]at*);(try have d1:=fun h=>JG (sp:=a6) (lg:=a7) (a:=ag a8 i 1) h);(try have d3:=fun h=>R2 (sp:=a6) (lg:=a7) (a:=ag a8 i 1) h);(try have d4:=aeY (os:=a8) (i:=i) k2 Uc i0))
 all_goals first
  |(exfalso;omega)
  | (show(_:List DV)=_
     first
      |(refine aj ?_;symm;exact qK i0 Ud (Tm Ud Ud))
      |(refine aj ?_;symm;exact qK i0 Ud (Tn Ud))
      |(refine aj ?_;symm;exact qK i0 Ud (To Ud))
      |(refine aj ?_;symm;exact qK i0 Ud (Tp (abV k0 Ud Ud Ud)))
      |(refine aj ?_;symm;exact qK i0 Ud (Kh (Tq Ud)))
      |(refine aj ?_;symm;exact qK i0 Ud (Kh (aeZ (by first|exact .inl Ud|exact .inr Ud|exact .inl Uc) (by first|exact .inl Ud|exact .inr Ud|exact .inl Uc))))
      |(refine aj ?_;symm;exact NO i2 Uc)
      |(have q:false=true:=Ud;cases q)
      |done)
  |omega
  |exact iB
  |(show ay _ _=true;kernel_rfl)
  |exact⟨hsw,hlw,hsl,hll,Dw how rfl Uc⟩
  |exact bI
  |exact bu k2 (by show(!eqB _ _)=true;rw[Gv Ud];rfl)
  |exact bu i2 (QA (by first|exact .inl Uc|exact .inr Ud) Ud Ud Ud (Ts Ud Ud Ud))
  |exact bu i2 (QA (by first|exact .inl Uc|exact .inr Ud) Ud Ud Ud (Tt Ud Ud Ud))
  |(have q:false=true:=Ud;cases q)
  |done
abbrev Oa1:cT:=dG (fun F f=>match f with|162=>iK F|304=>gu F|_=>fun _=>none) (by
 intro f;dsimp only;split;exact qW;exact lS;exact cX)
def ia:EP:=fun F=>fun
 |[.one (.v (.int Za ad)),.one (.v (.int Za k)),.mp [.own (.m false es)],.mp [.ro (.s 1 a0),.ro (.s 1 a1),.ro (.s 2 a2),.own (.v (.int Za a3)),.ro (.s 1 a4),.ro (.s 2 a5),.ro (.s 3 a6),.ro (.s 3 a7),.ro (.s 4 a8),.ro (.s 1 a9),.ro (.s 1 aA),.ro (.s 1 aB),.own (.v (.int Za aC)),.ro (.s 3 aD),.own (.v (.int Za aE)),.own (.v (.int Za aF)),.own (.v (.int Za aG)),.own (.v (.int Za aH)),.own (.v (.bool aI)),.own (.v (.int Za aJ)),.own (.v (.int Za aK)),.ro (.s 1 aL),.own (.v (.int Za aM)),.own (.v (.int Za aN))]]=>some (fun _=>Rw [tI,tI,tI] a6/\Rw [tI,tI,tI] a7,[[.own (.m false (F.huI es ad))],[.ro (.s 1 a0),.ro (.s 1 a1),.ro (.s 2 a2),.own (.i a3),.ro (.s 1 a4),.ro (.s 2 a5),.ro (.s 3 a6),.ro (.s 3 a7),.ro (.s 4 a8),.ro (.s 1 a9),.ro (.s 1 aA),.ro (.s 1 aB),.own (.i aC),.ro (.s 3 aD),.own (.i aE),.own (.i aF),.own (.i aG),.own (.i aH),.own (.v (.bool aI)),.own (.i aJ),.own (.i aK),.ro (.s 1 aL),.own (.i aM),.own (.i aN)]],[.k (F.hlB a6 a7 ad k)])
 |_=>none
def s7:ep 175 ia:=by
 intro _ _ _ _ h hp;dsimp only[ia,F0]at h;split at h<;>cases h
 rename_i ad k es a0 a1 a2 a3 a4 a5 a6 a7 a8 a9 aA aB aC aD aE aF aG aH aI aJ aK aL aM aN;obtain⟨hsw,hlw⟩:=hp;refine pb Oa1 Tryz.func175 ?_
 intro O r os F hO hr hos hF;cbv
 repeat' first|apply Zb|(apply bC<;>intro hb<;>cbv)
 all_goals((try subst hos);subst hO hr hF;(try simp only[nc]at*);(try simp only[ah,SS,sa,az]at*);(try have d1:=fun h=>JG (sp:=a6) (lg:=a7) (a:=ad) h))
 all_goals first|(show(_:List DV)=_;refine aj ?_;unfold hlB;simp[*];done)|(show(_:List DV)=_;refine aj ?_;unfold hlB;rw[VC (p:=k<0) Uc,cmp_eq];simp[*];done)|(show(_:List H)=_;exact rfl)|exact⟨hsw,hlw⟩|(have e:=d1 Ud;exact iB)|done
def mJ:EC:=fun F=>fun
 |[.agg hl_,.one (.v (.int Za ad)),.one (.v (.int Za k))]=>hL hl_ fun a0 a1 a2 a3 a4 a5 a6 a7 a8 a9 aA aB aC aD aE aF aG aH aI aJ aK aL aM aN=>(fun _=>Pi a6 a7 a8 a9 aA aB aD/\layOk a6 a7=true/\ -9223372036854775808<=ad/\ad<=9223372036854775807,[.k (F.hlB a6 a7 ad k)])
 |_=>none
def AU:ec 305 mJ:=by
 intro _ _ _ h hp;dsimp only[mJ,F0,hL]at h;split at h;rotate_left;cases h;split at h<;>cases h
 rename_i ad k _ a0 a1 a2 a3 a4 a5 a6 a7 a8 a9 aA aB aC aD aE aF aG aH aI aJ aK aL aM aN;obtain⟨N,hlay,ad0,ad1⟩:=hp;have hsw:=N.sw;have hlw:=N.lw;have hsl:=N.sl;have hll:=N.ll;refine cb Oa1 Tryz.func305 ?_
 intro O r F hO hr hF;cbv
 repeat' first|apply Zb|(apply bC<;>intro hb<;>cbv)
 all_goals(subst hO hr hF;(try simp only[nc]at*);(try simp only[ah,SS,sa,az]at*);(try simp only[R4 hlay,R5 hlay,R6 hlay]at*);(try have d1:=fun h=>JG (sp:=a6) (lg:=a7) (a:=ad) h))
 all_goals first|(show(_:List DV)=_;refine aj ?_;unfold hlB;simp[*];done)|(show(_:List DV)=_;refine aj ?_;unfold hlB;rw[VC (p:=k<0) Uc,cmp_eq];simp[*];done)|exact⟨hsw,hlw,hsl,hll,ad0,ad1⟩|(have e:=d1 Ud;exact iB)|done
abbrev Oa2:cT:={
 Φ:=sF
 F0:=F0
 ct:=fun F f=>match f with|176=>eD F|177=>jt F|_=>fun _=>none
 hc:=(by
  intro f;dsimp only;split;exact xI;exact vD;exact cX)
 pt:=fun F f=>match f with|175=>some (ia F)|_=>none
 hp:=(by
  intro f mk h;dsimp only at h;split at h<;>cases h
  exact s7)}
def jv:EC:=fun F=>fun
 |[.agg hl_]=>hL hl_ fun a0 a1 a2 a3 a4 a5 a6 a7 a8 a9 aA aB aC aD aE aF aG aH aI aJ aK aL aM aN=>(fun _=>Pi a6 a7 a8 a9 aA aB aD/\layOk a6 a7=true,[.k (F.hoI a6 a7 a8 a9 aA aB aD aF)])
 |_=>none
def vK:ec 68 jv:=by
 intro _ _ _ h hp;dsimp only[jv,F0,hL]at h;split at h;rotate_left;cases h;split at h<;>cases h
 rename_i a0 a1 a2 a3 a4 a5 a6 a7 a8 a9 aA aB aC aD aE aF aG aH aI aJ aK aL aM aN;obtain⟨N,hlay⟩:=hp;have hsw:=N.sw;have hlw:=N.lw;have hsl:=N.sl;have hll:=N.ll;have how:=N.ow;have hol:=N.ol;have hcw:=N.cw;have hcl:=N.cl;have hqw:=N.qw;have hql:=N.ql;have hcc:=N.c;have hlc:=aS (es:=a9);have hfr:=MQ N.m;have hfl:=Ik (b:=aA) (x:=aB);have hlr:=adY (sp:=a6) (lg:=a7);have hla:=M4 (sp:=a6) (lg:=a7);refine cb Oa2 Tryz.func68 ?_
 intro O r F hO hr hF;cbv
 repeat' first|apply Zb|(apply bC<;>intro hb<;>cbv)|(refine⟨[1,3,4,22,23,24],[1,3],Int×ab,fun s_=>match s_ with|(i,es)=>[.reg 24 (.j i),.leaf 3 0 ⟨0,0,none,.own (.m false es)⟩],fun s_=>match s_ with|(i,es)=>0<=i/\i<=(a9.length:Int)/\HiP a6 a7 a9 i es,fun s_=>match s_ with|(i,es)=>a9.length-i.toNat,⟨(0,[]),?_,?_⟩,?_⟩;rotate_left;(focus (cbv;done));intro s_ hi;obtain⟨i,es⟩:=s_;replace hi:0<=i/\i<=(a9.length:Int)/\HiP a6 a7 a9 i es:=hi;obtain⟨i0,i1,i2⟩:=hi;cbv)|(refine⟨[1,3,4,22,23,24,29,30,31],[1,3],Int×ab,fun s_=>match s_ with|(k,es1)=>[.reg 31 (.j k),.leaf 3 0 ⟨0,0,none,.own (.m false es1)⟩],fun s_=>match s_ with|(k,es1)=>0<=k/\k<=((aw a9 i 0).length:Int)/\HkP a6 a7 a9 i k es1,fun s_=>match s_ with|(k,es1)=>(aw a9 i 0).length-k.toNat,⟨(0,es),?_,?_⟩,?_⟩;rotate_left;(focus (cbv;done));intro s_ hk;obtain⟨k,es1⟩:=s_;replace hk:0<=k/\k<=((aw a9 i 0).length:Int)/\HkP a6 a7 a9 i k es1:=hk;obtain⟨k0,k1,k2⟩:=hk;cbv)|(refine⟨[1,3,4,7,22,23,24,29,30,31,36,37,38],[1,3],Int×ab,fun s_=>match s_ with|(j,es2)=>[.reg 38 (.j j),.leaf 3 0 ⟨0,0,none,.own (.m false es2)⟩],fun s_=>match s_ with|(j,es2)=>0<=j/\j<=((aw (aw a9 i 0) k 0).length:Int)/\HjP a6 a7 a9 i k j es2,fun s_=>match s_ with|(j,es2)=>(aw (aw a9 i 0) k 0).length-j.toNat,⟨(0,es1),?_,?_⟩,?_⟩;rotate_left;(focus (cbv;done));intro s_ hj;obtain⟨j,es2⟩:=s_;replace hj:0<=j/\j<=((aw (aw a9 i 0) k 0).length:Int)/\HjP a6 a7 a9 i k j es2:=hj;obtain⟨j0,j1,j2⟩:=hj;cbv)|(refine⟨[1,3,4,52,53,54],[1,3],Int×ab,fun s_=>match s_ with|(q,es3)=>[.reg 54 (.j q),.leaf 3 0 ⟨0,0,none,.own (.m false es3)⟩],fun s_=>match s_ with|(q,es3)=>0<=q/\q<=(aD.length:Int)/\HqP a6 a7 a9 aD aF q es3,fun s_=>match s_ with|(q,es3)=>aD.length-q.toNat,⟨(0,es),?_,?_⟩,?_⟩;rotate_left;(focus (cbv;done));intro s_ hq;obtain⟨q,es3⟩:=s_;replace hq:0<=q/\q<=(aD.length:Int)/\HqP a6 a7 a9 aD aF q es3:=hq;obtain⟨q0,q1,q2⟩:=hq;cbv)|(refine⟨[1,3,4,75,76,77],[1,3,75],Int×ab,fun s_=>match s_ with|(f,es4)=>[.reg 77 (.j f),.leaf 3 0 ⟨0,0,none,.own (.m false es4)⟩],fun s_=>match s_ with|(f,es4)=>0<=f/\f<=((ifL aA aB).length:Int)/\HfP a6 a7 a9 aD (ifL aA aB) aF f es4,fun s_=>match s_ with|(f,es4)=>(ifL aA aB).length-f.toNat,⟨(0,es3),?_,?_⟩,?_⟩;rotate_left;(focus (cbv;done));intro s_ hf;obtain⟨f,es4⟩:=s_;replace hf:0<=f/\f<=((ifL aA aB).length:Int)/\HfP a6 a7 a9 aD (ifL aA aB) aF f es4:=hf;obtain⟨f0,f1,f2⟩:=hf;cbv)|(refine⟨[1,3,87,88,89],[1,3],Int×ab,fun s_=>match s_ with|(p,es5)=>[.reg 89 (.j p),.leaf 3 0 ⟨0,0,none,.own (.m false es5)⟩],fun s_=>match s_ with|(p,es5)=>0<=p/\p<=(a8.length:Int)/\HoP a6 a7 a8 a9 aD (ifL aA aB) aF p es5,fun s_=>match s_ with|(p,es5)=>a8.length-p.toNat,⟨(0,es4),?_,?_⟩,?_⟩;rotate_left;(focus (cbv;done));intro s_ hp;obtain⟨p,es5⟩:=s_;replace hp:0<=p/\p<=(a8.length:Int)/\HoP a6 a7 a8 a9 aD (ifL aA aB) aF p es5:=hp;obtain⟨p0,p1,p2⟩:=hp;cbv)|(refine⟨[3,103,104,105],[3,103],Int×ab,fun s_=>match s_ with|(t,es6)=>[.reg 105 (.j t),.leaf 3 0 ⟨0,0,none,.own (.m false es6)⟩],fun s_=>match s_ with|(t,es6)=>0<=t/\t<=((iaL a6 a7).length:Int)/\Rs a6 a7 a8 a9 aD (ifL aA aB) aF t es6,fun s_=>match s_ with|(t,es6)=>(iaL a6 a7).length-t.toNat,⟨(0,es5),?_,?_⟩,?_⟩;rotate_left;(focus (cbv;done));intro s_ ht;obtain⟨t,es6⟩:=s_;replace ht:0<=t/\t<=((iaL a6 a7).length:Int)/\Rs a6 a7 a8 a9 aD (ifL aA aB) aF t es6:=ht;obtain⟨t0,t1,t2⟩:=ht;cbv)|(refine af (O.ar .add Za j 1,F.huI es2 (O.gi (O.gs (O.gs a9 i 0) k 0) j 0)) ?_ ?_ ?_;focus (cbv;done))|(refine af (O.ar .add Za k 1,es2) ?_ ?_ ?_;focus (cbv;done))|(refine af (O.ar .add Za i 1,es1) ?_ ?_ ?_;focus (cbv;done))|(refine af (O.ar .add Za t 1,es6) ?_ ?_ ?_;focus (cbv;done))|(refine af (O.ar .add Za p 1,O.mu es5 (O.gi a8 p 1) (.i (O.ar .add Za (O.mgi es5 (O.gi a8 p 1)) 1))) ?_ ?_ ?_;focus (cbv;done))|(refine af (O.ar .add Za f 1,F.huI es4 (O.pi (.s 1 (F.ifL aA aB)) [(O.ad 0 f,0)])) ?_ ?_ ?_;focus (cbv;done))|(refine af (O.ar .add Za q 1,F.huI es3 (O.gi aD q 0)) ?_ ?_ ?_;focus (cbv;done))
 all_goals(subst hO hr hF;(try simp only[nc]at*);(try simp only[ah,SS,sa,az]at*);(try rw[dd Uc Uc]);(try simp only[gS f0]at*);(try simp only[gS t0,Ql]at*);(try have z8:bK .add Za t 1=t+1:=bD Uc);(try simp only[z8]at*);(try have w6:=hcc.n i i0 Ud);(try have w7:=w6.el k0 Ud);(try have w8:=w7.1);(try have z6:bK .add Za k 1=k+1:=bD (by have:=w6.l;omega));(try simp only[z6]at*);(try have z7:bK .add Za j 1=j+1:=bD (by have:=w7.2;omega));(try simp only[z7]at*))
 all_goals first
  | (show(_:List DV)=_
     first
      |(refine aj ?_;symm;exact aaF i0 Ud (adz k0 Ud j0 Ud Ud))
      |(refine aj ?_;symm;exact MF q0 Ud (afy Ud))
      |(refine aj ?_;symm;exact MF q0 Ud (afz Ud))
      |(refine aj ?_;symm;exact aaG f0 Ud Ud)
      |(refine aj ?_;symm;exact ahk t2 t0 Ud Ud)
      |(refine aj ?_;symm;exact aaE t2 Uc)
      |done)
  |omega
  |exact iB
  |exact⟨hsw,hlw⟩
  |exact⟨hsw,hlw,hsl,hll⟩
  |exact N.m
  |exact DT hfr f0 Ud
  |exact DT hlr t0 Ud
  |exact adc j2 i0 Ud k0 Ud j0 Ud hcl Ud
  |exact ade j2 k0 j1 Uc
  |exact adb k2 i0 k1 Uc
  |exact ahh k2
  |exact ahi i2
  |exact ahg
  |exact ahp i2 i1 Uc
  |exact adx q2 q0 Ud hcl hql (aik Ud Uc)
  |exact ahf q2 q1 Uc
  |exact ada f2 f0 Ud hcl hql hfl Ud
  |exact ahl f2 f1 Uc
  |exact adh p2 p0 Ud hcl hql hol hfl
  |exact ahj p2 p1 Uc
  |exact adg t2 Ud
  |done
abbrev Oa3:cT:=dG (fun F f=>match f with|305=>mJ F|306=>eD F|307=>jF F|297=>eZ F|_=>fun _=>none) (by
 intro f;dsimp only;split;exact AU;exact yC;exact vX;exact gV;exact cX)
def mI:EC:=fun F=>fun
 |[.agg hl_]=>hL hl_ fun a0 a1 a2 a3 a4 a5 a6 a7 a8 a9 aA aB aC aD aE aF aG aH aI aJ aK aL aM aN=>(fun _=>Pi a6 a7 a8 a9 aA aB aD/\layOk a6 a7=true,[.k (F.hoS a6 a7 a8 a9 aA aB aD)])
 |_=>none
def AT:ec 210 mI:=by
 intro _ _ _ h hp;dsimp only[mI,F0,hL]at h;split at h;rotate_left;cases h;split at h<;>cases h
 rename_i a0 a1 a2 a3 a4 a5 a6 a7 a8 a9 aA aB aC aD aE aF aG aH aI aJ aK aL aM aN;obtain⟨N,hlay⟩:=hp;have hsw:=N.sw;have hlw:=N.lw;have hsl:=N.sl;have hll:=N.ll;have how:=N.ow;have hol:=N.ol;have hcw:=N.cw;have hcl:=N.cl;have hqw:=N.qw;have hql:=N.ql;have hcc:=N.c;have hlc:=aS (es:=a9);have hfr:=MQ N.m;have hfl:=Ik (b:=aA) (x:=aB);refine cb Oa3 Tryz.func210 ?_
 intro O r F hO hr hF;cbv
 repeat' first|apply Zb|(apply bC<;>intro hb<;>cbv)|(refine⟨[1,3,4],[1,3],Int×ab,fun s_=>match s_ with|(i,o)=>[.reg 4 (.j i),.reg 3 (.one (.vw 3 0 0 0 (O.ln o))),.leaf 3 0 ⟨0,0,none,.own (.s 1 o)⟩],fun s_=>match s_ with|(i,o)=>0<=i/\i<=(a8.length:Int)/\S1P a8 i o,fun s_=>match s_ with|(i,o)=>a8.length-i.toNat,⟨(0,[]),?_,?_⟩,?_⟩;rotate_left;(focus (cbv;done));intro s_ hi;obtain⟨i,o⟩:=s_;replace hi:0<=i/\i<=(a8.length:Int)/\S1P a8 i o:=hi;obtain⟨i0,i1,i2⟩:=hi;cbv)|(refine⟨[1,3,5],[1,3],Int×ab,fun s_=>match s_ with|(j,o1)=>[.reg 5 (.j j),.reg 3 (.one (.vw 3 0 0 0 (O.ln o1))),.leaf 3 0 ⟨0,0,none,.own (.s 1 o1)⟩],fun s_=>match s_ with|(j,o1)=>0<=j/\j<=(a9.length:Int)/\S2P a6 a7 a8 a9 j o1,fun s_=>match s_ with|(j,o1)=>a9.length-j.toNat,⟨(0,o),?_,?_⟩,?_⟩;rotate_left;(focus (cbv;done));intro s_ hj;obtain⟨j,o1⟩:=s_;replace hj:0<=j/\j<=(a9.length:Int)/\S2P a6 a7 a8 a9 j o1:=hj;obtain⟨j0,j1,j2⟩:=hj;cbv)|(refine⟨[1,3,5,6],[1,3],Int×ab,fun s_=>match s_ with|(k,o2)=>[.reg 6 (.j k),.reg 3 (.one (.vw 3 0 0 0 (O.ln o2))),.leaf 3 0 ⟨0,0,none,.own (.s 1 o2)⟩],fun s_=>match s_ with|(k,o2)=>0<=k/\k<=((aw a9 j 0).length:Int)/\S3P a6 a7 a8 a9 j k o2,fun s_=>match s_ with|(k,o2)=>(aw a9 j 0).length-k.toNat,⟨(0,o1),?_,?_⟩,?_⟩;rotate_left;(focus (cbv;done));intro s_ hk;obtain⟨k,o2⟩:=s_;replace hk:0<=k/\k<=((aw a9 j 0).length:Int)/\S3P a6 a7 a8 a9 j k o2:=hk;obtain⟨k0,k1,k2⟩:=hk;cbv)|(refine⟨[1,3,5,6,7,8],[1,3],Int×ab,fun s_=>match s_ with|(m,o3)=>[.reg 8 (.j m),.reg 3 (.one (.vw 3 0 0 0 (O.ln o3))),.leaf 3 0 ⟨0,0,none,.own (.s 1 o3)⟩],fun s_=>match s_ with|(m,o3)=>0<=m/\m<=((aw (aw a9 j 0) k 0).length:Int)/\S4P a6 a7 a8 a9 j k m o3,fun s_=>match s_ with|(m,o3)=>(aw (aw a9 j 0) k 0).length-m.toNat,⟨(0,o2),?_,?_⟩,?_⟩;rotate_left;(focus (cbv;done));intro s_ hm;obtain⟨m,o3⟩:=s_;replace hm:0<=m/\m<=((aw (aw a9 j 0) k 0).length:Int)/\S4P a6 a7 a8 a9 j k m o3:=hm;obtain⟨m0,m1,m2⟩:=hm;cbv)|(refine⟨[1,3,9],[1,3],Int×ab,fun s_=>match s_ with|(q,o4)=>[.reg 9 (.j q),.reg 3 (.one (.vw 3 0 0 0 (O.ln o4))),.leaf 3 0 ⟨0,0,none,.own (.s 1 o4)⟩],fun s_=>match s_ with|(q,o4)=>0<=q/\q<=(aD.length:Int)/\S5P a6 a7 a8 a9 aD q o4,fun s_=>match s_ with|(q,o4)=>aD.length-q.toNat,⟨(0,o1),?_,?_⟩,?_⟩;rotate_left;(focus (cbv;done));intro s_ hq;obtain⟨q,o4⟩:=s_;replace hq:0<=q/\q<=(aD.length:Int)/\S5P a6 a7 a8 a9 aD q o4:=hq;obtain⟨q0,q1,q2⟩:=hq;cbv)|(refine⟨[1,3,10,11],[1,3,10],Int×ab,fun s_=>match s_ with|(f,o5)=>[.reg 11 (.j f),.reg 3 (.one (.vw 3 0 0 0 (O.ln o5))),.leaf 3 0 ⟨0,0,none,.own (.s 1 o5)⟩],fun s_=>match s_ with|(f,o5)=>0<=f/\f<=((ifL aA aB).length:Int)/\S6P a6 a7 a8 a9 aD (ifL aA aB) f o5,fun s_=>match s_ with|(f,o5)=>(ifL aA aB).length-f.toNat,⟨(0,o4),?_,?_⟩,?_⟩;rotate_left;(focus (cbv;done));intro s_ hf;obtain⟨f,o5⟩:=s_;replace hf:0<=f/\f<=((ifL aA aB).length:Int)/\S6P a6 a7 a8 a9 aD (ifL aA aB) f o5:=hf;obtain⟨f0,f1,f2⟩:=hf;cbv)|(refine⟨[1,3,12],[1,3],Int,fun t=>[.reg 12 (.j t)],fun t=>0<=t/\t<=(o5.length:Int)/\Pm a6 a7 a8 a9 aD (ifL aA aB) t o5,fun t=>o5.length-t.toNat,⟨0,?_,?_⟩,?_⟩;rotate_left;(focus (cbv;done));intro t ht;replace ht:0<=t/\t<=(o5.length:Int)/\Pm a6 a7 a8 a9 aD (ifL aA aB) t o5:=ht;obtain⟨t0,t1,t2⟩:=ht;cbv)|(refine af (O.ar .add Za m 1,O.cat o3 (O.sub [[.i (O.gi (O.gs (O.gs a9 j 0) k 0) m 0)]] 0 (O.ln [[.i (O.gi (O.gs (O.gs a9 j 0) k 0) m 0)]]))) ?_ ?_ ?_;focus (cbv;done))|(refine af (O.ar .add Za k 1,o3) ?_ ?_ ?_;focus (cbv;done))|(refine af (O.ar .add Za j 1,o2) ?_ ?_ ?_;focus (cbv;done))|(refine af (O.ar .add Za t 1) ?_ ?_ ?_;focus (cbv;done))|(refine af (O.ar .add Za f 1,O.cat o5 (O.sub [[.i (O.pi (.s 1 (F.ifL aA aB)) [(O.ad 0 f,0)])]] 0 (O.ln [[.i (O.pi (.s 1 (F.ifL aA aB)) [(O.ad 0 f,0)])]]))) ?_ ?_ ?_;focus (cbv;done))|(refine af (O.ar .add Za q 1,O.cat o4 (O.sub [[.i (O.gi aD q 0)]] 0 (O.ln [[.i (O.gi aD q 0)]]))) ?_ ?_ ?_;focus (cbv;done))|(refine af (O.ar .add Za i 1,O.cat o (O.sub [[.i (O.gi a8 i 1)]] 0 (O.ln [[.i (O.gi a8 i 1)]]))) ?_ ?_ ?_;focus (cbv;done))
 all_goals(subst hO hr hF;(try simp only[nc]at*);(try simp only[ah,SS,sa,az]at*);(try rw[dd Uc Uc]);(try simp only[gS f0]at*);(try simp only[gS t0]at*);(try simp only[wG]at*);(try have w6:=hcc.n j j0 Ud);(try have w7:=w6.el k0 Ud);(try have w8:=w7.1);(try have z6:bK .add Za k 1=k+1:=bD (by have:=w6.l;omega));(try simp only[z6]at*);(try have z7:bK .add Za m 1=m+1:=bD (by have:=w7.2;omega));(try simp only[z7]at*);(try have w1:=aio Ud);(try have w4:=ais m2 j0 Ud k0 Ud m0 Uc hcl hol);(try have w5:=aiu q2 Uc hcl hol hql);(try have w9:=aiw f2 Uc hcl hol hql hfl);(try have wa:=afL t2 hcl hol hql hfl);(try have wb:=afM N t2);(try have z8:bK .add Za t 1=t+1:=bD Uc);(try simp only[z8]at*))
 all_goals first
  | (show(_:List DV)=_
     first
      |(refine aj ?_;symm;exact aaJ j0 Ud (adz k0 Ud m0 Ud Ud))
      |(refine aj ?_;symm;exact aaK q0 Ud Ud)
      |(refine aj ?_;symm;exact aaL f0 Ud Ud)
      |(refine aj ?_;symm;exact aiy t2 t0 Ud Ud)
      |(refine aj ?_;rw[cmp_eq];exact acd t2 Uc)
      |done)
  |omega
  |exact iB
  |(show ay _ _=true;kernel_rfl)
  |exact⟨hsw,hlw,hsl,hll⟩
  |exact N.m
  |exact⟨N,hlay,Dw (fs:=[tI]) w8 rfl Uc⟩
  |exact⟨N,hlay,Dw hqw rfl Uc⟩
  |exact⟨N,hlay,Dw hfr rfl Uc⟩
  |exact wb _
  |exact DT hfr f0 Ud
  |exact DT (by have q:=wb o5.length;rwa [List.take_length]at q) t0 Ud
  |(constructor<;>(simp only[Zp,Zt];omega))
  |exact afI m2 m0 Ud
  |exact afH m2 k0 m1 Uc
  |exact afG k2 j0 k1 Uc
  |exact air k2
  |exact aiq j2
  |exact aip i2 i1 Uc
  |exact afF i2 i0
  |exact ain
  |exact ait j2 j1 Uc
  |exact afJ q2 q0 Ud
  |exact aiv q2 q1 Uc
  |exact afK f2 f0 Ud
  |exact aix f2 f1 Uc
  |exact afN t2 t0 Ud Ud
  |exact⟨Zd,Zd⟩
  |done
abbrev Pa0:cT:=dG (fun F f=>match f with|54=>bM F|_=>fun _=>none) (by
 intro f;dsimp only;split;exact dV;exact cX)
def fR:EC:=fun F=>fun
 |[.agg [.s 1 a0,.s 1 a1,.s 2 a2,.v (.int Za a3),.s 1 a4],.one (.v (.int Za p))]=>some (fun _=>Rw [tI,tI] a2,[.k (F.mapB a2 p)])
 |_=>none
def jQ:ec 170 fR:=by
 intro _ _ _ h hp;dsimp only[fR,F0]at h;split at h<;>cases h
 rename_i a0 a1 a2 a3 a4 p;refine cb Pa0 Tryz.func170 ?_
 intro O r F hO hr hF;cbv
 repeat' first|apply Zb|(apply bC<;>intro hb<;>cbv)
 all_goals(subst hO hr hF;(try simp only[nc]at*);(try simp only[ah,SS,sa,az]at*))
 all_goals first|(show(_:List DV)=_;refine aj ?_;unfold mapB;rw[EK];done)|exact hp|done
abbrev Pa1:cT:=dG (fun F f=>match f with|169=>cz F|170=>fR F|171=>eH F|54=>bM F|172=>cH F|_=>fun _=>none) (by
 intro f;dsimp only;split;exact np;exact jQ;exact xN;exact dV;exact j9;exact cX)
def lZ:EC:=fun F=>fun
 |[.agg hl_]=>hL hl_ fun a0 a1 a2 a3 a4 a5 a6 a7 a8 a9 aA aB aC aD aE aF aG aH aI aJ aK aL aM aN=>(fun _=>Pi a6 a7 a8 a9 aA aB aD/\layOk a6 a7=true/\Rw [tI,tI] a2/\a2.length<=1099511627776/\Rw [tI,tI] a5/\a5.length<=1099511627776,[.k (F.pgI a2 a5 a6 a7)])
 |_=>none
def zV:ec 63 lZ:=by
 intro _ _ _ h hp;dsimp only[lZ,F0,hL]at h;split at h;rotate_left;cases h;split at h<;>cases h
 rename_i a0 a1 a2 a3 a4 a5 a6 a7 a8 a9 aA aB aC aD aE aF aG aH aI aJ aK aL aM aN;obtain⟨N,hlay,hew,hel,hfw,hfl⟩:=hp;have hsw:=N.sw;have hlw:=N.lw;have hsl:=N.sl;have hll:=N.ll;have F:=lyF hlay;have lgF:∀ j:Int,0<=j->j<a7.length->0<=ag a7 j 0/\1<=ag a7 j 1/\ag a7 j 0+ag a7 j 1<=32:=fun j h0 h1=>by
  have t:=oE (F.l j.toNat Uc);rw[Zo h0]at t;have b:=ng t.1;omega
 refine cb Pa1 Tryz.func63 ?_
 intro O r F hO hr hF;cbv
 repeat' first|apply Zb|(apply bC<;>intro hb<;>cbv)|(refine⟨[1,18,19,20],[1],Int,fun i=>[.reg 20 (.j i)],fun i=>0<=i/\i<=(a6.length:Int)/\upto (zA a6) i,fun i=>a6.length-i.toNat,⟨0,?_,?_⟩,?_⟩;rotate_left;(focus (cbv;done));intro i hi;replace hi:0<=i/\i<=(a6.length:Int)/\upto (zA a6) i:=hi;obtain⟨i0,i1,i2⟩:=hi;cbv)|(refine⟨[1,5,42,43,44],[1,40],Int×ab,fun s_=>match s_ with|(q,m)=>[.reg 44 (.j q),.leaf 40 0 ⟨0,0,none,.own (.m true m)⟩],fun s_=>match s_ with|(q,m)=>0<=q/\q<=(a6.length:Int)/\zH m (oQ a6 q.toNat),fun s_=>match s_ with|(q,m)=>a6.length-q.toNat,⟨(0,[]),?_,?_⟩,?_⟩;rotate_left;(focus (cbv;done));intro s_ hq;obtain⟨q,m⟩:=s_;replace hq:0<=q/\q<=(a6.length:Int)/\zH m (oQ a6 q.toNat):=hq;obtain⟨q0,q1,q2⟩:=hq;cbv)|(refine⟨[1,5,53,54,55],[1,40],Int×ab,fun s_=>match s_ with|(j,m1)=>[.reg 55 (.j j),.leaf 40 0 ⟨0,0,none,.own (.m true m1)⟩],fun s_=>match s_ with|(j,m1)=>0<=j/\j<=(a7.length:Int)/\PlP a2 a6 a7 j m1,fun s_=>match s_ with|(j,m1)=>a7.length-j.toNat,⟨(0,m),?_,?_⟩,?_⟩;rotate_left;(focus (cbv;done));intro s_ hj;obtain⟨j,m1⟩:=s_;replace hj:0<=j/\j<=(a7.length:Int)/\PlP a2 a6 a7 j m1:=hj;obtain⟨j0,j1,j2⟩:=hj;cbv)|(refine⟨[1,5,9,10,53,54,55],[1,40,9],Int×ab,fun s_=>match s_ with|(p,m2)=>[.reg 10 (.j p),.leaf 40 0 ⟨0,0,none,.own (.m true m2)⟩],fun s_=>match s_ with|(p,m2)=>ag a7 j 0<=p/\p<=ag a7 j 0+ag a7 j 1/\PkP a2 a6 a7 j (p-ag a7 j 0) m2,fun s_=>match s_ with|(p,m2)=>(ag a7 j 0+ag a7 j 1-p).toNat,⟨(O.gi a7 j 0,m1),?_,?_⟩,?_⟩;rotate_left;(focus (cbv;done));intro s_ hp;obtain⟨p,m2⟩:=s_;replace hp:ag a7 j 0<=p/\p<=ag a7 j 0+ag a7 j 1/\PkP a2 a6 a7 j (p-ag a7 j 0) m2:=hp;obtain⟨p0,p1,p2⟩:=hp;cbv)|(refine⟨[1,5,98,99],[1,40],Int,fun e=>[.reg 99 (.j e)],fun e=>0<=e/\e<=(a2.length:Int)/\upto (A3 a2 a5 a6 a7) e,fun e=>a2.length-e.toNat,⟨0,?_,?_⟩,?_⟩;rotate_left;(focus (cbv;done));intro e he;replace he:0<=e/\e<=(a2.length:Int)/\upto (A3 a2 a5 a6 a7) e:=he;obtain⟨e0,e1,e2⟩:=he;cbv)|(refine⟨[1,122],[1],List Int,fun vs=>[.reg 122 (.one (.it m1 vs))],fun vs=>True/\∀ k∈vs,k<(a2.length:Int),fun vs=>m1.length-vs.length,⟨[],?_,?_⟩,?_⟩;rotate_left;(focus (cbv;done));intro vs yO;replace yO:True/\∀ k∈vs,k<(a2.length:Int):=yO;obtain⟨vs0,vs1⟩:=yO;cbv)|(refine⟨[1,136,137,138],[1],Int,fun u=>[.reg 138 (.j u)],fun u=>0<=u/\u<=(a6.length:Int)/\upto (La a2 a6) u,fun u=>a6.length-u.toNat,⟨0,?_,?_⟩,?_⟩;rotate_left;(focus (cbv;done));intro u hu;replace hu:0<=u/\u<=(a6.length:Int)/\upto (La a2 a6) u:=hu;obtain⟨u0,u1,u2⟩:=hu;cbv)|(refine⟨[1,14,136,137,138,146,147,148],[1,14],Int,fun v=>[.reg 148 (.j v)],fun v=>0<=v/\v<=u/\upto (Iz a2 a6 u) v,fun v=>(u-v).toNat,⟨0,?_,?_⟩,?_⟩;rotate_left;(focus (cbv;done));intro v hv;replace hv:0<=v/\v<=u/\upto (Iz a2 a6 u) v:=hv;obtain⟨v0,v1,v2⟩:=hv;cbv)|(refine af (O.ar .add Za p 1,O.mu m2 p (.v (.bool true))) ?_ ?_ ?_;focus (cbv;done))|(refine af (O.ar .add Za j 1,m2) ?_ ?_ ?_;focus (cbv;done))|(refine af (O.ar .add Za q 1,O.mu m (O.gi a6 q 0) (.v (.bool true))) ?_ ?_ ?_;focus (cbv;done))|(refine af (O.ar .add Za v 1) ?_ ?_ ?_;focus (cbv;done))|(refine af (O.ar .add Za u 1) ?_ ?_ ?_;focus (cbv;done))|(refine af (O.ar .add Za e 1) ?_ ?_ ?_;focus (cbv;done))|(refine af (O.ar .add Za i 1) ?_ ?_ ?_;focus (cbv;done))|(refine af (kk::vs) ?_ ?_ ?_;focus (cbv;done))|((intro(kk:Int) (hkk:O.pr _);cbv))|((intro(hkk:O.pr _);cbv))
 all_goals(subst hO hr hF;(try simp only[nc]at*);(try simp only[ah,SS,sa,az]at*);(try rw[dd Uc Uc]);(try have zi:=C9 i0 Uc);(try simp only[zi]at*);(try have zj:=C9 j0 Uc);(try simp only[zj]at*);(try have lf:=lgF j j0 Ud);(try have zl:bK .add Za (ag a7 j 0) (ag a7 j 1)=ag a7 j 0+ag a7 j 1:=bD Uc);(try simp only[zl]at*);(try have zp:bK .add Za p 1=p+1:=bD Uc);(try simp only[zp]at*);(try have zv:bK .add Za v 1=v+1:=bD Uc);(try simp only[zv]at*);(try simp only[ae4 (ab0 j2 j1 Ud)]at*);(try simp only[wG]at*);(try have tl:(List.take u.toNat a6).length=u.toNat:=by(rw[Zm];omega));(try have hwt:=Rw.take hsw u.toNat);(try simp only[zm (es:=a6) (n:=u.toNat) (i:=v) Uc]at*))
 all_goals first
  | (show(_:List DV)=_
     first
      |(refine aj ?_;symm;exact afa i0 Ud (KA Ud Ud))
      |(refine aj ?_;symm;exact Tz j0 Ud (SR (KA Ud Ud)))
      |(refine aj ?_;symm;exact Tz j0 Ud (aff p0 Ud Uc))
      |(refine aj ?_;symm;exact TA e0 Ud (R7 Ud))
      |(refine aj ?_;symm;exact TA e0 Ud (R8 Ud))
      |(refine aj ?_;symm;exact afb (aeX (((ab0 j2 j1 Ud).k _).1 hkk.1) Ud))
      |(refine aj ?_;symm;exact afc u0 Ud (ahS v0 Uc Ud Ud))
      |(refine aj ?_;symm;exact ah5 i2 Uc j2.ok Uc e2 Uc (ah0 (ab0 j2 j1 Ud) vs1 hkk) u2 Uc)
      |done)
  |omega
  |exact iB
  |(show ay _ _=true;kernel_rfl)
  |exact⟨hew,hel⟩
  |exact⟨hfw,hfl⟩
  |exact bI
  |exact bu i2 (KB Uc)
  |exact bu i2 (KC Ud)
  |(rw[rP q0];exact NS q2)
  |exact ae3
  |exact ah6 q2 q1 Uc
  |exact afe j2 (KB Uc)
  |exact afe j2 (KC Ud)
  |exact afg p2 p0 Uc
  |exact afh p2 j0 Uc p1 Uc
  |exact bu e2 (ac1 Ud Ud)
  |exact agk vs1 Ud
  |exact fun k hk=>by cases hk
  |(have q:=hkk.2;simp only[Zp];omega)
  |exact bu v2 (aee Ud)
  |exact bu v2 (aef Ud)
  |exact bu u2 (ahT v2 Uc u0)
  |done
abbrev Pa2:cT:=dG (fun F f=>match f with|299=>cz F|297=>eZ F|300=>eH F|_=>fun _=>none) (by
 intro f;dsimp only;split;exact iF;exact gV;exact yG;exact cX)
def kY:EC:=fun F=>fun
 |[.agg hl_]=>hL hl_ fun a0 a1 a2 a3 a4 a5 a6 a7 a8 a9 aA aB aC aD aE aF aG aH aI aJ aK aL aM aN=>(fun _=>Pi a6 a7 a8 a9 aA aB aD/\layOk a6 a7=true/\Rw [tI,tI] a2/\a2.length<=1099511627776/\Rw [tI,tI] a5/\a5.length<=1099511627776,[.k (F.pgS a2 a5 a6 a7)])
 |_=>none
def yM:ec 204 kY:=by
 intro _ _ _ h hp;dsimp only[kY,F0,hL]at h;split at h;rotate_left;cases h;split at h<;>cases h
 rename_i a0 a1 a2 a3 a4 a5 a6 a7 a8 a9 aA aB aC aD aE aF aG aH aI aJ aK aL aM aN;obtain⟨N,hlay,hew,hel,hfw,hfl⟩:=hp;have hsw:=N.sw;have hlw:=N.lw;have hsl:=N.sl;have hll:=N.ll;have F:=lyF hlay;have lgF:∀ j:Int,0<=j->j<a7.length->0<=ag a7 j 0/\1<=ag a7 j 1/\ag a7 j 0+ag a7 j 1<=32:=fun j h0 h1=>by
  have t:=oE (F.l j.toNat Uc);rw[Zo h0]at t;have b:=ng t.1;omega
 refine cb Pa2 Tryz.func204 ?_
 intro O r F hO hr hF;cbv
 repeat' first|apply Zb|(apply bC<;>intro hb<;>cbv)|(refine⟨[1,3,4,5,6],[1,3,5],Int×ab,fun s_=>match s_ with|(i,o)=>[.reg 6 (.j i),.reg 5 (.one (.vw 5 0 0 0 (O.ln o))),.leaf 5 0 ⟨0,0,none,.own (.s 1 o)⟩],fun s_=>match s_ with|(i,o)=>0<=i/\i<=(a6.length:Int)/\QsP a6 i o,fun s_=>match s_ with|(i,o)=>a6.length-i.toNat,⟨(0,[]),?_,?_⟩,?_⟩;rotate_left;(focus (cbv;done));intro s_ hi;obtain⟨i,o⟩:=s_;replace hi:0<=i/\i<=(a6.length:Int)/\QsP a6 i o:=hi;obtain⟨i0,i1,i2⟩:=hi;cbv)|(refine⟨[1,3,4,5,7],[1,3,5],Int×ab,fun s_=>match s_ with|(j,o1)=>[.reg 7 (.j j),.reg 5 (.one (.vw 5 0 0 0 (O.ln o1))),.leaf 5 0 ⟨0,0,none,.own (.s 1 o1)⟩],fun s_=>match s_ with|(j,o1)=>0<=j/\j<=(a7.length:Int)/\O0 a2 a6 a7 j o1,fun s_=>match s_ with|(j,o1)=>a7.length-j.toNat,⟨(0,o),?_,?_⟩,?_⟩;rotate_left;(focus (cbv;done));intro s_ hj;obtain⟨j,o1⟩:=s_;replace hj:0<=j/\j<=(a7.length:Int)/\O0 a2 a6 a7 j o1:=hj;obtain⟨j0,j1,j2⟩:=hj;cbv)|(refine⟨[1,3,4,5,7,8],[1,3,5],Int×ab,fun s_=>match s_ with|(k,o2)=>[.reg 8 (.j k),.reg 5 (.one (.vw 5 0 0 0 (O.ln o2))),.leaf 5 0 ⟨0,0,none,.own (.s 1 o2)⟩],fun s_=>match s_ with|(k,o2)=>0<=k/\k<=ag a7 j 1/\QkP a2 a6 a7 j k o2,fun s_=>match s_ with|(k,o2)=>(ag a7 j 1-k).toNat,⟨(0,o1),?_,?_⟩,?_⟩;rotate_left;(focus (cbv;done));intro s_ hk;obtain⟨k,o2⟩:=s_;replace hk:0<=k/\k<=ag a7 j 1/\QkP a2 a6 a7 j k o2:=hk;obtain⟨k0,k1,k2⟩:=hk;cbv)|(refine⟨[1,3,4,5,10],[1,3,5],Int,fun t=>[.reg 10 (.j t)],fun t=>0<=t/\t<=(o1.length:Int)/\upto (fun t=>decide (ag o1 t 0<a2.length)) t,fun t=>o1.length-t.toNat,⟨0,?_,?_⟩,?_⟩;rotate_left;(focus (cbv;done));intro t ht;replace ht:0<=t/\t<=(o1.length:Int)/\upto (fun t=>decide (ag o1 t 0<a2.length)) t:=ht;obtain⟨t0,t1,t2⟩:=ht;cbv)|(refine⟨[1,3,4,5,11],[1,3,5],Int,fun e=>[.reg 11 (.j e)],fun e=>0<=e/\e<=(a2.length:Int)/\upto (A3 a2 a5 a6 a7) e,fun e=>a2.length-e.toNat,⟨0,?_,?_⟩,?_⟩;rotate_left;(focus (cbv;done));intro e he;replace he:0<=e/\e<=(a2.length:Int)/\upto (A3 a2 a5 a6 a7) e:=he;obtain⟨e0,e1,e2⟩:=he;cbv)|(refine af (O.ar .add Za k 1,O.cat o2 (O.sub [[.i (O.ar .add Za (O.gi a7 j 0) k)]] 0 (O.ln [[.i (O.ar .add Za (O.gi a7 j 0) k)]]))) ?_ ?_ ?_;focus (cbv;done))|(refine af (O.ar .add Za j 1,o2) ?_ ?_ ?_;focus (cbv;done))|(refine af (O.ar .add Za e 1) ?_ ?_ ?_;focus (cbv;done))|(refine af (O.ar .add Za t 1) ?_ ?_ ?_;focus (cbv;done))|(refine af (O.ar .add Za i 1,O.cat o (O.sub [[.i (O.gi a6 i 0)]] 0 (O.ln [[.i (O.gi a6 i 0)]]))) ?_ ?_ ?_;focus (cbv;done))
 all_goals(subst hO hr hF;(try simp only[nc]at*);(try simp only[ah,SS,sa,az]at*);(try rw[dd Uc Uc]);(try have zi:=C9 i0 Uc);(try simp only[zi]at*);(try have zj:=C9 j0 Uc);(try simp only[zj]at*);(try have lf:=lgF j j0 Ud);(try have z6:bK .add Za k 1=k+1:=bD Uc);(try simp only[z6]at*);(try have z5:bK .add Za (ag a7 j 0) k=ag a7 j 0+k:=bD Uc);(try simp only[z5]at*);(try have w1:=aij Ud);(try have w2:=aid k2 Uc);(try have w3:=afw hlay j2 j1 Ud hsl hll);(try simp only[gS t0]at*);(try have w4:=w3.1);(try unfold maxLen at w4);(try have z7:bK .add Za t 1=t+1:=bD Uc);(try simp only[z7]at*);(try simp only[aig j2 j1 Ud]at*);(try simp only[aei e0 Ud]at*))
 all_goals first
  | (show(_:List DV)=_
     first
      |(refine aj ?_;symm;exact afl i0 Ud (KA Ud Ud))
      |(refine aj ?_;symm;exact TC j0 Ud (SR (KA Ud Ud)))
      |(refine aj ?_;symm;exact TC j0 Ud (SU k0 Ud Uc))
      |(refine aj ?_;symm;exact afm (aif j2 j1 Ud t0 Ud Ud))
      |(refine aj ?_;symm;exact TD e0 Ud (R7 Ud))
      |(refine aj ?_;symm;exact TD e0 Ud (aaq Ud Ud))
      |(refine aj ?_;symm;exact aia i2.ok Uc j2.ok Uc e2 Uc (aih j2 j1 Ud t2 Uc))
      |done)
  |omega
  |exact iB
  |(show ay _ _=true;kernel_rfl)
  |exact⟨hew,hel⟩
  |exact⟨hfw,hfl⟩
  |exact DT w3 t0 Ud
  |(constructor<;>(simp only[Zp,Zt];omega))
  |exact TG i2 i0 (KB Uc)
  |exact TG i2 i0 (KC Ud)
  |exact aii
  |exact aie i2 i1 Uc
  |exact afu j2 (KB Uc)
  |exact afu j2 (KC Ud)
  |exact afv k2 k0 Uc
  |exact afx k2 j0 Uc Uc k1 Uc
  |exact bI
  |exact bu t2 (VB Ud)
  |exact bu e2 (ac2 Ud Ud)
  |exact⟨Zd,Zd⟩
  |done
abbrev Pa3:cT:=dG (fun F f=>match f with|299=>cz F|213=>eX F|301=>cH F|_=>fun _=>none) (by
 intro f;dsimp only;split;exact iF;exact sP;exact ki;exact cX)
def jG:EC:=fun F=>fun
 |[.agg hl_]=>hL hl_ fun a0 a1 a2 a3 a4 a5 a6 a7 a8 a9 aA aB aC aD aE aF aG aH aI aJ aK aL aM aN=>(fun _=>Pi a6 a7 a8 a9 aA aB aD/\Rw [tI,tI] a2/\a2.length<=1099511627776,[.k (F.smS a2 a6)])
 |_=>none
def v6:ec 205 jG:=by
 intro _ _ _ h hp;dsimp only[jG,F0,hL]at h;split at h;rotate_left;cases h;split at h<;>cases h
 rename_i a0 a1 a2 a3 a4 a5 a6 a7 a8 a9 aA aB aC aD aE aF aG aH aI aJ aK aL aM aN;obtain⟨N,hew,hel⟩:=hp;have hsw:=N.sw;have hsl:=N.sl;have fr:=fun p=>aav (es:=a2) (p:=p) hel
 refine cb Pa3 Tryz.func205 ?_
 intro O r F hO hr hF;cbv
 repeat' first|apply Zb|(apply bC<;>intro hb<;>cbv)|(refine⟨[1,3],[1],Int,fun i=>[.reg 3 (.j i)],fun i=>0<=i/\i<=(a6.length:Int)/\upto (msA a2 a6) i,fun i=>a6.length-i.toNat,⟨0,?_,?_⟩,?_⟩;rotate_left;(focus (cbv;done));intro i hi;replace hi:0<=i/\i<=(a6.length:Int)/\upto (msA a2 a6) i:=hi;obtain⟨i0,i1,i2⟩:=hi;cbv)|(refine⟨[1,3,4,5],[1,4],Int,fun k=>[.reg 5 (.j k)],fun k=>0<=k/\k<=((fpg a2 (ag a6 i 0)).length:Int)/\upto (Nj a2 a6 i) k,fun k=>(fpg a2 (ag a6 i 0)).length-k.toNat,⟨0,?_,?_⟩,?_⟩;rotate_left;(focus (cbv;done));intro k hk;replace hk:0<=k/\k<=((fpg a2 (ag a6 i 0)).length:Int)/\upto (Nj a2 a6 i) k:=hk;obtain⟨k0,k1,k2⟩:=hk;cbv)|(refine af (O.ar .add Za k 1) ?_ ?_ ?_;focus (cbv;done))|(refine af (O.ar .add Za i 1) ?_ ?_ ?_;focus (cbv;done))
 all_goals(subst hO hr hF;(try simp only[nc]at*);(try simp only[ah,SS,sa,az]at*);(try rw[dd Uc Uc]);(try simp only[gS k0]at*);(try have w1:=fr (ag a6 i 0));(try have w2:=w1.1);(try have w3:=w1.2);(try have z6:bK .add Za k 1=k+1:=bD Uc);(try simp only[z6]at*);(try have w4:=fun h=>afX (sp:=a6) (p:=ag (fpg a2 (ag a6 i 0)) k 0) h))
 all_goals first
  | (show(_:List DV)=_
     first
      |(refine aj ?_;symm;exact bV (p:=msA a2 a6) i0 Ud (aev k0 Ud Ud Ud))
      |(refine aj ?_;symm;exact bV (p:=msA a2 a6) i0 Ud (aew k0 Ud Ud Ud))
      |(refine aj ?_;symm;exact bJ i2 Uc)
      |done)
  |omega
  |exact iB
  |(show ay _ _=true;kernel_rfl)
  |exact⟨hew,hel⟩
  |exact⟨hsw,Uc⟩
  |exact DT w2 k0 Ud
  |exact bI
  |exact bu k2 (aeg Ud)
  |exact bu k2 (aeh Ud Ud)
  |exact bu i2 (bJ k2 Uc)
  |(have q:true=false:=Ud;cases q)
  |exact⟨Zd,Zd⟩
  |done
def oz:EC:=fun F=>fun
 |[.agg [.v (.int Za k),.v (.int Za m),.s 1 cs,.v (.int Za ph),.v (.int Za nx)]]=>some (fun _=>True,[.k (F.jobZ k m cs ph nx)])
 |_=>none
def CW:ec 211 oz:=by
 intro _ _ _ h hp;dsimp only[oz,F0]at h;split at h<;>cases h
 rename_i k m cs ph nx;refine cb nB Tryz.func211 ?_
 intro O r F hO hr hF;cbv
 repeat' first|apply Zb|(apply bC<;>intro hb<;>cbv)
 all_goals(subst hO hr hF;(try simp only[nc]at*);(try simp only[ah,SS,sa,az]at*))
 all_goals first|(show(_:List DV)=_;refine aj ?_;unfold jobZ;simp[*,cmp_eq];done)|(show(_:List DV)=_;refine aj ?_;unfold jobZ;rw[VB (p:=cs.length=0) Uc,cmp_eq];simp[*];done)|(show(_:List DV)=_;refine aj ?_;unfold jobZ;rw[VC (p:=cs.length=0) Uc];simp;done)|done
abbrev Qa1:cT:=dG (fun F f=>match f with|60=>dh F|61=>eI F|62=>cS F|63=>lZ F|64=>dQ F|65=>fQ F|66=>fA F|67=>fS F|68=>jv F|69=>eY F|33=>ai F|70=>eQ F|71=>eX F|_=>fun _=>none) (by
 intro f;dsimp only;split;exact qq;exact xO;exact qv;exact zV;exact sK;exact Cm;exact zO;exact Cp;exact vK;exact gU;exact aU;exact tL;exact Co;exact cX)
def fO:EC:=fun F=>fun
 |[.agg hl_]=>hL hl_ fun a0 a1 a2 a3 a4 a5 a6 a7 a8 a9 aA aB aC aD aE aF aG aH aI aJ aK aL aM aN=>(fun _=>HpN a0 a1 a2 a4 a5 a6 a7 a8 a9 aA aB aD aL,[.k (F.hpI a0 a1 a2 a3 a4 a5 a6 a7 a8 a9 aA aB aC aD aE aF aG aH aI aJ aK aL aM aN)])
 |_=>none
def nL:ec 17 fO:=by
 intro _ _ _ h hp;dsimp only[fO,F0,hL]at h;split at h;rotate_left;cases h;split at h<;>cases h
 rename_i a0 a1 a2 a3 a4 a5 a6 a7 a8 a9 aA aB aC aD aE aF aG aH aI aJ aK aL aM aN;have N:=hp.n;have hcc:=N.c;have hcw:=N.cw;have hel:=hp.el;have hfl:=hp.fl;have hsl:=N.sl;have hcl:=N.cl;have hlc:=aS (es:=a9);refine cb Qa1 Tryz.func17 ?_
 intro O r F hO hr hF;cbv
 repeat' first|apply Zb|(apply bC<;>intro hb<;>cbv)|(refine⟨[1,57,58,59],[1],Int,fun i=>[.reg 59 (.j i)],fun i=>0<=i/\i<=((a9.length:Nat):Int)/\upto (RU a9) i,fun i=>(a9.length)-i.toNat,⟨0,?_,?_⟩,?_⟩;rotate_left;(focus (cbv;done));intro i hi;replace hi:0<=i/\i<=((a9.length:Nat):Int)/\upto (RU a9) i:=hi;obtain⟨i0,i1,i2⟩:=hi;cbv)|(refine af (O.ar .add Za i 1) ?_ ?_ ?_;focus (cbv;done))
 all_goals(subst hO hr hF;(try simp only[nc]at*);(try simp only[ah,SS,sa,az]at*);(try rw[dd Uc Uc]))
 all_goals first
  | (show(_:List DV)=_
     first
      |(refine aj ?_;symm;exact adj Ud)
      |(refine aj ?_;symm;exact adq Ud)
      |(refine aj ?_;symm;exact adk Ud)
      |(refine aj ?_;symm;exact aaO Ud)
      |(refine aj ?_;symm;exact adl Ud)
      |(refine aj ?_;symm;exact SC Ud)
      |(refine aj ?_;symm;exact adp Ud)
      |(refine aj ?_;symm;exact SB i0 Ud Ud)
      |(refine aj ?_;symm;exact aaN Ud)
      |(refine aj ?_;symm;exact aaM Ud)
      |(refine aj ?_;symm;exact adr Ud)
      |(refine aj ?_;symm;exact adt Ud)
      |(refine aj ?_;symm;exact adu Ud)
      |(refine aj ?_;symm;exact adw Ud)
      |(refine aj ?_;rw[MI Ud Ud Ud Ud Ud (VB Uc) Ud (bJ i2 Uc) Ud Ud Ud Ud Ud Ud];subst_vars;first|exact SF Ud|exact SG Ud|exact SH Ud Ud|exact rfl|((try rw[cmp_eq]);unfold wi jobZ;simp[*];done))
      |done)
  |omega
  |exact iB
  |exact⟨hp.c,hp.u,hp.e,hp.r⟩
  |exact⟨Uc,Uc,hp.f,Uc⟩
  |exact⟨N.sw,N.lw,N.sl,N.ll⟩
  |exact⟨N,Ud,hp.e,Uc,hp.f,Uc⟩
  |exact N.m
  |exact⟨N.qw,N.ql⟩
  |exact hcc.n i i0 Ud
  |exact⟨N,Ud⟩
  |exact⟨hp.j,by have:=hp.jl;omega⟩
  |exact⟨N.sw,Uc⟩
  |exact bI
  |exact bu i2 Ud
  |done
abbrev Qa2:cT:=dG (fun F f=>match f with|201=>dh F|202=>eI F|203=>cS F|204=>kY F|205=>jG F|206=>dQ F|207=>fQ F|208=>fA F|209=>fS F|210=>mI F|92=>ai F|212=>eQ F|213=>eX F|211=>oz F|_=>fun _=>none) (by
 intro f;dsimp only;split;exact qB;exact yH;exact kh;exact yM;exact v6;exact sN;exact CQ;exact AA;exact AS;exact AT;exact bi;exact uo;exact sP;exact CW;exact cX)
def CO:ec 91 fO:=by
 intro _ _ _ h hp;dsimp only[fO,F0,hL]at h;split at h;rotate_left;cases h;split at h<;>cases h
 rename_i a0 a1 a2 a3 a4 a5 a6 a7 a8 a9 aA aB aC aD aE aF aG aH aI aJ aK aL aM aN;have N:=hp.n;have hcc:=N.c;have hcw:=N.cw;have hqw:=N.qw;have hql:=N.ql;have hel:=hp.el;have hfl:=hp.fl;have hsl:=N.sl;have hcl:=N.cl;have hlc:=aS (es:=a9);refine cb Qa2 Tryz.func91 ?_
 intro O r F hO hr hF;cbv
 repeat' first|apply Zb|(apply bC<;>intro hb<;>cbv)|(refine⟨[1,3],[1],Int,fun q=>[.reg 3 (.j q)],fun q=>0<=q/\q<=(aD.length:Int)/\upto (sA aD aF) q,fun q=>aD.length-q.toNat,⟨0,?_,?_⟩,?_⟩;rotate_left;(focus (cbv;done));intro q hq;replace hq:0<=q/\q<=(aD.length:Int)/\upto (sA aD aF) q:=hq;obtain⟨q0,q1,q2⟩:=hq;cbv)|(refine⟨[1,4],[1],Int,fun i=>[.reg 4 (.j i)],fun i=>0<=i/\i<=(a9.length:Int)/\upto (RU a9) i,fun i=>a9.length-i.toNat,⟨0,?_,?_⟩,?_⟩;rotate_left;(focus (cbv;done));intro i hi;replace hi:0<=i/\i<=(a9.length:Int)/\upto (RU a9) i:=hi;obtain⟨i0,i1,i2⟩:=hi;cbv)|(refine af (O.ar .add Za i 1) ?_ ?_ ?_;focus (cbv;done))|(refine af (O.ar .add Za q 1) ?_ ?_ ?_;focus (cbv;done))
 all_goals(subst hO hr hF;(try simp only[nc]at*);(try simp only[ah,SS,sa,az]at*);(try rw[dd Uc Uc]))
 all_goals first
  | (show(_:List DV)=_
     first
      |(refine aj ?_;symm;exact adj Ud)
      |(refine aj ?_;symm;exact adq Ud)
      |(refine aj ?_;symm;exact adk Ud)
      |(refine aj ?_;symm;exact ado Ud Ud)
      |(refine aj ?_;symm;exact adm Ud Ud)
      |(refine aj ?_;symm;exact adl Ud)
      |(refine aj ?_;symm;exact SC Ud)
      |(refine aj ?_;symm;exact adp Ud)
      |(refine aj ?_;symm;exact ads q0 Ud Ud Ud)
      |(refine aj ?_;symm;exact SB i0 Ud Ud)
      |(refine aj ?_;symm;exact aaN Ud)
      |(refine aj ?_;symm;exact adi Ud Ud Ud)
      |(refine aj ?_;symm;exact adr Ud)
      |(refine aj ?_;symm;exact adt Ud)
      |(refine aj ?_;symm;exact adu Ud)
      |(refine aj ?_;symm;exact adw Ud)
      |(refine aj ?_;rw[MI Ud Ud Ud (ah4 Ud Ud Ud) Ud (VB Uc) Ud (bJ i2 Uc) Ud (ahm Ud Ud Ud Uc q2) Ud Ud Ud Ud];subst_vars;first|exact SF Ud|exact SG Ud|exact SH Ud Ud|exact rfl|((try rw[cmp_eq]);unfold wi jobZ;simp[*];done))
      |done)
  |omega
  |exact iB
  |(show ay _ _=true;kernel_rfl)
  |exact⟨hp.c,hp.u,hp.e,hp.r⟩
  |exact⟨Uc,Uc,hp.f,Uc⟩
  |exact⟨N.sw,N.lw,N.sl,N.ll⟩
  |exact⟨N,Ud,hp.e,Uc,hp.f,Uc⟩
  |exact⟨N,hp.e,Uc⟩
  |exact N.m
  |exact⟨N.qw,N.ql⟩
  |exact hcc.n i i0 Ud
  |exact⟨N,Ud⟩
  |exact⟨hp.j,by have:=hp.jl;omega⟩
  |exact⟨N.sw,Uc⟩
  |exact bI
  |exact bu i2 Ud
  |exact bu q2 (aiz Ud)
  |done
end Go.V