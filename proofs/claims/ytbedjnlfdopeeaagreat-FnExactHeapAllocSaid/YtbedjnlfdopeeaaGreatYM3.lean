/- Contracts. -/
import Derived.Test.YtbedjnlfdopeeaaGreatYM2
import Derived.Test.YtbedjnlfdopeeaaGreatYM1
set_option linter.all false
open Go
open And renaming intro->Zb
open Int renaming toNat_of_nonneg->Zq
open IntKind renaming i64->Za
open List renaming length_take->Zk,length_cons->Zp,length_nil->Zs
open True renaming intro->Zf
namespace Go.V
open Go Go.Proofs
set_option maxRecDepth 1000000
set_option maxHeartbeats 8000000
abbrev Ma0:cZ:=eK (fun F f=>match f with|41=>aj F|28=>aj F|_=>fun _=>none) (by
 intro f;dsimp only;split;exact bc;exact bi;exact db)
def fD:EC:=fun F=>fun
 |[.one (.v (.int Za n)),.agg [.v (.int Za a),.v (.int Za l)]]=>some (fun _=>0<=n/\n<=1099511627776,[.k (F.rngIn n a l)])
 |_=>none
theorem yY:ec 225 fD:=by
 intro _ _ _ h hp;dsimp only[fD,F0]at h;split at h<;>cases h
 rename_i n a l;refine cb Ma0 Tryz.func225 ?_
 exact afC
theorem Ds:ec 258 fD:=by
 intro _ _ _ h hp;dsimp only[fD,F0]at h;split at h<;>cases h
 rename_i n a l;refine cb Ma0 Tryz.func258 ?_
 exact afC
abbrev Ma1:cZ:=eK (fun F f=>match f with|41=>aj F|28=>aj F|225=>fD F|258=>fD F|_=>fun _=>none) (by
 intro f;dsimp only;split;exact bc;exact bi;exact yY;exact Ds;exact db)
def dq:EC:=fun F=>fun
 |[.one (.v (.int Za n)),.one (.s 2 rs)]=>some (fun _=>0<=n/\n<=1099511627776/\Rw [tI,tI] rs/\rs.length<=1099511627776,[.k (F.rgOk n rs)])
 |_=>none
theorem pP:ec 125 dq:=by
 intro _ _ _ h hp;dsimp only[dq,F0]at h;split at h<;>cases h
 rename_i n rs;obtain⟨n0,n1,hw,hl⟩:=hp;refine cb Ma1 Tryz.func125 ?_
 intro O r F hO hr hF;cbv
 repeat' first|apply Zb|(apply bG<;>intro hb<;>cbv)|(refine⟨[0,1,7,8,9],[],Int,fun i=>[.reg 9 (.j i)],fun i=>0<=i/\i<=((rs.length:Nat):Int)/\upto (vQ n rs) i,fun i=>(rs.length)-i.toNat,⟨0,?_,?_⟩,?_⟩;rotate_left;(focus (cbv;done));intro i hi;replace hi:0<=i/\i<=((rs.length:Nat):Int)/\upto (vQ n rs) i:=hi;obtain⟨i0,i1,i2⟩:=hi;cbv)|(refine ag (O.ar .add Za i 1) ?_ ?_ ?_;focus (cbv;done))
 all_goals exact afn
theorem pX:ec 165 dq:=by
 intro _ _ _ h hp;dsimp only[dq,F0]at h;split at h<;>cases h
 rename_i n rs;obtain⟨n0,n1,hw,hl⟩:=hp;refine cb Ma1 Tryz.func165 ?_
 intro O r F hO hr hF;cbv
 repeat' first|apply Zb|(apply bG<;>intro hb<;>cbv)|(refine⟨[0,1,5],[],Int,fun i=>[.reg 5 (.j i)],fun i=>0<=i/\i<=((rs.length:Nat):Int)/\upto (vQ n rs) i,fun i=>(rs.length)-i.toNat,⟨0,?_,?_⟩,?_⟩;rotate_left;(focus (cbv;done));intro i hi;replace hi:0<=i/\i<=((rs.length:Nat):Int)/\upto (vQ n rs) i:=hi;obtain⟨i0,i1,i2⟩:=hi;cbv)|(refine ag (O.ar .add Za i 1) ?_ ?_ ?_;focus (cbv;done))
 all_goals exact afn
def iR:EC:=fun F=>fun
 |[.agg [.v (.int Za a),.v (.int Za l)],.ptr [.v (.int Za p)]]=>some (fun _=>True,[.k (F.rh1 a l p)])
 |_=>none
theorem tt:ec 318 iR:=by
 intro _ _ _ h hp;dsimp only[iR,F0]at h;split at h<;>cases h
 rename_i a l p;refine cb nB Tryz.func318 ?_
 intro O r F hO hr hF;cbv
 repeat' first|apply Zb|(apply bG<;>intro hb<;>cbv)
 all_goals(subst hO hr hF;(try simp only[nc]at*);(try simp only[ai,SS,sa,az]at*))
 all_goals first|(show(_:List DV)=_;refine ak ?_;unfold rh1;rw[VO hb];rfl)|(show(_:List DV)=_;refine ak ?_;unfold rh1;rw[VP (by omega)];rfl)|done
abbrev Ma3:cZ:=eK (fun F f=>match f with|318=>iR F|_=>fun _=>none) (by
 intro f;dsimp only;split;exact tt;exact db)
def aX:EC:=fun F=>fun
 |[.one (.s 2 os),.fn 318 [[.v (.int Za id)]]]=>some (fun _=>Rw [tI,tI] os/\os.length<=1099511627776,[.j (F.rhI os id)])
 |_=>none
theorem cd:ec 360 aX:=by
 intro _ _ _ h hp;dsimp only[aX,F0]at h;split at h<;>cases h
 rename_i os id;obtain⟨hw,hn⟩:=hp;refine cb Ma3 Tryz.func360 ?_
 intro O r F hO hr hF;cbv
 repeat' first|apply Zb|(apply bG<;>intro hb<;>cbv)|(refine⟨[0,1,7,8],[0],Int,fun i=>[.reg 8 (.j i)],fun i=>0<=i/\i<=((os.length:Nat):Int)/\upto (bT (uc os id)) i,fun i=>(os.length)-i.toNat,⟨0,?_,?_⟩,?_⟩;rotate_left;(focus (cbv;done));intro i hi;replace hi:0<=i/\i<=((os.length:Nat):Int)/\upto (bT (uc os id)) i:=hi;obtain⟨i0,i1,i2⟩:=hi;cbv)|(refine ag (O.ar .add Za i 1) ?_ ?_ ?_;focus (cbv;done))
 all_goals(subst hO hr hF;(try simp only[nc]at*);(try simp only[ai,SS,sa,az]at*);(try rw[cQ (by omega) (by omega)]))
 all_goals first
  | (show(_:List DV)=_
     first
      |exact cv (eD i2 i0 (by assumption) (show uc os id i=true from by assumption)).symm
      |exact cv (eE i2 (by assumption)).symm
      |done)
  |omega
  |exact fU
  |(show(lk _ _).isSome=true;kernel_rfl)
  |exact bB
  |exact aV i2 (iD (show uc os id i=false from by assumption))
  |done
abbrev Ma4:cZ:=eK (fun F f=>match f with|360=>aX F|_=>fun _=>none) (by
 intro f;dsimp only;split;exact cd;exact db)
def aT:EC:=fun F=>fun
 |[.one (.s 2 os),.fn 318 [[.v (.int Za id)]]]=>some (fun _=>Rw [tI,tI] os/\os.length<=1099511627776,[.k (F.rhB os id)])
 |_=>none
theorem bZ:ec 317 aT:=by
 intro _ _ _ h hp;dsimp only[aT,F0]at h;split at h<;>cases h
 rename_i os id;refine cb Ma4 Tryz.func317 ?_
 intro O r F hO hr hF;cbv
 repeat' first|apply Zb|(apply bG<;>intro hb<;>cbv)
 all_goals(subst hO hr hF;(try simp only[nc]at*);(try simp only[ai,SS,sa,az]at*))
 all_goals first
  | (show(_:List DV)=_
     first
      |exact ak (hE (by unfold rhB;simp only[SS,VQ]))
      |done)
  |exact hp
  |done
abbrev Ma5:cZ:=eK (fun F f=>match f with|317=>aT F|_=>fun _=>none) (by
 intro f;dsimp only;split;exact bZ;exact db)
def eQ:EC:=fun F=>fun
 |[.one (.s 2 os),.one (.v (.int Za id))]=>some (fun _=>Rw [tI,tI] os/\os.length<=1099511627776,[.k (F.rhB os id)])
 |_=>none
theorem wV:ec 231 eQ:=by
 intro _ _ _ h hp;dsimp only[eQ,F0]at h;split at h<;>cases h
 rename_i os id;refine cb Ma5 Tryz.func231 ?_
 exact afS
theorem xY:ec 263 eQ:=by
 intro _ _ _ h hp;dsimp only[eQ,F0]at h;split at h<;>cases h
 rename_i os id;obtain⟨hw,hn⟩:=hp;refine cb nB Tryz.func263 ?_
 intro O r F hO hr hF;cbv
 repeat' first|apply Zb|(apply bG<;>intro hb<;>cbv)|(refine⟨[0,1,5],[],Int,fun i=>[.reg 5 (.j i)],fun i=>0<=i/\i<=((os.length:Nat):Int)/\upto (bT (uc os id)) i,fun i=>(os.length)-i.toNat,⟨0,?_,?_⟩,?_⟩;rotate_left;(focus (cbv;done));intro i hi;replace hi:0<=i/\i<=((os.length:Nat):Int)/\upto (bT (uc os id)) i:=hi;obtain⟨i0,i1,i2⟩:=hi;cbv)|(refine ag (O.ar .add Za i 1) ?_ ?_ ?_;focus (cbv;done))
 all_goals(subst hO hr hF;(try simp only[nc]at*);(try simp only[ai,SS,sa,az]at*);(try rw[cQ (by omega) (by omega)]))
 all_goals first
  | (show(_:List DV)=_
     first
      |(refine ak ?_;symm;exact aaM i2 i0 (by assumption) (by assumption) (by assumption))
      |(refine ak ?_;symm;exact aem i2 (by omega))
      |done)
  |omega
  |exact fU
  |(show aP _ _=true;kernel_rfl)
  |exact bB
  |exact aV i2 (aek (by omega))
  |exact aV i2 (ael (by omega))
  |done
abbrev Ma6:cZ:=eK (fun F f=>match f with|227=>co F|259=>co F|_=>fun _=>none) (by
 intro f;dsimp only;split;exact j3;exact ia;exact db)
def eO:EC:=fun F=>fun
 |[.agg [.v (.int Za p1),.v (.int Za k1),.v (.int Za b1)],.agg [.v (.int Za p2),.v (.int Za k2),.v (.int Za b2)]]=>some (fun _=>True,[.k (F.mshB p1 k1 b1 p2 k2 b2)])
 |_=>none
theorem wT:ec 232 eO:=by
 intro _ _ _ h hp;dsimp only[eO,F0]at h;split at h<;>cases h
 rename_i p1 k1 b1 p2 k2 b2;refine cb Ma6 Tryz.func232 ?_
 exact afH
theorem xW:ec 264 eO:=by
 intro _ _ _ h hp;dsimp only[eO,F0]at h;split at h<;>cases h
 rename_i p1 k1 b1 p2 k2 b2;refine cb Ma6 Tryz.func264 ?_
 exact afH
abbrev Ma7:cZ:=eK (fun F f=>match f with|84=>bD F|183=>bD F|_=>fun _=>none) (by
 intro f;dsimp only;split;exact dA;exact d8;exact db)
def ew:EC:=fun F=>fun
 |[.one (.s 3 qs)]=>some (fun _=>Rw [tI,tI,tI] qs/\qs.length<=1073741824,[.j (F.qcI qs)])
 |_=>none
theorem u9:ec 196 ew:=by
 intro _ _ _ h hp;dsimp only[ew,F0]at h;split at h<;>cases h
 rename_i qs;obtain⟨hw,hl⟩:=hp;refine cb Ma7 Tryz.func196 ?_
 intro O r F hO hr hF;cbv
 repeat' first|apply Zb|(apply bG<;>intro hb<;>cbv)|(refine⟨[3,6,7,8],[],Int×Int,fun s_=>match s_ with|(i,t)=>[.reg 8 (.j i),.reg 3 (.j t)],fun s_=>match s_ with|(i,t)=>0<=i/\i<=(qs.length:Int)/\Oc qs i t,fun s_=>match s_ with|(i,t)=>qs.length-i.toNat,⟨(0,0),?_,?_⟩,?_⟩;rotate_left;(focus (cbv;done));intro s_ hi;obtain⟨i,t⟩:=s_;replace hi:0<=i/\i<=(qs.length:Int)/\Oc qs i t:=hi;obtain⟨i0,i1,i2⟩:=hi;cbv)|(refine ag (O.ar .add Za i 1,O.ar .add Za t (F.clsSz (O.gi qs i 1))) ?_ ?_ ?_;focus (cbv;done))
 all_goals exact afB
theorem x6:ec 267 ew:=by
 intro _ _ _ h hp;dsimp only[ew,F0]at h;split at h<;>cases h
 rename_i qs;obtain⟨hw,hl⟩:=hp;refine cb Ma7 Tryz.func267 ?_
 intro O r F hO hr hF;cbv
 repeat' first|apply Zb|(apply bG<;>intro hb<;>cbv)|(refine⟨[0,3,4],[],Int×Int,fun s_=>match s_ with|(i,t)=>[.reg 4 (.j i),.reg 3 (.j t)],fun s_=>match s_ with|(i,t)=>0<=i/\i<=(qs.length:Int)/\Oc qs i t,fun s_=>match s_ with|(i,t)=>qs.length-i.toNat,⟨(0,0),?_,?_⟩,?_⟩;rotate_left;(focus (cbv;done));intro s_ hi;obtain⟨i,t⟩:=s_;replace hi:0<=i/\i<=(qs.length:Int)/\Oc qs i t:=hi;obtain⟨i0,i1,i2⟩:=hi;cbv)|(refine ag (O.ar .add Za i 1,O.ar .add Za t (F.clsSz (O.gi qs i 1))) ?_ ?_ ?_;focus (cbv;done))
 all_goals exact afB
abbrev Ma8:cZ:=eK (fun F f=>match f with|193=>dN F|281=>ip F|28=>aj F|_=>fun _=>none) (by
 intro f;dsimp only;split;exact fA;exact pS;exact bi;exact db)
def ma:EC:=fun F=>fun
 |[.one (.s 3 b),.agg [.v (.int Za a),.v (.int Za c),.v (.int Za s)]]=>some (fun _=>Rw [tI,tI,tI] b/\b.length<=1073741824,[.k (F.stlOk b a c s)])
 |_=>none
theorem y7:ec 195 ma:=by
 intro _ _ _ h hp;dsimp only[ma,F0]at h;split at h<;>cases h
 rename_i b a c s;obtain⟨hw,hl⟩:=hp;have hs:bO .sub Za (b.length:Int) 1=b.length-1:=di (by omega);refine cb Ma8 Tryz.func195 ?_
 intro O r F hO hr hF;cbv
 repeat' first|apply Zb|(apply bG<;>intro hb<;>cbv)
 all_goals(subst hO hr hF;(try simp only[nc]at*);(try simp only[ai,SS,sa,az]at*);(try simp only[hs]at*))
 all_goals first|exact fU|(show aP _ _=true;kernel_rfl)|exact⟨hw,by omega⟩|(show(_:List DV)=_;refine ak ?_;unfold stlOk;simp[*,dB];done)|(show(_:List DV)=_;refine ak ?_;unfold stlOk;rw[VP (p:=0<=a) (by omega)];simp;done)|(show(_:List DV)=_;refine ak ?_;unfold stlOk;rw[VP (p:=0<=s) (by omega)];simp;done)|(show(_:List DV)=_;refine ak ?_;unfold stlOk;rw[VP (p:=b.length=0) (by omega)];simp[*,dB];done)|(show(_:List DV)=_;refine ak ?_;unfold stlOk;simp_all;done)|done
def oa:EC:=fun F=>fun
 |[.agg [.v (.int Za a),.v (.int Za c),.v (.int Za s)]]=>some (fun _=>True,[.k (F.staB a c s)])
 |_=>none
theorem BU:ec 265 oa:=by
 intro _ _ _ h hp;dsimp only[oa,F0]at h;split at h<;>cases h
 rename_i a c s;refine cb Ma8 Tryz.func265 ?_
 intro O r F hO hr hF;cbv
 repeat' first|apply Zb|(apply bG<;>intro hb<;>cbv)
 all_goals(subst hO hr hF;(try simp only[nc]at*);(try simp only[ai,SS,sa,az]at*))
 all_goals first|(show(_:List DV)=_;refine ak ?_;unfold staB;simp[*,dB];done)|(show(_:List DV)=_;refine ak ?_;unfold staB;rw[VP (p:=0<=a) (by omega)];simp;done)|done
abbrev Ma9:cZ:=eK (fun F f=>match f with|41=>aj F|195=>ma F|196=>ew F|28=>aj F|265=>oa F|266=>mA F|267=>ew F|_=>fun _=>none) (by
 intro f;dsimp only;split;exact bc;exact y7;exact u9;exact bi;exact BU;exact zF;exact x6;exact db)
def gd:EC:=fun F=>fun
 |[.agg [.v (.int Za rm),.s 3 qs]]=>some (fun _=>Rw [tI,tI,tI] qs/\qs.length<=1073741824,[.k (F.quarOk rm qs)])
 |_=>none
theorem Bq:ec 129 gd:=by
 intro _ _ _ h hp;dsimp only[gd,F0]at h;split at h<;>cases h
 rename_i rm qs;obtain⟨hw,hl⟩:=hp;refine cb Ma9 Tryz.func129 ?_
 intro O r F hO hr hF;cbv
 repeat' first|apply Zb|(apply bG<;>intro hb<;>cbv)|(refine⟨[1,6,7,8],[1],Int,fun i=>[.reg 8 (.j i)],fun i=>0<=i/\i<=((qs.length:Nat):Int)/\upto (FW qs) i,fun i=>(qs.length)-i.toNat,⟨0,?_,?_⟩,?_⟩;rotate_left;(focus (cbv;done));intro i hi;replace hi:0<=i/\i<=((qs.length:Nat):Int)/\upto (FW qs) i:=hi;obtain⟨i0,i1,i2⟩:=hi;cbv)|(refine ag (O.ar .add Za i 1) ?_ ?_ ?_;focus (cbv;done))
 all_goals(subst hO hr hF;(try simp only[nc]at*);(try simp only[ai,SS,sa,az]at*);(try rw[cQ (by omega) (by omega)]);(try simp only[A1]at*))
 all_goals first
  | (show(_:List DV)=_
     first
      |(refine ak ?_;symm;exact Jn i0 (by assumption) (by assumption))
      |(refine ak ?_;rw[MX i2 (by omega)];simp[*,dB];done)
      |done)
  |omega
  |exact fU
  |(show aP _ _=true;kernel_rfl)
  |exact⟨hw,hl⟩
  |exact⟨Rw.take hw _,by rw[Zk];omega⟩
  |exact bB
  |exact aV i2 (by assumption)
  |done
theorem BR:ec 170 gd:=by
 intro _ _ _ h hp;dsimp only[gd,F0]at h;split at h<;>cases h
 rename_i rm qs;obtain⟨hw,hl⟩:=hp;refine cb Ma9 Tryz.func170 ?_
 intro O r F hO hr hF;cbv
 repeat' first|apply Zb|(apply bG<;>intro hb<;>cbv)|(refine⟨[1,3],[1],Int,fun i=>[.reg 3 (.j i)],fun i=>0<=i/\i<=((qs.length:Nat):Int)/\upto (FW qs) i,fun i=>(qs.length)-i.toNat,⟨0,?_,?_⟩,?_⟩;rotate_left;(focus (cbv;done));intro i hi;replace hi:0<=i/\i<=((qs.length:Nat):Int)/\upto (FW qs) i:=hi;obtain⟨i0,i1,i2⟩:=hi;cbv)|(refine ag (O.ar .add Za i 1) ?_ ?_ ?_;focus (cbv;done))
 all_goals(subst hO hr hF;(try simp only[nc]at*);(try simp only[ai,SS,sa,az]at*);(try rw[cQ (by omega) (by omega)]);(try simp only[A1]at*);(try have z:=B7 i0 (by omega));(try simp only[z]at*))
 all_goals first
  | (show(_:List DV)=_
     first
      |(refine ak ?_;symm;exact Jn i0 (by assumption) (ad7 (by assumption)))
      |(refine ak ?_;symm;exact Jn i0 (by assumption) (ad8 (by omega) (by assumption) (by assumption)))
      |(refine ak ?_;symm;exact Jn i0 (by assumption) (ad9 (by assumption)))
      |(refine ak ?_;rw[MX i2 (by omega)];simp[*,dB];done)
      |(have q:false=true:=(by assumption);cases q)
      |done)
  |omega
  |exact fU
  |(show aP _ _=true;kernel_rfl)
  |exact⟨hw,hl⟩
  |exact⟨Rw.take hw _,by rw[Zk];omega⟩
  |exact bB
  |exact aV i2 (aea (by assumption) (by assumption) i0 (by omega))
  |exact aV i2 (aeb (by assumption) (by assumption) (by omega) (by assumption) (by assumption))
  |done
def nJ:EC:=fun F=>fun
 |[.one (.v (.int Za c))]=>some (fun _=>True,[.k (F.inR c 0 15)])
 |_=>none
theorem Bt:ec 320 nJ:=by
 intro _ _ _ h hp;dsimp only[nJ,F0]at h;split at h<;>cases h
 rename_i c;refine cb Ma0 Tryz.func320 ?_
 exact abq
def ig:EC:=fun F=>fun
 |[.one (.v (.int Za c))]=>some (fun _=>True,[.k (F.inR c 0 1073741823)])
 |_=>none
theorem nC:ec 133 ig:=by
 intro _ _ _ h hp;dsimp only[ig,F0]at h;split at h<;>cases h
 rename_i c;refine cb Ma0 Tryz.func133 ?_
 exact abq
abbrev Mb1:cZ:=eK (fun F f=>match f with|41=>aj F|320=>nJ F|28=>aj F|_=>fun _=>none) (by
 intro f;dsimp only;split;exact bc;exact Bt;exact bi;exact db)
def ga:EC:=fun F=>fun
 |[.agg [.v (.int Za k),.v (.int Za m),.s 1 cs]]=>some (fun _=>Rw [tI] cs/\cs.length<=1099511627776,[.k (F.plOk k m cs)])
 |_=>none
theorem Bp:ec 238 ga:=by
 intro _ _ _ h hp;dsimp only[ga,F0]at h;split at h<;>cases h
 rename_i k m cs;obtain⟨hw,hl⟩:=hp;refine cb Mb1 Tryz.func238 ?_
 intro O r F hO hr hF;cbv
 repeat' first|apply Zb|(apply bG<;>intro hb<;>cbv)|(refine⟨[1,6,7,8],[1],Int,fun i=>[.reg 8 (.j i)],fun i=>0<=i/\i<=((cs.length:Nat):Int)/\upto (Kr cs) i,fun i=>(cs.length)-i.toNat,⟨0,?_,?_⟩,?_⟩;rotate_left;(focus (cbv;done));intro i hi;replace hi:0<=i/\i<=((cs.length:Nat):Int)/\upto (Kr cs) i:=hi;obtain⟨i0,i1,i2⟩:=hi;cbv)|(refine ag (O.ar .add Za i 1) ?_ ?_ ?_;focus (cbv;done))
 all_goals(subst hO hr hF;(try simp only[nc]at*);(try simp only[ai,SS,sa,az]at*);(try rw[cQ (by omega) (by omega)]);(try have z:=B7 i0 (by omega));(try simp only[z]at*))
 all_goals first
  | (show(_:List DV)=_
     first
      |(refine ak ?_;symm;exact MS i0 (by assumption) (by assumption))
      |(refine ak ?_;symm;exact MU i0 (by assumption) (by omega) (by assumption))
      |(refine ak ?_;rw[Ee i2 (by omega)];simp[*,dB];done)
      |(refine ak ?_;rw[Ee i2 (by omega),Dw];simp[*];done)
      |(have q:false=true:=(by assumption);cases q)
      |done)
  |omega
  |exact fU
  |exact bB
  |exact aV i2 (Ji (by assumption) (by omega))
  |exact aV i2 (Jj (by assumption) (by assumption))
  |done
theorem BQ:ec 272 ga:=by
 intro _ _ _ h hp;dsimp only[ga,F0]at h;split at h<;>cases h
 rename_i k m cs;obtain⟨hw,hl⟩:=hp;refine cb Mb1 Tryz.func272 ?_
 intro O r F hO hr hF;cbv
 repeat' first|apply Zb|(apply bG<;>intro hb<;>cbv)|(refine⟨[1,3],[1],Int,fun i=>[.reg 3 (.j i)],fun i=>0<=i/\i<=((cs.length:Nat):Int)/\upto (Kr cs) i,fun i=>(cs.length)-i.toNat,⟨0,?_,?_⟩,?_⟩;rotate_left;(focus (cbv;done));intro i hi;replace hi:0<=i/\i<=((cs.length:Nat):Int)/\upto (Kr cs) i:=hi;obtain⟨i0,i1,i2⟩:=hi;cbv)|(refine ag (O.ar .add Za i 1) ?_ ?_ ?_;focus (cbv;done))
 all_goals(subst hO hr hF;(try simp only[nc]at*);(try simp only[ai,SS,sa,az]at*);(try rw[cQ (by omega) (by omega)]);(try have z:=B7 i0 (by omega));(try simp only[z]at*))
 all_goals first
  | (show(_:List DV)=_
     first
      |(refine ak ?_;symm;exact MS i0 (by assumption) (by assumption))
      |(refine ak ?_;symm;exact MU i0 (by assumption) (by omega) (by assumption))
      |(refine ak ?_;rw[Ee i2 (by omega)];simp[*,dB];done)
      |(refine ak ?_;rw[Ee i2 (by omega),Dw];simp[*];done)
      |(have q:false=true:=(by assumption);cases q)
      |done)
  |omega
  |exact fU
  |(show aP _ _=true;kernel_rfl)
  |exact bB
  |exact aV i2 (Ji (by assumption) (by omega))
  |exact aV i2 (Jj (by assumption) (by assumption))
  |done
abbrev Mb2:cZ:=eK (fun F f=>match f with|238=>ga F|41=>aj F|272=>ga F|28=>aj F|_=>fun _=>none) (by
 intro f;dsimp only;split;exact Bp;exact bc;exact BQ;exact bi;exact db)
def gT:EC:=fun F=>fun
 |[.agg [.v (.int Za k),.v (.int Za m),.s 1 cs,.v (.int Za ph),.v (.int Za nx)]]=>some (fun _=>Rw [tI] cs/\cs.length<=1099511627776,[.k (F.jbOk k m cs ph nx)])
 |_=>none
theorem Dk:ec 134 gT:=by
 intro _ _ _ h hp;dsimp only[gT,F0]at h;split at h<;>cases h
 rename_i k m cs ph nx;refine cb Mb2 Tryz.func134 ?_
 exact afQ
theorem Dq:ec 175 gT:=by
 intro _ _ _ h hp;dsimp only[gT,F0]at h;split at h<;>cases h
 rename_i k m cs ph nx;refine cb Mb2 Tryz.func175 ?_
 exact afQ
abbrev Mb3:cZ:=eK (fun F f=>match f with|193=>dN F|41=>aj F|84=>bD F|28=>aj F|183=>bD F|260=>fj F|_=>fun _=>none) (by
 intro f;dsimp only;split;exact fA;exact bc;exact dA;exact bi;exact d8;exact ic;exact db)
def dO:EC:=fun F=>fun
 |[.agg [.s 1 ls]]=>some (fun _=>SA ls,[.k (F.caOk ls)])
 |_=>none
theorem qG:ec 171 dO:=by
 intro _ _ _ h hp;dsimp only[dO,F0]at h;split at h<;>cases h
 rename_i ls;have hw:=hp.w;have hl:=hp.l;have hn:=hp.n;refine cb Mb3 Tryz.func171 ?_
 intro O r F hO hr hF;cbv
 repeat' first|apply Zb|(apply bG<;>intro hb<;>cbv)|(refine⟨[1,3,4],[1,3],Int×af,fun s_=>match s_ with|(i,o)=>[.reg 4 (.j i),.reg 3 (.one (.vw 3 0 0 0 (O.ln o))),.leaf 3 0 ⟨0,0,none,.own (.s 1 o)⟩],fun s_=>match s_ with|(i,o)=>0<=i/\i<=4/\ScP ls i o,fun s_=>match s_ with|(i,o)=>(4-i).toNat,⟨(0,[]),?_,?_⟩,?_⟩;rotate_left;(focus (cbv;done));intro s_ hi;obtain⟨i,o⟩:=s_;replace hi:0<=i/\i<=4/\ScP ls i o:=hi;obtain⟨i0,i1,i2⟩:=hi;cbv)|(refine⟨[1,3,4,5],[1,3],Int×af,fun s_=>match s_ with|(k,o1)=>[.reg 5 (.j k),.reg 3 (.one (.vw 3 0 0 0 (O.ln o1))),.leaf 3 0 ⟨0,0,none,.own (.s 1 o1)⟩],fun s_=>match s_ with|(k,o1)=>0<=k/\k<=((ax ls i 0).length:Int)/\Qr ls i k o1,fun s_=>match s_ with|(k,o1)=>(ax ls i 0).length-k.toNat,⟨(0,o),?_,?_⟩,?_⟩;rotate_left;(focus (cbv;done));intro s_ hk;obtain⟨k,o1⟩:=s_;replace hk:0<=k/\k<=((ax ls i 0).length:Int)/\Qr ls i k o1:=hk;obtain⟨k0,k1,k2⟩:=hk;cbv)|(refine ag (O.ar .add Za k 1,O.cat o1 (O.sub [[.i (O.gi (O.gs ls i 0) k 0)]] 0 (O.ln [[.i (O.gi (O.gs ls i 0) k 0)]]))) ?_ ?_ ?_;focus (cbv;done))|(refine ag (O.ar .add Za i 1,o1) ?_ ?_ ?_;focus (cbv;done))
 all_goals(subst hO hr hF;(try simp only[nc]at*);(try simp only[ai,SS,sa,az]at*);(try rw[cQ (by omega) (by omega)]);(try have z6:bO .add Za k 1=k+1:=bF (by have:=hn i;omega));(try simp only[z6]at*);(try have w1:=aaQ k2 k0);(try have w2:=hp.el i0 (by omega));(try have w3:=w2.1))
 all_goals first
  | (show(_:List DV)=_
     first
      |(refine ak ?_;symm;exact Dt (by assumption))
      |(refine ak ?_;symm;exact K1 i0 (by omega) (by omega))
      |(refine ak ?_;symm;exact Du i0 (by omega) k0 (by assumption) (Qy (by assumption)))
      |(refine ak ?_;symm;exact Du i0 (by omega) k0 (by assumption) (Qz (by assumption)))
      |(refine ak ?_;symm;exact aaP k2 i0 k0 (by assumption) (by assumption))
      |(refine ak ?_;symm;exact K2 i2.p (by omega) (by omega))
      |done)
  |omega
  |exact fU
  |exact w1.2
  |(constructor<;>(simp only[Zp,Zs];omega))
  |(have c:=(j8 (bA.2 (by omega:0<=i/\i<=3))).1;omega)
  |exact aeB k2 k0 (by assumption) (by assumption) (by assumption)
  |exact aeA k2 i0 k1 (by omega)
  |exact ahg i2 i0 (by omega) (by omega)
  |exact ahe
  |exact⟨Zf,Zf⟩
  |done
theorem qC:ec 130 dO:=by
 intro _ _ _ h hp;dsimp only[dO,F0]at h;split at h<;>cases h
 rename_i ls;have hw:=hp.w;have hl:=hp.l;have hn:=hp.n;refine cb Mb3 Tryz.func130 ?_
 intro O r F hO hr hF;cbv
 repeat' first|apply Zb|(apply bG<;>intro hb<;>cbv)|(refine⟨[1,3,10,11,12],[1,8],Int×af,fun s_=>match s_ with|(i,es)=>[.reg 12 (.j i),.leaf 8 0 ⟨0,0,none,.own (.m true es)⟩],fun s_=>match s_ with|(i,es)=>0<=i/\i<=(ls.length:Int)/\GN ls i es,fun s_=>match s_ with|(i,es)=>ls.length-i.toNat,⟨(0,[]),?_,?_⟩,?_⟩;rotate_left;(focus (cbv;done));intro s_ hi;obtain⟨i,es⟩:=s_;replace hi:0<=i/\i<=(ls.length:Int)/\GN ls i es:=hi;obtain⟨i0,i1,i2⟩:=hi;cbv)|(refine⟨[1,3,4,10,11,12,25,26,27],[1,8],Int×af,fun s_=>match s_ with|(k,es1)=>[.reg 27 (.j k),.leaf 8 0 ⟨0,0,none,.own (.m true es1)⟩],fun s_=>match s_ with|(k,es1)=>0<=k/\k<=((ax ls i 0).length:Int)/\GO ls i k es1,fun s_=>match s_ with|(k,es1)=>(ax ls i 0).length-k.toNat,⟨(0,es),?_,?_⟩,?_⟩;rotate_left;(focus (cbv;done));intro s_ hk;obtain⟨k,es1⟩:=s_;replace hk:0<=k/\k<=((ax ls i 0).length:Int)/\GO ls i k es1:=hk;obtain⟨k0,k1,k2⟩:=hk;cbv)|(refine ag (O.ar .add Za k 1,O.mu es1 (O.gi (O.gs ls i 0) k 0) (.v (.bool true))) ?_ ?_ ?_;focus (cbv;done))|(refine ag (O.ar .add Za i 1,es1) ?_ ?_ ?_;focus (cbv;done))
 all_goals(subst hO hr hF;(try simp only[nc]at*);(try simp only[ai,SS,sa,az]at*);(try rw[cQ (by omega) (by omega)]);(try have z6:bO .add Za k 1=k+1:=bF (by have:=hn i;omega));(try simp only[z6]at*);(try have w2:=hp.el i0 (by omega));(try have w3:=w2.1);(try have w4:=k2.p.l))
 all_goals first
  | (show(_:List DV)=_
     first
      |(refine ak ?_;exact SR i2.p i1 (by omega))
      |(refine ak ?_;symm;exact OV i2 i0 (by omega) (by assumption))
      |(refine ak ?_;symm;exact OW i2 i0 (by assumption) (by assumption))
      |(refine ak ?_;symm;exact Du i0 (by omega) k0 (by assumption) (Qy (by assumption)))
      |(refine ak ?_;symm;exact Du i0 (by omega) k0 (by assumption) (Qz (by assumption)))
      |(refine ak ?_;symm;exact OX k2 i0 k0 (by assumption) (by assumption))
      |done)
  |omega
  |exact fU
  |(have c:=(j8 (bA.2 (by omega:0<=i/\i<=3))).1;omega)
  |exact TM k2 k0 (by assumption) (by assumption) (by assumption)
  |exact TL k2 i0 k1 (by omega)
  |exact acS i2 i0 (by assumption) (by omega)
  |exact acR
  |done
def kE:EC:=fun F=>fun
 |[.agg [.v (.int Za d0),.v (.int Za d1),.v (.int Za d2),.v (.int Za d3)],.ptr [.v (.int Za e0),.v (.int Za e1),.v (.int Za e2),.v (.int Za e3)]]=>some (fun _=>True,[.k (F.eqB d0 e0)])
 |_=>none
theorem xd:ec 234 kE:=by
 intro _ _ _ h hp;dsimp only[kE,F0]at h;split at h<;>cases h
 rename_i d0 d1 d2 d3 e0 e1 e2 e3;refine cb nB Tryz.func234 ?_
 exact afN
abbrev Na1:cZ:=eK (fun F f=>match f with|234=>kE F|_=>fun _=>none) (by
 intro f;dsimp only;split;exact xd;exact db)
def aZ:EC:=fun F=>fun
 |[.one (.s 4 os),.fn 234 [[.v (.int Za e0),.v (.int Za e1),.v (.int Za e2),.v (.int Za e3)]]]=>some (fun _=>Rw [tI,tI,tI,tI] os/\os.length<=1099511627776,[.j (F.oiI os e0)])
 |_=>none
theorem cp:ec 187 aZ:=by
 intro _ _ _ h hp;dsimp only[aZ,F0]at h;split at h<;>cases h
 rename_i os e0 e1 e2 e3;obtain⟨hw,hn⟩:=hp;refine cb Na1 Tryz.func187 ?_
 intro O r F hO hr hF;cbv
 repeat' first|apply Zb|(apply bG<;>intro hb<;>cbv)|(refine⟨[0,1,7,8],[0],Int,fun i=>[.reg 8 (.j i)],fun i=>0<=i/\i<=((os.length:Nat):Int)/\upto (bT (Hu os e0)) i,fun i=>(os.length)-i.toNat,⟨0,?_,?_⟩,?_⟩;rotate_left;(focus (cbv;done));intro i hi;replace hi:0<=i/\i<=((os.length:Nat):Int)/\upto (bT (Hu os e0)) i:=hi;obtain⟨i0,i1,i2⟩:=hi;cbv)|(refine ag (O.ar .add Za i 1) ?_ ?_ ?_;focus (cbv;done))
 all_goals(subst hO hr hF;(try simp only[nc]at*);(try simp only[ai,SS,sa,az]at*);(try rw[cQ (by omega) (by omega)]))
 all_goals first
  | (show(_:List DV)=_
     first
      |exact cv (eD i2 i0 (by assumption) (show Hu os e0 i=true from by assumption)).symm
      |exact cv (eE i2 (by assumption)).symm
      |done)
  |omega
  |exact fU
  |(show(lk _ _).isSome=true;kernel_rfl)
  |exact bB
  |exact aV i2 (iD (show Hu os e0 i=false from by assumption))
  |done
abbrev Na2:cZ:=eK (fun F f=>match f with|187=>aZ F|_=>fun _=>none) (by
 intro f;dsimp only;split;exact cp;exact db)
def aW:EC:=fun F=>fun
 |[.one (.s 4 os),.fn 234 [[.v (.int Za e0),.v (.int Za e1),.v (.int Za e2),.v (.int Za e3)]]]=>some (fun _=>Rw [tI,tI,tI,tI] os/\os.length<=1099511627776,[.k (F.oiB os e0)])
 |_=>none
theorem b9:ec 233 aW:=by
 intro _ _ _ h hp;dsimp only[aW,F0]at h;split at h<;>cases h
 rename_i os e0 e1 e2 e3;refine cb Na2 Tryz.func233 ?_
 intro O r F hO hr hF;cbv
 repeat' first|apply Zb|(apply bG<;>intro hb<;>cbv)
 all_goals(subst hO hr hF;(try simp only[nc]at*);(try simp only[ai,SS,sa,az]at*))
 all_goals first
  | (show(_:List DV)=_
     first
      |exact ak (hE (by unfold oiB;simp only[SS,VQ]))
      |done)
  |exact hp
  |done
abbrev Na3:cZ:=eK (fun F f=>match f with|41=>aj F|233=>aW F|137=>iU F|77=>cN F|28=>aj F|268=>gG F|179=>cN F|_=>fun _=>none) (by
 intro f;dsimp only;split;exact bc;exact b9;exact qF;exact lM;exact bi;exact lS;exact lR;exact db)
def gg:EC:=fun F=>fun
 |[.agg hl_]=>hL hl_ fun a0 a1 a2 a3 a4 a5 a6 a7 a8 a9 aA aB aC aD aE aF aG aH aI aJ aK aL aM aN=>(fun _=>Ob a6 a7 a8 a9 aA aB aD/\layOk a6 a7=true,[.k (F.objOk a6 a7 a8 a9 aH)])
 |_=>none
theorem Bu:ec 131 gg:=by
 intro _ _ _ h hp;dsimp only[gg,F0,hL]at h;split at h;rotate_left;cases h;split at h<;>cases h
 rename_i a0 a1 a2 a3 a4 a5 a6 a7 a8 a9 aA aB aC aD aE aF aG aH aI aJ aK aL aM aN;obtain⟨N,hlay⟩:=hp;have how:=N.ow;have hol:=N.ol;have hsw:=N.sw;have hlw:=N.lw;have hsl:=N.sl;have hll:=N.ll;have hcl:=N.cl;have hlc:=aw (es:=a9);have hsb:bO .sub Za (a9.length:Int) 1=a9.length-1:=di (by omega);refine cb Na3 Tryz.func131 ?_
 intro O r F hO hr hF;cbv
 repeat' first|apply Zb|(apply bG<;>intro hb<;>cbv)|(refine⟨[1,9,10,11],[1],Int,fun i=>[.reg 11 (.j i)],fun i=>0<=i/\i<=((a8.length:Nat):Int)/\upto (CI a6 a7 a8 a9 aH) i,fun i=>(a8.length)-i.toNat,⟨0,?_,?_⟩,?_⟩;rotate_left;(focus (cbv;done));intro i hi;replace hi:0<=i/\i<=((a8.length:Nat):Int)/\upto (CI a6 a7 a8 a9 aH) i:=hi;obtain⟨i0,i1,i2⟩:=hi;cbv)|(refine ag (O.ar .add Za i 1) ?_ ?_ ?_;focus (cbv;done))
 all_goals(subst hO hr hF;(try simp only[nc]at*);(try simp only[ai,SS,sa,az]at*);(try rw[cQ (by omega) (by omega)]);(try have z:=B7 i0 (by omega));(try simp only[z,hsb,A1]at*);(try have d1:=fun h=>IB (sp:=a6) (lg:=a7) (a:=ah a8 i 1) h);(try have d3:=fun h=>QJ (sp:=a6) (lg:=a7) (a:=ah a8 i 1) h))
 all_goals first
  |(exfalso;omega)
  | (show(_:List DV)=_
     first
      |(refine ak ?_;symm;exact qh i0 (by assumption) (Rp (by assumption) (by assumption)))
      |(refine ak ?_;symm;exact qh i0 (by assumption) (Rq (by assumption)))
      |(refine ak ?_;symm;exact qh i0 (by assumption) (Rr (by assumption)))
      |(refine ak ?_;symm;exact qh i0 (by assumption) (Rs (by assumption)))
      |(refine ak ?_;symm;exact qh i0 (by assumption) (Ja (Rt (by assumption))))
      |(refine ak ?_;symm;exact qh i0 (by assumption) (Ja (adK (by first|exact .inl (by assumption)|exact .inr (by assumption)|exact .inl (by omega)) (by first|exact .inl (by assumption)|exact .inr (by assumption)|exact .inl (by omega)))))
      |(refine ak ?_;symm;exact MC i2 (by omega))
      |(have q:false=true:=(by assumption);cases q)
      |done)
  |omega
  |exact fU
  |(show aP _ _=true;kernel_rfl)
  |exact⟨hsw,hlw⟩
  |exact⟨Rw.take how _,by rw[Zk];omega⟩
  |exact bB
  |exact aV i2 (Pn (by first|exact .inl (by omega)|exact .inr (by assumption)) (by assumption) (by assumption) (by assumption) (Ru (by assumption) (by assumption) (by assumption)))
  |exact aV i2 (Pn (by first|exact .inl (by omega)|exact .inr (by assumption)) (by assumption) (by assumption) (by assumption) (Rv (by assumption) (by assumption) (by assumption)))
  |(have q:false=true:=(by assumption);cases q)
  |done
theorem zU:ec 172 gg:=by
 intro _ _ _ h hp;dsimp only[gg,F0,hL]at h;split at h;rotate_left;cases h;split at h<;>cases h
 rename_i a0 a1 a2 a3 a4 a5 a6 a7 a8 a9 aA aB aC aD aE aF aG aH aI aJ aK aL aM aN;obtain⟨N,hlay⟩:=hp;have how:=N.ow;have hol:=N.ol;have hsw:=N.sw;have hlw:=N.lw;have hsl:=N.sl;have hll:=N.ll;have hcl:=N.cl;have hlc:=aw (es:=a9);have hsb:bO .sub Za (a9.length:Int) 1=a9.length-1:=di (by omega);refine cb Na3 Tryz.func172 ?_
 intro O r F hO hr hF;cbv
 repeat' first|apply Zb|(apply bG<;>intro hb<;>cbv)|(refine⟨[1,3],[1],Int,fun i=>[.reg 3 (.j i)],fun i=>0<=i/\i<=(a8.length:Int)/\upto (CI a6 a7 a8 a9 aH) i,fun i=>a8.length-i.toNat,⟨0,?_,?_⟩,?_⟩;rotate_left;(focus (cbv;done));intro i hi;replace hi:0<=i/\i<=(a8.length:Int)/\upto (CI a6 a7 a8 a9 aH) i:=hi;obtain⟨i0,i1,i2⟩:=hi;cbv)|(refine⟨[1,3,4,5],[1,4],Int,fun k=>[.reg 5 (.j k)],fun k=>0<=k/\k<=i/\upto (fun j=> !eqB (ah a8 j 0) (ah a8 i 0)) k,fun k=>(i-k).toNat,⟨0,?_,?_⟩,?_⟩;rotate_left;(focus (cbv;done));intro k hk;replace hk:0<=k/\k<=i/\upto (fun j=> !eqB (ah a8 j 0) (ah a8 i 0)) k:=hk;obtain⟨k0,k1,k2⟩:=hk;cbv)|(refine ag (O.ar .add Za k 1) ?_ ?_ ?_;focus (cbv;done))|(refine ag (O.ar .add Za i 1) ?_ ?_ ?_;focus (cbv;done))
 all_goals(subst hO hr hF;(try simp only[nc]at*);(try simp only[ai,SS,sa,az]at*);(try rw[cQ (by omega) (by omega)]);(try have z:=B7 i0 (by omega));(try simp only[z,hsb]at*);(try simp only[QK hlay,QL hlay,QM hlay]at*);(try have z6:bO .add Za k 1=k+1:=bF (by omega));(try simp only[z6]at*);(try have d1:=fun h=>IB (sp:=a6) (lg:=a7) (a:=ah a8 i 1) h);(try have d3:=fun h=>QJ (sp:=a6) (lg:=a7) (a:=ah a8 i 1) h);(try have d4:=adJ (os:=a8) (i:=i) k2 (by omega) i0))
 all_goals first
  |(exfalso;omega)
  | (show(_:List DV)=_
     first
      |(refine ak ?_;symm;exact qh i0 (by assumption) (Rp (by assumption) (by assumption)))
      |(refine ak ?_;symm;exact qh i0 (by assumption) (Rq (by assumption)))
      |(refine ak ?_;symm;exact qh i0 (by assumption) (Rr (by assumption)))
      |(refine ak ?_;symm;exact qh i0 (by assumption) (Rs (aax k0 (by assumption) (by assumption) (by assumption))))
      |(refine ak ?_;symm;exact qh i0 (by assumption) (Ja (Rt (by assumption))))
      |(refine ak ?_;symm;exact qh i0 (by assumption) (Ja (adK (by first|exact .inl (by assumption)|exact .inr (by assumption)|exact .inl (by omega)) (by first|exact .inl (by assumption)|exact .inr (by assumption)|exact .inl (by omega)))))
      |(refine ak ?_;symm;exact MC i2 (by omega))
      |(have q:false=true:=(by assumption);cases q)
      |done)
  |omega
  |exact fU
  |(show aP _ _=true;kernel_rfl)
  |exact⟨hsw,hlw,hsl,hll,qR how rfl (by omega)⟩
  |exact bB
  |exact aV k2 (by show(!eqB _ _)=true;rw[wq (by assumption)];rfl)
  |exact aV i2 (Pn (by first|exact .inl (by omega)|exact .inr (by assumption)) (by assumption) (by assumption) (by assumption) (Ru (by assumption) (by assumption) (by assumption)))
  |exact aV i2 (Pn (by first|exact .inl (by omega)|exact .inr (by assumption)) (by assumption) (by assumption) (by assumption) (Rv (by assumption) (by assumption) (by assumption)))
  |(have q:false=true:=(by assumption);cases q)
  |done
abbrev Oa1:cZ:=eK (fun F f=>match f with|137=>iU F|268=>gG F|_=>fun _=>none) (by
 intro f;dsimp only;split;exact qF;exact lS;exact db)
def iw:EP:=fun F=>fun
 |[.one (.v (.int Za ad)),.one (.v (.int Za k)),.mp [.own (.m false es)],.mp [.ro (.s 1 a0),.ro (.s 1 a1),.ro (.s 2 a2),.own (.v (.int Za a3)),.ro (.s 1 a4),.ro (.s 2 a5),.ro (.s 3 a6),.ro (.s 3 a7),.ro (.s 4 a8),.ro (.s 1 a9),.ro (.s 1 aA),.ro (.s 1 aB),.own (.v (.int Za aC)),.ro (.s 3 aD),.own (.v (.int Za aE)),.own (.v (.int Za aF)),.own (.v (.int Za aG)),.own (.v (.int Za aH)),.own (.v (.bool aI)),.own (.v (.int Za aJ)),.own (.v (.int Za aK)),.ro (.s 1 aL),.own (.v (.int Za aM)),.own (.v (.int Za aN))]]=>some (fun _=>Rw [tI,tI,tI] a6/\Rw [tI,tI,tI] a7,[[.own (.m false (F.huI es ad))],[.ro (.s 1 a0),.ro (.s 1 a1),.ro (.s 2 a2),.own (.i a3),.ro (.s 1 a4),.ro (.s 2 a5),.ro (.s 3 a6),.ro (.s 3 a7),.ro (.s 4 a8),.ro (.s 1 a9),.ro (.s 1 aA),.ro (.s 1 aB),.own (.i aC),.ro (.s 3 aD),.own (.i aE),.own (.i aF),.own (.i aG),.own (.i aH),.own (.v (.bool aI)),.own (.i aJ),.own (.i aK),.ro (.s 1 aL),.own (.i aM),.own (.i aN)]],[.k (F.hlB a6 a7 ad k)])
 |_=>none
theorem sM:ep 235 iw:=by
 intro _ _ _ _ h hp;dsimp only[iw,F0]at h;split at h<;>cases h
 rename_i ad k es a0 a1 a2 a3 a4 a5 a6 a7 a8 a9 aA aB aC aD aE aF aG aH aI aJ aK aL aM aN;obtain⟨hsw,hlw⟩:=hp;refine pb Oa1 Tryz.func235 ?_
 intro O r os F hO hr hos hF;cbv
 repeat' first|apply Zb|(apply bG<;>intro hb<;>cbv)
 all_goals((try subst hos);subst hO hr hF;(try simp only[nc]at*);(try simp only[ai,SS,sa,az]at*);(try have d1:=fun h=>IB (sp:=a6) (lg:=a7) (a:=ad) h))
 all_goals first|(show(_:List DV)=_;refine ak ?_;unfold hlB;simp[*];done)|(show(_:List DV)=_;refine ak ?_;unfold hlB;rw[VP (p:=k<0) (by omega),cmp_eq];simp[*];done)|(show(_:List H)=_;exact rfl)|exact⟨hsw,hlw⟩|(have e:=d1 (by assumption);exact fU)|done
def mE:EC:=fun F=>fun
 |[.agg hl_,.one (.v (.int Za ad)),.one (.v (.int Za k))]=>hL hl_ fun a0 a1 a2 a3 a4 a5 a6 a7 a8 a9 aA aB aC aD aE aF aG aH aI aJ aK aL aM aN=>(fun _=>Ob a6 a7 a8 a9 aA aB aD/\layOk a6 a7=true/\ -9223372036854775808<=ad/\ad<=9223372036854775807,[.k (F.hlB a6 a7 ad k)])
 |_=>none
theorem zW:ec 269 mE:=by
 intro _ _ _ h hp;dsimp only[mE,F0,hL]at h;split at h;rotate_left;cases h;split at h<;>cases h
 rename_i ad k _ a0 a1 a2 a3 a4 a5 a6 a7 a8 a9 aA aB aC aD aE aF aG aH aI aJ aK aL aM aN;obtain⟨N,hlay,ad0,ad1⟩:=hp;have hsw:=N.sw;have hlw:=N.lw;have hsl:=N.sl;have hll:=N.ll;refine cb Oa1 Tryz.func269 ?_
 intro O r F hO hr hF;cbv
 repeat' first|apply Zb|(apply bG<;>intro hb<;>cbv)
 all_goals(subst hO hr hF;(try simp only[nc]at*);(try simp only[ai,SS,sa,az]at*);(try simp only[QK hlay,QL hlay,QM hlay]at*);(try have d1:=fun h=>IB (sp:=a6) (lg:=a7) (a:=ad) h))
 all_goals first|(show(_:List DV)=_;refine ak ?_;unfold hlB;simp[*];done)|(show(_:List DV)=_;refine ak ?_;unfold hlB;rw[VP (p:=k<0) (by omega),cmp_eq];simp[*];done)|exact⟨hsw,hlw,hsl,hll,ad0,ad1⟩|(have e:=d1 (by assumption);exact fU)|done
abbrev Oa2:cZ:={
 Φ:=qp
 F0:=F0
 ct:=fun F f=>match f with|236=>eN F|237=>jI F|_=>fun _=>none
 hc:=(by
  intro f;dsimp only;split;exact wS;exact uW;exact db)
 pt:=fun F f=>match f with|235=>some (iw F)|_=>none
 hp:=(by
  intro f mk h;dsimp only at h;split at h<;>cases h
  exact sM)}
def jJ:EC:=fun F=>fun
 |[.agg hl_]=>hL hl_ fun a0 a1 a2 a3 a4 a5 a6 a7 a8 a9 aA aB aC aD aE aF aG aH aI aJ aK aL aM aN=>(fun _=>Ob a6 a7 a8 a9 aA aB aD/\layOk a6 a7=true,[.k (F.hoI a6 a7 a8 a9 aA aB aD aF)])
 |_=>none
theorem u7:ec 132 jJ:=by
 intro _ _ _ h hp;dsimp only[jJ,F0,hL]at h;split at h;rotate_left;cases h;split at h<;>cases h
 rename_i a0 a1 a2 a3 a4 a5 a6 a7 a8 a9 aA aB aC aD aE aF aG aH aI aJ aK aL aM aN;obtain⟨N,hlay⟩:=hp;have hsw:=N.sw;have hlw:=N.lw;have hsl:=N.sl;have hll:=N.ll;have how:=N.ow;have hol:=N.ol;have hcw:=N.cw;have hcl:=N.cl;have hqw:=N.qw;have hql:=N.ql;have hcc:=N.c;have hlc:=aw (es:=a9);have hfr:=LN N.m;have hfl:=Hm (b:=aA) (x:=aB);have hlr:=ac6 (sp:=a6) (lg:=a7);have hla:=LZ (sp:=a6) (lg:=a7);refine cb Oa2 Tryz.func132 ?_
 intro O r F hO hr hF;cbv
 repeat' first|apply Zb|(apply bG<;>intro hb<;>cbv)|(refine⟨[1,3,4,22,23,24],[1,3],Int×af,fun s_=>match s_ with|(i,es)=>[.reg 24 (.j i),.leaf 3 0 ⟨0,0,none,.own (.m false es)⟩],fun s_=>match s_ with|(i,es)=>0<=i/\i<=(a9.length:Int)/\HiP a6 a7 a9 i es,fun s_=>match s_ with|(i,es)=>a9.length-i.toNat,⟨(0,[]),?_,?_⟩,?_⟩;rotate_left;(focus (cbv;done));intro s_ hi;obtain⟨i,es⟩:=s_;replace hi:0<=i/\i<=(a9.length:Int)/\HiP a6 a7 a9 i es:=hi;obtain⟨i0,i1,i2⟩:=hi;cbv)|(refine⟨[1,3,4,22,23,24,29,30,31],[1,3],Int×af,fun s_=>match s_ with|(k,es1)=>[.reg 31 (.j k),.leaf 3 0 ⟨0,0,none,.own (.m false es1)⟩],fun s_=>match s_ with|(k,es1)=>0<=k/\k<=((ax a9 i 0).length:Int)/\HkP a6 a7 a9 i k es1,fun s_=>match s_ with|(k,es1)=>(ax a9 i 0).length-k.toNat,⟨(0,es),?_,?_⟩,?_⟩;rotate_left;(focus (cbv;done));intro s_ hk;obtain⟨k,es1⟩:=s_;replace hk:0<=k/\k<=((ax a9 i 0).length:Int)/\HkP a6 a7 a9 i k es1:=hk;obtain⟨k0,k1,k2⟩:=hk;cbv)|(refine⟨[1,3,4,7,22,23,24,29,30,31,36,37,38],[1,3],Int×af,fun s_=>match s_ with|(j,es2)=>[.reg 38 (.j j),.leaf 3 0 ⟨0,0,none,.own (.m false es2)⟩],fun s_=>match s_ with|(j,es2)=>0<=j/\j<=((ax (ax a9 i 0) k 0).length:Int)/\HjP a6 a7 a9 i k j es2,fun s_=>match s_ with|(j,es2)=>(ax (ax a9 i 0) k 0).length-j.toNat,⟨(0,es1),?_,?_⟩,?_⟩;rotate_left;(focus (cbv;done));intro s_ hj;obtain⟨j,es2⟩:=s_;replace hj:0<=j/\j<=((ax (ax a9 i 0) k 0).length:Int)/\HjP a6 a7 a9 i k j es2:=hj;obtain⟨j0,j1,j2⟩:=hj;cbv)|(refine⟨[1,3,4,52,53,54],[1,3],Int×af,fun s_=>match s_ with|(q,es3)=>[.reg 54 (.j q),.leaf 3 0 ⟨0,0,none,.own (.m false es3)⟩],fun s_=>match s_ with|(q,es3)=>0<=q/\q<=(aD.length:Int)/\HqP a6 a7 a9 aD aF q es3,fun s_=>match s_ with|(q,es3)=>aD.length-q.toNat,⟨(0,es),?_,?_⟩,?_⟩;rotate_left;(focus (cbv;done));intro s_ hq;obtain⟨q,es3⟩:=s_;replace hq:0<=q/\q<=(aD.length:Int)/\HqP a6 a7 a9 aD aF q es3:=hq;obtain⟨q0,q1,q2⟩:=hq;cbv)|(refine⟨[1,3,4,75,76,77],[1,3,75],Int×af,fun s_=>match s_ with|(f,es4)=>[.reg 77 (.j f),.leaf 3 0 ⟨0,0,none,.own (.m false es4)⟩],fun s_=>match s_ with|(f,es4)=>0<=f/\f<=((ifL aA aB).length:Int)/\HfP a6 a7 a9 aD (ifL aA aB) aF f es4,fun s_=>match s_ with|(f,es4)=>(ifL aA aB).length-f.toNat,⟨(0,es3),?_,?_⟩,?_⟩;rotate_left;(focus (cbv;done));intro s_ hf;obtain⟨f,es4⟩:=s_;replace hf:0<=f/\f<=((ifL aA aB).length:Int)/\HfP a6 a7 a9 aD (ifL aA aB) aF f es4:=hf;obtain⟨f0,f1,f2⟩:=hf;cbv)|(refine⟨[1,3,87,88,89],[1,3],Int×af,fun s_=>match s_ with|(p,es5)=>[.reg 89 (.j p),.leaf 3 0 ⟨0,0,none,.own (.m false es5)⟩],fun s_=>match s_ with|(p,es5)=>0<=p/\p<=(a8.length:Int)/\Sj a6 a7 a8 a9 aD (ifL aA aB) aF p es5,fun s_=>match s_ with|(p,es5)=>a8.length-p.toNat,⟨(0,es4),?_,?_⟩,?_⟩;rotate_left;(focus (cbv;done));intro s_ hp;obtain⟨p,es5⟩:=s_;replace hp:0<=p/\p<=(a8.length:Int)/\Sj a6 a7 a8 a9 aD (ifL aA aB) aF p es5:=hp;obtain⟨p0,p1,p2⟩:=hp;cbv)|(refine⟨[3,103,104,105],[3,103],Int×af,fun s_=>match s_ with|(t,es6)=>[.reg 105 (.j t),.leaf 3 0 ⟨0,0,none,.own (.m false es6)⟩],fun s_=>match s_ with|(t,es6)=>0<=t/\t<=((iaL a6 a7).length:Int)/\Qi a6 a7 a8 a9 aD (ifL aA aB) aF t es6,fun s_=>match s_ with|(t,es6)=>(iaL a6 a7).length-t.toNat,⟨(0,es5),?_,?_⟩,?_⟩;rotate_left;(focus (cbv;done));intro s_ ht;obtain⟨t,es6⟩:=s_;replace ht:0<=t/\t<=((iaL a6 a7).length:Int)/\Qi a6 a7 a8 a9 aD (ifL aA aB) aF t es6:=ht;obtain⟨t0,t1,t2⟩:=ht;cbv)|(refine ag (O.ar .add Za j 1,F.huI es2 (O.gi (O.gs (O.gs a9 i 0) k 0) j 0)) ?_ ?_ ?_;focus (cbv;done))|(refine ag (O.ar .add Za k 1,es2) ?_ ?_ ?_;focus (cbv;done))|(refine ag (O.ar .add Za i 1,es1) ?_ ?_ ?_;focus (cbv;done))|(refine ag (O.ar .add Za t 1,es6) ?_ ?_ ?_;focus (cbv;done))|(refine ag (O.ar .add Za p 1,O.mu es5 (O.gi a8 p 1) (.i (O.ar .add Za (O.mgi es5 (O.gi a8 p 1)) 1))) ?_ ?_ ?_;focus (cbv;done))|(refine ag (O.ar .add Za f 1,F.huI es4 (O.pi (.s 1 (F.ifL aA aB)) [(O.ad 0 f,0)])) ?_ ?_ ?_;focus (cbv;done))|(refine ag (O.ar .add Za q 1,F.huI es3 (O.gi aD q 0)) ?_ ?_ ?_;focus (cbv;done))
 all_goals(subst hO hr hF;(try simp only[nc]at*);(try simp only[ai,SS,sa,az]at*);(try rw[cQ (by omega) (by omega)]);(try simp only[rq f0]at*);(try simp only[rq t0,Pb]at*);(try have z8:bO .add Za t 1=t+1:=bF (by omega));(try simp only[z8]at*);(try have w6:=hcc.n i i0 (by assumption));(try have w7:=w6.el k0 (by assumption));(try have w8:=w7.1);(try have z6:bO .add Za k 1=k+1:=bF (by have:=w6.l;omega));(try simp only[z6]at*);(try have z7:bO .add Za j 1=j+1:=bF (by have:=w7.2;omega));(try simp only[z7]at*))
 all_goals first
  | (show(_:List DV)=_
     first
      |(refine ak ?_;symm;exact Tt i0 (by assumption) (acM k0 (by assumption) j0 (by assumption) (by assumption)))
      |(refine ak ?_;symm;exact LD q0 (by assumption) (aeh (by assumption)))
      |(refine ak ?_;symm;exact LD q0 (by assumption) (aei (by assumption)))
      |(refine ak ?_;symm;exact Tu f0 (by assumption) (by assumption))
      |(refine ak ?_;symm;exact agi t2 t0 (by assumption) (by assumption))
      |(refine ak ?_;symm;exact Ts t2 (by omega))
      |done)
  |omega
  |exact fU
  |exact⟨hsw,hlw⟩
  |exact⟨hsw,hlw,hsl,hll⟩
  |exact N.m
  |exact CL hfr f0 (by assumption)
  |exact CL hlr t0 (by assumption)
  |exact acr j2 i0 (by assumption) k0 (by assumption) j0 (by assumption) hcl (by assumption)
  |exact acs j2 k0 j1 (by omega)
  |exact acq k2 i0 k1 (by omega)
  |exact agd k2
  |exact agf i2
  |exact agc
  |exact agn i2 i1 (by omega)
  |exact acK q2 q0 (by assumption) hcl hql (agY (by assumption) (by omega))
  |exact agb q2 q1 (by omega)
  |exact acp f2 f0 (by assumption) hcl hql hfl (by assumption)
  |exact agj f2 f1 (by omega)
  |exact acw p2 p0 (by assumption) hcl hql hol hfl
  |exact agh p2 p1 (by omega)
  |exact acv t2 (by assumption)
  |done
abbrev Oa3:cZ:=eK (fun F f=>match f with|269=>mE F|270=>eN F|271=>jT F|260=>fj F|_=>fun _=>none) (by
 intro f;dsimp only;split;exact zW;exact xV;exact vz;exact ic;exact db)
def mD:EC:=fun F=>fun
 |[.agg hl_]=>hL hl_ fun a0 a1 a2 a3 a4 a5 a6 a7 a8 a9 aA aB aC aD aE aF aG aH aI aJ aK aL aM aN=>(fun _=>Ob a6 a7 a8 a9 aA aB aD/\layOk a6 a7=true,[.k (F.hoS a6 a7 a8 a9 aA aB aD)])
 |_=>none
theorem zV:ec 173 mD:=by
 intro _ _ _ h hp;dsimp only[mD,F0,hL]at h;split at h;rotate_left;cases h;split at h<;>cases h
 rename_i a0 a1 a2 a3 a4 a5 a6 a7 a8 a9 aA aB aC aD aE aF aG aH aI aJ aK aL aM aN;obtain⟨N,hlay⟩:=hp;have hsw:=N.sw;have hlw:=N.lw;have hsl:=N.sl;have hll:=N.ll;have how:=N.ow;have hol:=N.ol;have hcw:=N.cw;have hcl:=N.cl;have hqw:=N.qw;have hql:=N.ql;have hcc:=N.c;have hlc:=aw (es:=a9);have hfr:=LN N.m;have hfl:=Hm (b:=aA) (x:=aB);refine cb Oa3 Tryz.func173 ?_
 intro O r F hO hr hF;cbv
 repeat' first|apply Zb|(apply bG<;>intro hb<;>cbv)|(refine⟨[1,3,4],[1,3],Int×af,fun s_=>match s_ with|(i,o)=>[.reg 4 (.j i),.reg 3 (.one (.vw 3 0 0 0 (O.ln o))),.leaf 3 0 ⟨0,0,none,.own (.s 1 o)⟩],fun s_=>match s_ with|(i,o)=>0<=i/\i<=(a8.length:Int)/\SF a8 i o,fun s_=>match s_ with|(i,o)=>a8.length-i.toNat,⟨(0,[]),?_,?_⟩,?_⟩;rotate_left;(focus (cbv;done));intro s_ hi;obtain⟨i,o⟩:=s_;replace hi:0<=i/\i<=(a8.length:Int)/\SF a8 i o:=hi;obtain⟨i0,i1,i2⟩:=hi;cbv)|(refine⟨[1,3,5],[1,3],Int×af,fun s_=>match s_ with|(j,o1)=>[.reg 5 (.j j),.reg 3 (.one (.vw 3 0 0 0 (O.ln o1))),.leaf 3 0 ⟨0,0,none,.own (.s 1 o1)⟩],fun s_=>match s_ with|(j,o1)=>0<=j/\j<=(a9.length:Int)/\S2P a6 a7 a8 a9 j o1,fun s_=>match s_ with|(j,o1)=>a9.length-j.toNat,⟨(0,o),?_,?_⟩,?_⟩;rotate_left;(focus (cbv;done));intro s_ hj;obtain⟨j,o1⟩:=s_;replace hj:0<=j/\j<=(a9.length:Int)/\S2P a6 a7 a8 a9 j o1:=hj;obtain⟨j0,j1,j2⟩:=hj;cbv)|(refine⟨[1,3,5,6],[1,3],Int×af,fun s_=>match s_ with|(k,o2)=>[.reg 6 (.j k),.reg 3 (.one (.vw 3 0 0 0 (O.ln o2))),.leaf 3 0 ⟨0,0,none,.own (.s 1 o2)⟩],fun s_=>match s_ with|(k,o2)=>0<=k/\k<=((ax a9 j 0).length:Int)/\S3P a6 a7 a8 a9 j k o2,fun s_=>match s_ with|(k,o2)=>(ax a9 j 0).length-k.toNat,⟨(0,o1),?_,?_⟩,?_⟩;rotate_left;(focus (cbv;done));intro s_ hk;obtain⟨k,o2⟩:=s_;replace hk:0<=k/\k<=((ax a9 j 0).length:Int)/\S3P a6 a7 a8 a9 j k o2:=hk;obtain⟨k0,k1,k2⟩:=hk;cbv)|(refine⟨[1,3,5,6,7,8],[1,3],Int×af,fun s_=>match s_ with|(m,o3)=>[.reg 8 (.j m),.reg 3 (.one (.vw 3 0 0 0 (O.ln o3))),.leaf 3 0 ⟨0,0,none,.own (.s 1 o3)⟩],fun s_=>match s_ with|(m,o3)=>0<=m/\m<=((ax (ax a9 j 0) k 0).length:Int)/\SG a6 a7 a8 a9 j k m o3,fun s_=>match s_ with|(m,o3)=>(ax (ax a9 j 0) k 0).length-m.toNat,⟨(0,o2),?_,?_⟩,?_⟩;rotate_left;(focus (cbv;done));intro s_ hm;obtain⟨m,o3⟩:=s_;replace hm:0<=m/\m<=((ax (ax a9 j 0) k 0).length:Int)/\SG a6 a7 a8 a9 j k m o3:=hm;obtain⟨m0,m1,m2⟩:=hm;cbv)|(refine⟨[1,3,9],[1,3],Int×af,fun s_=>match s_ with|(q,o4)=>[.reg 9 (.j q),.reg 3 (.one (.vw 3 0 0 0 (O.ln o4))),.leaf 3 0 ⟨0,0,none,.own (.s 1 o4)⟩],fun s_=>match s_ with|(q,o4)=>0<=q/\q<=(aD.length:Int)/\SH a6 a7 a8 a9 aD q o4,fun s_=>match s_ with|(q,o4)=>aD.length-q.toNat,⟨(0,o1),?_,?_⟩,?_⟩;rotate_left;(focus (cbv;done));intro s_ hq;obtain⟨q,o4⟩:=s_;replace hq:0<=q/\q<=(aD.length:Int)/\SH a6 a7 a8 a9 aD q o4:=hq;obtain⟨q0,q1,q2⟩:=hq;cbv)|(refine⟨[1,3,10,11],[1,3,10],Int×af,fun s_=>match s_ with|(f,o5)=>[.reg 11 (.j f),.reg 3 (.one (.vw 3 0 0 0 (O.ln o5))),.leaf 3 0 ⟨0,0,none,.own (.s 1 o5)⟩],fun s_=>match s_ with|(f,o5)=>0<=f/\f<=((ifL aA aB).length:Int)/\SI a6 a7 a8 a9 aD (ifL aA aB) f o5,fun s_=>match s_ with|(f,o5)=>(ifL aA aB).length-f.toNat,⟨(0,o4),?_,?_⟩,?_⟩;rotate_left;(focus (cbv;done));intro s_ hf;obtain⟨f,o5⟩:=s_;replace hf:0<=f/\f<=((ifL aA aB).length:Int)/\SI a6 a7 a8 a9 aD (ifL aA aB) f o5:=hf;obtain⟨f0,f1,f2⟩:=hf;cbv)|(refine⟨[1,3,12],[1,3],Int,fun t=>[.reg 12 (.j t)],fun t=>0<=t/\t<=(o5.length:Int)/\Od a6 a7 a8 a9 aD (ifL aA aB) t o5,fun t=>o5.length-t.toNat,⟨0,?_,?_⟩,?_⟩;rotate_left;(focus (cbv;done));intro t ht;replace ht:0<=t/\t<=(o5.length:Int)/\Od a6 a7 a8 a9 aD (ifL aA aB) t o5:=ht;obtain⟨t0,t1,t2⟩:=ht;cbv)|(refine ag (O.ar .add Za m 1,O.cat o3 (O.sub [[.i (O.gi (O.gs (O.gs a9 j 0) k 0) m 0)]] 0 (O.ln [[.i (O.gi (O.gs (O.gs a9 j 0) k 0) m 0)]]))) ?_ ?_ ?_;focus (cbv;done))|(refine ag (O.ar .add Za k 1,o3) ?_ ?_ ?_;focus (cbv;done))|(refine ag (O.ar .add Za j 1,o2) ?_ ?_ ?_;focus (cbv;done))|(refine ag (O.ar .add Za t 1) ?_ ?_ ?_;focus (cbv;done))|(refine ag (O.ar .add Za f 1,O.cat o5 (O.sub [[.i (O.pi (.s 1 (F.ifL aA aB)) [(O.ad 0 f,0)])]] 0 (O.ln [[.i (O.pi (.s 1 (F.ifL aA aB)) [(O.ad 0 f,0)])]]))) ?_ ?_ ?_;focus (cbv;done))|(refine ag (O.ar .add Za q 1,O.cat o4 (O.sub [[.i (O.gi aD q 0)]] 0 (O.ln [[.i (O.gi aD q 0)]]))) ?_ ?_ ?_;focus (cbv;done))|(refine ag (O.ar .add Za i 1,O.cat o (O.sub [[.i (O.gi a8 i 1)]] 0 (O.ln [[.i (O.gi a8 i 1)]]))) ?_ ?_ ?_;focus (cbv;done))
 all_goals(subst hO hr hF;(try simp only[nc]at*);(try simp only[ai,SS,sa,az]at*);(try rw[cQ (by omega) (by omega)]);(try simp only[rq f0]at*);(try simp only[rq t0]at*);(try simp only[A1]at*);(try have w6:=hcc.n j j0 (by assumption));(try have w7:=w6.el k0 (by assumption));(try have w8:=w7.1);(try have z6:bO .add Za k 1=k+1:=bF (by have:=w6.l;omega));(try simp only[z6]at*);(try have z7:bO .add Za m 1=m+1:=bF (by have:=w7.2;omega));(try simp only[z7]at*);(try have w1:=ag2 (by assumption));(try have w4:=ag6 m2 j0 (by assumption) k0 (by assumption) m0 (by omega) hcl hol);(try have w5:=ag8 q2 (by omega) hcl hol hql);(try have w9:=aha f2 (by omega) hcl hol hql hfl);(try have wa:=aev t2 hcl hol hql hfl);(try have wb:=aew N t2);(try have z8:bO .add Za t 1=t+1:=bF (by omega));(try simp only[z8]at*))
 all_goals first
  | (show(_:List DV)=_
     first
      |(refine ak ?_;symm;exact Tw j0 (by assumption) (acM k0 (by assumption) m0 (by assumption) (by assumption)))
      |(refine ak ?_;symm;exact Tx q0 (by assumption) (by assumption))
      |(refine ak ?_;symm;exact Tz f0 (by assumption) (by assumption))
      |(refine ak ?_;symm;exact ahc t2 t0 (by assumption) (by assumption))
      |(refine ak ?_;rw[cmp_eq];exact aaO t2 (by omega))
      |done)
  |omega
  |exact fU
  |(show aP _ _=true;kernel_rfl)
  |exact⟨hsw,hlw,hsl,hll⟩
  |exact N.m
  |exact⟨N,hlay,qR (fs:=[tI]) w8 rfl (by omega)⟩
  |exact⟨N,hlay,qR hqw rfl (by omega)⟩
  |exact⟨N,hlay,qR hfr rfl (by omega)⟩
  |exact wb _
  |exact CL hfr f0 (by assumption)
  |exact CL (by have q:=wb o5.length;rwa [List.take_length]at q) t0 (by assumption)
  |(constructor<;>(simp only[Zp,Zs];omega))
  |exact aes m2 m0 (by assumption)
  |exact aer m2 k0 m1 (by omega)
  |exact aeq k2 j0 k1 (by omega)
  |exact ag5 k2
  |exact ag4 j2
  |exact ag3 i2 i1 (by omega)
  |exact aep i2 i0
  |exact ag1
  |exact ag7 j2 j1 (by omega)
  |exact aet q2 q0 (by assumption)
  |exact ag9 q2 q1 (by omega)
  |exact aeu f2 f0 (by assumption)
  |exact ahb f2 f1 (by omega)
  |exact aex t2 t0 (by assumption) (by assumption)
  |exact⟨Zf,Zf⟩
  |done
abbrev Pa0:cZ:=eK (fun F f=>match f with|82=>cK F|_=>fun _=>none) (by
 intro f;dsimp only;split;exact jE;exact db)
def ie:EC:=fun F=>fun
 |[.agg [.s 1 a0,.s 1 a1,.s 2 a2,.v (.int Za a3),.s 1 a4],.one (.v (.int Za p))]=>some (fun _=>Rw [tI,tI] a2,[.k (F.mapB a2 p)])
 |_=>none
theorem nA:ec 230 ie:=by
 intro _ _ _ h hp;dsimp only[ie,F0]at h;split at h<;>cases h
 rename_i a0 a1 a2 a3 a4 p;refine cb Pa0 Tryz.func230 ?_
 intro O r F hO hr hF;cbv
 repeat' first|apply Zb|(apply bG<;>intro hb<;>cbv)
 all_goals(subst hO hr hF;(try simp only[nc]at*);(try simp only[ai,SS,sa,az]at*))
 all_goals first|(show(_:List DV)=_;refine ak ?_;unfold mapB;rw[Dw];done)|exact hp|done
abbrev Pa1:cZ:=eK (fun F f=>match f with|229=>cy F|230=>ie F|231=>eQ F|82=>cK F|232=>eO F|_=>fun _=>none) (by
 intro f;dsimp only;split;exact nh;exact nA;exact wV;exact jE;exact wT;exact db)
def lZ:EC:=fun F=>fun
 |[.agg hl_]=>hL hl_ fun a0 a1 a2 a3 a4 a5 a6 a7 a8 a9 aA aB aC aD aE aF aG aH aI aJ aK aL aM aN=>(fun _=>Ob a6 a7 a8 a9 aA aB aD/\layOk a6 a7=true/\Rw [tI,tI] a2/\a2.length<=1099511627776/\Rw [tI,tI] a5/\a5.length<=1099511627776,[.k (F.pgI a2 a5 a6 a7)])
 |_=>none
theorem yX:ec 127 lZ:=by
 intro _ _ _ h hp;dsimp only[lZ,F0,hL]at h;split at h;rotate_left;cases h;split at h<;>cases h
 rename_i a0 a1 a2 a3 a4 a5 a6 a7 a8 a9 aA aB aC aD aE aF aG aH aI aJ aK aL aM aN;obtain⟨N,hlay,hew,hel,hfw,hfl⟩:=hp;have hsw:=N.sw;have hlw:=N.lw;have hsl:=N.sl;have hll:=N.ll;have F:=lyF hlay;have lgF:∀ j:Int,0<=j->j<a7.length->0<=ah a7 j 0/\1<=ah a7 j 1/\ah a7 j 0+ah a7 j 1<=32:=fun j h0 h1=>by
  have t:=oj (F.l j.toNat (by omega));rw[Zq h0]at t;have b:=mX t.1;omega
 refine cb Pa1 Tryz.func127 ?_
 intro O r F hO hr hF;cbv
 repeat' first|apply Zb|(apply bG<;>intro hb<;>cbv)|(refine⟨[1,18,19,20],[1],Int,fun i=>[.reg 20 (.j i)],fun i=>0<=i/\i<=(a6.length:Int)/\upto (yD a6) i,fun i=>a6.length-i.toNat,⟨0,?_,?_⟩,?_⟩;rotate_left;(focus (cbv;done));intro i hi;replace hi:0<=i/\i<=(a6.length:Int)/\upto (yD a6) i:=hi;obtain⟨i0,i1,i2⟩:=hi;cbv)|(refine⟨[1,5,42,43,44],[1,40],Int×af,fun s_=>match s_ with|(q,m)=>[.reg 44 (.j q),.leaf 40 0 ⟨0,0,none,.own (.m true m)⟩],fun s_=>match s_ with|(q,m)=>0<=q/\q<=(a6.length:Int)/\yJ m (oB a6 q.toNat),fun s_=>match s_ with|(q,m)=>a6.length-q.toNat,⟨(0,[]),?_,?_⟩,?_⟩;rotate_left;(focus (cbv;done));intro s_ hq;obtain⟨q,m⟩:=s_;replace hq:0<=q/\q<=(a6.length:Int)/\yJ m (oB a6 q.toNat):=hq;obtain⟨q0,q1,q2⟩:=hq;cbv)|(refine⟨[1,5,53,54,55],[1,40],Int×af,fun s_=>match s_ with|(j,m1)=>[.reg 55 (.j j),.leaf 40 0 ⟨0,0,none,.own (.m true m1)⟩],fun s_=>match s_ with|(j,m1)=>0<=j/\j<=(a7.length:Int)/\PlP a2 a6 a7 j m1,fun s_=>match s_ with|(j,m1)=>a7.length-j.toNat,⟨(0,m),?_,?_⟩,?_⟩;rotate_left;(focus (cbv;done));intro s_ hj;obtain⟨j,m1⟩:=s_;replace hj:0<=j/\j<=(a7.length:Int)/\PlP a2 a6 a7 j m1:=hj;obtain⟨j0,j1,j2⟩:=hj;cbv)|(refine⟨[1,5,9,10,53,54,55],[1,40,9],Int×af,fun s_=>match s_ with|(p,m2)=>[.reg 10 (.j p),.leaf 40 0 ⟨0,0,none,.own (.m true m2)⟩],fun s_=>match s_ with|(p,m2)=>ah a7 j 0<=p/\p<=ah a7 j 0+ah a7 j 1/\PkP a2 a6 a7 j (p-ah a7 j 0) m2,fun s_=>match s_ with|(p,m2)=>(ah a7 j 0+ah a7 j 1-p).toNat,⟨(O.gi a7 j 0,m1),?_,?_⟩,?_⟩;rotate_left;(focus (cbv;done));intro s_ hp;obtain⟨p,m2⟩:=s_;replace hp:ah a7 j 0<=p/\p<=ah a7 j 0+ah a7 j 1/\PkP a2 a6 a7 j (p-ah a7 j 0) m2:=hp;obtain⟨p0,p1,p2⟩:=hp;cbv)|(refine⟨[1,5,98,99],[1,40],Int,fun e=>[.reg 99 (.j e)],fun e=>0<=e/\e<=(a2.length:Int)/\upto (Cn a2 a5 a6 a7) e,fun e=>a2.length-e.toNat,⟨0,?_,?_⟩,?_⟩;rotate_left;(focus (cbv;done));intro e he;replace he:0<=e/\e<=(a2.length:Int)/\upto (Cn a2 a5 a6 a7) e:=he;obtain⟨e0,e1,e2⟩:=he;cbv)|(refine⟨[1,122],[1],List Int,fun vs=>[.reg 122 (.one (.it m1 vs))],fun vs=>True/\∀ k∈vs,k<(a2.length:Int),fun vs=>m1.length-vs.length,⟨[],?_,?_⟩,?_⟩;rotate_left;(focus (cbv;done));intro vs yc;replace yc:True/\∀ k∈vs,k<(a2.length:Int):=yc;obtain⟨vs0,vs1⟩:=yc;cbv)|(refine⟨[1,136,137,138],[1],Int,fun u=>[.reg 138 (.j u)],fun u=>0<=u/\u<=(a6.length:Int)/\upto (N0 a2 a6) u,fun u=>a6.length-u.toNat,⟨0,?_,?_⟩,?_⟩;rotate_left;(focus (cbv;done));intro u hu;replace hu:0<=u/\u<=(a6.length:Int)/\upto (N0 a2 a6) u:=hu;obtain⟨u0,u1,u2⟩:=hu;cbv)|(refine⟨[1,14,136,137,138,146,147,148],[1,14],Int,fun v=>[.reg 148 (.j v)],fun v=>0<=v/\v<=u/\upto (Kp a2 a6 u) v,fun v=>(u-v).toNat,⟨0,?_,?_⟩,?_⟩;rotate_left;(focus (cbv;done));intro v hv;replace hv:0<=v/\v<=u/\upto (Kp a2 a6 u) v:=hv;obtain⟨v0,v1,v2⟩:=hv;cbv)|(refine ag (O.ar .add Za p 1,O.mu m2 p (.v (.bool true))) ?_ ?_ ?_;focus (cbv;done))|(refine ag (O.ar .add Za j 1,m2) ?_ ?_ ?_;focus (cbv;done))|(refine ag (O.ar .add Za q 1,O.mu m (O.gi a6 q 0) (.v (.bool true))) ?_ ?_ ?_;focus (cbv;done))|(refine ag (O.ar .add Za v 1) ?_ ?_ ?_;focus (cbv;done))|(refine ag (O.ar .add Za u 1) ?_ ?_ ?_;focus (cbv;done))|(refine ag (O.ar .add Za e 1) ?_ ?_ ?_;focus (cbv;done))|(refine ag (O.ar .add Za i 1) ?_ ?_ ?_;focus (cbv;done))|(refine ag (kk::vs) ?_ ?_ ?_;focus (cbv;done))|((intro(kk:Int) (hkk:O.pr _);cbv))|((intro(hkk:O.pr _);cbv))
 all_goals(subst hO hr hF;(try simp only[nc]at*);(try simp only[ai,SS,sa,az]at*);(try rw[cQ (by omega) (by omega)]);(try have zi:=B7 i0 (by omega));(try simp only[zi]at*);(try have zj:=B7 j0 (by omega));(try simp only[zj]at*);(try have lf:=lgF j j0 (by assumption));(try have zl:bO .add Za (ah a7 j 0) (ah a7 j 1)=ah a7 j 0+ah a7 j 1:=bF (by omega));(try simp only[zl]at*);(try have zp:bO .add Za p 1=p+1:=bF (by omega));(try simp only[zp]at*);(try have zv:bO .add Za v 1=v+1:=bF (by omega));(try simp only[zv]at*);(try simp only[adO (aaA j2 j1 (by assumption))]at*);(try simp only[A1]at*);(try have tl:(List.take u.toNat a6).length=u.toNat:=by(rw[Zk];omega));(try have hwt:=Rw.take hsw u.toNat);(try simp only[yu (es:=a6) (n:=u.toNat) (i:=v) (by omega)]at*))
 all_goals first
  | (show(_:List DV)=_
     first
      |(refine ak ?_;symm;exact adV i0 (by assumption) (Ju (by assumption) (by assumption)))
      |(refine ak ?_;symm;exact Rz j0 (by assumption) (Rb (Ju (by assumption) (by assumption))))
      |(refine ak ?_;symm;exact Rz j0 (by assumption) (adZ p0 (by assumption) (by omega)))
      |(refine ak ?_;symm;exact RA e0 (by assumption) (QN (by assumption)))
      |(refine ak ?_;symm;exact RA e0 (by assumption) (QO (by assumption)))
      |(refine ak ?_;symm;exact adW (adH (((aaA j2 j1 (by assumption)).k _).1 hkk.1) (by assumption)))
      |(refine ak ?_;symm;exact adX u0 (by assumption) (agD v0 (by omega) (by assumption) (by assumption)))
      |(refine ak ?_;symm;exact agM i2 (by omega) j2.ok (by omega) e2 (by omega) (agK (aaA j2 j1 (by assumption)) vs1 hkk) u2 (by omega))
      |done)
  |omega
  |exact fU
  |(show aP _ _=true;kernel_rfl)
  |exact⟨hew,hel⟩
  |exact⟨hfw,hfl⟩
  |exact bB
  |exact aV i2 (Jv (by omega))
  |exact aV i2 (Jw (by assumption))
  |(rw[rA q0];exact MH q2)
  |exact adN
  |exact agN q2 q1 (by omega)
  |exact adY j2 (Jv (by omega))
  |exact adY j2 (Jw (by assumption))
  |exact ad2 p2 p0 (by omega)
  |exact ad3 p2 j0 (by omega) p1 (by omega)
  |exact aV e2 (ab9 (by assumption) (by assumption))
  |exact aeS vs1 (by assumption)
  |exact fun k hk=>by cases hk
  |(have q:=hkk.2;simp only[Zp];omega)
  |exact aV v2 (adn (by assumption))
  |exact aV v2 (ado (by assumption))
  |exact aV u2 (agE v2 (by omega) u0)
  |done
abbrev Pa2:cZ:=eK (fun F f=>match f with|262=>cy F|260=>fj F|263=>eQ F|_=>fun _=>none) (by
 intro f;dsimp only;split;exact iN;exact ic;exact xY;exact db)
def lm:EC:=fun F=>fun
 |[.agg hl_]=>hL hl_ fun a0 a1 a2 a3 a4 a5 a6 a7 a8 a9 aA aB aC aD aE aF aG aH aI aJ aK aL aM aN=>(fun _=>Ob a6 a7 a8 a9 aA aB aD/\layOk a6 a7=true/\Rw [tI,tI] a2/\a2.length<=1099511627776/\Rw [tI,tI] a5/\a5.length<=1099511627776,[.k (F.pgS a2 a5 a6 a7)])
 |_=>none
theorem x7:ec 167 lm:=by
 intro _ _ _ h hp;dsimp only[lm,F0,hL]at h;split at h;rotate_left;cases h;split at h<;>cases h
 rename_i a0 a1 a2 a3 a4 a5 a6 a7 a8 a9 aA aB aC aD aE aF aG aH aI aJ aK aL aM aN;obtain⟨N,hlay,hew,hel,hfw,hfl⟩:=hp;have hsw:=N.sw;have hlw:=N.lw;have hsl:=N.sl;have hll:=N.ll;have F:=lyF hlay;have lgF:∀ j:Int,0<=j->j<a7.length->0<=ah a7 j 0/\1<=ah a7 j 1/\ah a7 j 0+ah a7 j 1<=32:=fun j h0 h1=>by
  have t:=oj (F.l j.toNat (by omega));rw[Zq h0]at t;have b:=mX t.1;omega
 refine cb Pa2 Tryz.func167 ?_
 intro O r F hO hr hF;cbv
 repeat' first|apply Zb|(apply bG<;>intro hb<;>cbv)|(refine⟨[1,3,4,5,6],[1,3,5],Int×af,fun s_=>match s_ with|(i,o)=>[.reg 6 (.j i),.reg 5 (.one (.vw 5 0 0 0 (O.ln o))),.leaf 5 0 ⟨0,0,none,.own (.s 1 o)⟩],fun s_=>match s_ with|(i,o)=>0<=i/\i<=(a6.length:Int)/\SE a6 i o,fun s_=>match s_ with|(i,o)=>a6.length-i.toNat,⟨(0,[]),?_,?_⟩,?_⟩;rotate_left;(focus (cbv;done));intro s_ hi;obtain⟨i,o⟩:=s_;replace hi:0<=i/\i<=(a6.length:Int)/\SE a6 i o:=hi;obtain⟨i0,i1,i2⟩:=hi;cbv)|(refine⟨[1,3,4,5,7],[1,3,5],Int×af,fun s_=>match s_ with|(j,o1)=>[.reg 7 (.j j),.reg 5 (.one (.vw 5 0 0 0 (O.ln o1))),.leaf 5 0 ⟨0,0,none,.own (.s 1 o1)⟩],fun s_=>match s_ with|(j,o1)=>0<=j/\j<=(a7.length:Int)/\NV a2 a6 a7 j o1,fun s_=>match s_ with|(j,o1)=>a7.length-j.toNat,⟨(0,o),?_,?_⟩,?_⟩;rotate_left;(focus (cbv;done));intro s_ hj;obtain⟨j,o1⟩:=s_;replace hj:0<=j/\j<=(a7.length:Int)/\NV a2 a6 a7 j o1:=hj;obtain⟨j0,j1,j2⟩:=hj;cbv)|(refine⟨[1,3,4,5,7,8],[1,3,5],Int×af,fun s_=>match s_ with|(k,o2)=>[.reg 8 (.j k),.reg 5 (.one (.vw 5 0 0 0 (O.ln o2))),.leaf 5 0 ⟨0,0,none,.own (.s 1 o2)⟩],fun s_=>match s_ with|(k,o2)=>0<=k/\k<=ah a7 j 1/\SD a2 a6 a7 j k o2,fun s_=>match s_ with|(k,o2)=>(ah a7 j 1-k).toNat,⟨(0,o1),?_,?_⟩,?_⟩;rotate_left;(focus (cbv;done));intro s_ hk;obtain⟨k,o2⟩:=s_;replace hk:0<=k/\k<=ah a7 j 1/\SD a2 a6 a7 j k o2:=hk;obtain⟨k0,k1,k2⟩:=hk;cbv)|(refine⟨[1,3,4,5,10],[1,3,5],Int,fun t=>[.reg 10 (.j t)],fun t=>0<=t/\t<=(o1.length:Int)/\upto (fun t=>decide (ah o1 t 0<a2.length)) t,fun t=>o1.length-t.toNat,⟨0,?_,?_⟩,?_⟩;rotate_left;(focus (cbv;done));intro t ht;replace ht:0<=t/\t<=(o1.length:Int)/\upto (fun t=>decide (ah o1 t 0<a2.length)) t:=ht;obtain⟨t0,t1,t2⟩:=ht;cbv)|(refine⟨[1,3,4,5,11],[1,3,5],Int,fun e=>[.reg 11 (.j e)],fun e=>0<=e/\e<=(a2.length:Int)/\upto (Cn a2 a5 a6 a7) e,fun e=>a2.length-e.toNat,⟨0,?_,?_⟩,?_⟩;rotate_left;(focus (cbv;done));intro e he;replace he:0<=e/\e<=(a2.length:Int)/\upto (Cn a2 a5 a6 a7) e:=he;obtain⟨e0,e1,e2⟩:=he;cbv)|(refine ag (O.ar .add Za k 1,O.cat o2 (O.sub [[.i (O.ar .add Za (O.gi a7 j 0) k)]] 0 (O.ln [[.i (O.ar .add Za (O.gi a7 j 0) k)]]))) ?_ ?_ ?_;focus (cbv;done))|(refine ag (O.ar .add Za j 1,o2) ?_ ?_ ?_;focus (cbv;done))|(refine ag (O.ar .add Za e 1) ?_ ?_ ?_;focus (cbv;done))|(refine ag (O.ar .add Za t 1) ?_ ?_ ?_;focus (cbv;done))|(refine ag (O.ar .add Za i 1,O.cat o (O.sub [[.i (O.gi a6 i 0)]] 0 (O.ln [[.i (O.gi a6 i 0)]]))) ?_ ?_ ?_;focus (cbv;done))
 all_goals(subst hO hr hF;(try simp only[nc]at*);(try simp only[ai,SS,sa,az]at*);(try rw[cQ (by omega) (by omega)]);(try have zi:=B7 i0 (by omega));(try simp only[zi]at*);(try have zj:=B7 j0 (by omega));(try simp only[zj]at*);(try have lf:=lgF j j0 (by assumption));(try have z6:bO .add Za k 1=k+1:=bF (by omega));(try simp only[z6]at*);(try have z5:bO .add Za (ah a7 j 0) k=ah a7 j 0+k:=bF (by omega));(try simp only[z5]at*);(try have w1:=agX (by assumption));(try have w2:=agR k2 (by omega));(try have w3:=aef hlay j2 j1 (by assumption) hsl hll);(try simp only[rq t0]at*);(try have w4:=w3.1);(try unfold maxLen at w4);(try have z7:bO .add Za t 1=t+1:=bF (by omega));(try simp only[z7]at*);(try simp only[agU j2 j1 (by assumption)]at*);(try simp only[adr e0 (by assumption)]at*))
 all_goals first
  | (show(_:List DV)=_
     first
      |(refine ak ?_;symm;exact ad5 i0 (by assumption) (Ju (by assumption) (by assumption)))
      |(refine ak ?_;symm;exact RB j0 (by assumption) (Rb (Ju (by assumption) (by assumption))))
      |(refine ak ?_;symm;exact RB j0 (by assumption) (Rc k0 (by assumption) (by omega)))
      |(refine ak ?_;symm;exact ad6 (agT j2 j1 (by assumption) t0 (by assumption) (by assumption)))
      |(refine ak ?_;symm;exact RD e0 (by assumption) (QN (by assumption)))
      |(refine ak ?_;symm;exact RD e0 (by assumption) (Tc (by assumption) (by assumption)))
      |(refine ak ?_;symm;exact agO i2.ok (by omega) j2.ok (by omega) e2 (by omega) (agV j2 j1 (by assumption) t2 (by omega)))
      |done)
  |omega
  |exact fU
  |(show aP _ _=true;kernel_rfl)
  |exact⟨hew,hel⟩
  |exact⟨hfw,hfl⟩
  |exact CL w3 t0 (by assumption)
  |(constructor<;>(simp only[Zp,Zs];omega))
  |exact RG i2 i0 (Jv (by omega))
  |exact RG i2 i0 (Jw (by assumption))
  |exact agW
  |exact agS i2 i1 (by omega)
  |exact aed j2 (Jv (by omega))
  |exact aed j2 (Jw (by assumption))
  |exact aee k2 k0 (by omega)
  |exact aeg k2 j0 (by omega) (by omega) k1 (by omega)
  |exact bB
  |exact aV t2 (VO (by assumption))
  |exact aV e2 (aca (by assumption) (by assumption))
  |exact⟨Zf,Zf⟩
  |done
abbrev Pa3:cZ:=eK (fun F f=>match f with|262=>cy F|176=>fh F|264=>eO F|_=>fun _=>none) (by
 intro f;dsimp only;split;exact iN;exact sB;exact xW;exact db)
def jU:EC:=fun F=>fun
 |[.agg hl_]=>hL hl_ fun a0 a1 a2 a3 a4 a5 a6 a7 a8 a9 aA aB aC aD aE aF aG aH aI aJ aK aL aM aN=>(fun _=>Ob a6 a7 a8 a9 aA aB aD/\Rw [tI,tI] a2/\a2.length<=1099511627776,[.k (F.smS a2 a6)])
 |_=>none
theorem vC:ec 168 jU:=by
 intro _ _ _ h hp;dsimp only[jU,F0,hL]at h;split at h;rotate_left;cases h;split at h<;>cases h
 rename_i a0 a1 a2 a3 a4 a5 a6 a7 a8 a9 aA aB aC aD aE aF aG aH aI aJ aK aL aM aN;obtain⟨N,hew,hel⟩:=hp;have hsw:=N.sw;have hsl:=N.sl;have fr:=fun p=>Hf (es:=a2) (p:=p) hel
 refine cb Pa3 Tryz.func168 ?_
 intro O r F hO hr hF;cbv
 repeat' first|apply Zb|(apply bG<;>intro hb<;>cbv)|(refine⟨[1,3],[1],Int,fun i=>[.reg 3 (.j i)],fun i=>0<=i/\i<=(a6.length:Int)/\upto (msA a2 a6) i,fun i=>a6.length-i.toNat,⟨0,?_,?_⟩,?_⟩;rotate_left;(focus (cbv;done));intro i hi;replace hi:0<=i/\i<=(a6.length:Int)/\upto (msA a2 a6) i:=hi;obtain⟨i0,i1,i2⟩:=hi;cbv)|(refine⟨[1,3,4,5],[1,4],Int,fun k=>[.reg 5 (.j k)],fun k=>0<=k/\k<=((fpg a2 (ah a6 i 0)).length:Int)/\upto (Mg a2 a6 i) k,fun k=>(fpg a2 (ah a6 i 0)).length-k.toNat,⟨0,?_,?_⟩,?_⟩;rotate_left;(focus (cbv;done));intro k hk;replace hk:0<=k/\k<=((fpg a2 (ah a6 i 0)).length:Int)/\upto (Mg a2 a6 i) k:=hk;obtain⟨k0,k1,k2⟩:=hk;cbv)|(refine ag (O.ar .add Za k 1) ?_ ?_ ?_;focus (cbv;done))|(refine ag (O.ar .add Za i 1) ?_ ?_ ?_;focus (cbv;done))
 all_goals(subst hO hr hF;(try simp only[nc]at*);(try simp only[ai,SS,sa,az]at*);(try rw[cQ (by omega) (by omega)]);(try simp only[rq k0]at*);(try have w1:=fr (ah a6 i 0));(try have w2:=w1.1);(try have w3:=w1.2);(try have z6:bO .add Za k 1=k+1:=bF (by omega));(try simp only[z6]at*);(try have w4:=fun h=>aeF (sp:=a6) (p:=ah (fpg a2 (ah a6 i 0)) k 0) h))
 all_goals first
  | (show(_:List DV)=_
     first
      |(refine ak ?_;symm;exact bW (p:=msA a2 a6) i0 (by assumption) (ady k0 (by assumption) (by assumption) (by assumption)))
      |(refine ak ?_;symm;exact bW (p:=msA a2 a6) i0 (by assumption) (adz k0 (by assumption) (by assumption) (by assumption)))
      |(refine ak ?_;symm;exact bM i2 (by omega))
      |done)
  |omega
  |exact fU
  |(show aP _ _=true;kernel_rfl)
  |exact⟨hew,hel⟩
  |exact⟨hsw,by omega⟩
  |exact CL w2 k0 (by assumption)
  |exact bB
  |exact aV k2 (adp (by assumption))
  |exact aV k2 (adq (by assumption) (by assumption))
  |exact aV i2 (bM k2 (by omega))
  |(have q:true=false:=(by assumption);cases q)
  |exact⟨Zf,Zf⟩
  |done
def oc:EC:=fun F=>fun
 |[.agg [.v (.int Za k),.v (.int Za m),.s 1 cs,.v (.int Za ph),.v (.int Za nx)]]=>some (fun _=>True,[.k (F.jobZ k m cs ph nx)])
 |_=>none
theorem BV:ec 174 oc:=by
 intro _ _ _ h hp;dsimp only[oc,F0]at h;split at h<;>cases h
 rename_i k m cs ph nx;refine cb nB Tryz.func174 ?_
 intro O r F hO hr hF;cbv
 repeat' first|apply Zb|(apply bG<;>intro hb<;>cbv)
 all_goals(subst hO hr hF;(try simp only[nc]at*);(try simp only[ai,SS,sa,az]at*))
 all_goals first|(show(_:List DV)=_;refine ak ?_;unfold jobZ;simp[*,cmp_eq];done)|(show(_:List DV)=_;refine ak ?_;unfold jobZ;rw[VO (p:=cs.length=0) (by omega),cmp_eq];simp[*];done)|(show(_:List DV)=_;refine ak ?_;unfold jobZ;rw[VP (p:=cs.length=0) (by omega)];simp;done)|done
abbrev Qa1:cZ:=eK (fun F f=>match f with|124=>dm F|125=>dq F|126=>cV F|127=>lZ F|128=>dZ F|129=>gd F|130=>dO F|131=>gg F|132=>jJ F|133=>ig F|41=>aj F|134=>gT F|135=>fh F|_=>fun _=>none) (by
 intro f;dsimp only;split;exact pL;exact pP;exact pN;exact yX;exact su;exact Bq;exact qC;exact Bu;exact u7;exact nC;exact bc;exact Dk;exact Bs;exact db)
def f9:EC:=fun F=>fun
 |[.agg hl_]=>hL hl_ fun a0 a1 a2 a3 a4 a5 a6 a7 a8 a9 aA aB aC aD aE aF aG aH aI aJ aK aL aM aN=>(fun _=>HpN a0 a1 a2 a4 a5 a6 a7 a8 a9 aA aB aD aL,[.k (F.hpI a0 a1 a2 a3 a4 a5 a6 a7 a8 a9 aA aB aC aD aE aF aG aH aI aJ aK aL aM aN)])
 |_=>none
theorem Bn:ec 40 f9:=by
 intro _ _ _ h hp;dsimp only[f9,F0,hL]at h;split at h;rotate_left;cases h;split at h<;>cases h
 rename_i a0 a1 a2 a3 a4 a5 a6 a7 a8 a9 aA aB aC aD aE aF aG aH aI aJ aK aL aM aN;have N:=hp.n;have hcc:=N.c;have hcw:=N.cw;have hel:=hp.el;have hfl:=hp.fl;have hsl:=N.sl;have hcl:=N.cl;have hlc:=aw (es:=a9);refine cb Qa1 Tryz.func40 ?_
 intro O r F hO hr hF;cbv
 repeat' first|apply Zb|(apply bG<;>intro hb<;>cbv)|(refine⟨[1,57,58,59],[1],Int,fun i=>[.reg 59 (.j i)],fun i=>0<=i/\i<=((a9.length:Nat):Int)/\upto (QB a9) i,fun i=>(a9.length)-i.toNat,⟨0,?_,?_⟩,?_⟩;rotate_left;(focus (cbv;done));intro i hi;replace hi:0<=i/\i<=((a9.length:Nat):Int)/\upto (QB a9) i:=hi;obtain⟨i0,i1,i2⟩:=hi;cbv)|(refine ag (O.ar .add Za i 1) ?_ ?_ ?_;focus (cbv;done))
 all_goals(subst hO hr hF;(try simp only[nc]at*);(try simp only[ai,SS,sa,az]at*);(try rw[cQ (by omega) (by omega)]))
 all_goals first
  | (show(_:List DV)=_
     first
      |(refine ak ?_;symm;exact acy (by assumption))
      |(refine ak ?_;symm;exact acE (by assumption))
      |(refine ak ?_;symm;exact acz (by assumption))
      |(refine ak ?_;symm;exact TD (by assumption))
      |(refine ak ?_;symm;exact acA (by assumption))
      |(refine ak ?_;symm;exact Q3 (by assumption))
      |(refine ak ?_;symm;exact acD (by assumption))
      |(refine ak ?_;symm;exact Q2 i0 (by assumption) (by assumption))
      |(refine ak ?_;symm;exact TC (by assumption))
      |(refine ak ?_;symm;exact TA (by assumption))
      |(refine ak ?_;symm;exact acF (by assumption))
      |(refine ak ?_;symm;exact acH (by assumption))
      |(refine ak ?_;symm;exact acI (by assumption))
      |(refine ak ?_;symm;exact acJ (by assumption))
      |(refine ak ?_;rw[LG (by assumption) (by assumption) (by assumption) (by assumption) (by assumption) (VO (by omega)) (by assumption) (bM i2 (by omega)) (by assumption) (by assumption) (by assumption) (by assumption) (by assumption) (by assumption)];subst_vars;first|exact Q6 (by assumption)|exact Q7 (by assumption)|exact Q8 (by assumption) (by assumption)|exact rfl|((try rw[cmp_eq]);unfold Ax jobZ;simp[*];done))
      |done)
  |omega
  |exact fU
  |exact⟨hp.c,hp.u,hp.e,hp.r⟩
  |exact⟨by omega,by omega,hp.f,by omega⟩
  |exact⟨N.sw,N.lw,N.sl,N.ll⟩
  |exact⟨N,by assumption,hp.e,by omega,hp.f,by omega⟩
  |exact N.m
  |exact⟨N.qw,N.ql⟩
  |exact hcc.n i i0 (by assumption)
  |exact⟨N,by assumption⟩
  |exact⟨hp.j,by have:=hp.jl;omega⟩
  |exact⟨N.sw,by omega⟩
  |exact bB
  |exact aV i2 (by assumption)
  |done
abbrev Qa2:cZ:=eK (fun F f=>match f with|164=>dm F|165=>dq F|166=>cV F|167=>lm F|168=>jU F|169=>dZ F|170=>gd F|171=>dO F|172=>gg F|173=>mD F|28=>aj F|175=>gT F|176=>fh F|174=>oc F|_=>fun _=>none) (by
 intro f;dsimp only;split;exact pU;exact pX;exact ky;exact x7;exact vC;exact sy;exact BR;exact qG;exact zU;exact zV;exact bi;exact Dq;exact sB;exact BV;exact db)
theorem BP:ec 71 f9:=by
 intro _ _ _ h hp;dsimp only[f9,F0,hL]at h;split at h;rotate_left;cases h;split at h<;>cases h
 rename_i a0 a1 a2 a3 a4 a5 a6 a7 a8 a9 aA aB aC aD aE aF aG aH aI aJ aK aL aM aN;have N:=hp.n;have hcc:=N.c;have hcw:=N.cw;have hqw:=N.qw;have hql:=N.ql;have hel:=hp.el;have hfl:=hp.fl;have hsl:=N.sl;have hcl:=N.cl;have hlc:=aw (es:=a9);refine cb Qa2 Tryz.func71 ?_
 intro O r F hO hr hF;cbv
 repeat' first|apply Zb|(apply bG<;>intro hb<;>cbv)|(refine⟨[1,3],[1],Int,fun q=>[.reg 3 (.j q)],fun q=>0<=q/\q<=(aD.length:Int)/\upto (sA aD aF) q,fun q=>aD.length-q.toNat,⟨0,?_,?_⟩,?_⟩;rotate_left;(focus (cbv;done));intro q hq;replace hq:0<=q/\q<=(aD.length:Int)/\upto (sA aD aF) q:=hq;obtain⟨q0,q1,q2⟩:=hq;cbv)|(refine⟨[1,4],[1],Int,fun i=>[.reg 4 (.j i)],fun i=>0<=i/\i<=(a9.length:Int)/\upto (QB a9) i,fun i=>a9.length-i.toNat,⟨0,?_,?_⟩,?_⟩;rotate_left;(focus (cbv;done));intro i hi;replace hi:0<=i/\i<=(a9.length:Int)/\upto (QB a9) i:=hi;obtain⟨i0,i1,i2⟩:=hi;cbv)|(refine ag (O.ar .add Za i 1) ?_ ?_ ?_;focus (cbv;done))|(refine ag (O.ar .add Za q 1) ?_ ?_ ?_;focus (cbv;done))
 all_goals(subst hO hr hF;(try simp only[nc]at*);(try simp only[ai,SS,sa,az]at*);(try rw[cQ (by omega) (by omega)]))
 all_goals first
  | (show(_:List DV)=_
     first
      |(refine ak ?_;symm;exact acy (by assumption))
      |(refine ak ?_;symm;exact acE (by assumption))
      |(refine ak ?_;symm;exact acz (by assumption))
      |(refine ak ?_;symm;exact acC (by assumption) (by assumption))
      |(refine ak ?_;symm;exact acB (by assumption) (by assumption))
      |(refine ak ?_;symm;exact acA (by assumption))
      |(refine ak ?_;symm;exact Q3 (by assumption))
      |(refine ak ?_;symm;exact acD (by assumption))
      |(refine ak ?_;symm;exact acG q0 (by assumption) (by assumption) (by assumption))
      |(refine ak ?_;symm;exact Q2 i0 (by assumption) (by assumption))
      |(refine ak ?_;symm;exact TC (by assumption))
      |(refine ak ?_;symm;exact acx (by assumption) (by assumption) (by assumption))
      |(refine ak ?_;symm;exact acF (by assumption))
      |(refine ak ?_;symm;exact acH (by assumption))
      |(refine ak ?_;symm;exact acI (by assumption))
      |(refine ak ?_;symm;exact acJ (by assumption))
      |(refine ak ?_;rw[LG (by assumption) (by assumption) (by assumption) (agL (by assumption) (by assumption) (by assumption)) (by assumption) (VO (by omega)) (by assumption) (bM i2 (by omega)) (by assumption) (agk (by assumption) (by assumption) (by assumption) (by omega) q2) (by assumption) (by assumption) (by assumption) (by assumption)];subst_vars;first|exact Q6 (by assumption)|exact Q7 (by assumption)|exact Q8 (by assumption) (by assumption)|exact rfl|((try rw[cmp_eq]);unfold Ax jobZ;simp[*];done))
      |done)
  |omega
  |exact fU
  |(show aP _ _=true;kernel_rfl)
  |exact⟨hp.c,hp.u,hp.e,hp.r⟩
  |exact⟨by omega,by omega,hp.f,by omega⟩
  |exact⟨N.sw,N.lw,N.sl,N.ll⟩
  |exact⟨N,by assumption,hp.e,by omega,hp.f,by omega⟩
  |exact⟨N,hp.e,by omega⟩
  |exact N.m
  |exact⟨N.qw,N.ql⟩
  |exact hcc.n i i0 (by assumption)
  |exact⟨N,by assumption⟩
  |exact⟨hp.j,by have:=hp.jl;omega⟩
  |exact⟨N.sw,by omega⟩
  |exact bB
  |exact aV i2 (by assumption)
  |exact aV q2 (ahd (by assumption))
  |done
end Go.V