/- Contracts. -/
import Derived.Test.YtbedjnlfdopeeaaGreatM3
import Derived.Test.YtbedjnlfdopeeaaGreatM1
set_option linter.all false
open Go
open And renaming intro->Zb
open Int renaming toNat_of_nonneg->Zt
open IntKind renaming i64->Za
open List renaming length_take->Zk,length_cons->Zn,length_nil->Zr
open True renaming intro->Zh
namespace Go.V
open Go Go.Proofs
set_option maxRecDepth 1000000
set_option maxHeartbeats 8000000
abbrev Ma0:da:=ez (fun F f=>match f with|41=>aj F|28=>aj F|_=>fun _=>none) (by
 intro f;dsimp only;split;exact bB;exact bE;exact de)
def dk:EC:=fun F=>fun
 |[.one (.v (.int Za n)),.agg [.v (.int Za a),.v (.int Za l)]]=>some (fun _=>0<=n/\n<=1099511627776,[.k (F.rngIn n a l)])
 |_=>none
theorem qB:ec 225 dk:=by
 intro _ _ _ h hp;dsimp only[dk,F0]at h;split at h<;>cases h
 rename_i n a l;refine cb Ma0 Tryz.func225 ?_
 exact agr
theorem pc:ec 258 dk:=by
 intro _ _ _ h hp;dsimp only[dk,F0]at h;split at h<;>cases h
 rename_i n a l;refine cb Ma0 Tryz.func258 ?_
 exact agr
abbrev Ma1:da:=ez (fun F f=>match f with|41=>aj F|28=>aj F|225=>dk F|258=>dk F|_=>fun _=>none) (by
 intro f;dsimp only;split;exact bB;exact bE;exact qB;exact pc;exact de)
def cP:EC:=fun F=>fun
 |[.one (.v (.int Za n)),.one (.s 2 rs)]=>some (fun _=>0<=n/\n<=1099511627776/\Rw [tI,tI] rs/\rs.length<=1099511627776,[.k (F.rgOk n rs)])
 |_=>none
theorem pU:ec 125 cP:=by
 intro _ _ _ h hp;dsimp only[cP,F0]at h;split at h<;>cases h
 rename_i n rs;obtain⟨n0,n1,hw,hl⟩:=hp;refine cb Ma1 Tryz.func125 ?_
 intro O r F hO hr hF;cbv
 repeat' first|apply Zb|(apply bF<;>intro hb<;>cbv)|(refine⟨[0,1,7,8,9],[],Int,fun i=>[.reg 9 (.j i)],fun i=>0<=i/\i<=((rs.length:Nat):Int)/\upto (vO n rs) i,fun i=>(rs.length)-i.toNat,⟨0,?_,?_⟩,?_⟩;rotate_left;(focus (cbv;done));intro i hi;replace hi:0<=i/\i<=((rs.length:Nat):Int)/\upto (vO n rs) i:=hi;obtain⟨i0,i1,i2⟩:=hi;cbv)|(refine ag (O.ar .add Za i 1) ?_ ?_ ?_;focus (cbv;done))
 all_goals exact agb
theorem kE:ec 165 cP:=by
 intro _ _ _ h hp;dsimp only[cP,F0]at h;split at h<;>cases h
 rename_i n rs;obtain⟨n0,n1,hw,hl⟩:=hp;refine cb Ma1 Tryz.func165 ?_
 intro O r F hO hr hF;cbv
 repeat' first|apply Zb|(apply bF<;>intro hb<;>cbv)|(refine⟨[0,1,5],[],Int,fun i=>[.reg 5 (.j i)],fun i=>0<=i/\i<=((rs.length:Nat):Int)/\upto (vO n rs) i,fun i=>(rs.length)-i.toNat,⟨0,?_,?_⟩,?_⟩;rotate_left;(focus (cbv;done));intro i hi;replace hi:0<=i/\i<=((rs.length:Nat):Int)/\upto (vO n rs) i:=hi;obtain⟨i0,i1,i2⟩:=hi;cbv)|(refine ag (O.ar .add Za i 1) ?_ ?_ ?_;focus (cbv;done))
 all_goals exact agb
def iP:EC:=fun F=>fun
 |[.agg [.v (.int Za a),.v (.int Za l)],.ptr [.v (.int Za p)]]=>some (fun _=>True,[.k (F.rh1 a l p)])
 |_=>none
theorem tj:ec 318 iP:=by
 intro _ _ _ h hp;dsimp only[iP,F0]at h;split at h<;>cases h
 rename_i a l p;refine cb nB Tryz.func318 ?_
 intro O r F hO hr hF;cbv
 repeat' first|apply Zb|(apply bF<;>intro hb<;>cbv)
 all_goals(subst hO hr hF;(try simp only[nc]at*);(try simp only[ah,SS,sa,az]at*))
 all_goals first|(show(_:List DV)=_;refine ai ?_;unfold rh1;rw[VT hb];rfl)|(show(_:List DV)=_;refine ai ?_;unfold rh1;rw[VU (by omega)];rfl)|done
abbrev Ma3:da:=ez (fun F f=>match f with|318=>iP F|_=>fun _=>none) (by
 intro f;dsimp only;split;exact tj;exact de)
def aX:EC:=fun F=>fun
 |[.one (.s 2 os),.fn 318 [[.v (.int Za id)]]]=>some (fun _=>Rw [tI,tI] os/\os.length<=1099511627776,[.j (F.rhI os id)])
 |_=>none
theorem cf:ec 360 aX:=by
 intro _ _ _ h hp;dsimp only[aX,F0]at h;split at h<;>cases h
 rename_i os id;obtain⟨hw,hn⟩:=hp;refine cb Ma3 Tryz.func360 ?_
 intro O r F hO hr hF;cbv
 repeat' first|apply Zb|(apply bF<;>intro hb<;>cbv)|(refine⟨[0,1,7,8],[0],Int,fun i=>[.reg 8 (.j i)],fun i=>0<=i/\i<=((os.length:Nat):Int)/\upto (cZ (uf os id)) i,fun i=>(os.length)-i.toNat,⟨0,?_,?_⟩,?_⟩;rotate_left;(focus (cbv;done));intro i hi;replace hi:0<=i/\i<=((os.length:Nat):Int)/\upto (cZ (uf os id)) i:=hi;obtain⟨i0,i1,i2⟩:=hi;cbv)|(refine ag (O.ar .add Za i 1) ?_ ?_ ?_;focus (cbv;done))
 all_goals(subst hO hr hF;(try simp only[nc]at*);(try simp only[ah,SS,sa,az]at*);(try rw[db (by omega) (by omega)]))
 all_goals first
  | (show(_:List DV)=_
     first
      |exact cq (dM i2 i0 (by assumption) (show uf os id i=true from by assumption)).symm
      |exact cq (eY i2 (by assumption)).symm
      |done)
  |omega
  |exact gj
  |(show(lk _ _).isSome=true;kernel_rfl)
  |exact bK
  |exact aZ i2 (ji (show uf os id i=false from by assumption))
  |done
abbrev Ma4:da:=ez (fun F f=>match f with|360=>aX F|_=>fun _=>none) (by
 intro f;dsimp only;split;exact cf;exact de)
def aT:EC:=fun F=>fun
 |[.one (.s 2 os),.fn 318 [[.v (.int Za id)]]]=>some (fun _=>Rw [tI,tI] os/\os.length<=1099511627776,[.k (F.rhB os id)])
 |_=>none
theorem b9:ec 317 aT:=by
 intro _ _ _ h hp;dsimp only[aT,F0]at h;split at h<;>cases h
 rename_i os id;refine cb Ma4 Tryz.func317 ?_
 intro O r F hO hr hF;cbv
 repeat' first|apply Zb|(apply bF<;>intro hb<;>cbv)
 all_goals(subst hO hr hF;(try simp only[nc]at*);(try simp only[ah,SS,sa,az]at*))
 all_goals first
  | (show(_:List DV)=_
     first
      |exact ai (gW (by unfold rhB;simp only[SS,VV]))
      |done)
  |exact hp
  |done
abbrev Ma5:da:=ez (fun F f=>match f with|317=>aT F|_=>fun _=>none) (by
 intro f;dsimp only;split;exact b9;exact de)
def eQ:EC:=fun F=>fun
 |[.one (.s 2 os),.one (.v (.int Za id))]=>some (fun _=>Rw [tI,tI] os/\os.length<=1099511627776,[.k (F.rhB os id)])
 |_=>none
theorem wX:ec 231 eQ:=by
 intro _ _ _ h hp;dsimp only[eQ,F0]at h;split at h<;>cases h
 rename_i os id;refine cb Ma5 Tryz.func231 ?_
 exact agH
theorem x8:ec 263 eQ:=by
 intro _ _ _ h hp;dsimp only[eQ,F0]at h;split at h<;>cases h
 rename_i os id;obtain⟨hw,hn⟩:=hp;refine cb nB Tryz.func263 ?_
 intro O r F hO hr hF;cbv
 repeat' first|apply Zb|(apply bF<;>intro hb<;>cbv)|(refine⟨[0,1,5],[],Int,fun i=>[.reg 5 (.j i)],fun i=>0<=i/\i<=((os.length:Nat):Int)/\upto (cZ (uf os id)) i,fun i=>(os.length)-i.toNat,⟨0,?_,?_⟩,?_⟩;rotate_left;(focus (cbv;done));intro i hi;replace hi:0<=i/\i<=((os.length:Nat):Int)/\upto (cZ (uf os id)) i:=hi;obtain⟨i0,i1,i2⟩:=hi;cbv)|(refine ag (O.ar .add Za i 1) ?_ ?_ ?_;focus (cbv;done))
 all_goals(subst hO hr hF;(try simp only[nc]at*);(try simp only[ah,SS,sa,az]at*);(try rw[db (by omega) (by omega)]))
 all_goals first
  | (show(_:List DV)=_
     first
      |(refine ai ?_;symm;exact abX i2 i0 (by assumption) (by assumption) (by assumption))
      |(refine ai ?_;symm;exact afn i2 (by omega))
      |done)
  |omega
  |exact gj
  |(show aP _ _=true;kernel_rfl)
  |exact bK
  |exact aZ i2 (afl (by omega))
  |exact aZ i2 (afm (by omega))
  |done
abbrev Ma6:da:=ez (fun F f=>match f with|227=>bZ F|259=>bZ F|_=>fun _=>none) (by
 intro f;dsimp only;split;exact hE;exact hH;exact de)
def eO:EC:=fun F=>fun
 |[.agg [.v (.int Za p1),.v (.int Za k1),.v (.int Za b1)],.agg [.v (.int Za p2),.v (.int Za k2),.v (.int Za b2)]]=>some (fun _=>True,[.k (F.mshB p1 k1 b1 p2 k2 b2)])
 |_=>none
theorem wV:ec 232 eO:=by
 intro _ _ _ h hp;dsimp only[eO,F0]at h;split at h<;>cases h
 rename_i p1 k1 b1 p2 k2 b2;refine cb Ma6 Tryz.func232 ?_
 exact agw
theorem x6:ec 264 eO:=by
 intro _ _ _ h hp;dsimp only[eO,F0]at h;split at h<;>cases h
 rename_i p1 k1 b1 p2 k2 b2;refine cb Ma6 Tryz.func264 ?_
 exact agw
abbrev Ma7:da:=ez (fun F f=>match f with|84=>bA F|183=>bA F|_=>fun _=>none) (by
 intro f;dsimp only;split;exact cT;exact d9;exact de)
def cX:EC:=fun F=>fun
 |[.one (.s 3 qs)]=>some (fun _=>Rw [tI,tI,tI] qs/\qs.length<=1073741824,[.j (F.qcI qs)])
 |_=>none
theorem oM:ec 196 cX:=by
 intro _ _ _ h hp;dsimp only[cX,F0]at h;split at h<;>cases h
 rename_i qs;obtain⟨hw,hl⟩:=hp;refine cb Ma7 Tryz.func196 ?_
 intro O r F hO hr hF;cbv
 repeat' first|apply Zb|(apply bF<;>intro hb<;>cbv)|(refine⟨[3,6,7,8],[],Int×Int,fun s_=>match s_ with|(i,t)=>[.reg 8 (.j i),.reg 3 (.j t)],fun s_=>match s_ with|(i,t)=>0<=i/\i<=(qs.length:Int)/\OW qs i t,fun s_=>match s_ with|(i,t)=>qs.length-i.toNat,⟨(0,0),?_,?_⟩,?_⟩;rotate_left;(focus (cbv;done));intro s_ hi;obtain⟨i,t⟩:=s_;replace hi:0<=i/\i<=(qs.length:Int)/\OW qs i t:=hi;obtain⟨i0,i1,i2⟩:=hi;cbv)|(refine ag (O.ar .add Za i 1,O.ar .add Za t (F.clsSz (O.gi qs i 1))) ?_ ?_ ?_;focus (cbv;done))
 all_goals exact agq
theorem qd:ec 267 cX:=by
 intro _ _ _ h hp;dsimp only[cX,F0]at h;split at h<;>cases h
 rename_i qs;obtain⟨hw,hl⟩:=hp;refine cb Ma7 Tryz.func267 ?_
 intro O r F hO hr hF;cbv
 repeat' first|apply Zb|(apply bF<;>intro hb<;>cbv)|(refine⟨[0,3,4],[],Int×Int,fun s_=>match s_ with|(i,t)=>[.reg 4 (.j i),.reg 3 (.j t)],fun s_=>match s_ with|(i,t)=>0<=i/\i<=(qs.length:Int)/\OW qs i t,fun s_=>match s_ with|(i,t)=>qs.length-i.toNat,⟨(0,0),?_,?_⟩,?_⟩;rotate_left;(focus (cbv;done));intro s_ hi;obtain⟨i,t⟩:=s_;replace hi:0<=i/\i<=(qs.length:Int)/\OW qs i t:=hi;obtain⟨i0,i1,i2⟩:=hi;cbv)|(refine ag (O.ar .add Za i 1,O.ar .add Za t (F.clsSz (O.gi qs i 1))) ?_ ?_ ?_;focus (cbv;done))
 all_goals exact agq
abbrev Ma8:da:=ez (fun F f=>match f with|193=>dL F|281=>ia F|28=>aj F|_=>fun _=>none) (by
 intro f;dsimp only;split;exact fo;exact pX;exact bE;exact de)
def iS:EC:=fun F=>fun
 |[.one (.s 3 b),.agg [.v (.int Za a),.v (.int Za c),.v (.int Za s)]]=>some (fun _=>Rw [tI,tI,tI] b/\b.length<=1073741824,[.k (F.stlOk b a c s)])
 |_=>none
theorem qC:ec 195 iS:=by
 intro _ _ _ h hp;dsimp only[iS,F0]at h;split at h<;>cases h
 rename_i b a c s;obtain⟨hw,hl⟩:=hp;have hs:bO .sub Za (b.length:Int) 1=b.length-1:=dG (by omega);refine cb Ma8 Tryz.func195 ?_
 intro O r F hO hr hF;cbv
 repeat' first|apply Zb|(apply bF<;>intro hb<;>cbv)
 all_goals(subst hO hr hF;(try simp only[nc]at*);(try simp only[ah,SS,sa,az]at*);(try simp only[hs]at*))
 all_goals first|exact gj|(show aP _ _=true;kernel_rfl)|exact⟨hw,by omega⟩|(show(_:List DV)=_;refine ai ?_;unfold stlOk;simp[*,dA];done)|(show(_:List DV)=_;refine ai ?_;unfold stlOk;rw[VU (p:=0<=a) (by omega)];simp;done)|(show(_:List DV)=_;refine ai ?_;unfold stlOk;rw[VU (p:=0<=s) (by omega)];simp;done)|(show(_:List DV)=_;refine ai ?_;unfold stlOk;rw[VU (p:=b.length=0) (by omega)];simp[*,dA];done)|(show(_:List DV)=_;refine ai ?_;unfold stlOk;simp_all;done)|done
def j9:EC:=fun F=>fun
 |[.agg [.v (.int Za a),.v (.int Za c),.v (.int Za s)]]=>some (fun _=>True,[.k (F.staB a c s)])
 |_=>none
theorem sq:ec 265 j9:=by
 intro _ _ _ h hp;dsimp only[j9,F0]at h;split at h<;>cases h
 rename_i a c s;refine cb Ma8 Tryz.func265 ?_
 intro O r F hO hr hF;cbv
 repeat' first|apply Zb|(apply bF<;>intro hb<;>cbv)
 all_goals(subst hO hr hF;(try simp only[nc]at*);(try simp only[ah,SS,sa,az]at*))
 all_goals first|(show(_:List DV)=_;refine ai ?_;unfold staB;simp[*,dA];done)|(show(_:List DV)=_;refine ai ?_;unfold staB;rw[VU (p:=0<=a) (by omega)];simp;done)|done
abbrev Ma9:da:=ez (fun F f=>match f with|41=>aj F|195=>iS F|196=>cX F|28=>aj F|265=>j9 F|266=>je F|267=>cX F|_=>fun _=>none) (by
 intro f;dsimp only;split;exact bB;exact qC;exact oM;exact bE;exact sq;exact qE;exact qd;exact de)
def d6:EC:=fun F=>fun
 |[.agg [.v (.int Za rm),.s 3 qs]]=>some (fun _=>Rw [tI,tI,tI] qs/\qs.length<=1073741824,[.k (F.quarOk rm qs)])
 |_=>none
theorem sg:ec 129 d6:=by
 intro _ _ _ h hp;dsimp only[d6,F0]at h;split at h<;>cases h
 rename_i rm qs;obtain⟨hw,hl⟩:=hp;refine cb Ma9 Tryz.func129 ?_
 intro O r F hO hr hF;cbv
 repeat' first|apply Zb|(apply bF<;>intro hb<;>cbv)|(refine⟨[1,6,7,8],[1],Int,fun i=>[.reg 8 (.j i)],fun i=>0<=i/\i<=((qs.length:Nat):Int)/\upto (EQ qs) i,fun i=>(qs.length)-i.toNat,⟨0,?_,?_⟩,?_⟩;rotate_left;(focus (cbv;done));intro i hi;replace hi:0<=i/\i<=((qs.length:Nat):Int)/\upto (EQ qs) i:=hi;obtain⟨i0,i1,i2⟩:=hi;cbv)|(refine ag (O.ar .add Za i 1) ?_ ?_ ?_;focus (cbv;done))
 all_goals(subst hO hr hF;(try simp only[nc]at*);(try simp only[ah,SS,sa,az]at*);(try rw[db (by omega) (by omega)]);(try simp only[Bh]at*))
 all_goals first
  | (show(_:List DV)=_
     first
      |(refine ai ?_;symm;exact JZ i0 (by assumption) (by assumption))
      |(refine ai ?_;rw[NI i2 (by omega)];simp[*,dA];done)
      |done)
  |omega
  |exact gj
  |(show aP _ _=true;kernel_rfl)
  |exact⟨hw,hl⟩
  |exact⟨Rw.take hw _,by rw[Zk];omega⟩
  |exact bK
  |exact aZ i2 (by assumption)
  |done
theorem sk:ec 170 d6:=by
 intro _ _ _ h hp;dsimp only[d6,F0]at h;split at h<;>cases h
 rename_i rm qs;obtain⟨hw,hl⟩:=hp;refine cb Ma9 Tryz.func170 ?_
 intro O r F hO hr hF;cbv
 repeat' first|apply Zb|(apply bF<;>intro hb<;>cbv)|(refine⟨[1,3],[1],Int,fun i=>[.reg 3 (.j i)],fun i=>0<=i/\i<=((qs.length:Nat):Int)/\upto (EQ qs) i,fun i=>(qs.length)-i.toNat,⟨0,?_,?_⟩,?_⟩;rotate_left;(focus (cbv;done));intro i hi;replace hi:0<=i/\i<=((qs.length:Nat):Int)/\upto (EQ qs) i:=hi;obtain⟨i0,i1,i2⟩:=hi;cbv)|(refine ag (O.ar .add Za i 1) ?_ ?_ ?_;focus (cbv;done))
 all_goals(subst hO hr hF;(try simp only[nc]at*);(try simp only[ah,SS,sa,az]at*);(try rw[db (by omega) (by omega)]);(try simp only[Bh]at*);(try have z:=Cr i0 (by omega));(try simp only[z]at*))
 all_goals first
  | (show(_:List DV)=_
     first
      |(refine ai ?_;symm;exact JZ i0 (by assumption) (aeY (by assumption)))
      |(refine ai ?_;symm;exact JZ i0 (by assumption) (aeZ (by omega) (by assumption) (by assumption)))
      |(refine ai ?_;symm;exact JZ i0 (by assumption) (ae0 (by assumption)))
      |(refine ai ?_;rw[NI i2 (by omega)];simp[*,dA];done)
      |(have q:false=true:=(by assumption);cases q)
      |done)
  |omega
  |exact gj
  |(show aP _ _=true;kernel_rfl)
  |exact⟨hw,hl⟩
  |exact⟨Rw.take hw _,by rw[Zk];omega⟩
  |exact bK
  |exact aZ i2 (ae2 (by assumption) (by assumption) i0 (by omega))
  |exact aZ i2 (ae3 (by assumption) (by assumption) (by omega) (by assumption) (by assumption))
  |done
def nQ:EC:=fun F=>fun
 |[.one (.v (.int Za c))]=>some (fun _=>True,[.k (F.inR c 0 15)])
 |_=>none
theorem BR:ec 320 nQ:=by
 intro _ _ _ h hp;dsimp only[nQ,F0]at h;split at h<;>cases h
 rename_i c;refine cb Ma0 Tryz.func320 ?_
 exact ach
def nR:EC:=fun F=>fun
 |[.one (.v (.int Za c))]=>some (fun _=>True,[.k (F.inR c 0 1073741823)])
 |_=>none
theorem BU:ec 133 nR:=by
 intro _ _ _ h hp;dsimp only[nR,F0]at h;split at h<;>cases h
 rename_i c;refine cb Ma0 Tryz.func133 ?_
 exact ach
abbrev Mb1:da:=ez (fun F f=>match f with|41=>aj F|320=>nQ F|28=>aj F|_=>fun _=>none) (by
 intro f;dsimp only;split;exact bB;exact BR;exact bE;exact de)
def fY:EC:=fun F=>fun
 |[.agg [.v (.int Za k),.v (.int Za m),.s 1 cs]]=>some (fun _=>Rw [tI] cs/\cs.length<=1099511627776,[.k (F.plOk k m cs)])
 |_=>none
theorem BO:ec 238 fY:=by
 intro _ _ _ h hp;dsimp only[fY,F0]at h;split at h<;>cases h
 rename_i k m cs;obtain⟨hw,hl⟩:=hp;refine cb Mb1 Tryz.func238 ?_
 intro O r F hO hr hF;cbv
 repeat' first|apply Zb|(apply bF<;>intro hb<;>cbv)|(refine⟨[1,6,7,8],[1],Int,fun i=>[.reg 8 (.j i)],fun i=>0<=i/\i<=((cs.length:Nat):Int)/\upto (K9 cs) i,fun i=>(cs.length)-i.toNat,⟨0,?_,?_⟩,?_⟩;rotate_left;(focus (cbv;done));intro i hi;replace hi:0<=i/\i<=((cs.length:Nat):Int)/\upto (K9 cs) i:=hi;obtain⟨i0,i1,i2⟩:=hi;cbv)|(refine ag (O.ar .add Za i 1) ?_ ?_ ?_;focus (cbv;done))
 all_goals(subst hO hr hF;(try simp only[nc]at*);(try simp only[ah,SS,sa,az]at*);(try rw[db (by omega) (by omega)]);(try have z:=Cr i0 (by omega));(try simp only[z]at*))
 all_goals first
  | (show(_:List DV)=_
     first
      |(refine ai ?_;symm;exact NB i0 (by assumption) (by assumption))
      |(refine ai ?_;symm;exact NC i0 (by assumption) (by omega) (by assumption))
      |(refine ai ?_;rw[EK i2 (by omega)];simp[*,dA];done)
      |(refine ai ?_;rw[EK i2 (by omega),D6];simp[*];done)
      |(have q:false=true:=(by assumption);cases q)
      |done)
  |omega
  |exact gj
  |exact bK
  |exact aZ i2 (JQ (by assumption) (by omega))
  |exact aZ i2 (JR (by assumption) (by assumption))
  |done
theorem Ci:ec 272 fY:=by
 intro _ _ _ h hp;dsimp only[fY,F0]at h;split at h<;>cases h
 rename_i k m cs;obtain⟨hw,hl⟩:=hp;refine cb Mb1 Tryz.func272 ?_
 intro O r F hO hr hF;cbv
 repeat' first|apply Zb|(apply bF<;>intro hb<;>cbv)|(refine⟨[1,3],[1],Int,fun i=>[.reg 3 (.j i)],fun i=>0<=i/\i<=((cs.length:Nat):Int)/\upto (K9 cs) i,fun i=>(cs.length)-i.toNat,⟨0,?_,?_⟩,?_⟩;rotate_left;(focus (cbv;done));intro i hi;replace hi:0<=i/\i<=((cs.length:Nat):Int)/\upto (K9 cs) i:=hi;obtain⟨i0,i1,i2⟩:=hi;cbv)|(refine ag (O.ar .add Za i 1) ?_ ?_ ?_;focus (cbv;done))
 all_goals(subst hO hr hF;(try simp only[nc]at*);(try simp only[ah,SS,sa,az]at*);(try rw[db (by omega) (by omega)]);(try have z:=Cr i0 (by omega));(try simp only[z]at*))
 all_goals first
  | (show(_:List DV)=_
     first
      |(refine ai ?_;symm;exact NB i0 (by assumption) (by assumption))
      |(refine ai ?_;symm;exact NC i0 (by assumption) (by omega) (by assumption))
      |(refine ai ?_;rw[EK i2 (by omega)];simp[*,dA];done)
      |(refine ai ?_;rw[EK i2 (by omega),D6];simp[*];done)
      |(have q:false=true:=(by assumption);cases q)
      |done)
  |omega
  |exact gj
  |(show aP _ _=true;kernel_rfl)
  |exact bK
  |exact aZ i2 (JQ (by assumption) (by omega))
  |exact aZ i2 (JR (by assumption) (by assumption))
  |done
abbrev Mb2:da:=ez (fun F f=>match f with|238=>fY F|41=>aj F|272=>fY F|28=>aj F|_=>fun _=>none) (by
 intro f;dsimp only;split;exact BO;exact bB;exact Ci;exact bE;exact de)
def gO:EC:=fun F=>fun
 |[.agg [.v (.int Za k),.v (.int Za m),.s 1 cs,.v (.int Za ph),.v (.int Za nx)]]=>some (fun _=>Rw [tI] cs/\cs.length<=1099511627776,[.k (F.jbOk k m cs ph nx)])
 |_=>none
theorem DL:ec 134 gO:=by
 intro _ _ _ h hp;dsimp only[gO,F0]at h;split at h<;>cases h
 rename_i k m cs ph nx;refine cb Mb2 Tryz.func134 ?_
 exact agF
theorem DX:ec 175 gO:=by
 intro _ _ _ h hp;dsimp only[gO,F0]at h;split at h<;>cases h
 rename_i k m cs ph nx;refine cb Mb2 Tryz.func175 ?_
 exact agF
abbrev Mb3:da:=ez (fun F f=>match f with|193=>dL F|41=>aj F|84=>bA F|28=>aj F|183=>bA F|260=>ga F|_=>fun _=>none) (by
 intro f;dsimp only;split;exact fo;exact bB;exact cT;exact bE;exact d9;exact j5;exact de)
def cN:EC:=fun F=>fun
 |[.agg [.s 1 ls]]=>some (fun _=>TV ls,[.k (F.caOk ls)])
 |_=>none
theorem md:ec 171 cN:=by
 intro _ _ _ h hp;dsimp only[cN,F0]at h;split at h<;>cases h
 rename_i ls;have hw:=hp.w;have hl:=hp.l;have hn:=hp.n;refine cb Mb3 Tryz.func171 ?_
 intro O r F hO hr hF;cbv
 repeat' first|apply Zb|(apply bF<;>intro hb<;>cbv)|(refine⟨[1,3,4],[1,3],Int×aa,fun s_=>match s_ with|(i,o)=>[.reg 4 (.j i),.reg 3 (.one (.vw 3 0 0 0 (O.ln o))),.leaf 3 0 ⟨0,0,none,.own (.s 1 o)⟩],fun s_=>match s_ with|(i,o)=>0<=i/\i<=4/\ScP ls i o,fun s_=>match s_ with|(i,o)=>(4-i).toNat,⟨(0,[]),?_,?_⟩,?_⟩;rotate_left;(focus (cbv;done));intro s_ hi;obtain⟨i,o⟩:=s_;replace hi:0<=i/\i<=4/\ScP ls i o:=hi;obtain⟨i0,i1,i2⟩:=hi;cbv)|(refine⟨[1,3,4,5],[1,3],Int×aa,fun s_=>match s_ with|(k,o1)=>[.reg 5 (.j k),.reg 3 (.one (.vw 3 0 0 0 (O.ln o1))),.leaf 3 0 ⟨0,0,none,.own (.s 1 o1)⟩],fun s_=>match s_ with|(k,o1)=>0<=k/\k<=((aw ls i 0).length:Int)/\Q3 ls i k o1,fun s_=>match s_ with|(k,o1)=>(aw ls i 0).length-k.toNat,⟨(0,o),?_,?_⟩,?_⟩;rotate_left;(focus (cbv;done));intro s_ hk;obtain⟨k,o1⟩:=s_;replace hk:0<=k/\k<=((aw ls i 0).length:Int)/\Q3 ls i k o1:=hk;obtain⟨k0,k1,k2⟩:=hk;cbv)|(refine ag (O.ar .add Za k 1,O.cat o1 (O.sub [[.i (O.gi (O.gs ls i 0) k 0)]] 0 (O.ln [[.i (O.gi (O.gs ls i 0) k 0)]]))) ?_ ?_ ?_;focus (cbv;done))|(refine ag (O.ar .add Za i 1,o1) ?_ ?_ ?_;focus (cbv;done))
 all_goals(subst hO hr hF;(try simp only[nc]at*);(try simp only[ah,SS,sa,az]at*);(try rw[db (by omega) (by omega)]);(try have z6:bO .add Za k 1=k+1:=bz (by have:=hn i;omega));(try simp only[z6]at*);(try have w1:=ab6 k2 k0);(try have w2:=hp.el i0 (by omega));(try have w3:=w2.1))
 all_goals first
  | (show(_:List DV)=_
     first
      |(refine ai ?_;symm;exact D3 (by assumption))
      |(refine ai ?_;symm;exact LD i0 (by omega) (by omega))
      |(refine ai ?_;symm;exact D4 i0 (by omega) k0 (by assumption) (Rf (by assumption)))
      |(refine ai ?_;symm;exact D4 i0 (by omega) k0 (by assumption) (Rh (by assumption)))
      |(refine ai ?_;symm;exact ab5 k2 i0 k0 (by assumption) (by assumption))
      |(refine ai ?_;symm;exact LE i2.p (by omega) (by omega))
      |done)
  |omega
  |exact gj
  |exact w1.2
  |(constructor<;>(simp only[Zn,Zr];omega))
  |(have c:=(mi (bH.2 (by omega:0<=i/\i<=3))).1;omega)
  |exact afI k2 k0 (by assumption) (by assumption) (by assumption)
  |exact afG k2 i0 k1 (by omega)
  |exact ah9 i2 i0 (by omega) (by omega)
  |exact ah7
  |exact⟨Zh,Zh⟩
  |done
theorem lU:ec 130 cN:=by
 intro _ _ _ h hp;dsimp only[cN,F0]at h;split at h<;>cases h
 rename_i ls;have hw:=hp.w;have hl:=hp.l;have hn:=hp.n;refine cb Mb3 Tryz.func130 ?_
 intro O r F hO hr hF;cbv
 repeat' first|apply Zb|(apply bF<;>intro hb<;>cbv)|(refine⟨[1,3,10,11,12],[1,8],Int×aa,fun s_=>match s_ with|(i,es)=>[.reg 12 (.j i),.leaf 8 0 ⟨0,0,none,.own (.m true es)⟩],fun s_=>match s_ with|(i,es)=>0<=i/\i<=(ls.length:Int)/\Hc ls i es,fun s_=>match s_ with|(i,es)=>ls.length-i.toNat,⟨(0,[]),?_,?_⟩,?_⟩;rotate_left;(focus (cbv;done));intro s_ hi;obtain⟨i,es⟩:=s_;replace hi:0<=i/\i<=(ls.length:Int)/\Hc ls i es:=hi;obtain⟨i0,i1,i2⟩:=hi;cbv)|(refine⟨[1,3,4,10,11,12,25,26,27],[1,8],Int×aa,fun s_=>match s_ with|(k,es1)=>[.reg 27 (.j k),.leaf 8 0 ⟨0,0,none,.own (.m true es1)⟩],fun s_=>match s_ with|(k,es1)=>0<=k/\k<=((aw ls i 0).length:Int)/\Hd ls i k es1,fun s_=>match s_ with|(k,es1)=>(aw ls i 0).length-k.toNat,⟨(0,es),?_,?_⟩,?_⟩;rotate_left;(focus (cbv;done));intro s_ hk;obtain⟨k,es1⟩:=s_;replace hk:0<=k/\k<=((aw ls i 0).length:Int)/\Hd ls i k es1:=hk;obtain⟨k0,k1,k2⟩:=hk;cbv)|(refine ag (O.ar .add Za k 1,O.mu es1 (O.gi (O.gs ls i 0) k 0) (.v (.bool true))) ?_ ?_ ?_;focus (cbv;done))|(refine ag (O.ar .add Za i 1,es1) ?_ ?_ ?_;focus (cbv;done))
 all_goals(subst hO hr hF;(try simp only[nc]at*);(try simp only[ah,SS,sa,az]at*);(try rw[db (by omega) (by omega)]);(try have z6:bO .add Za k 1=k+1:=bz (by have:=hn i;omega));(try simp only[z6]at*);(try have w2:=hp.el i0 (by omega));(try have w3:=w2.1);(try have w4:=k2.p.l))
 all_goals first
  | (show(_:List DV)=_
     first
      |(refine ai ?_;exact aai i2.p i1 (by omega))
      |(refine ai ?_;symm;exact PL i2 i0 (by omega) (by assumption))
      |(refine ai ?_;symm;exact PM i2 i0 (by assumption) (by assumption))
      |(refine ai ?_;symm;exact D4 i0 (by omega) k0 (by assumption) (Rf (by assumption)))
      |(refine ai ?_;symm;exact D4 i0 (by omega) k0 (by assumption) (Rh (by assumption)))
      |(refine ai ?_;symm;exact PN k2 i0 k0 (by assumption) (by assumption))
      |done)
  |omega
  |exact gj
  |(have c:=(mi (bH.2 (by omega:0<=i/\i<=3))).1;omega)
  |exact aba k2 k0 (by assumption) (by assumption) (by assumption)
  |exact aa9 k2 i0 k1 (by omega)
  |exact adJ i2 i0 (by assumption) (by omega)
  |exact adH
  |done
def kJ:EC:=fun F=>fun
 |[.agg [.v (.int Za d0),.v (.int Za d1),.v (.int Za d2),.v (.int Za d3)],.ptr [.v (.int Za e0),.v (.int Za e1),.v (.int Za e2),.v (.int Za e3)]]=>some (fun _=>True,[.k (F.eqB d0 e0)])
 |_=>none
theorem xi:ec 234 kJ:=by
 intro _ _ _ h hp;dsimp only[kJ,F0]at h;split at h<;>cases h
 rename_i d0 d1 d2 d3 e0 e1 e2 e3;refine cb nB Tryz.func234 ?_
 exact agC
abbrev Na1:da:=ez (fun F f=>match f with|234=>kJ F|_=>fun _=>none) (by
 intro f;dsimp only;split;exact xi;exact de)
def ba:EC:=fun F=>fun
 |[.one (.s 4 os),.fn 234 [[.v (.int Za e0),.v (.int Za e1),.v (.int Za e2),.v (.int Za e3)]]]=>some (fun _=>Rw [tI,tI,tI,tI] os/\os.length<=1099511627776,[.j (F.oiI os e0)])
 |_=>none
theorem cr:ec 187 ba:=by
 intro _ _ _ h hp;dsimp only[ba,F0]at h;split at h<;>cases h
 rename_i os e0 e1 e2 e3;obtain⟨hw,hn⟩:=hp;refine cb Na1 Tryz.func187 ?_
 intro O r F hO hr hF;cbv
 repeat' first|apply Zb|(apply bF<;>intro hb<;>cbv)|(refine⟨[0,1,7,8],[0],Int,fun i=>[.reg 8 (.j i)],fun i=>0<=i/\i<=((os.length:Nat):Int)/\upto (cZ (HT os e0)) i,fun i=>(os.length)-i.toNat,⟨0,?_,?_⟩,?_⟩;rotate_left;(focus (cbv;done));intro i hi;replace hi:0<=i/\i<=((os.length:Nat):Int)/\upto (cZ (HT os e0)) i:=hi;obtain⟨i0,i1,i2⟩:=hi;cbv)|(refine ag (O.ar .add Za i 1) ?_ ?_ ?_;focus (cbv;done))
 all_goals(subst hO hr hF;(try simp only[nc]at*);(try simp only[ah,SS,sa,az]at*);(try rw[db (by omega) (by omega)]))
 all_goals first
  | (show(_:List DV)=_
     first
      |exact cq (dM i2 i0 (by assumption) (show HT os e0 i=true from by assumption)).symm
      |exact cq (eY i2 (by assumption)).symm
      |done)
  |omega
  |exact gj
  |(show(lk _ _).isSome=true;kernel_rfl)
  |exact bK
  |exact aZ i2 (ji (show HT os e0 i=false from by assumption))
  |done
abbrev Na2:da:=ez (fun F f=>match f with|187=>ba F|_=>fun _=>none) (by
 intro f;dsimp only;split;exact cr;exact de)
def aV:EC:=fun F=>fun
 |[.one (.s 4 os),.fn 234 [[.v (.int Za e0),.v (.int Za e1),.v (.int Za e2),.v (.int Za e3)]]]=>some (fun _=>Rw [tI,tI,tI,tI] os/\os.length<=1099511627776,[.k (F.oiB os e0)])
 |_=>none
theorem cd:ec 233 aV:=by
 intro _ _ _ h hp;dsimp only[aV,F0]at h;split at h<;>cases h
 rename_i os e0 e1 e2 e3;refine cb Na2 Tryz.func233 ?_
 intro O r F hO hr hF;cbv
 repeat' first|apply Zb|(apply bF<;>intro hb<;>cbv)
 all_goals(subst hO hr hF;(try simp only[nc]at*);(try simp only[ah,SS,sa,az]at*))
 all_goals first
  | (show(_:List DV)=_
     first
      |exact ai (gW (by unfold oiB;simp only[SS,VV]))
      |done)
  |exact hp
  |done
abbrev Na3:da:=ez (fun F f=>match f with|41=>aj F|233=>aV F|137=>eB F|77=>cL F|28=>aj F|268=>fF F|179=>cL F|_=>fun _=>none) (by
 intro f;dsimp only;split;exact bB;exact cd;exact gx;exact lV;exact bE;exact iL;exact mf;exact de)
def fZ:EC:=fun F=>fun
 |[.agg hl_]=>hL hl_ fun a0 a1 a2 a3 a4 a5 a6 a7 a8 a9 aA aB aC aD aE aF aG aH aI aJ aK aL aM aN=>(fun _=>OV a6 a7 a8 a9 aA aB aD/\layOk a6 a7=true,[.k (F.objOk a6 a7 a8 a9 aH)])
 |_=>none
theorem BS:ec 131 fZ:=by
 intro _ _ _ h hp;dsimp only[fZ,F0,hL]at h;split at h;rotate_left;cases h;split at h<;>cases h
 rename_i a0 a1 a2 a3 a4 a5 a6 a7 a8 a9 aA aB aC aD aE aF aG aH aI aJ aK aL aM aN;obtain⟨N,hlay⟩:=hp;have how:=N.ow;have hol:=N.ol;have hsw:=N.sw;have hlw:=N.lw;have hsl:=N.sl;have hll:=N.ll;have hcl:=N.cl;have hlc:=au (es:=a9);have hsb:bO .sub Za (a9.length:Int) 1=a9.length-1:=dG (by omega);refine cb Na3 Tryz.func131 ?_
 intro O r F hO hr hF;cbv
 repeat' first|apply Zb|(apply bF<;>intro hb<;>cbv)|(refine⟨[1,9,10,11],[1],Int,fun i=>[.reg 11 (.j i)],fun i=>0<=i/\i<=((a8.length:Nat):Int)/\upto (BH a6 a7 a8 a9 aH) i,fun i=>(a8.length)-i.toNat,⟨0,?_,?_⟩,?_⟩;rotate_left;(focus (cbv;done));intro i hi;replace hi:0<=i/\i<=((a8.length:Nat):Int)/\upto (BH a6 a7 a8 a9 aH) i:=hi;obtain⟨i0,i1,i2⟩:=hi;cbv)|(refine ag (O.ar .add Za i 1) ?_ ?_ ?_;focus (cbv;done))
 all_goals(subst hO hr hF;(try simp only[nc]at*);(try simp only[ah,SS,sa,az]at*);(try rw[db (by omega) (by omega)]);(try have z:=Cr i0 (by omega));(try simp only[z,hsb,Bh]at*);(try have d1:=fun h=>FU (sp:=a6) (lg:=a7) (a:=ab a8 i 1) h);(try have d3:=fun h=>LO (sp:=a6) (lg:=a7) (a:=ab a8 i 1) h))
 all_goals first
  |(exfalso;omega)
  | (show(_:List DV)=_
     first
      |(refine ai ?_;symm;exact qj i0 (by assumption) (SB (by assumption) (by assumption)))
      |(refine ai ?_;symm;exact qj i0 (by assumption) (SC (by assumption)))
      |(refine ai ?_;symm;exact qj i0 (by assumption) (SD (by assumption)))
      |(refine ai ?_;symm;exact qj i0 (by assumption) (SE (by assumption)))
      |(refine ai ?_;symm;exact qj i0 (by assumption) (JJ (SG (by assumption))))
      |(refine ai ?_;symm;exact qj i0 (by assumption) (JJ (aeF (by first|exact .inl (by assumption)|exact .inr (by assumption)|exact .inl (by omega)) (by first|exact .inl (by assumption)|exact .inr (by assumption)|exact .inl (by omega)))))
      |(refine ai ?_;symm;exact Nl i2 (by omega))
      |(have q:false=true:=(by assumption);cases q)
      |done)
  |omega
  |exact gj
  |(show aP _ _=true;kernel_rfl)
  |exact⟨hsw,hlw⟩
  |exact⟨Rw.take how _,by rw[Zk];omega⟩
  |exact bK
  |exact aZ i2 (P7 (by first|exact .inl (by omega)|exact .inr (by assumption)) (by assumption) (by assumption) (by assumption) (SH (by assumption) (by assumption) (by assumption)))
  |exact aZ i2 (P7 (by first|exact .inl (by omega)|exact .inr (by assumption)) (by assumption) (by assumption) (by assumption) (SI (by assumption) (by assumption) (by assumption)))
  |(have q:false=true:=(by assumption);cases q)
  |done
theorem Ae:ec 172 fZ:=by
 intro _ _ _ h hp;dsimp only[fZ,F0,hL]at h;split at h;rotate_left;cases h;split at h<;>cases h
 rename_i a0 a1 a2 a3 a4 a5 a6 a7 a8 a9 aA aB aC aD aE aF aG aH aI aJ aK aL aM aN;obtain⟨N,hlay⟩:=hp;have how:=N.ow;have hol:=N.ol;have hsw:=N.sw;have hlw:=N.lw;have hsl:=N.sl;have hll:=N.ll;have hcl:=N.cl;have hlc:=au (es:=a9);have hsb:bO .sub Za (a9.length:Int) 1=a9.length-1:=dG (by omega);refine cb Na3 Tryz.func172 ?_
 intro O r F hO hr hF;cbv
 repeat' first|apply Zb|(apply bF<;>intro hb<;>cbv)|(refine⟨[1,3],[1],Int,fun i=>[.reg 3 (.j i)],fun i=>0<=i/\i<=(a8.length:Int)/\upto (BH a6 a7 a8 a9 aH) i,fun i=>a8.length-i.toNat,⟨0,?_,?_⟩,?_⟩;rotate_left;(focus (cbv;done));intro i hi;replace hi:0<=i/\i<=(a8.length:Int)/\upto (BH a6 a7 a8 a9 aH) i:=hi;obtain⟨i0,i1,i2⟩:=hi;cbv)|(refine⟨[1,3,4,5],[1,4],Int,fun k=>[.reg 5 (.j k)],fun k=>0<=k/\k<=i/\upto (fun j=> !eqB (ab a8 j 0) (ab a8 i 0)) k,fun k=>(i-k).toNat,⟨0,?_,?_⟩,?_⟩;rotate_left;(focus (cbv;done));intro k hk;replace hk:0<=k/\k<=i/\upto (fun j=> !eqB (ab a8 j 0) (ab a8 i 0)) k:=hk;obtain⟨k0,k1,k2⟩:=hk;cbv)|(refine ag (O.ar .add Za k 1) ?_ ?_ ?_;focus (cbv;done))|(refine ag (O.ar .add Za i 1) ?_ ?_ ?_;focus (cbv;done))
 all_goals(subst hO hr hF;(try simp only[nc]at*);(try simp only[ah,SS,sa,az]at*);(try rw[db (by omega) (by omega)]);(try have z:=Cr i0 (by omega));(try simp only[z,hsb]at*);(try simp only[Rt hlay,Ru hlay,Rv hlay]at*);(try have z6:bO .add Za k 1=k+1:=bz (by omega));(try simp only[z6]at*);(try have d1:=fun h=>FU (sp:=a6) (lg:=a7) (a:=ab a8 i 1) h);(try have d3:=fun h=>LO (sp:=a6) (lg:=a7) (a:=ab a8 i 1) h);(try have d4:=aeD (os:=a8) (i:=i) k2 (by omega) i0))
 all_goals first
  |(exfalso;omega)
  | (show(_:List DV)=_
     first
      |(refine ai ?_;symm;exact qj i0 (by assumption) (SB (by assumption) (by assumption)))
      |(refine ai ?_;symm;exact qj i0 (by assumption) (SC (by assumption)))
      |(refine ai ?_;symm;exact qj i0 (by assumption) (SD (by assumption)))
      |(refine ai ?_;symm;exact qj i0 (by assumption) (SE (abK k0 (by assumption) (by assumption) (by assumption))))
      |(refine ai ?_;symm;exact qj i0 (by assumption) (JJ (SG (by assumption))))
      |(refine ai ?_;symm;exact qj i0 (by assumption) (JJ (aeF (by first|exact .inl (by assumption)|exact .inr (by assumption)|exact .inl (by omega)) (by first|exact .inl (by assumption)|exact .inr (by assumption)|exact .inl (by omega)))))
      |(refine ai ?_;symm;exact Nl i2 (by omega))
      |(have q:false=true:=(by assumption);cases q)
      |done)
  |omega
  |exact gj
  |(show aP _ _=true;kernel_rfl)
  |exact⟨hsw,hlw,hsl,hll,AD how rfl (by omega)⟩
  |exact bK
  |exact aZ k2 (by show(!eqB _ _)=true;rw[wn (by assumption)];rfl)
  |exact aZ i2 (P7 (by first|exact .inl (by omega)|exact .inr (by assumption)) (by assumption) (by assumption) (by assumption) (SH (by assumption) (by assumption) (by assumption)))
  |exact aZ i2 (P7 (by first|exact .inl (by omega)|exact .inr (by assumption)) (by assumption) (by assumption) (by assumption) (SI (by assumption) (by assumption) (by assumption)))
  |(have q:false=true:=(by assumption);cases q)
  |done
abbrev Oa1:da:=ez (fun F f=>match f with|137=>eB F|268=>fF F|_=>fun _=>none) (by
 intro f;dsimp only;split;exact gx;exact iL;exact de)
def ip:EP:=fun F=>fun
 |[.one (.v (.int Za ad)),.one (.v (.int Za k)),.mp [.own (.m false es)],.mp [.ro (.s 1 a0),.ro (.s 1 a1),.ro (.s 2 a2),.own (.v (.int Za a3)),.ro (.s 1 a4),.ro (.s 2 a5),.ro (.s 3 a6),.ro (.s 3 a7),.ro (.s 4 a8),.ro (.s 1 a9),.ro (.s 1 aA),.ro (.s 1 aB),.own (.v (.int Za aC)),.ro (.s 3 aD),.own (.v (.int Za aE)),.own (.v (.int Za aF)),.own (.v (.int Za aG)),.own (.v (.int Za aH)),.own (.v (.bool aI)),.own (.v (.int Za aJ)),.own (.v (.int Za aK)),.ro (.s 1 aL),.own (.v (.int Za aM)),.own (.v (.int Za aN))]]=>some (fun _=>Rw [tI,tI,tI] a6/\Rw [tI,tI,tI] a7,[[.own (.m false (F.huI es ad))],[.ro (.s 1 a0),.ro (.s 1 a1),.ro (.s 2 a2),.own (.i a3),.ro (.s 1 a4),.ro (.s 2 a5),.ro (.s 3 a6),.ro (.s 3 a7),.ro (.s 4 a8),.ro (.s 1 a9),.ro (.s 1 aA),.ro (.s 1 aB),.own (.i aC),.ro (.s 3 aD),.own (.i aE),.own (.i aF),.own (.i aG),.own (.i aH),.own (.v (.bool aI)),.own (.i aJ),.own (.i aK),.ro (.s 1 aL),.own (.i aM),.own (.i aN)]],[.k (F.hlB a6 a7 ad k)])
 |_=>none
theorem sF:ep 235 ip:=by
 intro _ _ _ _ h hp;dsimp only[ip,F0]at h;split at h<;>cases h
 rename_i ad k es a0 a1 a2 a3 a4 a5 a6 a7 a8 a9 aA aB aC aD aE aF aG aH aI aJ aK aL aM aN;obtain⟨hsw,hlw⟩:=hp;refine pb Oa1 Tryz.func235 ?_
 intro O r os F hO hr hos hF;cbv
 repeat' first|apply Zb|(apply bF<;>intro hb<;>cbv)
 all_goals((try subst hos);subst hO hr hF;(try simp only[nc]at*);(try simp only[ah,SS,sa,az]at*);(try have d1:=fun h=>FU (sp:=a6) (lg:=a7) (a:=ad) h))
 all_goals first|(show(_:List DV)=_;refine ai ?_;unfold hlB;simp[*];done)|(show(_:List DV)=_;refine ai ?_;unfold hlB;rw[VU (p:=k<0) (by omega),cmp_eq];simp[*];done)|(show(_:List H)=_;exact rfl)|exact⟨hsw,hlw⟩|(have e:=d1 (by assumption);exact gj)|done
def mM:EC:=fun F=>fun
 |[.agg hl_,.one (.v (.int Za ad)),.one (.v (.int Za k))]=>hL hl_ fun a0 a1 a2 a3 a4 a5 a6 a7 a8 a9 aA aB aC aD aE aF aG aH aI aJ aK aL aM aN=>(fun _=>OV a6 a7 a8 a9 aA aB aD/\layOk a6 a7=true/\ -9223372036854775808<=ad/\ad<=9223372036854775807,[.k (F.hlB a6 a7 ad k)])
 |_=>none
theorem Ag:ec 269 mM:=by
 intro _ _ _ h hp;dsimp only[mM,F0,hL]at h;split at h;rotate_left;cases h;split at h<;>cases h
 rename_i ad k _ a0 a1 a2 a3 a4 a5 a6 a7 a8 a9 aA aB aC aD aE aF aG aH aI aJ aK aL aM aN;obtain⟨N,hlay,ad0,ad1⟩:=hp;have hsw:=N.sw;have hlw:=N.lw;have hsl:=N.sl;have hll:=N.ll;refine cb Oa1 Tryz.func269 ?_
 intro O r F hO hr hF;cbv
 repeat' first|apply Zb|(apply bF<;>intro hb<;>cbv)
 all_goals(subst hO hr hF;(try simp only[nc]at*);(try simp only[ah,SS,sa,az]at*);(try simp only[Rt hlay,Ru hlay,Rv hlay]at*);(try have d1:=fun h=>FU (sp:=a6) (lg:=a7) (a:=ad) h))
 all_goals first|(show(_:List DV)=_;refine ai ?_;unfold hlB;simp[*];done)|(show(_:List DV)=_;refine ai ?_;unfold hlB;rw[VU (p:=k<0) (by omega),cmp_eq];simp[*];done)|exact⟨hsw,hlw,hsl,hll,ad0,ad1⟩|(have e:=d1 (by assumption);exact gj)|done
abbrev Oa2:da:={
 Φ:=rz
 F0:=F0
 ct:=fun F f=>match f with|236=>eN F|237=>jH F|_=>fun _=>none
 hc:=(by
  intro f;dsimp only;split;exact wU;exact uV;exact de)
 pt:=fun F f=>match f with|235=>some (ip F)|_=>none
 hp:=(by
  intro f mk h;dsimp only at h;split at h<;>cases h
  exact sF)}
def jI:EC:=fun F=>fun
 |[.agg hl_]=>hL hl_ fun a0 a1 a2 a3 a4 a5 a6 a7 a8 a9 aA aB aC aD aE aF aG aH aI aJ aK aL aM aN=>(fun _=>OV a6 a7 a8 a9 aA aB aD/\layOk a6 a7=true,[.k (F.hoI a6 a7 a8 a9 aA aB aD aF)])
 |_=>none
theorem uZ:ec 132 jI:=by
 intro _ _ _ h hp;dsimp only[jI,F0,hL]at h;split at h;rotate_left;cases h;split at h<;>cases h
 rename_i a0 a1 a2 a3 a4 a5 a6 a7 a8 a9 aA aB aC aD aE aF aG aH aI aJ aK aL aM aN;obtain⟨N,hlay⟩:=hp;have hsw:=N.sw;have hlw:=N.lw;have hsl:=N.sl;have hll:=N.ll;have how:=N.ow;have hol:=N.ol;have hcw:=N.cw;have hcl:=N.cl;have hqw:=N.qw;have hql:=N.ql;have hcc:=N.c;have hlc:=au (es:=a9);have hfr:=Mt N.m;have hfl:=HR (b:=aA) (x:=aB);have hlr:=adZ (sp:=a6) (lg:=a7);have hla:=MF (sp:=a6) (lg:=a7);refine cb Oa2 Tryz.func132 ?_
 intro O r F hO hr hF;cbv
 repeat' first|apply Zb|(apply bF<;>intro hb<;>cbv)|(refine⟨[1,3,4,22,23,24],[1,3],Int×aa,fun s_=>match s_ with|(i,es)=>[.reg 24 (.j i),.leaf 3 0 ⟨0,0,none,.own (.m false es)⟩],fun s_=>match s_ with|(i,es)=>0<=i/\i<=(a9.length:Int)/\HiP a6 a7 a9 i es,fun s_=>match s_ with|(i,es)=>a9.length-i.toNat,⟨(0,[]),?_,?_⟩,?_⟩;rotate_left;(focus (cbv;done));intro s_ hi;obtain⟨i,es⟩:=s_;replace hi:0<=i/\i<=(a9.length:Int)/\HiP a6 a7 a9 i es:=hi;obtain⟨i0,i1,i2⟩:=hi;cbv)|(refine⟨[1,3,4,22,23,24,29,30,31],[1,3],Int×aa,fun s_=>match s_ with|(k,es1)=>[.reg 31 (.j k),.leaf 3 0 ⟨0,0,none,.own (.m false es1)⟩],fun s_=>match s_ with|(k,es1)=>0<=k/\k<=((aw a9 i 0).length:Int)/\HkP a6 a7 a9 i k es1,fun s_=>match s_ with|(k,es1)=>(aw a9 i 0).length-k.toNat,⟨(0,es),?_,?_⟩,?_⟩;rotate_left;(focus (cbv;done));intro s_ hk;obtain⟨k,es1⟩:=s_;replace hk:0<=k/\k<=((aw a9 i 0).length:Int)/\HkP a6 a7 a9 i k es1:=hk;obtain⟨k0,k1,k2⟩:=hk;cbv)|(refine⟨[1,3,4,7,22,23,24,29,30,31,36,37,38],[1,3],Int×aa,fun s_=>match s_ with|(j,es2)=>[.reg 38 (.j j),.leaf 3 0 ⟨0,0,none,.own (.m false es2)⟩],fun s_=>match s_ with|(j,es2)=>0<=j/\j<=((aw (aw a9 i 0) k 0).length:Int)/\HjP a6 a7 a9 i k j es2,fun s_=>match s_ with|(j,es2)=>(aw (aw a9 i 0) k 0).length-j.toNat,⟨(0,es1),?_,?_⟩,?_⟩;rotate_left;(focus (cbv;done));intro s_ hj;obtain⟨j,es2⟩:=s_;replace hj:0<=j/\j<=((aw (aw a9 i 0) k 0).length:Int)/\HjP a6 a7 a9 i k j es2:=hj;obtain⟨j0,j1,j2⟩:=hj;cbv)|(refine⟨[1,3,4,52,53,54],[1,3],Int×aa,fun s_=>match s_ with|(q,es3)=>[.reg 54 (.j q),.leaf 3 0 ⟨0,0,none,.own (.m false es3)⟩],fun s_=>match s_ with|(q,es3)=>0<=q/\q<=(aD.length:Int)/\HqP a6 a7 a9 aD aF q es3,fun s_=>match s_ with|(q,es3)=>aD.length-q.toNat,⟨(0,es),?_,?_⟩,?_⟩;rotate_left;(focus (cbv;done));intro s_ hq;obtain⟨q,es3⟩:=s_;replace hq:0<=q/\q<=(aD.length:Int)/\HqP a6 a7 a9 aD aF q es3:=hq;obtain⟨q0,q1,q2⟩:=hq;cbv)|(refine⟨[1,3,4,75,76,77],[1,3,75],Int×aa,fun s_=>match s_ with|(f,es4)=>[.reg 77 (.j f),.leaf 3 0 ⟨0,0,none,.own (.m false es4)⟩],fun s_=>match s_ with|(f,es4)=>0<=f/\f<=((ifL aA aB).length:Int)/\HfP a6 a7 a9 aD (ifL aA aB) aF f es4,fun s_=>match s_ with|(f,es4)=>(ifL aA aB).length-f.toNat,⟨(0,es3),?_,?_⟩,?_⟩;rotate_left;(focus (cbv;done));intro s_ hf;obtain⟨f,es4⟩:=s_;replace hf:0<=f/\f<=((ifL aA aB).length:Int)/\HfP a6 a7 a9 aD (ifL aA aB) aF f es4:=hf;obtain⟨f0,f1,f2⟩:=hf;cbv)|(refine⟨[1,3,87,88,89],[1,3],Int×aa,fun s_=>match s_ with|(p,es5)=>[.reg 89 (.j p),.leaf 3 0 ⟨0,0,none,.own (.m false es5)⟩],fun s_=>match s_ with|(p,es5)=>0<=p/\p<=(a8.length:Int)/\TO a6 a7 a8 a9 aD (ifL aA aB) aF p es5,fun s_=>match s_ with|(p,es5)=>a8.length-p.toNat,⟨(0,es4),?_,?_⟩,?_⟩;rotate_left;(focus (cbv;done));intro s_ hp;obtain⟨p,es5⟩:=s_;replace hp:0<=p/\p<=(a8.length:Int)/\TO a6 a7 a8 a9 aD (ifL aA aB) aF p es5:=hp;obtain⟨p0,p1,p2⟩:=hp;cbv)|(refine⟨[3,103,104,105],[3,103],Int×aa,fun s_=>match s_ with|(t,es6)=>[.reg 105 (.j t),.leaf 3 0 ⟨0,0,none,.own (.m false es6)⟩],fun s_=>match s_ with|(t,es6)=>0<=t/\t<=((iaL a6 a7).length:Int)/\QS a6 a7 a8 a9 aD (ifL aA aB) aF t es6,fun s_=>match s_ with|(t,es6)=>(iaL a6 a7).length-t.toNat,⟨(0,es5),?_,?_⟩,?_⟩;rotate_left;(focus (cbv;done));intro s_ ht;obtain⟨t,es6⟩:=s_;replace ht:0<=t/\t<=((iaL a6 a7).length:Int)/\QS a6 a7 a8 a9 aD (ifL aA aB) aF t es6:=ht;obtain⟨t0,t1,t2⟩:=ht;cbv)|(refine ag (O.ar .add Za j 1,F.huI es2 (O.gi (O.gs (O.gs a9 i 0) k 0) j 0)) ?_ ?_ ?_;focus (cbv;done))|(refine ag (O.ar .add Za k 1,es2) ?_ ?_ ?_;focus (cbv;done))|(refine ag (O.ar .add Za i 1,es1) ?_ ?_ ?_;focus (cbv;done))|(refine ag (O.ar .add Za t 1,es6) ?_ ?_ ?_;focus (cbv;done))|(refine ag (O.ar .add Za p 1,O.mu es5 (O.gi a8 p 1) (.i (O.ar .add Za (O.mgi es5 (O.gi a8 p 1)) 1))) ?_ ?_ ?_;focus (cbv;done))|(refine ag (O.ar .add Za f 1,F.huI es4 (O.pi (.s 1 (F.ifL aA aB)) [(O.ad 0 f,0)])) ?_ ?_ ?_;focus (cbv;done))|(refine ag (O.ar .add Za q 1,F.huI es3 (O.gi aD q 0)) ?_ ?_ ?_;focus (cbv;done))
 all_goals(subst hO hr hF;(try simp only[nc]at*);(try simp only[ah,SS,sa,az]at*);(try rw[db (by omega) (by omega)]);(try simp only[vK f0]at*);(try simp only[vK t0,PX]at*);(try have z8:bO .add Za t 1=t+1:=bz (by omega));(try simp only[z8]at*);(try have w6:=hcc.n i i0 (by assumption));(try have w7:=w6.el k0 (by assumption));(try have w8:=w7.1);(try have z6:bO .add Za k 1=k+1:=bz (by have:=w6.l;omega));(try simp only[z6]at*);(try have z7:bO .add Za j 1=j+1:=bz (by have:=w7.2;omega));(try simp only[z7]at*))
 all_goals first
  | (show(_:List DV)=_
     first
      |(refine ai ?_;symm;exact aaU i0 (by assumption) (adD k0 (by assumption) j0 (by assumption) (by assumption)))
      |(refine ai ?_;symm;exact Mh q0 (by assumption) (aff (by assumption)))
      |(refine ai ?_;symm;exact Mh q0 (by assumption) (afg (by assumption)))
      |(refine ai ?_;symm;exact aaV f0 (by assumption) (by assumption))
      |(refine ai ?_;symm;exact ahe t2 t0 (by assumption) (by assumption))
      |(refine ai ?_;symm;exact aaT t2 (by omega))
      |done)
  |omega
  |exact gj
  |exact⟨hsw,hlw⟩
  |exact⟨hsw,hlw,hsl,hll⟩
  |exact N.m
  |exact Da hfr f0 (by assumption)
  |exact Da hlr t0 (by assumption)
  |exact ac9 j2 i0 (by assumption) k0 (by assumption) j0 (by assumption) hcl (by assumption)
  |exact ada j2 k0 j1 (by omega)
  |exact ac8 k2 i0 k1 (by omega)
  |exact ahb k2
  |exact ahc i2
  |exact aha
  |exact ahj i2 i1 (by omega)
  |exact adu q2 q0 (by assumption) hcl hql (ahP (by assumption) (by omega))
  |exact ag9 q2 q1 (by omega)
  |exact ac7 f2 f0 (by assumption) hcl hql hfl (by assumption)
  |exact ahf f2 f1 (by omega)
  |exact ade p2 p0 (by assumption) hcl hql hol hfl
  |exact ahd p2 p1 (by omega)
  |exact adc t2 (by assumption)
  |done
abbrev Oa3:da:=ez (fun F f=>match f with|269=>mM F|270=>eN F|271=>jQ F|260=>ga F|_=>fun _=>none) (by
 intro f;dsimp only;split;exact Ag;exact x5;exact vp;exact j5;exact de)
def mL:EC:=fun F=>fun
 |[.agg hl_]=>hL hl_ fun a0 a1 a2 a3 a4 a5 a6 a7 a8 a9 aA aB aC aD aE aF aG aH aI aJ aK aL aM aN=>(fun _=>OV a6 a7 a8 a9 aA aB aD/\layOk a6 a7=true,[.k (F.hoS a6 a7 a8 a9 aA aB aD)])
 |_=>none
theorem Af:ec 173 mL:=by
 intro _ _ _ h hp;dsimp only[mL,F0,hL]at h;split at h;rotate_left;cases h;split at h<;>cases h
 rename_i a0 a1 a2 a3 a4 a5 a6 a7 a8 a9 aA aB aC aD aE aF aG aH aI aJ aK aL aM aN;obtain⟨N,hlay⟩:=hp;have hsw:=N.sw;have hlw:=N.lw;have hsl:=N.sl;have hll:=N.ll;have how:=N.ow;have hol:=N.ol;have hcw:=N.cw;have hcl:=N.cl;have hqw:=N.qw;have hql:=N.ql;have hcc:=N.c;have hlc:=au (es:=a9);have hfr:=Mt N.m;have hfl:=HR (b:=aA) (x:=aB);refine cb Oa3 Tryz.func173 ?_
 intro O r F hO hr hF;cbv
 repeat' first|apply Zb|(apply bF<;>intro hb<;>cbv)|(refine⟨[1,3,4],[1,3],Int×aa,fun s_=>match s_ with|(i,o)=>[.reg 4 (.j i),.reg 3 (.one (.vw 3 0 0 0 (O.ln o))),.leaf 3 0 ⟨0,0,none,.own (.s 1 o)⟩],fun s_=>match s_ with|(i,o)=>0<=i/\i<=(a8.length:Int)/\T7 a8 i o,fun s_=>match s_ with|(i,o)=>a8.length-i.toNat,⟨(0,[]),?_,?_⟩,?_⟩;rotate_left;(focus (cbv;done));intro s_ hi;obtain⟨i,o⟩:=s_;replace hi:0<=i/\i<=(a8.length:Int)/\T7 a8 i o:=hi;obtain⟨i0,i1,i2⟩:=hi;cbv)|(refine⟨[1,3,5],[1,3],Int×aa,fun s_=>match s_ with|(j,o1)=>[.reg 5 (.j j),.reg 3 (.one (.vw 3 0 0 0 (O.ln o1))),.leaf 3 0 ⟨0,0,none,.own (.s 1 o1)⟩],fun s_=>match s_ with|(j,o1)=>0<=j/\j<=(a9.length:Int)/\S2P a6 a7 a8 a9 j o1,fun s_=>match s_ with|(j,o1)=>a9.length-j.toNat,⟨(0,o),?_,?_⟩,?_⟩;rotate_left;(focus (cbv;done));intro s_ hj;obtain⟨j,o1⟩:=s_;replace hj:0<=j/\j<=(a9.length:Int)/\S2P a6 a7 a8 a9 j o1:=hj;obtain⟨j0,j1,j2⟩:=hj;cbv)|(refine⟨[1,3,5,6],[1,3],Int×aa,fun s_=>match s_ with|(k,o2)=>[.reg 6 (.j k),.reg 3 (.one (.vw 3 0 0 0 (O.ln o2))),.leaf 3 0 ⟨0,0,none,.own (.s 1 o2)⟩],fun s_=>match s_ with|(k,o2)=>0<=k/\k<=((aw a9 j 0).length:Int)/\S3P a6 a7 a8 a9 j k o2,fun s_=>match s_ with|(k,o2)=>(aw a9 j 0).length-k.toNat,⟨(0,o1),?_,?_⟩,?_⟩;rotate_left;(focus (cbv;done));intro s_ hk;obtain⟨k,o2⟩:=s_;replace hk:0<=k/\k<=((aw a9 j 0).length:Int)/\S3P a6 a7 a8 a9 j k o2:=hk;obtain⟨k0,k1,k2⟩:=hk;cbv)|(refine⟨[1,3,5,6,7,8],[1,3],Int×aa,fun s_=>match s_ with|(m,o3)=>[.reg 8 (.j m),.reg 3 (.one (.vw 3 0 0 0 (O.ln o3))),.leaf 3 0 ⟨0,0,none,.own (.s 1 o3)⟩],fun s_=>match s_ with|(m,o3)=>0<=m/\m<=((aw (aw a9 j 0) k 0).length:Int)/\T8 a6 a7 a8 a9 j k m o3,fun s_=>match s_ with|(m,o3)=>(aw (aw a9 j 0) k 0).length-m.toNat,⟨(0,o2),?_,?_⟩,?_⟩;rotate_left;(focus (cbv;done));intro s_ hm;obtain⟨m,o3⟩:=s_;replace hm:0<=m/\m<=((aw (aw a9 j 0) k 0).length:Int)/\T8 a6 a7 a8 a9 j k m o3:=hm;obtain⟨m0,m1,m2⟩:=hm;cbv)|(refine⟨[1,3,9],[1,3],Int×aa,fun s_=>match s_ with|(q,o4)=>[.reg 9 (.j q),.reg 3 (.one (.vw 3 0 0 0 (O.ln o4))),.leaf 3 0 ⟨0,0,none,.own (.s 1 o4)⟩],fun s_=>match s_ with|(q,o4)=>0<=q/\q<=(aD.length:Int)/\T9 a6 a7 a8 a9 aD q o4,fun s_=>match s_ with|(q,o4)=>aD.length-q.toNat,⟨(0,o1),?_,?_⟩,?_⟩;rotate_left;(focus (cbv;done));intro s_ hq;obtain⟨q,o4⟩:=s_;replace hq:0<=q/\q<=(aD.length:Int)/\T9 a6 a7 a8 a9 aD q o4:=hq;obtain⟨q0,q1,q2⟩:=hq;cbv)|(refine⟨[1,3,10,11],[1,3,10],Int×aa,fun s_=>match s_ with|(f,o5)=>[.reg 11 (.j f),.reg 3 (.one (.vw 3 0 0 0 (O.ln o5))),.leaf 3 0 ⟨0,0,none,.own (.s 1 o5)⟩],fun s_=>match s_ with|(f,o5)=>0<=f/\f<=((ifL aA aB).length:Int)/\S6P a6 a7 a8 a9 aD (ifL aA aB) f o5,fun s_=>match s_ with|(f,o5)=>(ifL aA aB).length-f.toNat,⟨(0,o4),?_,?_⟩,?_⟩;rotate_left;(focus (cbv;done));intro s_ hf;obtain⟨f,o5⟩:=s_;replace hf:0<=f/\f<=((ifL aA aB).length:Int)/\S6P a6 a7 a8 a9 aD (ifL aA aB) f o5:=hf;obtain⟨f0,f1,f2⟩:=hf;cbv)|(refine⟨[1,3,12],[1,3],Int,fun t=>[.reg 12 (.j t)],fun t=>0<=t/\t<=(o5.length:Int)/\OY a6 a7 a8 a9 aD (ifL aA aB) t o5,fun t=>o5.length-t.toNat,⟨0,?_,?_⟩,?_⟩;rotate_left;(focus (cbv;done));intro t ht;replace ht:0<=t/\t<=(o5.length:Int)/\OY a6 a7 a8 a9 aD (ifL aA aB) t o5:=ht;obtain⟨t0,t1,t2⟩:=ht;cbv)|(refine ag (O.ar .add Za m 1,O.cat o3 (O.sub [[.i (O.gi (O.gs (O.gs a9 j 0) k 0) m 0)]] 0 (O.ln [[.i (O.gi (O.gs (O.gs a9 j 0) k 0) m 0)]]))) ?_ ?_ ?_;focus (cbv;done))|(refine ag (O.ar .add Za k 1,o3) ?_ ?_ ?_;focus (cbv;done))|(refine ag (O.ar .add Za j 1,o2) ?_ ?_ ?_;focus (cbv;done))|(refine ag (O.ar .add Za t 1) ?_ ?_ ?_;focus (cbv;done))|(refine ag (O.ar .add Za f 1,O.cat o5 (O.sub [[.i (O.pi (.s 1 (F.ifL aA aB)) [(O.ad 0 f,0)])]] 0 (O.ln [[.i (O.pi (.s 1 (F.ifL aA aB)) [(O.ad 0 f,0)])]]))) ?_ ?_ ?_;focus (cbv;done))|(refine ag (O.ar .add Za q 1,O.cat o4 (O.sub [[.i (O.gi aD q 0)]] 0 (O.ln [[.i (O.gi aD q 0)]]))) ?_ ?_ ?_;focus (cbv;done))|(refine ag (O.ar .add Za i 1,O.cat o (O.sub [[.i (O.gi a8 i 1)]] 0 (O.ln [[.i (O.gi a8 i 1)]]))) ?_ ?_ ?_;focus (cbv;done))
 all_goals(subst hO hr hF;(try simp only[nc]at*);(try simp only[ah,SS,sa,az]at*);(try rw[db (by omega) (by omega)]);(try simp only[vK f0]at*);(try simp only[vK t0]at*);(try simp only[Bh]at*);(try have w6:=hcc.n j j0 (by assumption));(try have w7:=w6.el k0 (by assumption));(try have w8:=w7.1);(try have z6:bO .add Za k 1=k+1:=bz (by have:=w6.l;omega));(try simp only[z6]at*);(try have z7:bO .add Za m 1=m+1:=bz (by have:=w7.2;omega));(try simp only[z7]at*);(try have w1:=ahV (by assumption));(try have w4:=ahZ m2 j0 (by assumption) k0 (by assumption) m0 (by omega) hcl hol);(try have w5:=ah1 q2 (by omega) hcl hol hql);(try have w9:=ah3 f2 (by omega) hcl hol hql hfl);(try have wa:=afB t2 hcl hol hql hfl);(try have wb:=afC N t2);(try have z8:bO .add Za t 1=t+1:=bz (by omega));(try simp only[z8]at*))
 all_goals first
  | (show(_:List DV)=_
     first
      |(refine ai ?_;symm;exact aaX j0 (by assumption) (adD k0 (by assumption) m0 (by assumption) (by assumption)))
      |(refine ai ?_;symm;exact aaY q0 (by assumption) (by assumption))
      |(refine ai ?_;symm;exact aaZ f0 (by assumption) (by assumption))
      |(refine ai ?_;symm;exact ah5 t2 t0 (by assumption) (by assumption))
      |(refine ai ?_;rw[cmp_eq];exact ab4 t2 (by omega))
      |done)
  |omega
  |exact gj
  |(show aP _ _=true;kernel_rfl)
  |exact⟨hsw,hlw,hsl,hll⟩
  |exact N.m
  |exact⟨N,hlay,AD (fs:=[tI]) w8 rfl (by omega)⟩
  |exact⟨N,hlay,AD hqw rfl (by omega)⟩
  |exact⟨N,hlay,AD hfr rfl (by omega)⟩
  |exact wb _
  |exact Da hfr f0 (by assumption)
  |exact Da (by have q:=wb o5.length;rwa [List.take_length]at q) t0 (by assumption)
  |(constructor<;>(simp only[Zn,Zr];omega))
  |exact afy m2 m0 (by assumption)
  |exact afx m2 k0 m1 (by omega)
  |exact afw k2 j0 k1 (by omega)
  |exact ahY k2
  |exact ahX j2
  |exact ahW i2 i1 (by omega)
  |exact afv i2 i0
  |exact ahU
  |exact ah0 j2 j1 (by omega)
  |exact afz q2 q0 (by assumption)
  |exact ah2 q2 q1 (by omega)
  |exact afA f2 f0 (by assumption)
  |exact ah4 f2 f1 (by omega)
  |exact afD t2 t0 (by assumption) (by assumption)
  |exact⟨Zh,Zh⟩
  |done
abbrev Pa0:da:=ez (fun F f=>match f with|82=>bU F|_=>fun _=>none) (by
 intro f;dsimp only;split;exact fm;exact de)
def j7:EC:=fun F=>fun
 |[.agg [.s 1 a0,.s 1 a1,.s 2 a2,.v (.int Za a3),.s 1 a4],.one (.v (.int Za p))]=>some (fun _=>Rw [tI,tI] a2,[.k (F.mapB a2 p)])
 |_=>none
theorem si:ec 230 j7:=by
 intro _ _ _ h hp;dsimp only[j7,F0]at h;split at h<;>cases h
 rename_i a0 a1 a2 a3 a4 p;refine cb Pa0 Tryz.func230 ?_
 intro O r F hO hr hF;cbv
 repeat' first|apply Zb|(apply bF<;>intro hb<;>cbv)
 all_goals(subst hO hr hF;(try simp only[nc]at*);(try simp only[ah,SS,sa,az]at*))
 all_goals first|(show(_:List DV)=_;refine ai ?_;unfold mapB;rw[D6];done)|exact hp|done
abbrev Pa1:da:=ez (fun F f=>match f with|229=>di F|230=>j7 F|231=>eQ F|82=>bU F|232=>eO F|_=>fun _=>none) (by
 intro f;dsimp only;split;exact td;exact si;exact wX;exact fm;exact wV;exact de)
def mq:EC:=fun F=>fun
 |[.agg hl_]=>hL hl_ fun a0 a1 a2 a3 a4 a5 a6 a7 a8 a9 aA aB aC aD aE aF aG aH aI aJ aK aL aM aN=>(fun _=>OV a6 a7 a8 a9 aA aB aD/\layOk a6 a7=true/\Rw [tI,tI] a2/\a2.length<=1099511627776/\Rw [tI,tI] a5/\a5.length<=1099511627776,[.k (F.pgI a2 a5 a6 a7)])
 |_=>none
theorem zh:ec 127 mq:=by
 intro _ _ _ h hp;dsimp only[mq,F0,hL]at h;split at h;rotate_left;cases h;split at h<;>cases h
 rename_i a0 a1 a2 a3 a4 a5 a6 a7 a8 a9 aA aB aC aD aE aF aG aH aI aJ aK aL aM aN;obtain⟨N,hlay,hew,hel,hfw,hfl⟩:=hp;have hsw:=N.sw;have hlw:=N.lw;have hsl:=N.sl;have hll:=N.ll;have F:=MW hlay;have lgF:∀ j:Int,0<=j->j<a7.length->0<=ab a7 j 0/\1<=ab a7 j 1/\ab a7 j 0+ab a7 j 1<=32:=fun j h0 h1=>by
  have t:=kn (F.l j.toNat (by omega));rw[Zt h0]at t;have b:=lL t.1;omega
 refine cb Pa1 Tryz.func127 ?_
 intro O r F hO hr hF;cbv
 repeat' first|apply Zb|(apply bF<;>intro hb<;>cbv)|(refine⟨[1,18,19,20],[1],Int,fun i=>[.reg 20 (.j i)],fun i=>0<=i/\i<=(a6.length:Int)/\upto (yN a6) i,fun i=>a6.length-i.toNat,⟨0,?_,?_⟩,?_⟩;rotate_left;(focus (cbv;done));intro i hi;replace hi:0<=i/\i<=(a6.length:Int)/\upto (yN a6) i:=hi;obtain⟨i0,i1,i2⟩:=hi;cbv)|(refine⟨[1,5,42,43,44],[1,40],Int×aa,fun s_=>match s_ with|(q,m)=>[.reg 44 (.j q),.leaf 40 0 ⟨0,0,none,.own (.m true m)⟩],fun s_=>match s_ with|(q,m)=>0<=q/\q<=(a6.length:Int)/\yT m (oG a6 q.toNat),fun s_=>match s_ with|(q,m)=>a6.length-q.toNat,⟨(0,[]),?_,?_⟩,?_⟩;rotate_left;(focus (cbv;done));intro s_ hq;obtain⟨q,m⟩:=s_;replace hq:0<=q/\q<=(a6.length:Int)/\yT m (oG a6 q.toNat):=hq;obtain⟨q0,q1,q2⟩:=hq;cbv)|(refine⟨[1,5,53,54,55],[1,40],Int×aa,fun s_=>match s_ with|(j,m1)=>[.reg 55 (.j j),.leaf 40 0 ⟨0,0,none,.own (.m true m1)⟩],fun s_=>match s_ with|(j,m1)=>0<=j/\j<=(a7.length:Int)/\PlP a2 a6 a7 j m1,fun s_=>match s_ with|(j,m1)=>a7.length-j.toNat,⟨(0,m),?_,?_⟩,?_⟩;rotate_left;(focus (cbv;done));intro s_ hj;obtain⟨j,m1⟩:=s_;replace hj:0<=j/\j<=(a7.length:Int)/\PlP a2 a6 a7 j m1:=hj;obtain⟨j0,j1,j2⟩:=hj;cbv)|(refine⟨[1,5,9,10,53,54,55],[1,40,9],Int×aa,fun s_=>match s_ with|(p,m2)=>[.reg 10 (.j p),.leaf 40 0 ⟨0,0,none,.own (.m true m2)⟩],fun s_=>match s_ with|(p,m2)=>ab a7 j 0<=p/\p<=ab a7 j 0+ab a7 j 1/\PkP a2 a6 a7 j (p-ab a7 j 0) m2,fun s_=>match s_ with|(p,m2)=>(ab a7 j 0+ab a7 j 1-p).toNat,⟨(O.gi a7 j 0,m1),?_,?_⟩,?_⟩;rotate_left;(focus (cbv;done));intro s_ hp;obtain⟨p,m2⟩:=s_;replace hp:ab a7 j 0<=p/\p<=ab a7 j 0+ab a7 j 1/\PkP a2 a6 a7 j (p-ab a7 j 0) m2:=hp;obtain⟨p0,p1,p2⟩:=hp;cbv)|(refine⟨[1,5,98,99],[1,40],Int,fun e=>[.reg 99 (.j e)],fun e=>0<=e/\e<=(a2.length:Int)/\upto (Cn a2 a5 a6 a7) e,fun e=>a2.length-e.toNat,⟨0,?_,?_⟩,?_⟩;rotate_left;(focus (cbv;done));intro e he;replace he:0<=e/\e<=(a2.length:Int)/\upto (Cn a2 a5 a6 a7) e:=he;obtain⟨e0,e1,e2⟩:=he;cbv)|(refine⟨[1,122],[1],List Int,fun vs=>[.reg 122 (.one (.it m1 vs))],fun vs=>True/\∀ k∈vs,k<(a2.length:Int),fun vs=>m1.length-vs.length,⟨[],?_,?_⟩,?_⟩;rotate_left;(focus (cbv;done));intro vs yd;replace yd:True/\∀ k∈vs,k<(a2.length:Int):=yd;obtain⟨vs0,vs1⟩:=yd;cbv)|(refine⟨[1,136,137,138],[1],Int,fun u=>[.reg 138 (.j u)],fun u=>0<=u/\u<=(a6.length:Int)/\upto (M2 a2 a6) u,fun u=>a6.length-u.toNat,⟨0,?_,?_⟩,?_⟩;rotate_left;(focus (cbv;done));intro u hu;replace hu:0<=u/\u<=(a6.length:Int)/\upto (M2 a2 a6) u:=hu;obtain⟨u0,u1,u2⟩:=hu;cbv)|(refine⟨[1,14,136,137,138,146,147,148],[1,14],Int,fun v=>[.reg 148 (.j v)],fun v=>0<=v/\v<=u/\upto (KH a2 a6 u) v,fun v=>(u-v).toNat,⟨0,?_,?_⟩,?_⟩;rotate_left;(focus (cbv;done));intro v hv;replace hv:0<=v/\v<=u/\upto (KH a2 a6 u) v:=hv;obtain⟨v0,v1,v2⟩:=hv;cbv)|(refine ag (O.ar .add Za p 1,O.mu m2 p (.v (.bool true))) ?_ ?_ ?_;focus (cbv;done))|(refine ag (O.ar .add Za j 1,m2) ?_ ?_ ?_;focus (cbv;done))|(refine ag (O.ar .add Za q 1,O.mu m (O.gi a6 q 0) (.v (.bool true))) ?_ ?_ ?_;focus (cbv;done))|(refine ag (O.ar .add Za v 1) ?_ ?_ ?_;focus (cbv;done))|(refine ag (O.ar .add Za u 1) ?_ ?_ ?_;focus (cbv;done))|(refine ag (O.ar .add Za e 1) ?_ ?_ ?_;focus (cbv;done))|(refine ag (O.ar .add Za i 1) ?_ ?_ ?_;focus (cbv;done))|(refine ag (kk::vs) ?_ ?_ ?_;focus (cbv;done))|((intro(kk:Int) (hkk:O.pr _);cbv))|((intro(hkk:O.pr _);cbv))
 all_goals(subst hO hr hF;(try simp only[nc]at*);(try simp only[ah,SS,sa,az]at*);(try rw[db (by omega) (by omega)]);(try have zi:=Cr i0 (by omega));(try simp only[zi]at*);(try have zj:=Cr j0 (by omega));(try simp only[zj]at*);(try have lf:=lgF j j0 (by assumption));(try have zl:bO .add Za (ab a7 j 0) (ab a7 j 1)=ab a7 j 0+ab a7 j 1:=bz (by omega));(try simp only[zl]at*);(try have zp:bO .add Za p 1=p+1:=bz (by omega));(try simp only[zp]at*);(try have zv:bO .add Za v 1=v+1:=bz (by omega));(try simp only[zv]at*);(try simp only[aeJ (abO j2 j1 (by assumption))]at*);(try simp only[Bh]at*);(try have tl:(List.take u.toNat a6).length=u.toNat:=by(rw[Zk];omega));(try have hwt:=Rw.take hsw u.toNat);(try simp only[yD (es:=a6) (n:=u.toNat) (i:=v) (by omega)]at*))
 all_goals first
  | (show(_:List DV)=_
     first
      |(refine ai ?_;symm;exact aeO i0 (by assumption) (Kb (by assumption) (by assumption)))
      |(refine ai ?_;symm;exact SN j0 (by assumption) (Sf (Kb (by assumption) (by assumption))))
      |(refine ai ?_;symm;exact SN j0 (by assumption) (aeS p0 (by assumption) (by omega)))
      |(refine ai ?_;symm;exact SO e0 (by assumption) (Rx (by assumption)))
      |(refine ai ?_;symm;exact SO e0 (by assumption) (Ry (by assumption)))
      |(refine ai ?_;symm;exact aeP (aeC (((abO j2 j1 (by assumption)).k _).1 hkk.1) (by assumption)))
      |(refine ai ?_;symm;exact aeQ u0 (by assumption) (ahx v0 (by omega) (by assumption) (by assumption)))
      |(refine ai ?_;symm;exact ahD i2 (by omega) j2.ok (by omega) e2 (by omega) (ahB (abO j2 j1 (by assumption)) vs1 hkk) u2 (by omega))
      |done)
  |omega
  |exact gj
  |(show aP _ _=true;kernel_rfl)
  |exact⟨hew,hel⟩
  |exact⟨hfw,hfl⟩
  |exact bK
  |exact aZ i2 (Kc (by omega))
  |exact aZ i2 (Kd (by assumption))
  |(rw[rl q0];exact Nq q2)
  |exact aeI
  |exact ahE q2 q1 (by omega)
  |exact aeR j2 (Kc (by omega))
  |exact aeR j2 (Kd (by assumption))
  |exact aeT p2 p0 (by omega)
  |exact aeU p2 j0 (by omega) p1 (by omega)
  |exact aZ e2 (acQ (by assumption) (by assumption))
  |exact af1 vs1 (by assumption)
  |exact fun k hk=>by cases hk
  |(have q:=hkk.2;simp only[Zn];omega)
  |exact aZ v2 (aeh (by assumption))
  |exact aZ v2 (aei (by assumption))
  |exact aZ u2 (ahy v2 (by omega) u0)
  |done
abbrev Pa2:da:=ez (fun F f=>match f with|262=>di F|260=>ga F|263=>eQ F|_=>fun _=>none) (by
 intro f;dsimp only;split;exact ny;exact j5;exact x8;exact de)
def lz:EC:=fun F=>fun
 |[.agg hl_]=>hL hl_ fun a0 a1 a2 a3 a4 a5 a6 a7 a8 a9 aA aB aC aD aE aF aG aH aI aJ aK aL aM aN=>(fun _=>OV a6 a7 a8 a9 aA aB aD/\layOk a6 a7=true/\Rw [tI,tI] a2/\a2.length<=1099511627776/\Rw [tI,tI] a5/\a5.length<=1099511627776,[.k (F.pgS a2 a5 a6 a7)])
 |_=>none
theorem ya:ec 167 lz:=by
 intro _ _ _ h hp;dsimp only[lz,F0,hL]at h;split at h;rotate_left;cases h;split at h<;>cases h
 rename_i a0 a1 a2 a3 a4 a5 a6 a7 a8 a9 aA aB aC aD aE aF aG aH aI aJ aK aL aM aN;obtain⟨N,hlay,hew,hel,hfw,hfl⟩:=hp;have hsw:=N.sw;have hlw:=N.lw;have hsl:=N.sl;have hll:=N.ll;have F:=MW hlay;have lgF:∀ j:Int,0<=j->j<a7.length->0<=ab a7 j 0/\1<=ab a7 j 1/\ab a7 j 0+ab a7 j 1<=32:=fun j h0 h1=>by
  have t:=kn (F.l j.toNat (by omega));rw[Zt h0]at t;have b:=lL t.1;omega
 refine cb Pa2 Tryz.func167 ?_
 intro O r F hO hr hF;cbv
 repeat' first|apply Zb|(apply bF<;>intro hb<;>cbv)|(refine⟨[1,3,4,5,6],[1,3,5],Int×aa,fun s_=>match s_ with|(i,o)=>[.reg 6 (.j i),.reg 5 (.one (.vw 5 0 0 0 (O.ln o))),.leaf 5 0 ⟨0,0,none,.own (.s 1 o)⟩],fun s_=>match s_ with|(i,o)=>0<=i/\i<=(a6.length:Int)/\TZ a6 i o,fun s_=>match s_ with|(i,o)=>a6.length-i.toNat,⟨(0,[]),?_,?_⟩,?_⟩;rotate_left;(focus (cbv;done));intro s_ hi;obtain⟨i,o⟩:=s_;replace hi:0<=i/\i<=(a6.length:Int)/\TZ a6 i o:=hi;obtain⟨i0,i1,i2⟩:=hi;cbv)|(refine⟨[1,3,4,5,7],[1,3,5],Int×aa,fun s_=>match s_ with|(j,o1)=>[.reg 7 (.j j),.reg 5 (.one (.vw 5 0 0 0 (O.ln o1))),.leaf 5 0 ⟨0,0,none,.own (.s 1 o1)⟩],fun s_=>match s_ with|(j,o1)=>0<=j/\j<=(a7.length:Int)/\Oz a2 a6 a7 j o1,fun s_=>match s_ with|(j,o1)=>a7.length-j.toNat,⟨(0,o),?_,?_⟩,?_⟩;rotate_left;(focus (cbv;done));intro s_ hj;obtain⟨j,o1⟩:=s_;replace hj:0<=j/\j<=(a7.length:Int)/\Oz a2 a6 a7 j o1:=hj;obtain⟨j0,j1,j2⟩:=hj;cbv)|(refine⟨[1,3,4,5,7,8],[1,3,5],Int×aa,fun s_=>match s_ with|(k,o2)=>[.reg 8 (.j k),.reg 5 (.one (.vw 5 0 0 0 (O.ln o2))),.leaf 5 0 ⟨0,0,none,.own (.s 1 o2)⟩],fun s_=>match s_ with|(k,o2)=>0<=k/\k<=ab a7 j 1/\TY a2 a6 a7 j k o2,fun s_=>match s_ with|(k,o2)=>(ab a7 j 1-k).toNat,⟨(0,o1),?_,?_⟩,?_⟩;rotate_left;(focus (cbv;done));intro s_ hk;obtain⟨k,o2⟩:=s_;replace hk:0<=k/\k<=ab a7 j 1/\TY a2 a6 a7 j k o2:=hk;obtain⟨k0,k1,k2⟩:=hk;cbv)|(refine⟨[1,3,4,5,10],[1,3,5],Int,fun t=>[.reg 10 (.j t)],fun t=>0<=t/\t<=(o1.length:Int)/\upto (fun t=>decide (ab o1 t 0<a2.length)) t,fun t=>o1.length-t.toNat,⟨0,?_,?_⟩,?_⟩;rotate_left;(focus (cbv;done));intro t ht;replace ht:0<=t/\t<=(o1.length:Int)/\upto (fun t=>decide (ab o1 t 0<a2.length)) t:=ht;obtain⟨t0,t1,t2⟩:=ht;cbv)|(refine⟨[1,3,4,5,11],[1,3,5],Int,fun e=>[.reg 11 (.j e)],fun e=>0<=e/\e<=(a2.length:Int)/\upto (Cn a2 a5 a6 a7) e,fun e=>a2.length-e.toNat,⟨0,?_,?_⟩,?_⟩;rotate_left;(focus (cbv;done));intro e he;replace he:0<=e/\e<=(a2.length:Int)/\upto (Cn a2 a5 a6 a7) e:=he;obtain⟨e0,e1,e2⟩:=he;cbv)|(refine ag (O.ar .add Za k 1,O.cat o2 (O.sub [[.i (O.ar .add Za (O.gi a7 j 0) k)]] 0 (O.ln [[.i (O.ar .add Za (O.gi a7 j 0) k)]]))) ?_ ?_ ?_;focus (cbv;done))|(refine ag (O.ar .add Za j 1,o2) ?_ ?_ ?_;focus (cbv;done))|(refine ag (O.ar .add Za e 1) ?_ ?_ ?_;focus (cbv;done))|(refine ag (O.ar .add Za t 1) ?_ ?_ ?_;focus (cbv;done))|(refine ag (O.ar .add Za i 1,O.cat o (O.sub [[.i (O.gi a6 i 0)]] 0 (O.ln [[.i (O.gi a6 i 0)]]))) ?_ ?_ ?_;focus (cbv;done))
 all_goals(subst hO hr hF;(try simp only[nc]at*);(try simp only[ah,SS,sa,az]at*);(try rw[db (by omega) (by omega)]);(try have zi:=Cr i0 (by omega));(try simp only[zi]at*);(try have zj:=Cr j0 (by omega));(try simp only[zj]at*);(try have lf:=lgF j j0 (by assumption));(try have z6:bO .add Za k 1=k+1:=bz (by omega));(try simp only[z6]at*);(try have z5:bO .add Za (ab a7 j 0) k=ab a7 j 0+k:=bz (by omega));(try simp only[z5]at*);(try have w1:=ahO (by assumption));(try have w2:=ahI k2 (by omega));(try have w3:=afb hlay j2 j1 (by assumption) hsl hll);(try simp only[vK t0]at*);(try have w4:=w3.1);(try unfold maxLen at w4);(try have z7:bO .add Za t 1=t+1:=bz (by omega));(try simp only[z7]at*);(try simp only[ahL j2 j1 (by assumption)]at*);(try simp only[ael e0 (by assumption)]at*))
 all_goals first
  | (show(_:List DV)=_
     first
      |(refine ai ?_;symm;exact aeW i0 (by assumption) (Kb (by assumption) (by assumption)))
      |(refine ai ?_;symm;exact SP j0 (by assumption) (Sf (Kb (by assumption) (by assumption))))
      |(refine ai ?_;symm;exact SP j0 (by assumption) (Sg k0 (by assumption) (by omega)))
      |(refine ai ?_;symm;exact aeX (ahK j2 j1 (by assumption) t0 (by assumption) (by assumption)))
      |(refine ai ?_;symm;exact SQ e0 (by assumption) (Rx (by assumption)))
      |(refine ai ?_;symm;exact SQ e0 (by assumption) (aay (by assumption) (by assumption)))
      |(refine ai ?_;symm;exact ahF i2.ok (by omega) j2.ok (by omega) e2 (by omega) (ahM j2 j1 (by assumption) t2 (by omega)))
      |done)
  |omega
  |exact gj
  |(show aP _ _=true;kernel_rfl)
  |exact⟨hew,hel⟩
  |exact⟨hfw,hfl⟩
  |exact Da w3 t0 (by assumption)
  |(constructor<;>(simp only[Zn,Zr];omega))
  |exact Tc i2 i0 (Kc (by omega))
  |exact Tc i2 i0 (Kd (by assumption))
  |exact ahN
  |exact ahJ i2 i1 (by omega)
  |exact ae9 j2 (Kc (by omega))
  |exact ae9 j2 (Kd (by assumption))
  |exact afa k2 k0 (by omega)
  |exact afc k2 j0 (by omega) (by omega) k1 (by omega)
  |exact bK
  |exact aZ t2 (VT (by assumption))
  |exact aZ e2 (acR (by assumption) (by assumption))
  |exact⟨Zh,Zh⟩
  |done
abbrev Pa3:da:=ez (fun F f=>match f with|262=>di F|176=>dI F|264=>eO F|_=>fun _=>none) (by
 intro f;dsimp only;split;exact ny;exact j4;exact x6;exact de)
def jR:EC:=fun F=>fun
 |[.agg hl_]=>hL hl_ fun a0 a1 a2 a3 a4 a5 a6 a7 a8 a9 aA aB aC aD aE aF aG aH aI aJ aK aL aM aN=>(fun _=>OV a6 a7 a8 a9 aA aB aD/\Rw [tI,tI] a2/\a2.length<=1099511627776,[.k (F.smS a2 a6)])
 |_=>none
theorem vt:ec 168 jR:=by
 intro _ _ _ h hp;dsimp only[jR,F0,hL]at h;split at h;rotate_left;cases h;split at h<;>cases h
 rename_i a0 a1 a2 a3 a4 a5 a6 a7 a8 a9 aA aB aC aD aE aF aG aH aI aJ aK aL aM aN;obtain⟨N,hew,hel⟩:=hp;have hsw:=N.sw;have hsl:=N.sl;have fr:=fun p=>aaL (es:=a2) (p:=p) hel
 refine cb Pa3 Tryz.func168 ?_
 intro O r F hO hr hF;cbv
 repeat' first|apply Zb|(apply bF<;>intro hb<;>cbv)|(refine⟨[1,3],[1],Int,fun i=>[.reg 3 (.j i)],fun i=>0<=i/\i<=(a6.length:Int)/\upto (msA a2 a6) i,fun i=>a6.length-i.toNat,⟨0,?_,?_⟩,?_⟩;rotate_left;(focus (cbv;done));intro i hi;replace hi:0<=i/\i<=(a6.length:Int)/\upto (msA a2 a6) i:=hi;obtain⟨i0,i1,i2⟩:=hi;cbv)|(refine⟨[1,3,4,5],[1,4],Int,fun k=>[.reg 5 (.j k)],fun k=>0<=k/\k<=((fpg a2 (ab a6 i 0)).length:Int)/\upto (MX a2 a6 i) k,fun k=>(fpg a2 (ab a6 i 0)).length-k.toNat,⟨0,?_,?_⟩,?_⟩;rotate_left;(focus (cbv;done));intro k hk;replace hk:0<=k/\k<=((fpg a2 (ab a6 i 0)).length:Int)/\upto (MX a2 a6 i) k:=hk;obtain⟨k0,k1,k2⟩:=hk;cbv)|(refine ag (O.ar .add Za k 1) ?_ ?_ ?_;focus (cbv;done))|(refine ag (O.ar .add Za i 1) ?_ ?_ ?_;focus (cbv;done))
 all_goals(subst hO hr hF;(try simp only[nc]at*);(try simp only[ah,SS,sa,az]at*);(try rw[db (by omega) (by omega)]);(try simp only[vK k0]at*);(try have w1:=fr (ab a6 i 0));(try have w2:=w1.1);(try have w3:=w1.2);(try have z6:bO .add Za k 1=k+1:=bz (by omega));(try simp only[z6]at*);(try have w4:=fun h=>afP (sp:=a6) (p:=ab (fpg a2 (ab a6 i 0)) k 0) h))
 all_goals first
  | (show(_:List DV)=_
     first
      |(refine ai ?_;symm;exact bX (p:=msA a2 a6) i0 (by assumption) (aer k0 (by assumption) (by assumption) (by assumption)))
      |(refine ai ?_;symm;exact bX (p:=msA a2 a6) i0 (by assumption) (aes k0 (by assumption) (by assumption) (by assumption)))
      |(refine ai ?_;symm;exact bN i2 (by omega))
      |done)
  |omega
  |exact gj
  |(show aP _ _=true;kernel_rfl)
  |exact⟨hew,hel⟩
  |exact⟨hsw,by omega⟩
  |exact Da w2 k0 (by assumption)
  |exact bK
  |exact aZ k2 (aej (by assumption))
  |exact aZ k2 (aek (by assumption) (by assumption))
  |exact aZ i2 (bN k2 (by omega))
  |(have q:true=false:=(by assumption);cases q)
  |exact⟨Zh,Zh⟩
  |done
def om:EC:=fun F=>fun
 |[.agg [.v (.int Za k),.v (.int Za m),.s 1 cs,.v (.int Za ph),.v (.int Za nx)]]=>some (fun _=>True,[.k (F.jobZ k m cs ph nx)])
 |_=>none
theorem Ck:ec 174 om:=by
 intro _ _ _ h hp;dsimp only[om,F0]at h;split at h<;>cases h
 rename_i k m cs ph nx;refine cb nB Tryz.func174 ?_
 intro O r F hO hr hF;cbv
 repeat' first|apply Zb|(apply bF<;>intro hb<;>cbv)
 all_goals(subst hO hr hF;(try simp only[nc]at*);(try simp only[ah,SS,sa,az]at*))
 all_goals first|(show(_:List DV)=_;refine ai ?_;unfold jobZ;simp[*,cmp_eq];done)|(show(_:List DV)=_;refine ai ?_;unfold jobZ;rw[VT (p:=cs.length=0) (by omega),cmp_eq];simp[*];done)|(show(_:List DV)=_;refine ai ?_;unfold jobZ;rw[VU (p:=cs.length=0) (by omega)];simp;done)|done
abbrev Qa1:da:=ez (fun F f=>match f with|124=>dr F|125=>cP F|126=>cH F|127=>mq F|128=>cG F|129=>d6 F|130=>cN F|131=>fZ F|132=>jI F|133=>nR F|41=>aj F|134=>gO F|135=>dI F|_=>fun _=>none) (by
 intro f;dsimp only;split;exact pS;exact pU;exact kz;exact zh;exact jZ;exact sg;exact lU;exact BS;exact uZ;exact BU;exact bB;exact DL;exact BQ;exact de)
def fX:EC:=fun F=>fun
 |[.agg hl_]=>hL hl_ fun a0 a1 a2 a3 a4 a5 a6 a7 a8 a9 aA aB aC aD aE aF aG aH aI aJ aK aL aM aN=>(fun _=>HpN a0 a1 a2 a4 a5 a6 a7 a8 a9 aA aB aD aL,[.k (F.hpI a0 a1 a2 a3 a4 a5 a6 a7 a8 a9 aA aB aC aD aE aF aG aH aI aJ aK aL aM aN)])
 |_=>none
theorem BM:ec 40 fX:=by
 intro _ _ _ h hp;dsimp only[fX,F0,hL]at h;split at h;rotate_left;cases h;split at h<;>cases h
 rename_i a0 a1 a2 a3 a4 a5 a6 a7 a8 a9 aA aB aC aD aE aF aG aH aI aJ aK aL aM aN;have N:=hp.n;have hcc:=N.c;have hcw:=N.cw;have hel:=hp.el;have hfl:=hp.fl;have hsl:=N.sl;have hcl:=N.cl;have hlc:=au (es:=a9);refine cb Qa1 Tryz.func40 ?_
 intro O r F hO hr hF;cbv
 repeat' first|apply Zb|(apply bF<;>intro hb<;>cbv)|(refine⟨[1,57,58,59],[1],Int,fun i=>[.reg 59 (.j i)],fun i=>0<=i/\i<=((a9.length:Nat):Int)/\upto (Rj a9) i,fun i=>(a9.length)-i.toNat,⟨0,?_,?_⟩,?_⟩;rotate_left;(focus (cbv;done));intro i hi;replace hi:0<=i/\i<=((a9.length:Nat):Int)/\upto (Rj a9) i:=hi;obtain⟨i0,i1,i2⟩:=hi;cbv)|(refine ag (O.ar .add Za i 1) ?_ ?_ ?_;focus (cbv;done))
 all_goals(subst hO hr hF;(try simp only[nc]at*);(try simp only[ah,SS,sa,az]at*);(try rw[db (by omega) (by omega)]))
 all_goals first
  | (show(_:List DV)=_
     first
      |(refine ai ?_;symm;exact adh (by assumption))
      |(refine ai ?_;symm;exact ado (by assumption))
      |(refine ai ?_;symm;exact adi (by assumption))
      |(refine ai ?_;symm;exact aa2 (by assumption))
      |(refine ai ?_;symm;exact adk (by assumption))
      |(refine ai ?_;symm;exact R5 (by assumption))
      |(refine ai ?_;symm;exact adn (by assumption))
      |(refine ai ?_;symm;exact R4 i0 (by assumption) (by assumption))
      |(refine ai ?_;symm;exact aa1 (by assumption))
      |(refine ai ?_;symm;exact aa0 (by assumption))
      |(refine ai ?_;symm;exact adp (by assumption))
      |(refine ai ?_;symm;exact adr (by assumption))
      |(refine ai ?_;symm;exact ads (by assumption))
      |(refine ai ?_;symm;exact adt (by assumption))
      |(refine ai ?_;rw[Mk (by assumption) (by assumption) (by assumption) (by assumption) (by assumption) (VT (by omega)) (by assumption) (bN i2 (by omega)) (by assumption) (by assumption) (by assumption) (by assumption) (by assumption) (by assumption)];subst_vars;first|exact R8 (by assumption)|exact R9 (by assumption)|exact Sc (by assumption) (by assumption)|exact rfl|((try rw[cmp_eq]);unfold AO jobZ;simp[*];done))
      |done)
  |omega
  |exact gj
  |exact⟨hp.c,hp.u,hp.e,hp.r⟩
  |exact⟨by omega,by omega,hp.f,by omega⟩
  |exact⟨N.sw,N.lw,N.sl,N.ll⟩
  |exact⟨N,by assumption,hp.e,by omega,hp.f,by omega⟩
  |exact N.m
  |exact⟨N.qw,N.ql⟩
  |exact hcc.n i i0 (by assumption)
  |exact⟨N,by assumption⟩
  |exact⟨hp.j,by have:=hp.jl;omega⟩
  |exact⟨N.sw,by omega⟩
  |exact bK
  |exact aZ i2 (by assumption)
  |done
abbrev Qa2:da:=ez (fun F f=>match f with|164=>dr F|165=>cP F|166=>cH F|167=>lz F|168=>jR F|169=>cG F|170=>d6 F|171=>cN F|172=>fZ F|173=>mL F|28=>aj F|175=>gO F|176=>dI F|174=>om F|_=>fun _=>none) (by
 intro f;dsimp only;split;exact pY;exact kE;exact kD;exact ya;exact vt;exact j3;exact sk;exact md;exact Ae;exact Af;exact bE;exact DX;exact j4;exact Ck;exact de)
theorem Ch:ec 71 fX:=by
 intro _ _ _ h hp;dsimp only[fX,F0,hL]at h;split at h;rotate_left;cases h;split at h<;>cases h
 rename_i a0 a1 a2 a3 a4 a5 a6 a7 a8 a9 aA aB aC aD aE aF aG aH aI aJ aK aL aM aN;have N:=hp.n;have hcc:=N.c;have hcw:=N.cw;have hqw:=N.qw;have hql:=N.ql;have hel:=hp.el;have hfl:=hp.fl;have hsl:=N.sl;have hcl:=N.cl;have hlc:=au (es:=a9);refine cb Qa2 Tryz.func71 ?_
 intro O r F hO hr hF;cbv
 repeat' first|apply Zb|(apply bF<;>intro hb<;>cbv)|(refine⟨[1,3],[1],Int,fun q=>[.reg 3 (.j q)],fun q=>0<=q/\q<=(aD.length:Int)/\upto (sA aD aF) q,fun q=>aD.length-q.toNat,⟨0,?_,?_⟩,?_⟩;rotate_left;(focus (cbv;done));intro q hq;replace hq:0<=q/\q<=(aD.length:Int)/\upto (sA aD aF) q:=hq;obtain⟨q0,q1,q2⟩:=hq;cbv)|(refine⟨[1,4],[1],Int,fun i=>[.reg 4 (.j i)],fun i=>0<=i/\i<=(a9.length:Int)/\upto (Rj a9) i,fun i=>a9.length-i.toNat,⟨0,?_,?_⟩,?_⟩;rotate_left;(focus (cbv;done));intro i hi;replace hi:0<=i/\i<=(a9.length:Int)/\upto (Rj a9) i:=hi;obtain⟨i0,i1,i2⟩:=hi;cbv)|(refine ag (O.ar .add Za i 1) ?_ ?_ ?_;focus (cbv;done))|(refine ag (O.ar .add Za q 1) ?_ ?_ ?_;focus (cbv;done))
 all_goals(subst hO hr hF;(try simp only[nc]at*);(try simp only[ah,SS,sa,az]at*);(try rw[db (by omega) (by omega)]))
 all_goals first
  | (show(_:List DV)=_
     first
      |(refine ai ?_;symm;exact adh (by assumption))
      |(refine ai ?_;symm;exact ado (by assumption))
      |(refine ai ?_;symm;exact adi (by assumption))
      |(refine ai ?_;symm;exact adm (by assumption) (by assumption))
      |(refine ai ?_;symm;exact adl (by assumption) (by assumption))
      |(refine ai ?_;symm;exact adk (by assumption))
      |(refine ai ?_;symm;exact R5 (by assumption))
      |(refine ai ?_;symm;exact adn (by assumption))
      |(refine ai ?_;symm;exact adq q0 (by assumption) (by assumption) (by assumption))
      |(refine ai ?_;symm;exact R4 i0 (by assumption) (by assumption))
      |(refine ai ?_;symm;exact aa1 (by assumption))
      |(refine ai ?_;symm;exact adg (by assumption) (by assumption) (by assumption))
      |(refine ai ?_;symm;exact adp (by assumption))
      |(refine ai ?_;symm;exact adr (by assumption))
      |(refine ai ?_;symm;exact ads (by assumption))
      |(refine ai ?_;symm;exact adt (by assumption))
      |(refine ai ?_;rw[Mk (by assumption) (by assumption) (by assumption) (ahC (by assumption) (by assumption) (by assumption)) (by assumption) (VT (by omega)) (by assumption) (bN i2 (by omega)) (by assumption) (ahg (by assumption) (by assumption) (by assumption) (by omega) q2) (by assumption) (by assumption) (by assumption) (by assumption)];subst_vars;first|exact R8 (by assumption)|exact R9 (by assumption)|exact Sc (by assumption) (by assumption)|exact rfl|((try rw[cmp_eq]);unfold AO jobZ;simp[*];done))
      |done)
  |omega
  |exact gj
  |(show aP _ _=true;kernel_rfl)
  |exact⟨hp.c,hp.u,hp.e,hp.r⟩
  |exact⟨by omega,by omega,hp.f,by omega⟩
  |exact⟨N.sw,N.lw,N.sl,N.ll⟩
  |exact⟨N,by assumption,hp.e,by omega,hp.f,by omega⟩
  |exact⟨N,hp.e,by omega⟩
  |exact N.m
  |exact⟨N.qw,N.ql⟩
  |exact hcc.n i i0 (by assumption)
  |exact⟨N,by assumption⟩
  |exact⟨hp.j,by have:=hp.jl;omega⟩
  |exact⟨N.sw,by omega⟩
  |exact bK
  |exact aZ i2 (by assumption)
  |exact aZ q2 (ah6 (by assumption))
  |done
end Go.V