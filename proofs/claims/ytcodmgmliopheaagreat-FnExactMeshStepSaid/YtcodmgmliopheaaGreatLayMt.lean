/- Contracts. -/
import Derived.Test.YtcodmgmliopheaaGreatLayLt
set_option linter.all false
open Go
open And renaming intro->AT
open List renaming length_take->VK
open True renaming intro->VT
namespace Go.V
open Go Go.Proofs
set_option maxRecDepth 1000000
set_option maxHeartbeats 8000000
namespace Ma0
structure aQ where
 inR:Int->Int->Int->Bool
abbrev F0 :aQ:=⟨inR⟩
def ct (F:aQ):CT:=fun f ds=>match f,ds with
 |91,[.one (.v (.int .i64 x)),.one (.v (.int .i64 a)),.one (.v (.int .i64 b))]=>some (fun _=>True,[.k (F.inR x a b)])
 |89,[.one (.v (.int .i64 x)),.one (.v (.int .i64 a)),.one (.v (.int .i64 b))]=>some (fun _=>True,[.k (F.inR x a b)])
 |_,_=>none
theorem aj :aR (ct F0):=by
 intro f ds pre res h hp;unfold ct at h;split at h<;>cases h
 exact bc hp;exact be hp
abbrev B :cy:=tb aj
end Ma0
theorem td {n a l:Int}(hp:0<=n/\n<=1099511627776):aw 285 [.j n,.agg [.i a,.i l]] [.k (rngIn n a l)]:=by
 refine cb Ma0.B Tryz.func285 ?_
 exact Rk
theorem yB {n a l:Int}(hp:0<=n/\n<=1099511627776):aw 264 [.j n,.agg [.i a,.i l]] [.k (rngIn n a l)]:=by
 refine cb Ma0.B Tryz.func264 ?_
 exact Rk
namespace Ma1
structure aQ where
 inR:Int->Int->Int->Bool
 rngIn:Int->Int->Int->Bool
abbrev F0 :aQ:=⟨inR,rngIn⟩
def ct (F:aQ):CT:=fun f ds=>match f,ds with
 |91,[.one (.v (.int .i64 x)),.one (.v (.int .i64 a)),.one (.v (.int .i64 b))]=>some (fun _=>True,[.k (F.inR x a b)])
 |89,[.one (.v (.int .i64 x)),.one (.v (.int .i64 a)),.one (.v (.int .i64 b))]=>some (fun _=>True,[.k (F.inR x a b)])
 |285,[.one (.v (.int .i64 n)),.agg [.v (.int .i64 a),.v (.int .i64 l)]]=>some (fun _=>0<=n/\n<=1099511627776,[.k (F.rngIn n a l)])
 |264,[.one (.v (.int .i64 n)),.agg [.v (.int .i64 a),.v (.int .i64 l)]]=>some (fun _=>0<=n/\n<=1099511627776,[.k (F.rngIn n a l)])
 |_,_=>none
theorem aj :aR (ct F0):=by
 intro f ds pre res h hp;unfold ct at h;split at h<;>cases h
 exact bc hp;exact be hp;exact td hp;exact yB hp
abbrev B :cy:=tb aj
end Ma1
theorem qN {n:Int}{rs:aa}(hp:0<=n/\n<=1099511627776/\Rw [tI,tI] rs/\rs.length<=1099511627776):aw 167 [.j n,.one (.s 2 rs)] [.k (rgOk n rs)]:=by
 obtain⟨n0,n1,hw,hl⟩:=hp;refine cb Ma1.B Tryz.func167 ?_
 intro O r F hO hr hF;cbv
 repeat' first|apply AT|(apply bi<;>intro hb<;>cbv)|(refine⟨[0,1,7,8,9],[],Int,fun i=>[.reg 9 (.j i)],fun i=>0<=i/\i<=((rs.length:Nat):Int)/\upto (si n rs) i,fun i=>(rs.length)-i.toNat,⟨0,?_,?_⟩,?_⟩;rotate_left;(focus (cbv;done));intro i hi;replace hi:0<=i/\i<=((rs.length:Nat):Int)/\upto (si n rs) i:=hi;obtain⟨i0,i1,i2⟩:=hi;cbv)|(refine ab (O.ar .add .i64 i 1) ?_ ?_ ?_;focus (cbv;done))
 all_goals exact Q9
theorem rV {n:Int}{rs:aa}(hp:0<=n/\n<=1099511627776/\Rw [tI,tI] rs/\rs.length<=1099511627776):aw 135 [.j n,.one (.s 2 rs)] [.k (rgOk n rs)]:=by
 obtain⟨n0,n1,hw,hl⟩:=hp;refine cb Ma1.B Tryz.func135 ?_
 intro O r F hO hr hF;cbv
 repeat' first|apply AT|(apply bi<;>intro hb<;>cbv)|(refine⟨[0,1,5],[],Int,fun i=>[.reg 5 (.j i)],fun i=>0<=i/\i<=((rs.length:Nat):Int)/\upto (si n rs) i,fun i=>(rs.length)-i.toNat,⟨0,?_,?_⟩,?_⟩;rotate_left;(focus (cbv;done));intro i hi;replace hi:0<=i/\i<=((rs.length:Nat):Int)/\upto (si n rs) i:=hi;obtain⟨i0,i1,i2⟩:=hi;cbv)|(refine ab (O.ar .add .i64 i 1) ?_ ?_ ?_;focus (cbv;done))
 all_goals exact Q9
theorem mR {a l p:Int}(hp:True):aw 383 [.agg [.i a,.i l],.ptr [.i p]] [.k (rh1 a l p)]:=by
 refine cb nB Tryz.func383 ?_
 intro O r F hO hr hF;cbv
 repeat' first|apply AT|(apply bi<;>intro hb<;>cbv)
 all_goals(subst hO hr hF;(try simp only[nc]at*);(try simp only[ah,SS,sa,az]at*))
 all_goals first|(show(_:List DV)=_;refine ai ?_;unfold rh1;rw[decide_eq_true hb];rfl)|(show(_:List DV)=_;refine ai ?_;unfold rh1;rw[decide_eq_false (by omega)];rfl)|done
namespace Ma3
structure aQ where
 rh1:Int->Int->Int->Bool
abbrev F0 :aQ:=⟨rh1⟩
def ct (F:aQ):CT:=fun f ds=>match f,ds with
 |383,[.agg [.v (.int .i64 a),.v (.int .i64 l)],.ptr [.v (.int .i64 p)]]=>some (fun _=>True,[.k (F.rh1 a l p)])
 |_,_=>none
theorem aj :aR (ct F0):=by
 intro f ds pre res h hp;unfold ct at h;split at h<;>cases h
 exact mR hp
abbrev B :cy:=tb aj
end Ma3
theorem bR {os:aa}{id:Int}(hp:Rw [tI,tI] os/\os.length<=1099511627776):aw 419 [.one (.s 2 os),.fn 383 [[.i id]]] [.j (rhI os id)]:=by
 obtain⟨hw,hn⟩:=hp;refine cb Ma3.B Tryz.func419 ?_
 intro O r F hO hr hF;cbv
 repeat' first|apply AT|(apply bi<;>intro hb<;>cbv)|(refine⟨[0,1,7,8],[0],Int,fun i=>[.reg 8 (.j i)],fun i=>0<=i/\i<=((os.length:Nat):Int)/\upto (cp (nS os id)) i,fun i=>(os.length)-i.toNat,⟨0,?_,?_⟩,?_⟩;rotate_left;(focus (cbv;done));intro i hi;replace hi:0<=i/\i<=((os.length:Nat):Int)/\upto (cp (nS os id)) i:=hi;obtain⟨i0,i1,i2⟩:=hi;cbv)|(refine ab (O.ar .add .i64 i 1) ?_ ?_ ?_;focus (cbv;done))
 all_goals(subst hO hr hF;(try simp only[nc]at*);(try simp only[ah,SS,sa,az]at*);(try rw[cE (by omega) (by omega)]))
 all_goals first
  | (show(_:List DV)=_
     first
      |exact cT (dD i2 i0 (by assumption) (show nS os id i=true from by assumption)).symm
      |exact cT (dE i2 (by assumption)).symm
      |done)
  |omega
  |exact fe
  |(show(lk _ _).isSome=true;kernel_rfl)
  |exact bu
  |exact aY i2 (jr (show nS os id i=false from by assumption))
  |done
namespace Ma4
structure aQ where
 rhI:aa->Int->Int
abbrev F0 :aQ:=⟨rhI⟩
def ct (F:aQ):CT:=fun f ds=>match f,ds with
 |419,[.one (.s 2 os),.fn 383 [[.v (.int .i64 id)]]]=>some (fun _=>Rw [tI,tI] os/\os.length<=1099511627776,[.j (F.rhI os id)])
 |_,_=>none
theorem aj :aR (ct F0):=by
 intro f ds pre res h hp;unfold ct at h;split at h<;>cases h
 exact bR hp
abbrev B :cy:=tb aj
end Ma4
theorem bN {os:aa}{id:Int}(hp:Rw [tI,tI] os/\os.length<=1099511627776):aw 382 [.one (.s 2 os),.fn 383 [[.i id]]] [.k (rhB os id)]:=by
 refine cb Ma4.B Tryz.func382 ?_
 intro O r F hO hr hF;cbv
 repeat' first|apply AT|(apply bi<;>intro hb<;>cbv)
 all_goals(subst hO hr hF;(try simp only[nc]at*);(try simp only[ah,SS,sa,az]at*))
 all_goals first
  | (show(_:List DV)=_
     first
      |exact ai (eA (by unfold rhB;simp only[SS,decide_eq_true_eq]))
      |done)
  |exact hp
  |done
namespace Ma5
structure aQ where
 rhB:aa->Int->Bool
abbrev F0 :aQ:=⟨rhB⟩
def ct (F:aQ):CT:=fun f ds=>match f,ds with
 |382,[.one (.s 2 os),.fn 383 [[.v (.int .i64 id)]]]=>some (fun _=>Rw [tI,tI] os/\os.length<=1099511627776,[.k (F.rhB os id)])
 |_,_=>none
theorem aj :aR (ct F0):=by
 intro f ds pre res h hp;unfold ct at h;split at h<;>cases h
 exact bN hp
abbrev B :cy:=tb aj
end Ma5
theorem qM {os:aa}{id:Int}(hp:Rw [tI,tI] os/\os.length<=1099511627776):aw 290 [.one (.s 2 os),.j id] [.k (rhB os id)]:=by
 refine cb Ma5.B Tryz.func290 ?_
 exact RB
theorem rU {os:aa}{id:Int}(hp:Rw [tI,tI] os/\os.length<=1099511627776):aw 269 [.one (.s 2 os),.j id] [.k (rhB os id)]:=by
 obtain⟨hw,hn⟩:=hp;refine cb nB Tryz.func269 ?_
 intro O r F hO hr hF;cbv
 repeat' first|apply AT|(apply bi<;>intro hb<;>cbv)|(refine⟨[0,1,5],[],Int,fun i=>[.reg 5 (.j i)],fun i=>0<=i/\i<=((os.length:Nat):Int)/\upto (cp (nS os id)) i,fun i=>(os.length)-i.toNat,⟨0,?_,?_⟩,?_⟩;rotate_left;(focus (cbv;done));intro i hi;replace hi:0<=i/\i<=((os.length:Nat):Int)/\upto (cp (nS os id)) i:=hi;obtain⟨i0,i1,i2⟩:=hi;cbv)|(refine ab (O.ar .add .i64 i 1) ?_ ?_ ?_;focus (cbv;done))
 all_goals(subst hO hr hF;(try simp only[nc]at*);(try simp only[ah,SS,sa,az]at*);(try rw[cE (by omega) (by omega)]))
 all_goals first
  | (show(_:List DV)=_
     first
      |(refine ai ?_;symm;exact M8 i2 i0 (by assumption) (by assumption) (by assumption))
      |(refine ai ?_;symm;exact QE i2 (by omega))
      |done)
  |omega
  |exact fe
  |(show aV _ _=true;kernel_rfl)
  |exact bu
  |exact aY i2 (QC (by omega))
  |exact aY i2 (QD (by omega))
  |done
namespace Ma6
structure aQ where
 spOk:Int->Int->Int->Bool
abbrev F0 :aQ:=⟨spOk⟩
def ct (F:aQ):CT:=fun f ds=>match f,ds with
 |287,[.agg [.v (.int .i64 p),.v (.int .i64 k),.v (.int .i64 b)]]=>some (fun _=>True,[.k (F.spOk p k b)])
 |265,[.agg [.v (.int .i64 p),.v (.int .i64 k),.v (.int .i64 b)]]=>some (fun _=>True,[.k (F.spOk p k b)])
 |_,_=>none
theorem aj :aR (ct F0):=by
 intro f ds pre res h hp;unfold ct at h;split at h<;>cases h
 exact hN hp;exact ia hp
abbrev B :cy:=tb aj
end Ma6
theorem qK {p1 k1 b1 p2 k2 b2:Int}(hp:True):aw 209 [.agg [.i p1,.i k1,.i b1],.agg [.i p2,.i k2,.i b2]] [.k (mshB p1 k1 b1 p2 k2 b2)]:=by
 refine cb Ma6.B Tryz.func209 ?_
 exact Rp
theorem rS {p1 k1 b1 p2 k2 b2:Int}(hp:True):aw 270 [.agg [.i p1,.i k1,.i b1],.agg [.i p2,.i k2,.i b2]] [.k (mshB p1 k1 b1 p2 k2 b2)]:=by
 refine cb Ma6.B Tryz.func270 ?_
 exact Rp
namespace Ma7
structure aQ where
 clsSz:Int->Int
abbrev F0 :aQ:=⟨clsSz⟩
def ct (F:aQ):CT:=fun f ds=>match f,ds with
 |114,[.one (.v (.int .i64 k))]=>some (fun _=>True,[.j (F.clsSz k)])
 |236,[.one (.v (.int .i64 k))]=>some (fun _=>True,[.j (F.clsSz k)])
 |_,_=>none
theorem aj :aR (ct F0):=by
 intro f ds pre res h hp;unfold ct at h;split at h<;>cases h
 exact dq hp;exact fj hp
abbrev B :cy:=tb aj
end Ma7
theorem o6 {qs:aa}(hp:Rw [tI,tI,tI] qs/\qs.length<=1073741824):aw 247 [.one (.s 3 qs)] [.j (qcI qs)]:=by
 obtain⟨hw,hl⟩:=hp;refine cb Ma7.B Tryz.func247 ?_
 intro O r F hO hr hF;cbv
 repeat' first|apply AT|(apply bi<;>intro hb<;>cbv)|(refine⟨[3,6,7,8],[],Int×Int,fun s_=>match s_ with|(i,t)=>[.reg 8 (.j i),.reg 3 (.j t)],fun s_=>match s_ with|(i,t)=>0<=i/\i<=(qs.length:Int)/\HG qs i t,fun s_=>match s_ with|(i,t)=>qs.length-i.toNat,⟨(0,0),?_,?_⟩,?_⟩;rotate_left;(focus (cbv;done));intro s_ hi;obtain⟨i,t⟩:=s_;replace hi:0<=i/\i<=(qs.length:Int)/\HG qs i t:=hi;obtain⟨i0,i1,i2⟩:=hi;cbv)|(refine ab (O.ar .add .i64 i 1,O.ar .add .i64 t (F.clsSz (O.gi qs i 1))) ?_ ?_ ?_;focus (cbv;done))
 all_goals exact Rj
theorem rY {qs:aa}(hp:Rw [tI,tI,tI] qs/\qs.length<=1073741824):aw 273 [.one (.s 3 qs)] [.j (qcI qs)]:=by
 obtain⟨hw,hl⟩:=hp;refine cb Ma7.B Tryz.func273 ?_
 intro O r F hO hr hF;cbv
 repeat' first|apply AT|(apply bi<;>intro hb<;>cbv)|(refine⟨[0,3,4],[],Int×Int,fun s_=>match s_ with|(i,t)=>[.reg 4 (.j i),.reg 3 (.j t)],fun s_=>match s_ with|(i,t)=>0<=i/\i<=(qs.length:Int)/\HG qs i t,fun s_=>match s_ with|(i,t)=>qs.length-i.toNat,⟨(0,0),?_,?_⟩,?_⟩;rotate_left;(focus (cbv;done));intro s_ hi;obtain⟨i,t⟩:=s_;replace hi:0<=i/\i<=(qs.length:Int)/\HG qs i t:=hi;obtain⟨i0,i1,i2⟩:=hi;cbv)|(refine ab (O.ar .add .i64 i 1,O.ar .add .i64 t (F.clsSz (O.gi qs i 1))) ?_ ?_ ?_;focus (cbv;done))
 all_goals exact Rj
namespace Ma8
structure aQ where
 inR:Int->Int->Int->Bool
 qtB:aa->Int->Bool
abbrev F0 :aQ:=⟨inR,qtB⟩
def ct (F:aQ):CT:=fun f ds=>match f,ds with
 |245,[.one (.v (.int .i64 k))]=>some (fun _=>True,[.k (F.inR k 0 3)])
 |344,[.one (.s 3 os),.one (.v (.int .i64 id))]=>some (fun _=>Rw [tI,tI,tI] os/\os.length<=1099511627776,[.k (F.qtB os id)])
 |89,[.one (.v (.int .i64 x)),.one (.v (.int .i64 a)),.one (.v (.int .i64 b))]=>some (fun _=>True,[.k (F.inR x a b)])
 |_,_=>none
theorem aj :aR (ct F0):=by
 intro f ds pre res h hp;unfold ct at h;split at h<;>cases h
 exact dO hp;exact jR hp;exact be hp
abbrev B :cy:=tb aj
end Ma8
theorem tg {b:aa}{a c s:Int}(hp:Rw [tI,tI,tI] b/\b.length<=1073741824):aw 246 [.one (.s 3 b),.agg [.i a,.i c,.i s]] [.k (stlOk b a c s)]:=by
 obtain⟨hw,hl⟩:=hp;have hs:bJ .sub .i64 (b.length:Int) 1=b.length-1:=cO (by omega);refine cb Ma8.B Tryz.func246 ?_
 intro O r F hO hr hF;cbv
 repeat' first|apply AT|(apply bi<;>intro hb<;>cbv)
 all_goals(subst hO hr hF;(try simp only[nc]at*);(try simp only[ah,SS,sa,az]at*);(try simp only[hs]at*))
 all_goals first|exact fe|(show aV _ _=true;kernel_rfl)|exact⟨hw,by omega⟩|(show(_:List DV)=_;refine ai ?_;unfold stlOk;simp[*,co];done)|(show(_:List DV)=_;refine ai ?_;unfold stlOk;rw[decide_eq_false (p:=0<=a) (by omega)];simp;done)|(show(_:List DV)=_;refine ai ?_;unfold stlOk;rw[decide_eq_false (p:=0<=s) (by omega)];simp;done)|(show(_:List DV)=_;refine ai ?_;unfold stlOk;rw[decide_eq_false (p:=b.length=0) (by omega)];simp[*,co];done)|(show(_:List DV)=_;refine ai ?_;unfold stlOk;simp_all;done)|done
theorem wW {a c s:Int}(hp:True):aw 271 [.agg [.i a,.i c,.i s]] [.k (staB a c s)]:=by
 refine cb Ma8.B Tryz.func271 ?_
 intro O r F hO hr hF;cbv
 repeat' first|apply AT|(apply bi<;>intro hb<;>cbv)
 all_goals(subst hO hr hF;(try simp only[nc]at*);(try simp only[ah,SS,sa,az]at*))
 all_goals first|(show(_:List DV)=_;refine ai ?_;unfold staB;simp[*,co];done)|(show(_:List DV)=_;refine ai ?_;unfold staB;rw[decide_eq_false (p:=0<=a) (by omega)];simp;done)|done
namespace Ma9
structure aQ where
 inR:Int->Int->Int->Bool
 stlOk:aa->Int->Int->Int->Bool
 qcI:aa->Int
 staB:Int->Int->Int->Bool
 qtB:aa->Int->Bool
abbrev F0 :aQ:=⟨inR,stlOk,qcI,staB,qtB⟩
def ct (F:aQ):CT:=fun f ds=>match f,ds with
 |91,[.one (.v (.int .i64 x)),.one (.v (.int .i64 a)),.one (.v (.int .i64 b))]=>some (fun _=>True,[.k (F.inR x a b)])
 |246,[.one (.s 3 b),.agg [.v (.int .i64 a),.v (.int .i64 c),.v (.int .i64 s)]]=>some (fun _=>Rw [tI,tI,tI] b/\b.length<=1073741824,[.k (F.stlOk b a c s)])
 |247,[.one (.s 3 qs)]=>some (fun _=>Rw [tI,tI,tI] qs/\qs.length<=1073741824,[.j (F.qcI qs)])
 |89,[.one (.v (.int .i64 x)),.one (.v (.int .i64 a)),.one (.v (.int .i64 b))]=>some (fun _=>True,[.k (F.inR x a b)])
 |271,[.agg [.v (.int .i64 a),.v (.int .i64 c),.v (.int .i64 s)]]=>some (fun _=>True,[.k (F.staB a c s)])
 |272,[.agg [.v (.int .i64 rm),.s 3 os],.one (.v (.int .i64 id))]=>some (fun _=>Rw [tI,tI,tI] os/\os.length<=1099511627776,[.k (F.qtB os id)])
 |273,[.one (.s 3 qs)]=>some (fun _=>Rw [tI,tI,tI] qs/\qs.length<=1073741824,[.j (F.qcI qs)])
 |_,_=>none
theorem aj :aR (ct F0):=by
 intro f ds pre res h hp;unfold ct at h;split at h<;>cases h
 exact bc hp;exact tg hp;exact o6 hp;exact be hp;exact wW hp;exact tW hp;exact rY hp
abbrev B :cy:=tb aj
end Ma9
theorem wm {rm:Int}{qs:aa}(hp:Rw [tI,tI,tI] qs/\qs.length<=1073741824):aw 171 [.agg [.i rm,.s 3 qs]] [.k (quarOk rm qs)]:=by
 obtain⟨hw,hl⟩:=hp;refine cb Ma9.B Tryz.func171 ?_
 intro O r F hO hr hF;cbv
 repeat' first|apply AT|(apply bi<;>intro hb<;>cbv)|(refine⟨[1,6,7,8],[1],Int,fun i=>[.reg 8 (.j i)],fun i=>0<=i/\i<=((qs.length:Nat):Int)/\upto (AW qs) i,fun i=>(qs.length)-i.toNat,⟨0,?_,?_⟩,?_⟩;rotate_left;(focus (cbv;done));intro i hi;replace hi:0<=i/\i<=((qs.length:Nat):Int)/\upto (AW qs) i:=hi;obtain⟨i0,i1,i2⟩:=hi;cbv)|(refine ab (O.ar .add .i64 i 1) ?_ ?_ ?_;focus (cbv;done))
 all_goals(subst hO hr hF;(try simp only[nc]at*);(try simp only[ah,SS,sa,az]at*);(try rw[cE (by omega) (by omega)]);(try simp only[vL]at*))
 all_goals first
  | (show(_:List DV)=_
     first
      |(refine ai ?_;symm;exact DR i0 (by assumption) (by assumption))
      |(refine ai ?_;rw[GQ i2 (by omega)];simp[*,co];done)
      |done)
  |omega
  |exact fe
  |(show aV _ _=true;kernel_rfl)
  |exact⟨hw,hl⟩
  |exact⟨Rw.take hw _,by rw[VK];omega⟩
  |exact bu
  |exact aY i2 (by assumption)
  |done
theorem wS {rm:Int}{qs:aa}(hp:Rw [tI,tI,tI] qs/\qs.length<=1073741824):aw 140 [.agg [.i rm,.s 3 qs]] [.k (quarOk rm qs)]:=by
 obtain⟨hw,hl⟩:=hp;refine cb Ma9.B Tryz.func140 ?_
 intro O r F hO hr hF;cbv
 repeat' first|apply AT|(apply bi<;>intro hb<;>cbv)|(refine⟨[1,3],[1],Int,fun i=>[.reg 3 (.j i)],fun i=>0<=i/\i<=((qs.length:Nat):Int)/\upto (AW qs) i,fun i=>(qs.length)-i.toNat,⟨0,?_,?_⟩,?_⟩;rotate_left;(focus (cbv;done));intro i hi;replace hi:0<=i/\i<=((qs.length:Nat):Int)/\upto (AW qs) i:=hi;obtain⟨i0,i1,i2⟩:=hi;cbv)|(refine ab (O.ar .add .i64 i 1) ?_ ?_ ?_;focus (cbv;done))
 all_goals(subst hO hr hF;(try simp only[nc]at*);(try simp only[ah,SS,sa,az]at*);(try rw[cE (by omega) (by omega)]);(try simp only[vL]at*);(try have z:=xf i0 (by omega));(try simp only[z]at*))
 all_goals first
  | (show(_:List DV)=_
     first
      |(refine ai ?_;symm;exact DR i0 (by assumption) (Qp (by assumption)))
      |(refine ai ?_;symm;exact DR i0 (by assumption) (Qq (by omega) (by assumption) (by assumption)))
      |(refine ai ?_;symm;exact DR i0 (by assumption) (Qr (by assumption)))
      |(refine ai ?_;rw[GQ i2 (by omega)];simp[*,co];done)
      |(have q:false=true:=(by assumption);cases q)
      |done)
  |omega
  |exact fe
  |(show aV _ _=true;kernel_rfl)
  |exact⟨hw,hl⟩
  |exact⟨Rw.take hw _,by rw[VK];omega⟩
  |exact bu
  |exact aY i2 (Qs (by assumption) (by assumption) i0 (by omega))
  |exact aY i2 (Qt (by assumption) (by assumption) (by omega) (by assumption) (by assumption))
  |done
theorem lR {c:Int}(hp:True):aw 316 [.j c] [.k (inR c 0 15)]:=by
 refine cb Ma0.B Tryz.func316 ?_
 exact RD
theorem wt {c:Int}(hp:True):aw 175 [.j c] [.k (inR c 0 1073741823)]:=by
 refine cb Ma0.B Tryz.func175 ?_
 exact RD
namespace Mb1
structure aQ where
 inR:Int->Int->Int->Bool
abbrev F0 :aQ:=⟨inR⟩
def ct (F:aQ):CT:=fun f ds=>match f,ds with
 |91,[.one (.v (.int .i64 x)),.one (.v (.int .i64 a)),.one (.v (.int .i64 b))]=>some (fun _=>True,[.k (F.inR x a b)])
 |316,[.one (.v (.int .i64 c))]=>some (fun _=>True,[.k (F.inR c 0 15)])
 |89,[.one (.v (.int .i64 x)),.one (.v (.int .i64 a)),.one (.v (.int .i64 b))]=>some (fun _=>True,[.k (F.inR x a b)])
 |_,_=>none
theorem aj :aR (ct F0):=by
 intro f ds pre res h hp;unfold ct at h;split at h<;>cases h
 exact bc hp;exact lR hp;exact be hp
abbrev B :cy:=tb aj
end Mb1
theorem wl {k m:Int}{cs:aa}(hp:Rw [tI] cs/\cs.length<=1099511627776):aw 211 [.agg [.i k,.i m,.s 1 cs]] [.k (plOk k m cs)]:=by
 obtain⟨hw,hl⟩:=hp;refine cb Mb1.B Tryz.func211 ?_
 intro O r F hO hr hF;cbv
 repeat' first|apply AT|(apply bi<;>intro hb<;>cbv)|(refine⟨[1,6,7,8],[1],Int,fun i=>[.reg 8 (.j i)],fun i=>0<=i/\i<=((cs.length:Nat):Int)/\upto (Ew cs) i,fun i=>(cs.length)-i.toNat,⟨0,?_,?_⟩,?_⟩;rotate_left;(focus (cbv;done));intro i hi;replace hi:0<=i/\i<=((cs.length:Nat):Int)/\upto (Ew cs) i:=hi;obtain⟨i0,i1,i2⟩:=hi;cbv)|(refine ab (O.ar .add .i64 i 1) ?_ ?_ ?_;focus (cbv;done))
 all_goals(subst hO hr hF;(try simp only[nc]at*);(try simp only[ah,SS,sa,az]at*);(try rw[cE (by omega) (by omega)]);(try have z:=xf i0 (by omega));(try simp only[z]at*))
 all_goals first
  | (show(_:List DV)=_
     first
      |(refine ai ?_;symm;exact GM i0 (by assumption) (by assumption))
      |(refine ai ?_;symm;exact GN i0 (by assumption) (by omega) (by assumption))
      |(refine ai ?_;rw[zo i2 (by omega)];simp[*,co];done)
      |(refine ai ?_;rw[zo i2 (by omega),yF];simp[*];done)
      |(have q:false=true:=(by assumption);cases q)
      |done)
  |omega
  |exact fe
  |exact bu
  |exact aY i2 (DJ (by assumption) (by omega))
  |exact aY i2 (DK (by assumption) (by assumption))
  |done
theorem wR {k m:Int}{cs:aa}(hp:Rw [tI] cs/\cs.length<=1099511627776):aw 278 [.agg [.i k,.i m,.s 1 cs]] [.k (plOk k m cs)]:=by
 obtain⟨hw,hl⟩:=hp;refine cb Mb1.B Tryz.func278 ?_
 intro O r F hO hr hF;cbv
 repeat' first|apply AT|(apply bi<;>intro hb<;>cbv)|(refine⟨[1,3],[1],Int,fun i=>[.reg 3 (.j i)],fun i=>0<=i/\i<=((cs.length:Nat):Int)/\upto (Ew cs) i,fun i=>(cs.length)-i.toNat,⟨0,?_,?_⟩,?_⟩;rotate_left;(focus (cbv;done));intro i hi;replace hi:0<=i/\i<=((cs.length:Nat):Int)/\upto (Ew cs) i:=hi;obtain⟨i0,i1,i2⟩:=hi;cbv)|(refine ab (O.ar .add .i64 i 1) ?_ ?_ ?_;focus (cbv;done))
 all_goals(subst hO hr hF;(try simp only[nc]at*);(try simp only[ah,SS,sa,az]at*);(try rw[cE (by omega) (by omega)]);(try have z:=xf i0 (by omega));(try simp only[z]at*))
 all_goals first
  | (show(_:List DV)=_
     first
      |(refine ai ?_;symm;exact GM i0 (by assumption) (by assumption))
      |(refine ai ?_;symm;exact GN i0 (by assumption) (by omega) (by assumption))
      |(refine ai ?_;rw[zo i2 (by omega)];simp[*,co];done)
      |(refine ai ?_;rw[zo i2 (by omega),yF];simp[*];done)
      |(have q:false=true:=(by assumption);cases q)
      |done)
  |omega
  |exact fe
  |(show aV _ _=true;kernel_rfl)
  |exact bu
  |exact aY i2 (DJ (by assumption) (by omega))
  |exact aY i2 (DK (by assumption) (by assumption))
  |done
namespace Mb2
structure aQ where
 plOk:Int->Int->aa->Bool
 inR:Int->Int->Int->Bool
abbrev F0 :aQ:=⟨plOk,inR⟩
def ct (F:aQ):CT:=fun f ds=>match f,ds with
 |211,[.agg [.v (.int .i64 k),.v (.int .i64 m),.s 1 cs]]=>some (fun _=>Rw [tI] cs/\cs.length<=1099511627776,[.k (F.plOk k m cs)])
 |91,[.one (.v (.int .i64 x)),.one (.v (.int .i64 a)),.one (.v (.int .i64 b))]=>some (fun _=>True,[.k (F.inR x a b)])
 |278,[.agg [.v (.int .i64 k),.v (.int .i64 m),.s 1 cs]]=>some (fun _=>Rw [tI] cs/\cs.length<=1099511627776,[.k (F.plOk k m cs)])
 |89,[.one (.v (.int .i64 x)),.one (.v (.int .i64 a)),.one (.v (.int .i64 b))]=>some (fun _=>True,[.k (F.inR x a b)])
 |_,_=>none
theorem aj :aR (ct F0):=by
 intro f ds pre res h hp;unfold ct at h;split at h<;>cases h
 exact wl hp;exact bc hp;exact wR hp;exact be hp
abbrev B :cy:=tb aj
end Mb2
theorem mP {k m:Int}{cs:aa}{ph nx:Int}(hp:Rw [tI] cs/\cs.length<=1099511627776):aw 176 [.agg [.i k,.i m,.s 1 cs,.i ph,.i nx]] [.k (jbOk k m cs ph nx)]:=by
 refine cb Mb2.B Tryz.func176 ?_
 exact Rz
theorem nC {k m:Int}{cs:aa}{ph nx:Int}(hp:Rw [tI] cs/\cs.length<=1099511627776):aw 145 [.agg [.i k,.i m,.s 1 cs,.i ph,.i nx]] [.k (jbOk k m cs ph nx)]:=by
 refine cb Mb2.B Tryz.func145 ?_
 exact Rz
namespace Mb3
structure aQ where
 inR:Int->Int->Int->Bool
 clsSz:Int->Int
 hasB:aa->Int->Bool
abbrev F0 :aQ:=⟨inR,clsSz,hasB⟩
def ct (F:aQ):CT:=fun f ds=>match f,ds with
 |245,[.one (.v (.int .i64 k))]=>some (fun _=>True,[.k (F.inR k 0 3)])
 |91,[.one (.v (.int .i64 x)),.one (.v (.int .i64 a)),.one (.v (.int .i64 b))]=>some (fun _=>True,[.k (F.inR x a b)])
 |114,[.one (.v (.int .i64 k))]=>some (fun _=>True,[.j (F.clsSz k)])
 |89,[.one (.v (.int .i64 x)),.one (.v (.int .i64 a)),.one (.v (.int .i64 b))]=>some (fun _=>True,[.k (F.inR x a b)])
 |236,[.one (.v (.int .i64 k))]=>some (fun _=>True,[.j (F.clsSz k)])
 |266,[.one (.s 1 l),.one (.v (.int .i64 x))]=>some (fun _=>Rw [tI] l,[.k (F.hasB l x)])
 |_,_=>none
theorem aj :aR (ct F0):=by
 intro f ds pre res h hp;unfold ct at h;split at h<;>cases h
 exact dO hp;exact bc hp;exact dq hp;exact be hp;exact fj hp;exact eB hp
abbrev B :cy:=tb aj
end Mb3
theorem tT {ls:aa}(hp:Jr ls):aw 141 [.agg [.s 1 ls]] [.k (caOk ls)]:=by
 have hw:=hp.w;have hl:=hp.l;have hn:=hp.n;refine cb Mb3.B Tryz.func141 ?_
 intro O r F hO hr hF;cbv
 repeat' first|apply AT|(apply bi<;>intro hb<;>cbv)|(refine⟨[1,3,4],[1,3],Int×aa,fun s_=>match s_ with|(i,o)=>[.reg 4 (.j i),.reg 3 (.one (.vw 3 0 0 0 (O.ln o))),.leaf 3 0 ⟨0,0,none,.own (.s 1 o)⟩],fun s_=>match s_ with|(i,o)=>0<=i/\i<=4/\N2 ls i o,fun s_=>match s_ with|(i,o)=>(4-i).toNat,⟨(0,[]),?_,?_⟩,?_⟩;rotate_left;(focus (cbv;done));intro s_ hi;obtain⟨i,o⟩:=s_;replace hi:0<=i/\i<=4/\N2 ls i o:=hi;obtain⟨i0,i1,i2⟩:=hi;cbv)|(refine⟨[1,3,4,5],[1,3],Int×aa,fun s_=>match s_ with|(k,o1)=>[.reg 5 (.j k),.reg 3 (.one (.vw 3 0 0 0 (O.ln o1))),.leaf 3 0 ⟨0,0,none,.own (.s 1 o1)⟩],fun s_=>match s_ with|(k,o1)=>0<=k/\k<=((aO ls i 0).length:Int)/\Jt ls i k o1,fun s_=>match s_ with|(k,o1)=>(aO ls i 0).length-k.toNat,⟨(0,o),?_,?_⟩,?_⟩;rotate_left;(focus (cbv;done));intro s_ hk;obtain⟨k,o1⟩:=s_;replace hk:0<=k/\k<=((aO ls i 0).length:Int)/\Jt ls i k o1:=hk;obtain⟨k0,k1,k2⟩:=hk;cbv)|(refine ab (O.ar .add .i64 k 1,O.cat o1 (O.sub [[.i (O.gi (O.gs ls i 0) k 0)]] 0 (O.ln [[.i (O.gi (O.gs ls i 0) k 0)]]))) ?_ ?_ ?_;focus (cbv;done))|(refine ab (O.ar .add .i64 i 1,o1) ?_ ?_ ?_;focus (cbv;done))
 all_goals(subst hO hr hF;(try simp only[nc]at*);(try simp only[ah,SS,sa,az]at*);(try rw[cE (by omega) (by omega)]);(try have z6:bJ .add .i64 k 1=k+1:=bB (by have:=hn i;omega));(try simp only[z6]at*);(try have w1:=Nc k2 k0);(try have w2:=hp.el i0 (by omega));(try have w3:=w2.1))
 all_goals first
  | (show(_:List DV)=_
     first
      |(refine ai ?_;symm;exact yC (by assumption))
      |(refine ai ?_;symm;exact E8 i0 (by omega) (by omega))
      |(refine ai ?_;symm;exact yD i0 (by omega) k0 (by assumption) (JC (by assumption)))
      |(refine ai ?_;symm;exact yD i0 (by omega) k0 (by assumption) (JD (by assumption)))
      |(refine ai ?_;symm;exact Nb k2 i0 k0 (by assumption) (by assumption))
      |(refine ai ?_;symm;exact E9 i2.p (by omega) (by omega))
      |done)
  |omega
  |exact fe
  |exact w1.2
  |(constructor<;>(simp only[List.length_cons,List.length_nil];omega))
  |(have c:=(gz (bH.2 (by omega:0<=i/\i<=3))).1;omega)
  |exact QS k2 k0 (by assumption) (by assumption) (by assumption)
  |exact QR k2 i0 k1 (by omega)
  |exact Uc i2 i0 (by omega) (by omega)
  |exact T8
  |exact⟨VT,VT⟩
  |done
theorem sY {ls:aa}(hp:Jr ls):aw 172 [.agg [.s 1 ls]] [.k (caOk ls)]:=by
 have hw:=hp.w;have hl:=hp.l;have hn:=hp.n;refine cb Mb3.B Tryz.func172 ?_
 intro O r F hO hr hF;cbv
 repeat' first|apply AT|(apply bi<;>intro hb<;>cbv)|(refine⟨[1,3,10,11,12],[1,8],Int×aa,fun s_=>match s_ with|(i,es)=>[.reg 12 (.j i),.leaf 8 0 ⟨0,0,none,.own (.m true es)⟩],fun s_=>match s_ with|(i,es)=>0<=i/\i<=(ls.length:Int)/\BD ls i es,fun s_=>match s_ with|(i,es)=>ls.length-i.toNat,⟨(0,[]),?_,?_⟩,?_⟩;rotate_left;(focus (cbv;done));intro s_ hi;obtain⟨i,es⟩:=s_;replace hi:0<=i/\i<=(ls.length:Int)/\BD ls i es:=hi;obtain⟨i0,i1,i2⟩:=hi;cbv)|(refine⟨[1,3,4,10,11,12,25,26,27],[1,8],Int×aa,fun s_=>match s_ with|(k,es1)=>[.reg 27 (.j k),.leaf 8 0 ⟨0,0,none,.own (.m true es1)⟩],fun s_=>match s_ with|(k,es1)=>0<=k/\k<=((aO ls i 0).length:Int)/\BE ls i k es1,fun s_=>match s_ with|(k,es1)=>(aO ls i 0).length-k.toNat,⟨(0,es),?_,?_⟩,?_⟩;rotate_left;(focus (cbv;done));intro s_ hk;obtain⟨k,es1⟩:=s_;replace hk:0<=k/\k<=((aO ls i 0).length:Int)/\BE ls i k es1:=hk;obtain⟨k0,k1,k2⟩:=hk;cbv)|(refine ab (O.ar .add .i64 k 1,O.mu es1 (O.gi (O.gs ls i 0) k 0) (.v (.bool true))) ?_ ?_ ?_;focus (cbv;done))|(refine ab (O.ar .add .i64 i 1,es1) ?_ ?_ ?_;focus (cbv;done))
 all_goals(subst hO hr hF;(try simp only[nc]at*);(try simp only[ah,SS,sa,az]at*);(try rw[cE (by omega) (by omega)]);(try have z6:bJ .add .i64 k 1=k+1:=bB (by have:=hn i;omega));(try simp only[z6]at*);(try have w2:=hp.el i0 (by omega));(try have w3:=w2.1);(try have w4:=k2.p.l))
 all_goals first
  | (show(_:List DV)=_
     first
      |(refine ai ?_;exact Lm i2.p i1 (by omega))
      |(refine ai ?_;symm;exact Ie i2 i0 (by omega) (by assumption))
      |(refine ai ?_;symm;exact Ig i2 i0 (by assumption) (by assumption))
      |(refine ai ?_;symm;exact yD i0 (by omega) k0 (by assumption) (JC (by assumption)))
      |(refine ai ?_;symm;exact yD i0 (by omega) k0 (by assumption) (JD (by assumption)))
      |(refine ai ?_;symm;exact Ih k2 i0 k0 (by assumption) (by assumption))
      |done)
  |omega
  |exact fe
  |(have c:=(gz (bH.2 (by omega:0<=i/\i<=3))).1;omega)
  |exact L0 k2 k0 (by assumption) (by assumption) (by assumption)
  |exact LZ k2 i0 k1 (by omega)
  |exact O0 i2 i0 (by assumption) (by omega)
  |exact OZ
  |done
end Go.V