/- Contracts. -/
import Derived.Test.YtniaaknbbceigaaGreatLayLq
set_option linter.all false
namespace Go.V
open Go Go.Proofs
set_option maxRecDepth 1000000
set_option maxHeartbeats 8000000
namespace Ma0
structure av where
 inR:Int->Int->Int->Bool
abbrev F0 :av:=⟨inR⟩
def ct (F:av):CT:=fun f ds=>match f,ds with
 |152,[.one (.v (.int .i64 x)),.one (.v (.int .i64 a)),.one (.v (.int .i64 b))]=>some (fun _=>True,[.k (F.inR x a b)])
 |126,[.one (.v (.int .i64 x)),.one (.v (.int .i64 a)),.one (.v (.int .i64 b))]=>some (fun _=>True,[.k (F.inR x a b)])
 |_,_=>none
theorem ah :aO (ct F0):=by
 intro f ds pre res h hp;unfold ct at h;split at h<;>cases h
 exact aV hp;exact bh hp
abbrev B :ce:=tb ah
end Ma0
theorem sj {n a l:Int}(hp:0<=n/\n<=1099511627776):ap 214 [.j n,.agg [.i a,.i l]] [.k (rngIn n a l)]:=by
 refine cb Ma0.B Tryz.func214 ?_
 exact Rj
theorem wJ {n a l:Int}(hp:0<=n/\n<=1099511627776):ap 199 [.j n,.agg [.i a,.i l]] [.k (rngIn n a l)]:=by
 refine cb Ma0.B Tryz.func199 ?_
 exact Rj
namespace Ma1
structure av where
 inR:Int->Int->Int->Bool
 rngIn:Int->Int->Int->Bool
abbrev F0 :av:=⟨inR,rngIn⟩
def ct (F:av):CT:=fun f ds=>match f,ds with
 |152,[.one (.v (.int .i64 x)),.one (.v (.int .i64 a)),.one (.v (.int .i64 b))]=>some (fun _=>True,[.k (F.inR x a b)])
 |126,[.one (.v (.int .i64 x)),.one (.v (.int .i64 a)),.one (.v (.int .i64 b))]=>some (fun _=>True,[.k (F.inR x a b)])
 |214,[.one (.v (.int .i64 n)),.agg [.v (.int .i64 a),.v (.int .i64 l)]]=>some (fun _=>0<=n/\n<=1099511627776,[.k (F.rngIn n a l)])
 |199,[.one (.v (.int .i64 n)),.agg [.v (.int .i64 a),.v (.int .i64 l)]]=>some (fun _=>0<=n/\n<=1099511627776,[.k (F.rngIn n a l)])
 |_,_=>none
theorem ah :aO (ct F0):=by
 intro f ds pre res h hp;unfold ct at h;split at h<;>cases h
 exact aV hp;exact bh hp;exact sj hp;exact wJ hp
abbrev B :ce:=tb ah
end Ma1
theorem pX {n:Int}{rs:aa}(hp:0<=n/\n<=1099511627776/\Rw [tI,tI] rs/\rs.length<=1099511627776):ap 143 [.j n,.one (.s 2 rs)] [.k (rgOk n rs)]:=by
 obtain⟨n0,n1,hw,hl⟩:=hp;refine cb Ma1.B Tryz.func143 ?_
 intro O r F hO hr hF;cbv
 repeat' first|apply And.intro|(apply be<;>intro hb<;>cbv)|(refine⟨[0,1,7,8,9],[],Int,fun i=>[.reg 9 (.j i)],fun i=>0<=i/\i<=((rs.length:Nat):Int)/\upto (ri n rs) i,fun i=>(rs.length)-i.toNat,⟨0,?_,?_⟩,?_⟩;rotate_left;(focus (cbv;done));intro i hi;replace hi:0<=i/\i<=((rs.length:Nat):Int)/\upto (ri n rs) i:=hi;obtain⟨i0,i1,i2⟩:=hi;cbv)|(refine ab (O.ar .add .i64 i 1) ?_ ?_ ?_;focus (cbv;done))
 all_goals exact Q7
theorem qY {n:Int}{rs:aa}(hp:0<=n/\n<=1099511627776/\Rw [tI,tI] rs/\rs.length<=1099511627776):ap 119 [.j n,.one (.s 2 rs)] [.k (rgOk n rs)]:=by
 obtain⟨n0,n1,hw,hl⟩:=hp;refine cb Ma1.B Tryz.func119 ?_
 intro O r F hO hr hF;cbv
 repeat' first|apply And.intro|(apply be<;>intro hb<;>cbv)|(refine⟨[0,1,5],[],Int,fun i=>[.reg 5 (.j i)],fun i=>0<=i/\i<=((rs.length:Nat):Int)/\upto (ri n rs) i,fun i=>(rs.length)-i.toNat,⟨0,?_,?_⟩,?_⟩;rotate_left;(focus (cbv;done));intro i hi;replace hi:0<=i/\i<=((rs.length:Nat):Int)/\upto (ri n rs) i:=hi;obtain⟨i0,i1,i2⟩:=hi;cbv)|(refine ab (O.ar .add .i64 i 1) ?_ ?_ ?_;focus (cbv;done))
 all_goals exact Q7
theorem mz {a l p:Int}(hp:True):ap 254 [.agg [.i a,.i l],.ptr [.i p]] [.k (rh1 a l p)]:=by
 refine cb nB Tryz.func254 ?_
 intro O r F hO hr hF;cbv
 repeat' first|apply And.intro|(apply be<;>intro hb<;>cbv)
 all_goals(subst hO hr hF;(try simp only[nc]at*);(try simp only[ai,SS,sa,az]at*))
 all_goals first|(show(_:List DV)=_;refine ag ?_;unfold rh1;rw[decide_eq_true hb];rfl)|(show(_:List DV)=_;refine ag ?_;unfold rh1;rw[decide_eq_false (by omega)];rfl)|done
namespace Ma3
structure av where
 rh1:Int->Int->Int->Bool
abbrev F0 :av:=⟨rh1⟩
def ct (F:av):CT:=fun f ds=>match f,ds with
 |254,[.agg [.v (.int .i64 a),.v (.int .i64 l)],.ptr [.v (.int .i64 p)]]=>some (fun _=>True,[.k (F.rh1 a l p)])
 |_,_=>none
theorem ah :aO (ct F0):=by
 intro f ds pre res h hp;unfold ct at h;split at h<;>cases h
 exact mz hp
abbrev B :ce:=tb ah
end Ma3
theorem bM {os:aa}{id:Int}(hp:Rw [tI,tI] os/\os.length<=1099511627776):ap 265 [.one (.s 2 os),.fn 254 [[.i id]]] [.j (rhI os id)]:=by
 obtain⟨hw,hn⟩:=hp;refine cb Ma3.B Tryz.func265 ?_
 intro O r F hO hr hF;cbv
 repeat' first|apply And.intro|(apply be<;>intro hb<;>cbv)|(refine⟨[0,1,7,8],[0],Int,fun i=>[.reg 8 (.j i)],fun i=>0<=i/\i<=((os.length:Nat):Int)/\upto (bZ (mV os id)) i,fun i=>(os.length)-i.toNat,⟨0,?_,?_⟩,?_⟩;rotate_left;(focus (cbv;done));intro i hi;replace hi:0<=i/\i<=((os.length:Nat):Int)/\upto (bZ (mV os id)) i:=hi;obtain⟨i0,i1,i2⟩:=hi;cbv)|(refine ab (O.ar .add .i64 i 1) ?_ ?_ ?_;focus (cbv;done))
 all_goals(subst hO hr hF;(try simp only[nc]at*);(try simp only[ai,SS,sa,az]at*);(try rw[bX (by omega) (by omega)]))
 all_goals first
  | (show(_:List DV)=_
     first
      |exact bJ (cO i2 i0 (by assumption) (show mV os id i=true from by assumption)).symm
      |exact bJ (cP i2 (by assumption)).symm
      |done)
  |omega
  |exact d9
  |(show(lk _ _).isSome=true;kernel_rfl)
  |exact aX
  |exact aP i2 (fO (show mV os id i=false from by assumption))
  |done
namespace Ma4
structure av where
 rhI:aa->Int->Int
abbrev F0 :av:=⟨rhI⟩
def ct (F:av):CT:=fun f ds=>match f,ds with
 |265,[.one (.s 2 os),.fn 254 [[.v (.int .i64 id)]]]=>some (fun _=>Rw [tI,tI] os/\os.length<=1099511627776,[.j (F.rhI os id)])
 |_,_=>none
theorem ah :aO (ct F0):=by
 intro f ds pre res h hp;unfold ct at h;split at h<;>cases h
 exact bM hp
abbrev B :ce:=tb ah
end Ma4
theorem bH {os:aa}{id:Int}(hp:Rw [tI,tI] os/\os.length<=1099511627776):ap 253 [.one (.s 2 os),.fn 254 [[.i id]]] [.k (rhB os id)]:=by
 refine cb Ma4.B Tryz.func253 ?_
 intro O r F hO hr hF;cbv
 repeat' first|apply And.intro|(apply be<;>intro hb<;>cbv)
 all_goals(subst hO hr hF;(try simp only[nc]at*);(try simp only[ai,SS,sa,az]at*))
 all_goals first
  | (show(_:List DV)=_
     first
      |exact ag (ec (by unfold rhB;simp only[SS,decide_eq_true_eq]))
      |done)
  |exact hp
  |done
namespace Ma5
structure av where
 rhB:aa->Int->Bool
abbrev F0 :av:=⟨rhB⟩
def ct (F:av):CT:=fun f ds=>match f,ds with
 |253,[.one (.s 2 os),.fn 254 [[.v (.int .i64 id)]]]=>some (fun _=>Rw [tI,tI] os/\os.length<=1099511627776,[.k (F.rhB os id)])
 |_,_=>none
theorem ah :aO (ct F0):=by
 intro f ds pre res h hp;unfold ct at h;split at h<;>cases h
 exact bH hp
abbrev B :ce:=tb ah
end Ma5
theorem pW {os:aa}{id:Int}(hp:Rw [tI,tI] os/\os.length<=1099511627776):ap 219 [.one (.s 2 os),.j id] [.k (rhB os id)]:=by
 refine cb Ma5.B Tryz.func219 ?_
 exact Rz
theorem qX {os:aa}{id:Int}(hp:Rw [tI,tI] os/\os.length<=1099511627776):ap 203 [.one (.s 2 os),.j id] [.k (rhB os id)]:=by
 obtain⟨hw,hn⟩:=hp;refine cb nB Tryz.func203 ?_
 intro O r F hO hr hF;cbv
 repeat' first|apply And.intro|(apply be<;>intro hb<;>cbv)|(refine⟨[0,1,5],[],Int,fun i=>[.reg 5 (.j i)],fun i=>0<=i/\i<=((os.length:Nat):Int)/\upto (bZ (mV os id)) i,fun i=>(os.length)-i.toNat,⟨0,?_,?_⟩,?_⟩;rotate_left;(focus (cbv;done));intro i hi;replace hi:0<=i/\i<=((os.length:Nat):Int)/\upto (bZ (mV os id)) i:=hi;obtain⟨i0,i1,i2⟩:=hi;cbv)|(refine ab (O.ar .add .i64 i 1) ?_ ?_ ?_;focus (cbv;done))
 all_goals(subst hO hr hF;(try simp only[nc]at*);(try simp only[ai,SS,sa,az]at*);(try rw[bX (by omega) (by omega)]))
 all_goals first
  | (show(_:List DV)=_
     first
      |(refine ag ?_;symm;exact M1 i2 i0 (by assumption) (by assumption) (by assumption))
      |(refine ag ?_;symm;exact Qz i2 (by omega))
      |done)
  |omega
  |exact d9
  |(show aU _ _=true;kernel_rfl)
  |exact aX
  |exact aP i2 (Qx (by omega))
  |exact aP i2 (Qy (by omega))
  |done
namespace Ma6
structure av where
 spOk:Int->Int->Int->Bool
abbrev F0 :av:=⟨spOk⟩
def ct (F:av):CT:=fun f ds=>match f,ds with
 |216,[.agg [.v (.int .i64 p),.v (.int .i64 k),.v (.int .i64 b)]]=>some (fun _=>True,[.k (F.spOk p k b)])
 |200,[.agg [.v (.int .i64 p),.v (.int .i64 k),.v (.int .i64 b)]]=>some (fun _=>True,[.k (F.spOk p k b)])
 |_,_=>none
theorem ah :aO (ct F0):=by
 intro f ds pre res h hp;unfold ct at h;split at h<;>cases h
 exact fj hp;exact fo hp
abbrev B :ce:=tb ah
end Ma6
theorem pT {p1 k1 b1 p2 k2 b2:Int}(hp:True):ap 220 [.agg [.i p1,.i k1,.i b1],.agg [.i p2,.i k2,.i b2]] [.k (mshB p1 k1 b1 p2 k2 b2)]:=by
 refine cb Ma6.B Tryz.func220 ?_
 exact Rp
theorem qV {p1 k1 b1 p2 k2 b2:Int}(hp:True):ap 204 [.agg [.i p1,.i k1,.i b1],.agg [.i p2,.i k2,.i b2]] [.k (mshB p1 k1 b1 p2 k2 b2)]:=by
 refine cb Ma6.B Tryz.func204 ?_
 exact Rp
namespace Ma7
structure av where
 clsSz:Int->Int
abbrev F0 :av:=⟨clsSz⟩
def ct (F:av):CT:=fun f ds=>match f,ds with
 |95,[.one (.v (.int .i64 k))]=>some (fun _=>True,[.j (F.clsSz k)])
 |76,[.one (.v (.int .i64 k))]=>some (fun _=>True,[.j (F.clsSz k)])
 |_,_=>none
theorem ah :aO (ct F0):=by
 intro f ds pre res h hp;unfold ct at h;split at h<;>cases h
 exact ca hp;exact cp hp
abbrev B :ce:=tb ah
end Ma7
theorem ir {qs:aa}(hp:Rw [tI,tI,tI] qs/\qs.length<=1073741824):ap 93 [.one (.s 3 qs)] [.j (qcI qs)]:=by
 obtain⟨hw,hl⟩:=hp;refine cb Ma7.B Tryz.func93 ?_
 intro O r F hO hr hF;cbv
 repeat' first|apply And.intro|(apply be<;>intro hb<;>cbv)|(refine⟨[3,6,7,8],[],Int×Int,fun s_=>match s_ with|(i,t)=>[.reg 8 (.j i),.reg 3 (.j t)],fun s_=>match s_ with|(i,t)=>0<=i/\i<=(qs.length:Int)/\Hp qs i t,fun s_=>match s_ with|(i,t)=>qs.length-i.toNat,⟨(0,0),?_,?_⟩,?_⟩;rotate_left;(focus (cbv;done));intro s_ hi;obtain⟨i,t⟩:=s_;replace hi:0<=i/\i<=(qs.length:Int)/\Hp qs i t:=hi;obtain⟨i0,i1,i2⟩:=hi;cbv)|(refine ab (O.ar .add .i64 i 1,O.ar .add .i64 t (F.clsSz (O.gi qs i 1))) ?_ ?_ ?_;focus (cbv;done))
 all_goals exact Ri
theorem jG {qs:aa}(hp:Rw [tI,tI,tI] qs/\qs.length<=1073741824):ap 89 [.one (.s 3 qs)] [.j (qcI qs)]:=by
 obtain⟨hw,hl⟩:=hp;refine cb Ma7.B Tryz.func89 ?_
 intro O r F hO hr hF;cbv
 repeat' first|apply And.intro|(apply be<;>intro hb<;>cbv)|(refine⟨[0,3,4],[],Int×Int,fun s_=>match s_ with|(i,t)=>[.reg 4 (.j i),.reg 3 (.j t)],fun s_=>match s_ with|(i,t)=>0<=i/\i<=(qs.length:Int)/\Hp qs i t,fun s_=>match s_ with|(i,t)=>qs.length-i.toNat,⟨(0,0),?_,?_⟩,?_⟩;rotate_left;(focus (cbv;done));intro s_ hi;obtain⟨i,t⟩:=s_;replace hi:0<=i/\i<=(qs.length:Int)/\Hp qs i t:=hi;obtain⟨i0,i1,i2⟩:=hi;cbv)|(refine ab (O.ar .add .i64 i 1,O.ar .add .i64 t (F.clsSz (O.gi qs i 1))) ?_ ?_ ?_;focus (cbv;done))
 all_goals exact Ri
namespace Ma8
structure av where
 inR:Int->Int->Int->Bool
 qtB:aa->Int->Bool
abbrev F0 :av:=⟨inR,qtB⟩
def ct (F:av):CT:=fun f ds=>match f,ds with
 |187,[.one (.v (.int .i64 k))]=>some (fun _=>True,[.k (F.inR k 0 3)])
 |255,[.one (.s 3 os),.one (.v (.int .i64 id))]=>some (fun _=>Rw [tI,tI,tI] os/\os.length<=1099511627776,[.k (F.qtB os id)])
 |126,[.one (.v (.int .i64 x)),.one (.v (.int .i64 a)),.one (.v (.int .i64 b))]=>some (fun _=>True,[.k (F.inR x a b)])
 |_,_=>none
theorem ah :aO (ct F0):=by
 intro f ds pre res h hp;unfold ct at h;split at h<;>cases h
 exact dH hp;exact jB hp;exact bh hp
abbrev B :ce:=tb ah
end Ma8
theorem sk {b:aa}{a c s:Int}(hp:Rw [tI,tI,tI] b/\b.length<=1073741824):ap 221 [.one (.s 3 b),.agg [.i a,.i c,.i s]] [.k (stlOk b a c s)]:=by
 obtain⟨hw,hl⟩:=hp;have hs:bu .sub .i64 (b.length:Int) 1=b.length-1:=cL (by omega);refine cb Ma8.B Tryz.func221 ?_
 intro O r F hO hr hF;cbv
 repeat' first|apply And.intro|(apply be<;>intro hb<;>cbv)
 all_goals(subst hO hr hF;(try simp only[nc]at*);(try simp only[ai,SS,sa,az]at*);(try simp only[hs]at*))
 all_goals first|exact d9|(show aU _ _=true;kernel_rfl)|exact⟨hw,by omega⟩|(show(_:List DV)=_;refine ag ?_;unfold stlOk;simp[*,cg];done)|(show(_:List DV)=_;refine ag ?_;unfold stlOk;rw[decide_eq_false (p:=0<=a) (by omega)];simp;done)|(show(_:List DV)=_;refine ag ?_;unfold stlOk;rw[decide_eq_false (p:=0<=s) (by omega)];simp;done)|(show(_:List DV)=_;refine ag ?_;unfold stlOk;rw[decide_eq_false (p:=b.length=0) (by omega)];simp[*,cg];done)|(show(_:List DV)=_;refine ag ?_;unfold stlOk;simp_all;done)|done
theorem vp {a c s:Int}(hp:True):ap 205 [.agg [.i a,.i c,.i s]] [.k (staB a c s)]:=by
 refine cb Ma8.B Tryz.func205 ?_
 intro O r F hO hr hF;cbv
 repeat' first|apply And.intro|(apply be<;>intro hb<;>cbv)
 all_goals(subst hO hr hF;(try simp only[nc]at*);(try simp only[ai,SS,sa,az]at*))
 all_goals first|(show(_:List DV)=_;refine ag ?_;unfold staB;simp[*,cg];done)|(show(_:List DV)=_;refine ag ?_;unfold staB;rw[decide_eq_false (p:=0<=a) (by omega)];simp;done)|done
namespace Ma9
structure av where
 inR:Int->Int->Int->Bool
 stlOk:aa->Int->Int->Int->Bool
 qcI:aa->Int
 staB:Int->Int->Int->Bool
 qtB:aa->Int->Bool
abbrev F0 :av:=⟨inR,stlOk,qcI,staB,qtB⟩
def ct (F:av):CT:=fun f ds=>match f,ds with
 |152,[.one (.v (.int .i64 x)),.one (.v (.int .i64 a)),.one (.v (.int .i64 b))]=>some (fun _=>True,[.k (F.inR x a b)])
 |221,[.one (.s 3 b),.agg [.v (.int .i64 a),.v (.int .i64 c),.v (.int .i64 s)]]=>some (fun _=>Rw [tI,tI,tI] b/\b.length<=1073741824,[.k (F.stlOk b a c s)])
 |93,[.one (.s 3 qs)]=>some (fun _=>Rw [tI,tI,tI] qs/\qs.length<=1073741824,[.j (F.qcI qs)])
 |126,[.one (.v (.int .i64 x)),.one (.v (.int .i64 a)),.one (.v (.int .i64 b))]=>some (fun _=>True,[.k (F.inR x a b)])
 |205,[.agg [.v (.int .i64 a),.v (.int .i64 c),.v (.int .i64 s)]]=>some (fun _=>True,[.k (F.staB a c s)])
 |206,[.agg [.v (.int .i64 rm),.s 3 os],.one (.v (.int .i64 id))]=>some (fun _=>Rw [tI,tI,tI] os/\os.length<=1099511627776,[.k (F.qtB os id)])
 |89,[.one (.s 3 qs)]=>some (fun _=>Rw [tI,tI,tI] qs/\qs.length<=1073741824,[.j (F.qcI qs)])
 |_,_=>none
theorem ah :aO (ct F0):=by
 intro f ds pre res h hp;unfold ct at h;split at h<;>cases h
 exact aV hp;exact sk hp;exact ir hp;exact bh hp;exact vp hp;exact sS hp;exact jG hp
abbrev B :ce:=tb ah
end Ma9
theorem uL {rm:Int}{qs:aa}(hp:Rw [tI,tI,tI] qs/\qs.length<=1073741824):ap 147 [.agg [.i rm,.s 3 qs]] [.k (quarOk rm qs)]:=by
 obtain⟨hw,hl⟩:=hp;refine cb Ma9.B Tryz.func147 ?_
 intro O r F hO hr hF;cbv
 repeat' first|apply And.intro|(apply be<;>intro hb<;>cbv)|(refine⟨[1,6,7,8],[1],Int,fun i=>[.reg 8 (.j i)],fun i=>0<=i/\i<=((qs.length:Nat):Int)/\upto (zc qs) i,fun i=>(qs.length)-i.toNat,⟨0,?_,?_⟩,?_⟩;rotate_left;(focus (cbv;done));intro i hi;replace hi:0<=i/\i<=((qs.length:Nat):Int)/\upto (zc qs) i:=hi;obtain⟨i0,i1,i2⟩:=hi;cbv)|(refine ab (O.ar .add .i64 i 1) ?_ ?_ ?_;focus (cbv;done))
 all_goals(subst hO hr hF;(try simp only[nc]at*);(try simp only[ai,SS,sa,az]at*);(try rw[bX (by omega) (by omega)]);(try simp only[uq]at*))
 all_goals first
  | (show(_:List DV)=_
     first
      |(refine ag ?_;symm;exact Cy i0 (by assumption) (by assumption))
      |(refine ag ?_;rw[Gr i2 (by omega)];simp[*,cg];done)
      |done)
  |omega
  |exact d9
  |(show aU _ _=true;kernel_rfl)
  |exact⟨hw,hl⟩
  |exact⟨Rw.take hw _,by rw[List.length_take];omega⟩
  |exact aX
  |exact aP i2 (by assumption)
  |done
theorem vl {rm:Int}{qs:aa}(hp:Rw [tI,tI,tI] qs/\qs.length<=1073741824):ap 124 [.agg [.i rm,.s 3 qs]] [.k (quarOk rm qs)]:=by
 obtain⟨hw,hl⟩:=hp;refine cb Ma9.B Tryz.func124 ?_
 intro O r F hO hr hF;cbv
 repeat' first|apply And.intro|(apply be<;>intro hb<;>cbv)|(refine⟨[1,3],[1],Int,fun i=>[.reg 3 (.j i)],fun i=>0<=i/\i<=((qs.length:Nat):Int)/\upto (zc qs) i,fun i=>(qs.length)-i.toNat,⟨0,?_,?_⟩,?_⟩;rotate_left;(focus (cbv;done));intro i hi;replace hi:0<=i/\i<=((qs.length:Nat):Int)/\upto (zc qs) i:=hi;obtain⟨i0,i1,i2⟩:=hi;cbv)|(refine ab (O.ar .add .i64 i 1) ?_ ?_ ?_;focus (cbv;done))
 all_goals(subst hO hr hF;(try simp only[nc]at*);(try simp only[ai,SS,sa,az]at*);(try rw[bX (by omega) (by omega)]);(try simp only[uq]at*);(try have z:=vB i0 (by omega));(try simp only[z]at*))
 all_goals first
  | (show(_:List DV)=_
     first
      |(refine ag ?_;symm;exact Cy i0 (by assumption) (Qk (by assumption)))
      |(refine ag ?_;symm;exact Cy i0 (by assumption) (Ql (by omega) (by assumption) (by assumption)))
      |(refine ag ?_;symm;exact Cy i0 (by assumption) (Qm (by assumption)))
      |(refine ag ?_;rw[Gr i2 (by omega)];simp[*,cg];done)
      |(have q:false=true:=(by assumption);cases q)
      |done)
  |omega
  |exact d9
  |(show aU _ _=true;kernel_rfl)
  |exact⟨hw,hl⟩
  |exact⟨Rw.take hw _,by rw[List.length_take];omega⟩
  |exact aX
  |exact aP i2 (Qn (by assumption) (by assumption) i0 (by omega))
  |exact aP i2 (Qo (by assumption) (by assumption) (by omega) (by assumption) (by assumption))
  |done
theorem uO {c:Int}(hp:True):ap 258 [.j c] [.k (inR c 0 15)]:=by
 refine cb Ma0.B Tryz.func258 ?_
 exact G8
theorem uT {c:Int}(hp:True):ap 151 [.j c] [.k (inR c 0 1073741823)]:=by
 refine cb Ma0.B Tryz.func151 ?_
 exact G8
namespace Mb1
structure av where
 inR:Int->Int->Int->Bool
abbrev F0 :av:=⟨inR⟩
def ct (F:av):CT:=fun f ds=>match f,ds with
 |152,[.one (.v (.int .i64 x)),.one (.v (.int .i64 a)),.one (.v (.int .i64 b))]=>some (fun _=>True,[.k (F.inR x a b)])
 |258,[.one (.v (.int .i64 c))]=>some (fun _=>True,[.k (F.inR c 0 15)])
 |126,[.one (.v (.int .i64 x)),.one (.v (.int .i64 a)),.one (.v (.int .i64 b))]=>some (fun _=>True,[.k (F.inR x a b)])
 |_,_=>none
theorem ah :aO (ct F0):=by
 intro f ds pre res h hp;unfold ct at h;split at h<;>cases h
 exact aV hp;exact uO hp;exact bh hp
abbrev B :ce:=tb ah
end Mb1
theorem uK {k m:Int}{cs:aa}(hp:Rw [tI] cs/\cs.length<=1099511627776):ap 226 [.agg [.i k,.i m,.s 1 cs]] [.k (plOk k m cs)]:=by
 obtain⟨hw,hl⟩:=hp;refine cb Mb1.B Tryz.func226 ?_
 intro O r F hO hr hF;cbv
 repeat' first|apply And.intro|(apply be<;>intro hb<;>cbv)|(refine⟨[1,6,7,8],[1],Int,fun i=>[.reg 8 (.j i)],fun i=>0<=i/\i<=((cs.length:Nat):Int)/\upto (DR cs) i,fun i=>(cs.length)-i.toNat,⟨0,?_,?_⟩,?_⟩;rotate_left;(focus (cbv;done));intro i hi;replace hi:0<=i/\i<=((cs.length:Nat):Int)/\upto (DR cs) i:=hi;obtain⟨i0,i1,i2⟩:=hi;cbv)|(refine ab (O.ar .add .i64 i 1) ?_ ?_ ?_;focus (cbv;done))
 all_goals(subst hO hr hF;(try simp only[nc]at*);(try simp only[ai,SS,sa,az]at*);(try rw[bX (by omega) (by omega)]);(try have z:=vB i0 (by omega));(try simp only[z]at*))
 all_goals first
  | (show(_:List DV)=_
     first
      |(refine ag ?_;symm;exact Gg i0 (by assumption) (by assumption))
      |(refine ag ?_;symm;exact Gi i0 (by assumption) (by omega) (by assumption))
      |(refine ag ?_;rw[xB i2 (by omega)];simp[*,cg];done)
      |(refine ag ?_;rw[xB i2 (by omega),wQ];simp[*];done)
      |(have q:false=true:=(by assumption);cases q)
      |done)
  |omega
  |exact d9
  |exact aX
  |exact aP i2 (Cr (by assumption) (by omega))
  |exact aP i2 (Cs (by assumption) (by assumption))
  |done
theorem vk {k m:Int}{cs:aa}(hp:Rw [tI] cs/\cs.length<=1099511627776):ap 209 [.agg [.i k,.i m,.s 1 cs]] [.k (plOk k m cs)]:=by
 obtain⟨hw,hl⟩:=hp;refine cb Mb1.B Tryz.func209 ?_
 intro O r F hO hr hF;cbv
 repeat' first|apply And.intro|(apply be<;>intro hb<;>cbv)|(refine⟨[1,3],[1],Int,fun i=>[.reg 3 (.j i)],fun i=>0<=i/\i<=((cs.length:Nat):Int)/\upto (DR cs) i,fun i=>(cs.length)-i.toNat,⟨0,?_,?_⟩,?_⟩;rotate_left;(focus (cbv;done));intro i hi;replace hi:0<=i/\i<=((cs.length:Nat):Int)/\upto (DR cs) i:=hi;obtain⟨i0,i1,i2⟩:=hi;cbv)|(refine ab (O.ar .add .i64 i 1) ?_ ?_ ?_;focus (cbv;done))
 all_goals(subst hO hr hF;(try simp only[nc]at*);(try simp only[ai,SS,sa,az]at*);(try rw[bX (by omega) (by omega)]);(try have z:=vB i0 (by omega));(try simp only[z]at*))
 all_goals first
  | (show(_:List DV)=_
     first
      |(refine ag ?_;symm;exact Gg i0 (by assumption) (by assumption))
      |(refine ag ?_;symm;exact Gi i0 (by assumption) (by omega) (by assumption))
      |(refine ag ?_;rw[xB i2 (by omega)];simp[*,cg];done)
      |(refine ag ?_;rw[xB i2 (by omega),wQ];simp[*];done)
      |(have q:false=true:=(by assumption);cases q)
      |done)
  |omega
  |exact d9
  |(show aU _ _=true;kernel_rfl)
  |exact aX
  |exact aP i2 (Cr (by assumption) (by omega))
  |exact aP i2 (Cs (by assumption) (by assumption))
  |done
namespace Mb2
structure av where
 plOk:Int->Int->aa->Bool
 inR:Int->Int->Int->Bool
abbrev F0 :av:=⟨plOk,inR⟩
def ct (F:av):CT:=fun f ds=>match f,ds with
 |226,[.agg [.v (.int .i64 k),.v (.int .i64 m),.s 1 cs]]=>some (fun _=>Rw [tI] cs/\cs.length<=1099511627776,[.k (F.plOk k m cs)])
 |152,[.one (.v (.int .i64 x)),.one (.v (.int .i64 a)),.one (.v (.int .i64 b))]=>some (fun _=>True,[.k (F.inR x a b)])
 |209,[.agg [.v (.int .i64 k),.v (.int .i64 m),.s 1 cs]]=>some (fun _=>Rw [tI] cs/\cs.length<=1099511627776,[.k (F.plOk k m cs)])
 |126,[.one (.v (.int .i64 x)),.one (.v (.int .i64 a)),.one (.v (.int .i64 b))]=>some (fun _=>True,[.k (F.inR x a b)])
 |_,_=>none
theorem ah :aO (ct F0):=by
 intro f ds pre res h hp;unfold ct at h;split at h<;>cases h
 exact uK hp;exact aV hp;exact vk hp;exact bh hp
abbrev B :ce:=tb ah
end Mb2
theorem wC {k m:Int}{cs:aa}{ph nx:Int}(hp:Rw [tI] cs/\cs.length<=1099511627776):ap 153 [.agg [.i k,.i m,.s 1 cs,.i ph,.i nx]] [.k (jbOk k m cs ph nx)]:=by
 refine cb Mb2.B Tryz.func153 ?_
 exact Rx
theorem wI {k m:Int}{cs:aa}{ph nx:Int}(hp:Rw [tI] cs/\cs.length<=1099511627776):ap 130 [.agg [.i k,.i m,.s 1 cs,.i ph,.i nx]] [.k (jbOk k m cs ph nx)]:=by
 refine cb Mb2.B Tryz.func130 ?_
 exact Rx
namespace Mb3
structure av where
 inR:Int->Int->Int->Bool
 clsSz:Int->Int
 hasB:aa->Int->Bool
abbrev F0 :av:=⟨inR,clsSz,hasB⟩
def ct (F:av):CT:=fun f ds=>match f,ds with
 |187,[.one (.v (.int .i64 k))]=>some (fun _=>True,[.k (F.inR k 0 3)])
 |152,[.one (.v (.int .i64 x)),.one (.v (.int .i64 a)),.one (.v (.int .i64 b))]=>some (fun _=>True,[.k (F.inR x a b)])
 |95,[.one (.v (.int .i64 k))]=>some (fun _=>True,[.j (F.clsSz k)])
 |126,[.one (.v (.int .i64 x)),.one (.v (.int .i64 a)),.one (.v (.int .i64 b))]=>some (fun _=>True,[.k (F.inR x a b)])
 |76,[.one (.v (.int .i64 k))]=>some (fun _=>True,[.j (F.clsSz k)])
 |201,[.one (.s 1 l),.one (.v (.int .i64 x))]=>some (fun _=>Rw [tI] l,[.k (F.hasB l x)])
 |_,_=>none
theorem ah :aO (ct F0):=by
 intro f ds pre res h hp;unfold ct at h;split at h<;>cases h
 exact dH hp;exact aV hp;exact ca hp;exact bh hp;exact cp hp;exact ft hp
abbrev B :ce:=tb ah
end Mb3
theorem j7 {ls:aa}(hp:Bj ls):ap 125 [.agg [.s 1 ls]] [.k (caOk ls)]:=by
 have hw:=hp.w;have hl:=hp.l;have hn:=hp.n;refine cb Mb3.B Tryz.func125 ?_
 intro O r F hO hr hF;cbv
 repeat' first|apply And.intro|(apply be<;>intro hb<;>cbv)|(refine⟨[1,3,4],[1,3],Int×aa,fun s_=>match s_ with|(i,o)=>[.reg 4 (.j i),.reg 3 (.one (.vw 3 0 0 0 (O.ln o))),.leaf 3 0 ⟨0,0,none,.own (.s 1 o)⟩],fun s_=>match s_ with|(i,o)=>0<=i/\i<=4/\NR ls i o,fun s_=>match s_ with|(i,o)=>(4-i).toNat,⟨(0,[]),?_,?_⟩,?_⟩;rotate_left;(focus (cbv;done));intro s_ hi;obtain⟨i,o⟩:=s_;replace hi:0<=i/\i<=4/\NR ls i o:=hi;obtain⟨i0,i1,i2⟩:=hi;cbv)|(refine⟨[1,3,4,5],[1,3],Int×aa,fun s_=>match s_ with|(k,o1)=>[.reg 5 (.j k),.reg 3 (.one (.vw 3 0 0 0 (O.ln o1))),.leaf 3 0 ⟨0,0,none,.own (.s 1 o1)⟩],fun s_=>match s_ with|(k,o1)=>0<=k/\k<=((ax ls i 0).length:Int)/\Jm ls i k o1,fun s_=>match s_ with|(k,o1)=>(ax ls i 0).length-k.toNat,⟨(0,o),?_,?_⟩,?_⟩;rotate_left;(focus (cbv;done));intro s_ hk;obtain⟨k,o1⟩:=s_;replace hk:0<=k/\k<=((ax ls i 0).length:Int)/\Jm ls i k o1:=hk;obtain⟨k0,k1,k2⟩:=hk;cbv)|(refine ab (O.ar .add .i64 k 1,O.cat o1 (O.sub [[.i (O.gi (O.gs ls i 0) k 0)]] 0 (O.ln [[.i (O.gi (O.gs ls i 0) k 0)]]))) ?_ ?_ ?_;focus (cbv;done))|(refine ab (O.ar .add .i64 i 1,o1) ?_ ?_ ?_;focus (cbv;done))
 all_goals(subst hO hr hF;(try simp only[nc]at*);(try simp only[ai,SS,sa,az]at*);(try rw[bX (by omega) (by omega)]);(try have z6:bu .add .i64 k 1=k+1:=bj (by have:=hn i;omega));(try simp only[z6]at*);(try have w1:=Nc k2 k0);(try have w2:=hp.el i0 (by omega));(try have w3:=w2.1))
 all_goals first
  | (show(_:List DV)=_
     first
      |(refine ag ?_;symm;exact wL (by assumption))
      |(refine ag ?_;symm;exact Ej i0 (by omega) (by omega))
      |(refine ag ?_;symm;exact wM i0 (by omega) k0 (by assumption) (Jw (by assumption)))
      |(refine ag ?_;symm;exact wM i0 (by omega) k0 (by assumption) (Jx (by assumption)))
      |(refine ag ?_;symm;exact Nb k2 i0 k0 (by assumption) (by assumption))
      |(refine ag ?_;symm;exact Ek i2.p (by omega) (by omega))
      |done)
  |omega
  |exact d9
  |exact w1.2
  |(constructor<;>(simp only[List.length_cons,List.length_nil];omega))
  |(have c:=(fD (bE.2 (by omega:0<=i/\i<=3))).1;omega)
  |exact QR k2 k0 (by assumption) (by assumption) (by assumption)
  |exact QP k2 i0 k1 (by omega)
  |exact TD i2 i0 (by omega) (by omega)
  |exact TC
  |exact⟨True.intro,True.intro⟩
  |done
theorem j3 {ls:aa}(hp:Bj ls):ap 148 [.agg [.s 1 ls]] [.k (caOk ls)]:=by
 have hw:=hp.w;have hl:=hp.l;have hn:=hp.n;refine cb Mb3.B Tryz.func148 ?_
 intro O r F hO hr hF;cbv
 repeat' first|apply And.intro|(apply be<;>intro hb<;>cbv)|(refine⟨[1,3,10,11,12],[1,8],Int×aa,fun s_=>match s_ with|(i,es)=>[.reg 12 (.j i),.leaf 8 0 ⟨0,0,none,.own (.m true es)⟩],fun s_=>match s_ with|(i,es)=>0<=i/\i<=(ls.length:Int)/\zW ls i es,fun s_=>match s_ with|(i,es)=>ls.length-i.toNat,⟨(0,[]),?_,?_⟩,?_⟩;rotate_left;(focus (cbv;done));intro s_ hi;obtain⟨i,es⟩:=s_;replace hi:0<=i/\i<=(ls.length:Int)/\zW ls i es:=hi;obtain⟨i0,i1,i2⟩:=hi;cbv)|(refine⟨[1,3,4,10,11,12,25,26,27],[1,8],Int×aa,fun s_=>match s_ with|(k,es1)=>[.reg 27 (.j k),.leaf 8 0 ⟨0,0,none,.own (.m true es1)⟩],fun s_=>match s_ with|(k,es1)=>0<=k/\k<=((ax ls i 0).length:Int)/\zX ls i k es1,fun s_=>match s_ with|(k,es1)=>(ax ls i 0).length-k.toNat,⟨(0,es),?_,?_⟩,?_⟩;rotate_left;(focus (cbv;done));intro s_ hk;obtain⟨k,es1⟩:=s_;replace hk:0<=k/\k<=((ax ls i 0).length:Int)/\zX ls i k es1:=hk;obtain⟨k0,k1,k2⟩:=hk;cbv)|(refine ab (O.ar .add .i64 k 1,O.mu es1 (O.gi (O.gs ls i 0) k 0) (.v (.bool true))) ?_ ?_ ?_;focus (cbv;done))|(refine ab (O.ar .add .i64 i 1,es1) ?_ ?_ ?_;focus (cbv;done))
 all_goals(subst hO hr hF;(try simp only[nc]at*);(try simp only[ai,SS,sa,az]at*);(try rw[bX (by omega) (by omega)]);(try have z6:bu .add .i64 k 1=k+1:=bj (by have:=hn i;omega));(try simp only[z6]at*);(try have w2:=hp.el i0 (by omega));(try have w3:=w2.1);(try have w4:=k2.p.l))
 all_goals first
  | (show(_:List DV)=_
     first
      |(refine ag ?_;exact Lf i2.p i1 (by omega))
      |(refine ag ?_;symm;exact HZ i2 i0 (by omega) (by assumption))
      |(refine ag ?_;symm;exact H0 i2 i0 (by assumption) (by assumption))
      |(refine ag ?_;symm;exact wM i0 (by omega) k0 (by assumption) (Jw (by assumption)))
      |(refine ag ?_;symm;exact wM i0 (by omega) k0 (by assumption) (Jx (by assumption)))
      |(refine ag ?_;symm;exact H1 k2 i0 k0 (by assumption) (by assumption))
      |done)
  |omega
  |exact d9
  |(have c:=(fD (bE.2 (by omega:0<=i/\i<=3))).1;omega)
  |exact LW k2 k0 (by assumption) (by assumption) (by assumption)
  |exact LV k2 i0 k1 (by omega)
  |exact OR i2 i0 (by assumption) (by omega)
  |exact OQ
  |done
end Go.V