/- Contracts. -/
import Derived.Test.YticfhgfgobafbaaGreatLayLm
set_option linter.all false
namespace Go.V
open Go Go.Proofs
set_option maxRecDepth 1000000
set_option maxHeartbeats 8000000
namespace Ma0
structure aO where
 inR:Int->Int->Int->Bool
abbrev F0 :aO:=⟨inR⟩
def ct (F:aO):CT:=fun f ds=>match f,ds with
 |87,[.one (.v (.int .i64 x)),.one (.v (.int .i64 a)),.one (.v (.int .i64 b))]=>some (fun _=>True,[.k (F.inR x a b)])
 |71,[.one (.v (.int .i64 x)),.one (.v (.int .i64 a)),.one (.v (.int .i64 b))]=>some (fun _=>True,[.k (F.inR x a b)])
 |_,_=>none
theorem aj :aR (ct F0):=by
 intro f ds pre res h hp;unfold ct at h;split at h<;>cases h
 exact aU hp;exact ba hp
abbrev B :cD:=tb aj
end Ma0
theorem pS {n a l:Int}(hp:0<=n/\n<=1099511627776):ao 151 [.j n,.agg [.i a,.i l]] [.k (rngIn n a l)]:=by
 refine cb Ma0.B Tryz.func151 ?_
 exact LG
theorem um {n a l:Int}(hp:0<=n/\n<=1099511627776):ao 137 [.j n,.agg [.i a,.i l]] [.k (rngIn n a l)]:=by
 refine cb Ma0.B Tryz.func137 ?_
 exact LG
namespace Ma1
structure aO where
 inR:Int->Int->Int->Bool
 rngIn:Int->Int->Int->Bool
abbrev F0 :aO:=⟨inR,rngIn⟩
def ct (F:aO):CT:=fun f ds=>match f,ds with
 |87,[.one (.v (.int .i64 x)),.one (.v (.int .i64 a)),.one (.v (.int .i64 b))]=>some (fun _=>True,[.k (F.inR x a b)])
 |71,[.one (.v (.int .i64 x)),.one (.v (.int .i64 a)),.one (.v (.int .i64 b))]=>some (fun _=>True,[.k (F.inR x a b)])
 |151,[.one (.v (.int .i64 n)),.agg [.v (.int .i64 a),.v (.int .i64 l)]]=>some (fun _=>0<=n/\n<=1099511627776,[.k (F.rngIn n a l)])
 |137,[.one (.v (.int .i64 n)),.agg [.v (.int .i64 a),.v (.int .i64 l)]]=>some (fun _=>0<=n/\n<=1099511627776,[.k (F.rngIn n a l)])
 |_,_=>none
theorem aj :aR (ct F0):=by
 intro f ds pre res h hp;unfold ct at h;split at h<;>cases h
 exact aU hp;exact ba hp;exact pS hp;exact um hp
abbrev B :cD:=tb aj
end Ma1
theorem nR {n:Int}{rs:aa}(hp:0<=n/\n<=1099511627776/\Rw [tI,tI] rs/\rs.length<=1099511627776):ao 78 [.j n,.one (.s 2 rs)] [.k (rgOk n rs)]:=by
 obtain⟨n0,n1,hw,hl⟩:=hp;refine cb Ma1.B Tryz.func78 ?_
 intro O r F hO hr hF;cbv
 repeat' first|apply And.intro|(apply bi<;>intro hb<;>cbv)|(refine⟨[0,1,7,8,9],[],Int,fun i=>[.reg 9 (.j i)],fun i=>0<=i/\i<=((rs.length:Nat):Int)/\upto (oY n rs) i,fun i=>(rs.length)-i.toNat,⟨0,?_,?_⟩,?_⟩;rotate_left;(focus (cbv;done));intro i hi;replace hi:0<=i/\i<=((rs.length:Nat):Int)/\upto (oY n rs) i:=hi;obtain⟨i0,i1,i2⟩:=hi;cbv)|(refine ab (O.ar .add .i64 i 1) ?_ ?_ ?_;focus (cbv;done))
 all_goals exact Ly
theorem oR {n:Int}{rs:aa}(hp:0<=n/\n<=1099511627776/\Rw [tI,tI] rs/\rs.length<=1099511627776):ao 64 [.j n,.one (.s 2 rs)] [.k (rgOk n rs)]:=by
 obtain⟨n0,n1,hw,hl⟩:=hp;refine cb Ma1.B Tryz.func64 ?_
 intro O r F hO hr hF;cbv
 repeat' first|apply And.intro|(apply bi<;>intro hb<;>cbv)|(refine⟨[0,1,5],[],Int,fun i=>[.reg 5 (.j i)],fun i=>0<=i/\i<=((rs.length:Nat):Int)/\upto (oY n rs) i,fun i=>(rs.length)-i.toNat,⟨0,?_,?_⟩,?_⟩;rotate_left;(focus (cbv;done));intro i hi;replace hi:0<=i/\i<=((rs.length:Nat):Int)/\upto (oY n rs) i:=hi;obtain⟨i0,i1,i2⟩:=hi;cbv)|(refine ab (O.ar .add .i64 i 1) ?_ ?_ ?_;focus (cbv;done))
 all_goals exact Ly
theorem kQ {a l p:Int}(hp:True):ao 209 [.agg [.i a,.i l],.ptr [.i p]] [.k (rh1 a l p)]:=by
 refine cb nB Tryz.func209 ?_
 intro O r F hO hr hF;cbv
 repeat' first|apply And.intro|(apply bi<;>intro hb<;>cbv)
 all_goals(subst hO hr hF;(try simp only[nc]at*);(try simp only[ai,SS,sa,az]at*))
 all_goals first|(show(_:List DV)=_;refine ag ?_;unfold rh1;rw[decide_eq_true hb];rfl)|(show(_:List DV)=_;refine ag ?_;unfold rh1;rw[decide_eq_false (by omega)];rfl)|done
namespace Ma3
structure aO where
 rh1:Int->Int->Int->Bool
abbrev F0 :aO:=⟨rh1⟩
def ct (F:aO):CT:=fun f ds=>match f,ds with
 |209,[.agg [.v (.int .i64 a),.v (.int .i64 l)],.ptr [.v (.int .i64 p)]]=>some (fun _=>True,[.k (F.rh1 a l p)])
 |_,_=>none
theorem aj :aR (ct F0):=by
 intro f ds pre res h hp;unfold ct at h;split at h<;>cases h
 exact kQ hp
abbrev B :cD:=tb aj
end Ma3
theorem bK {os:aa}{id:Int}(hp:Rw [tI,tI] os/\os.length<=1099511627776):ao 237 [.one (.s 2 os),.fn 209 [[.i id]]] [.j (rhI os id)]:=by
 obtain⟨hw,hn⟩:=hp;refine cb Ma3.B Tryz.func237 ?_
 intro O r F hO hr hF;cbv
 repeat' first|apply And.intro|(apply bi<;>intro hb<;>cbv)|(refine⟨[0,1,7,8],[0],Int,fun i=>[.reg 8 (.j i)],fun i=>0<=i/\i<=((os.length:Nat):Int)/\upto (bY (lB os id)) i,fun i=>(os.length)-i.toNat,⟨0,?_,?_⟩,?_⟩;rotate_left;(focus (cbv;done));intro i hi;replace hi:0<=i/\i<=((os.length:Nat):Int)/\upto (bY (lB os id)) i:=hi;obtain⟨i0,i1,i2⟩:=hi;cbv)|(refine ab (O.ar .add .i64 i 1) ?_ ?_ ?_;focus (cbv;done))
 all_goals(subst hO hr hF;(try simp only[nc]at*);(try simp only[ai,SS,sa,az]at*);(try rw[cB (by omega) (by omega)]))
 all_goals first
  | (show(_:List DV)=_
     first
      |exact cr (cN i2 i0 (by assumption) (show lB os id i=true from by assumption)).symm
      |exact cr (cO i2 (by assumption)).symm
      |done)
  |omega
  |exact eZ
  |(show(lk _ _).isSome=true;kernel_rfl)
  |exact aY
  |exact aP i2 (fB (show lB os id i=false from by assumption))
  |done
namespace Ma4
structure aO where
 rhI:aa->Int->Int
abbrev F0 :aO:=⟨rhI⟩
def ct (F:aO):CT:=fun f ds=>match f,ds with
 |237,[.one (.s 2 os),.fn 209 [[.v (.int .i64 id)]]]=>some (fun _=>Rw [tI,tI] os/\os.length<=1099511627776,[.j (F.rhI os id)])
 |_,_=>none
theorem aj :aR (ct F0):=by
 intro f ds pre res h hp;unfold ct at h;split at h<;>cases h
 exact bK hp
abbrev B :cD:=tb aj
end Ma4
theorem bF {os:aa}{id:Int}(hp:Rw [tI,tI] os/\os.length<=1099511627776):ao 208 [.one (.s 2 os),.fn 209 [[.i id]]] [.k (rhB os id)]:=by
 refine cb Ma4.B Tryz.func208 ?_
 intro O r F hO hr hF;cbv
 repeat' first|apply And.intro|(apply bi<;>intro hb<;>cbv)
 all_goals(subst hO hr hF;(try simp only[nc]at*);(try simp only[ai,SS,sa,az]at*))
 all_goals first
  | (show(_:List DV)=_
     first
      |exact ag (dr (by unfold rhB;simp only[SS,decide_eq_true_eq]))
      |done)
  |exact hp
  |done
namespace Ma5
structure aO where
 rhB:aa->Int->Bool
abbrev F0 :aO:=⟨rhB⟩
def ct (F:aO):CT:=fun f ds=>match f,ds with
 |208,[.one (.s 2 os),.fn 209 [[.v (.int .i64 id)]]]=>some (fun _=>Rw [tI,tI] os/\os.length<=1099511627776,[.k (F.rhB os id)])
 |_,_=>none
theorem aj :aR (ct F0):=by
 intro f ds pre res h hp;unfold ct at h;split at h<;>cases h
 exact bF hp
abbrev B :cD:=tb aj
end Ma5
theorem nQ {os:aa}{id:Int}(hp:Rw [tI,tI] os/\os.length<=1099511627776):ao 157 [.one (.s 2 os),.j id] [.k (rhB os id)]:=by
 refine cb Ma5.B Tryz.func157 ?_
 exact LV
theorem oQ {os:aa}{id:Int}(hp:Rw [tI,tI] os/\os.length<=1099511627776):ao 141 [.one (.s 2 os),.j id] [.k (rhB os id)]:=by
 obtain⟨hw,hn⟩:=hp;refine cb nB Tryz.func141 ?_
 intro O r F hO hr hF;cbv
 repeat' first|apply And.intro|(apply bi<;>intro hb<;>cbv)|(refine⟨[0,1,5],[],Int,fun i=>[.reg 5 (.j i)],fun i=>0<=i/\i<=((os.length:Nat):Int)/\upto (bY (lB os id)) i,fun i=>(os.length)-i.toNat,⟨0,?_,?_⟩,?_⟩;rotate_left;(focus (cbv;done));intro i hi;replace hi:0<=i/\i<=((os.length:Nat):Int)/\upto (bY (lB os id)) i:=hi;obtain⟨i0,i1,i2⟩:=hi;cbv)|(refine ab (O.ar .add .i64 i 1) ?_ ?_ ?_;focus (cbv;done))
 all_goals(subst hO hr hF;(try simp only[nc]at*);(try simp only[ai,SS,sa,az]at*);(try rw[cB (by omega) (by omega)]))
 all_goals first
  | (show(_:List DV)=_
     first
      |(refine ag ?_;symm;exact Ie i2 i0 (by assumption) (by assumption) (by assumption))
      |(refine ag ?_;symm;exact Lb i2 (by omega))
      |done)
  |omega
  |exact eZ
  |(show bz _ _=true;kernel_rfl)
  |exact aY
  |exact aP i2 (K9 (by omega))
  |exact aP i2 (La (by omega))
  |done
namespace Ma6
structure aO where
 spOk:Int->Int->Int->Bool
abbrev F0 :aO:=⟨spOk⟩
def ct (F:aO):CT:=fun f ds=>match f,ds with
 |153,[.agg [.v (.int .i64 p),.v (.int .i64 k),.v (.int .i64 b)]]=>some (fun _=>True,[.k (F.spOk p k b)])
 |138,[.agg [.v (.int .i64 p),.v (.int .i64 k),.v (.int .i64 b)]]=>some (fun _=>True,[.k (F.spOk p k b)])
 |_,_=>none
theorem aj :aR (ct F0):=by
 intro f ds pre res h hp;unfold ct at h;split at h<;>cases h
 exact f8 hp;exact gd hp
abbrev B :cD:=tb aj
end Ma6
theorem nO {p1 k1 b1 p2 k2 b2:Int}(hp:True):ao 159 [.agg [.i p1,.i k1,.i b1],.agg [.i p2,.i k2,.i b2]] [.k (mshB p1 k1 b1 p2 k2 b2)]:=by
 refine cb Ma6.B Tryz.func159 ?_
 exact LK
theorem oO {p1 k1 b1 p2 k2 b2:Int}(hp:True):ao 142 [.agg [.i p1,.i k1,.i b1],.agg [.i p2,.i k2,.i b2]] [.k (mshB p1 k1 b1 p2 k2 b2)]:=by
 refine cb Ma6.B Tryz.func142 ?_
 exact LK
namespace Ma7
structure aO where
 clsSz:Int->Int
abbrev F0 :aO:=⟨clsSz⟩
def ct (F:aO):CT:=fun f ds=>match f,ds with
 |163,[.one (.v (.int .i64 k))]=>some (fun _=>True,[.j (F.clsSz k)])
 |146,[.one (.v (.int .i64 k))]=>some (fun _=>True,[.j (F.clsSz k)])
 |_,_=>none
theorem aj :aR (ct F0):=by
 intro f ds pre res h hp;unfold ct at h;split at h<;>cases h
 exact cZ hp;exact eu hp
abbrev B :cD:=tb aj
end Ma7
theorem mf {qs:aa}(hp:Rw [tI,tI,tI] qs/\qs.length<=1073741824):ao 161 [.one (.s 3 qs)] [.j (qcI qs)]:=by
 obtain⟨hw,hl⟩:=hp;refine cb Ma7.B Tryz.func161 ?_
 intro O r F hO hr hF;cbv
 repeat' first|apply And.intro|(apply bi<;>intro hb<;>cbv)|(refine⟨[3,6,7,8],[],Int×Int,fun s_=>match s_ with|(i,t)=>[.reg 8 (.j i),.reg 3 (.j t)],fun s_=>match s_ with|(i,t)=>0<=i/\i<=(qs.length:Int)/\Dw qs i t,fun s_=>match s_ with|(i,t)=>qs.length-i.toNat,⟨(0,0),?_,?_⟩,?_⟩;rotate_left;(focus (cbv;done));intro s_ hi;obtain⟨i,t⟩:=s_;replace hi:0<=i/\i<=(qs.length:Int)/\Dw qs i t:=hi;obtain⟨i0,i1,i2⟩:=hi;cbv)|(refine ab (O.ar .add .i64 i 1,O.ar .add .i64 t (F.clsSz (O.gi qs i 1))) ?_ ?_ ?_;focus (cbv;done))
 all_goals exact LF
theorem oS {qs:aa}(hp:Rw [tI,tI,tI] qs/\qs.length<=1073741824):ao 145 [.one (.s 3 qs)] [.j (qcI qs)]:=by
 obtain⟨hw,hl⟩:=hp;refine cb Ma7.B Tryz.func145 ?_
 intro O r F hO hr hF;cbv
 repeat' first|apply And.intro|(apply bi<;>intro hb<;>cbv)|(refine⟨[0,3,4],[],Int×Int,fun s_=>match s_ with|(i,t)=>[.reg 4 (.j i),.reg 3 (.j t)],fun s_=>match s_ with|(i,t)=>0<=i/\i<=(qs.length:Int)/\Dw qs i t,fun s_=>match s_ with|(i,t)=>qs.length-i.toNat,⟨(0,0),?_,?_⟩,?_⟩;rotate_left;(focus (cbv;done));intro s_ hi;obtain⟨i,t⟩:=s_;replace hi:0<=i/\i<=(qs.length:Int)/\Dw qs i t:=hi;obtain⟨i0,i1,i2⟩:=hi;cbv)|(refine ab (O.ar .add .i64 i 1,O.ar .add .i64 t (F.clsSz (O.gi qs i 1))) ?_ ?_ ?_;focus (cbv;done))
 all_goals exact LF
namespace Ma8
structure aO where
 inR:Int->Int->Int->Bool
 qtB:aa->Int->Bool
abbrev F0 :aO:=⟨inR,qtB⟩
def ct (F:aO):CT:=fun f ds=>match f,ds with
 |162,[.one (.v (.int .i64 k))]=>some (fun _=>True,[.k (F.inR k 0 3)])
 |119,[.one (.s 3 os),.one (.v (.int .i64 id))]=>some (fun _=>Rw [tI,tI,tI] os/\os.length<=1099511627776,[.k (F.qtB os id)])
 |71,[.one (.v (.int .i64 x)),.one (.v (.int .i64 a)),.one (.v (.int .i64 b))]=>some (fun _=>True,[.k (F.inR x a b)])
 |_,_=>none
theorem aj :aR (ct F0):=by
 intro f ds pre res h hp;unfold ct at h;split at h<;>cases h
 exact dt hp;exact iq hp;exact ba hp
abbrev B :cD:=tb aj
end Ma8
theorem pT {b:aa}{a c s:Int}(hp:Rw [tI,tI,tI] b/\b.length<=1073741824):ao 160 [.one (.s 3 b),.agg [.i a,.i c,.i s]] [.k (stlOk b a c s)]:=by
 obtain⟨hw,hl⟩:=hp;have hs:bP .sub .i64 (b.length:Int) 1=b.length-1:=cR (by omega);refine cb Ma8.B Tryz.func160 ?_
 intro O r F hO hr hF;cbv
 repeat' first|apply And.intro|(apply bi<;>intro hb<;>cbv)
 all_goals(subst hO hr hF;(try simp only[nc]at*);(try simp only[ai,SS,sa,az]at*);(try simp only[hs]at*))
 all_goals first|exact eZ|(show bz _ _=true;kernel_rfl)|exact⟨hw,by omega⟩|(show(_:List DV)=_;refine ag ?_;unfold stlOk;simp[*,cp];done)|(show(_:List DV)=_;refine ag ?_;unfold stlOk;rw[decide_eq_false (p:=0<=a) (by omega)];simp;done)|(show(_:List DV)=_;refine ag ?_;unfold stlOk;rw[decide_eq_false (p:=0<=s) (by omega)];simp;done)|(show(_:List DV)=_;refine ag ?_;unfold stlOk;rw[decide_eq_false (p:=b.length=0) (by omega)];simp[*,cp];done)|(show(_:List DV)=_;refine ag ?_;unfold stlOk;simp_all;done)|done
theorem sR {a c s:Int}(hp:True):ao 143 [.agg [.i a,.i c,.i s]] [.k (staB a c s)]:=by
 refine cb Ma8.B Tryz.func143 ?_
 intro O r F hO hr hF;cbv
 repeat' first|apply And.intro|(apply bi<;>intro hb<;>cbv)
 all_goals(subst hO hr hF;(try simp only[nc]at*);(try simp only[ai,SS,sa,az]at*))
 all_goals first|(show(_:List DV)=_;refine ag ?_;unfold staB;simp[*,cp];done)|(show(_:List DV)=_;refine ag ?_;unfold staB;rw[decide_eq_false (p:=0<=a) (by omega)];simp;done)|done
namespace Ma9
structure aO where
 inR:Int->Int->Int->Bool
 stlOk:aa->Int->Int->Int->Bool
 qcI:aa->Int
 staB:Int->Int->Int->Bool
 qtB:aa->Int->Bool
abbrev F0 :aO:=⟨inR,stlOk,qcI,staB,qtB⟩
def ct (F:aO):CT:=fun f ds=>match f,ds with
 |87,[.one (.v (.int .i64 x)),.one (.v (.int .i64 a)),.one (.v (.int .i64 b))]=>some (fun _=>True,[.k (F.inR x a b)])
 |160,[.one (.s 3 b),.agg [.v (.int .i64 a),.v (.int .i64 c),.v (.int .i64 s)]]=>some (fun _=>Rw [tI,tI,tI] b/\b.length<=1073741824,[.k (F.stlOk b a c s)])
 |161,[.one (.s 3 qs)]=>some (fun _=>Rw [tI,tI,tI] qs/\qs.length<=1073741824,[.j (F.qcI qs)])
 |71,[.one (.v (.int .i64 x)),.one (.v (.int .i64 a)),.one (.v (.int .i64 b))]=>some (fun _=>True,[.k (F.inR x a b)])
 |143,[.agg [.v (.int .i64 a),.v (.int .i64 c),.v (.int .i64 s)]]=>some (fun _=>True,[.k (F.staB a c s)])
 |144,[.agg [.v (.int .i64 rm),.s 3 os],.one (.v (.int .i64 id))]=>some (fun _=>Rw [tI,tI,tI] os/\os.length<=1099511627776,[.k (F.qtB os id)])
 |145,[.one (.s 3 qs)]=>some (fun _=>Rw [tI,tI,tI] qs/\qs.length<=1073741824,[.j (F.qcI qs)])
 |_,_=>none
theorem aj :aR (ct F0):=by
 intro f ds pre res h hp;unfold ct at h;split at h<;>cases h
 exact aU hp;exact pT hp;exact mf hp;exact ba hp;exact sR hp;exact qB hp;exact oS hp
abbrev B :cD:=tb aj
end Ma9
theorem sf {rm:Int}{qs:aa}(hp:Rw [tI,tI,tI] qs/\qs.length<=1073741824):ao 82 [.agg [.i rm,.s 3 qs]] [.k (quarOk rm qs)]:=by
 obtain⟨hw,hl⟩:=hp;refine cb Ma9.B Tryz.func82 ?_
 intro O r F hO hr hF;cbv
 repeat' first|apply And.intro|(apply bi<;>intro hb<;>cbv)|(refine⟨[1,6,7,8],[1],Int,fun i=>[.reg 8 (.j i)],fun i=>0<=i/\i<=((qs.length:Nat):Int)/\upto (wB qs) i,fun i=>(qs.length)-i.toNat,⟨0,?_,?_⟩,?_⟩;rotate_left;(focus (cbv;done));intro i hi;replace hi:0<=i/\i<=((qs.length:Nat):Int)/\upto (wB qs) i:=hi;obtain⟨i0,i1,i2⟩:=hi;cbv)|(refine ab (O.ar .add .i64 i 1) ?_ ?_ ?_;focus (cbv;done))
 all_goals(subst hO hr hF;(try simp only[nc]at*);(try simp only[ai,SS,sa,az]at*);(try rw[cB (by omega) (by omega)]);(try simp only[rN]at*))
 all_goals first
  | (show(_:List DV)=_
     first
      |(refine ag ?_;symm;exact zB i0 (by assumption) (by assumption))
      |(refine ag ?_;rw[CI i2 (by omega)];simp[*,cp];done)
      |done)
  |omega
  |exact eZ
  |(show bz _ _=true;kernel_rfl)
  |exact⟨hw,hl⟩
  |exact⟨Rw.take hw _,by rw[List.length_take];omega⟩
  |exact aY
  |exact aP i2 (by assumption)
  |done
theorem sO {rm:Int}{qs:aa}(hp:Rw [tI,tI,tI] qs/\qs.length<=1073741824):ao 69 [.agg [.i rm,.s 3 qs]] [.k (quarOk rm qs)]:=by
 obtain⟨hw,hl⟩:=hp;refine cb Ma9.B Tryz.func69 ?_
 intro O r F hO hr hF;cbv
 repeat' first|apply And.intro|(apply bi<;>intro hb<;>cbv)|(refine⟨[1,3],[1],Int,fun i=>[.reg 3 (.j i)],fun i=>0<=i/\i<=((qs.length:Nat):Int)/\upto (wB qs) i,fun i=>(qs.length)-i.toNat,⟨0,?_,?_⟩,?_⟩;rotate_left;(focus (cbv;done));intro i hi;replace hi:0<=i/\i<=((qs.length:Nat):Int)/\upto (wB qs) i:=hi;obtain⟨i0,i1,i2⟩:=hi;cbv)|(refine ab (O.ar .add .i64 i 1) ?_ ?_ ?_;focus (cbv;done))
 all_goals(subst hO hr hF;(try simp only[nc]at*);(try simp only[ai,SS,sa,az]at*);(try rw[cB (by omega) (by omega)]);(try simp only[rN]at*);(try have z:=sY i0 (by omega));(try simp only[z]at*))
 all_goals first
  | (show(_:List DV)=_
     first
      |(refine ag ?_;symm;exact zB i0 (by assumption) (KW (by assumption)))
      |(refine ag ?_;symm;exact zB i0 (by assumption) (KX (by omega) (by assumption) (by assumption)))
      |(refine ag ?_;symm;exact zB i0 (by assumption) (KY (by assumption)))
      |(refine ag ?_;rw[CI i2 (by omega)];simp[*,cp];done)
      |(have q:false=true:=(by assumption);cases q)
      |done)
  |omega
  |exact eZ
  |(show bz _ _=true;kernel_rfl)
  |exact⟨hw,hl⟩
  |exact⟨Rw.take hw _,by rw[List.length_take];omega⟩
  |exact aY
  |exact aP i2 (KZ (by assumption) (by assumption) i0 (by omega))
  |exact aP i2 (K0 (by assumption) (by assumption) (by omega) (by assumption) (by assumption))
  |done
theorem sj {c:Int}(hp:True):ao 213 [.j c] [.k (inR c 0 15)]:=by
 refine cb Ma0.B Tryz.func213 ?_
 exact LW
theorem so {c:Int}(hp:True):ao 86 [.j c] [.k (inR c 0 1073741823)]:=by
 refine cb Ma0.B Tryz.func86 ?_
 exact LW
namespace Mb1
structure aO where
 inR:Int->Int->Int->Bool
abbrev F0 :aO:=⟨inR⟩
def ct (F:aO):CT:=fun f ds=>match f,ds with
 |87,[.one (.v (.int .i64 x)),.one (.v (.int .i64 a)),.one (.v (.int .i64 b))]=>some (fun _=>True,[.k (F.inR x a b)])
 |213,[.one (.v (.int .i64 c))]=>some (fun _=>True,[.k (F.inR c 0 15)])
 |71,[.one (.v (.int .i64 x)),.one (.v (.int .i64 a)),.one (.v (.int .i64 b))]=>some (fun _=>True,[.k (F.inR x a b)])
 |_,_=>none
theorem aj :aR (ct F0):=by
 intro f ds pre res h hp;unfold ct at h;split at h<;>cases h
 exact aU hp;exact sj hp;exact ba hp
abbrev B :cD:=tb aj
end Mb1
theorem se {k m:Int}{cs:aa}(hp:Rw [tI] cs/\cs.length<=1099511627776):ao 169 [.agg [.i k,.i m,.s 1 cs]] [.k (plOk k m cs)]:=by
 obtain⟨hw,hl⟩:=hp;refine cb Mb1.B Tryz.func169 ?_
 intro O r F hO hr hF;cbv
 repeat' first|apply And.intro|(apply bi<;>intro hb<;>cbv)|(refine⟨[1,6,7,8],[1],Int,fun i=>[.reg 8 (.j i)],fun i=>0<=i/\i<=((cs.length:Nat):Int)/\upto (AF cs) i,fun i=>(cs.length)-i.toNat,⟨0,?_,?_⟩,?_⟩;rotate_left;(focus (cbv;done));intro i hi;replace hi:0<=i/\i<=((cs.length:Nat):Int)/\upto (AF cs) i:=hi;obtain⟨i0,i1,i2⟩:=hi;cbv)|(refine ab (O.ar .add .i64 i 1) ?_ ?_ ?_;focus (cbv;done))
 all_goals(subst hO hr hF;(try simp only[nc]at*);(try simp only[ai,SS,sa,az]at*);(try rw[cB (by omega) (by omega)]);(try have z:=sY i0 (by omega));(try simp only[z]at*))
 all_goals first
  | (show(_:List DV)=_
     first
      |(refine ag ?_;symm;exact CC i0 (by assumption) (by assumption))
      |(refine ag ?_;symm;exact CE i0 (by assumption) (by omega) (by assumption))
      |(refine ag ?_;rw[u7 i2 (by omega)];simp[*,cp];done)
      |(refine ag ?_;rw[u7 i2 (by omega),uu];simp[*];done)
      |(have q:false=true:=(by assumption);cases q)
      |done)
  |omega
  |exact eZ
  |exact aY
  |exact aP i2 (zw (by assumption) (by omega))
  |exact aP i2 (zx (by assumption) (by assumption))
  |done
theorem sN {k m:Int}{cs:aa}(hp:Rw [tI] cs/\cs.length<=1099511627776):ao 149 [.agg [.i k,.i m,.s 1 cs]] [.k (plOk k m cs)]:=by
 obtain⟨hw,hl⟩:=hp;refine cb Mb1.B Tryz.func149 ?_
 intro O r F hO hr hF;cbv
 repeat' first|apply And.intro|(apply bi<;>intro hb<;>cbv)|(refine⟨[1,3],[1],Int,fun i=>[.reg 3 (.j i)],fun i=>0<=i/\i<=((cs.length:Nat):Int)/\upto (AF cs) i,fun i=>(cs.length)-i.toNat,⟨0,?_,?_⟩,?_⟩;rotate_left;(focus (cbv;done));intro i hi;replace hi:0<=i/\i<=((cs.length:Nat):Int)/\upto (AF cs) i:=hi;obtain⟨i0,i1,i2⟩:=hi;cbv)|(refine ab (O.ar .add .i64 i 1) ?_ ?_ ?_;focus (cbv;done))
 all_goals(subst hO hr hF;(try simp only[nc]at*);(try simp only[ai,SS,sa,az]at*);(try rw[cB (by omega) (by omega)]);(try have z:=sY i0 (by omega));(try simp only[z]at*))
 all_goals first
  | (show(_:List DV)=_
     first
      |(refine ag ?_;symm;exact CC i0 (by assumption) (by assumption))
      |(refine ag ?_;symm;exact CE i0 (by assumption) (by omega) (by assumption))
      |(refine ag ?_;rw[u7 i2 (by omega)];simp[*,cp];done)
      |(refine ag ?_;rw[u7 i2 (by omega),uu];simp[*];done)
      |(have q:false=true:=(by assumption);cases q)
      |done)
  |omega
  |exact eZ
  |(show bz _ _=true;kernel_rfl)
  |exact aY
  |exact aP i2 (zw (by assumption) (by omega))
  |exact aP i2 (zx (by assumption) (by assumption))
  |done
namespace Mb2
structure aO where
 plOk:Int->Int->aa->Bool
 inR:Int->Int->Int->Bool
abbrev F0 :aO:=⟨plOk,inR⟩
def ct (F:aO):CT:=fun f ds=>match f,ds with
 |169,[.agg [.v (.int .i64 k),.v (.int .i64 m),.s 1 cs]]=>some (fun _=>Rw [tI] cs/\cs.length<=1099511627776,[.k (F.plOk k m cs)])
 |87,[.one (.v (.int .i64 x)),.one (.v (.int .i64 a)),.one (.v (.int .i64 b))]=>some (fun _=>True,[.k (F.inR x a b)])
 |149,[.agg [.v (.int .i64 k),.v (.int .i64 m),.s 1 cs]]=>some (fun _=>Rw [tI] cs/\cs.length<=1099511627776,[.k (F.plOk k m cs)])
 |71,[.one (.v (.int .i64 x)),.one (.v (.int .i64 a)),.one (.v (.int .i64 b))]=>some (fun _=>True,[.k (F.inR x a b)])
 |_,_=>none
theorem aj :aR (ct F0):=by
 intro f ds pre res h hp;unfold ct at h;split at h<;>cases h
 exact se hp;exact aU hp;exact sN hp;exact ba hp
abbrev B :cD:=tb aj
end Mb2
theorem ua {k m:Int}{cs:aa}{ph nx:Int}(hp:Rw [tI] cs/\cs.length<=1099511627776):ao 88 [.agg [.i k,.i m,.s 1 cs,.i ph,.i nx]] [.k (jbOk k m cs ph nx)]:=by
 refine cb Mb2.B Tryz.func88 ?_
 exact LS
theorem uk {k m:Int}{cs:aa}{ph nx:Int}(hp:Rw [tI] cs/\cs.length<=1099511627776):ao 75 [.agg [.i k,.i m,.s 1 cs,.i ph,.i nx]] [.k (jbOk k m cs ph nx)]:=by
 refine cb Mb2.B Tryz.func75 ?_
 exact LS
namespace Mb3
structure aO where
 inR:Int->Int->Int->Bool
 clsSz:Int->Int
 hasB:aa->Int->Bool
abbrev F0 :aO:=⟨inR,clsSz,hasB⟩
def ct (F:aO):CT:=fun f ds=>match f,ds with
 |162,[.one (.v (.int .i64 k))]=>some (fun _=>True,[.k (F.inR k 0 3)])
 |87,[.one (.v (.int .i64 x)),.one (.v (.int .i64 a)),.one (.v (.int .i64 b))]=>some (fun _=>True,[.k (F.inR x a b)])
 |163,[.one (.v (.int .i64 k))]=>some (fun _=>True,[.j (F.clsSz k)])
 |71,[.one (.v (.int .i64 x)),.one (.v (.int .i64 a)),.one (.v (.int .i64 b))]=>some (fun _=>True,[.k (F.inR x a b)])
 |146,[.one (.v (.int .i64 k))]=>some (fun _=>True,[.j (F.clsSz k)])
 |27,[.one (.s 1 l),.one (.v (.int .i64 x))]=>some (fun _=>Rw [tI] l,[.k (F.hasB l x)])
 |_,_=>none
theorem aj :aR (ct F0):=by
 intro f ds pre res h hp;unfold ct at h;split at h<;>cases h
 exact dt hp;exact aU hp;exact cZ hp;exact ba hp;exact eu hp;exact dO hp
abbrev B :cD:=tb aj
end Mb3
theorem qx {ls:aa}(hp:xg ls):ao 70 [.agg [.s 1 ls]] [.k (caOk ls)]:=by
 have hw:=hp.w;have hl:=hp.l;have hn:=hp.n;refine cb Mb3.B Tryz.func70 ?_
 intro O r F hO hr hF;cbv
 repeat' first|apply And.intro|(apply bi<;>intro hb<;>cbv)|(refine⟨[1,3,4],[1,3],Int×aa,fun s_=>match s_ with|(i,o)=>[.reg 4 (.j i),.reg 3 (.one (.vw 3 0 0 0 (O.ln o))),.leaf 3 0 ⟨0,0,none,.own (.s 1 o)⟩],fun s_=>match s_ with|(i,o)=>0<=i/\i<=4/\I1 ls i o,fun s_=>match s_ with|(i,o)=>(4-i).toNat,⟨(0,[]),?_,?_⟩,?_⟩;rotate_left;(focus (cbv;done));intro s_ hi;obtain⟨i,o⟩:=s_;replace hi:0<=i/\i<=4/\I1 ls i o:=hi;obtain⟨i0,i1,i2⟩:=hi;cbv)|(refine⟨[1,3,4,5],[1,3],Int×aa,fun s_=>match s_ with|(k,o1)=>[.reg 5 (.j k),.reg 3 (.one (.vw 3 0 0 0 (O.ln o1))),.leaf 3 0 ⟨0,0,none,.own (.s 1 o1)⟩],fun s_=>match s_ with|(k,o1)=>0<=k/\k<=((ax ls i 0).length:Int)/\E3 ls i k o1,fun s_=>match s_ with|(k,o1)=>(ax ls i 0).length-k.toNat,⟨(0,o),?_,?_⟩,?_⟩;rotate_left;(focus (cbv;done));intro s_ hk;obtain⟨k,o1⟩:=s_;replace hk:0<=k/\k<=((ax ls i 0).length:Int)/\E3 ls i k o1:=hk;obtain⟨k0,k1,k2⟩:=hk;cbv)|(refine ab (O.ar .add .i64 k 1,O.cat o1 (O.sub [[.i (O.gi (O.gs ls i 0) k 0)]] 0 (O.ln [[.i (O.gi (O.gs ls i 0) k 0)]]))) ?_ ?_ ?_;focus (cbv;done))|(refine ab (O.ar .add .i64 i 1,o1) ?_ ?_ ?_;focus (cbv;done))
 all_goals(subst hO hr hF;(try simp only[nc]at*);(try simp only[ai,SS,sa,az]at*);(try rw[cB (by omega) (by omega)]);(try have z6:bP .add .i64 k 1=k+1:=bC (by have:=hn i;omega));(try simp only[z6]at*);(try have w1:=Ik k2 k0);(try have w2:=hp.el i0 (by omega));(try have w3:=w2.1))
 all_goals first
  | (show(_:List DV)=_
     first
      |(refine ag ?_;symm;exact uo (by assumption))
      |(refine ag ?_;symm;exact A3 i0 (by omega) (by omega))
      |(refine ag ?_;symm;exact uq i0 (by omega) k0 (by assumption) (Fc (by assumption)))
      |(refine ag ?_;symm;exact uq i0 (by omega) k0 (by assumption) (Fe (by assumption)))
      |(refine ag ?_;symm;exact Ij k2 i0 k0 (by assumption) (by assumption))
      |(refine ag ?_;symm;exact A4 i2.p (by omega) (by omega))
      |done)
  |omega
  |exact eZ
  |exact w1.2
  |(constructor<;>(simp only[List.length_cons,List.length_nil];omega))
  |(have c:=(fu (bW.2 (by omega:0<=i/\i<=3))).1;omega)
  |exact Lp k2 k0 (by assumption) (by assumption) (by assumption)
  |exact Lo k2 i0 k1 (by omega)
  |exact Nx i2 i0 (by omega) (by omega)
  |exact Nw
  |exact⟨True.intro,True.intro⟩
  |done
theorem pL {ls:aa}(hp:xg ls):ao 83 [.agg [.s 1 ls]] [.k (caOk ls)]:=by
 have hw:=hp.w;have hl:=hp.l;have hn:=hp.n;refine cb Mb3.B Tryz.func83 ?_
 intro O r F hO hr hF;cbv
 repeat' first|apply And.intro|(apply bi<;>intro hb<;>cbv)|(refine⟨[1,3,10,11,12],[1,8],Int×aa,fun s_=>match s_ with|(i,es)=>[.reg 12 (.j i),.leaf 8 0 ⟨0,0,none,.own (.m true es)⟩],fun s_=>match s_ with|(i,es)=>0<=i/\i<=(ls.length:Int)/\xm ls i es,fun s_=>match s_ with|(i,es)=>ls.length-i.toNat,⟨(0,[]),?_,?_⟩,?_⟩;rotate_left;(focus (cbv;done));intro s_ hi;obtain⟨i,es⟩:=s_;replace hi:0<=i/\i<=(ls.length:Int)/\xm ls i es:=hi;obtain⟨i0,i1,i2⟩:=hi;cbv)|(refine⟨[1,3,4,10,11,12,25,26,27],[1,8],Int×aa,fun s_=>match s_ with|(k,es1)=>[.reg 27 (.j k),.leaf 8 0 ⟨0,0,none,.own (.m true es1)⟩],fun s_=>match s_ with|(k,es1)=>0<=k/\k<=((ax ls i 0).length:Int)/\xo ls i k es1,fun s_=>match s_ with|(k,es1)=>(ax ls i 0).length-k.toNat,⟨(0,es),?_,?_⟩,?_⟩;rotate_left;(focus (cbv;done));intro s_ hk;obtain⟨k,es1⟩:=s_;replace hk:0<=k/\k<=((ax ls i 0).length:Int)/\xo ls i k es1:=hk;obtain⟨k0,k1,k2⟩:=hk;cbv)|(refine ab (O.ar .add .i64 k 1,O.mu es1 (O.gi (O.gs ls i 0) k 0) (.v (.bool true))) ?_ ?_ ?_;focus (cbv;done))|(refine ab (O.ar .add .i64 i 1,es1) ?_ ?_ ?_;focus (cbv;done))
 all_goals(subst hO hr hF;(try simp only[nc]at*);(try simp only[ai,SS,sa,az]at*);(try rw[cB (by omega) (by omega)]);(try have z6:bP .add .i64 k 1=k+1:=bC (by have:=hn i;omega));(try simp only[z6]at*);(try have w2:=hp.el i0 (by omega));(try have w3:=w2.1);(try have w4:=k2.p.l))
 all_goals first
  | (show(_:List DV)=_
     first
      |(refine ag ?_;exact GL i2.p i1 (by omega))
      |(refine ag ?_;symm;exact D5 i2 i0 (by omega) (by assumption))
      |(refine ag ?_;symm;exact D6 i2 i0 (by assumption) (by assumption))
      |(refine ag ?_;symm;exact uq i0 (by omega) k0 (by assumption) (Fc (by assumption)))
      |(refine ag ?_;symm;exact uq i0 (by omega) k0 (by assumption) (Fe (by assumption)))
      |(refine ag ?_;symm;exact D7 k2 i0 k0 (by assumption) (by assumption))
      |done)
  |omega
  |exact eZ
  |(have c:=(fu (bW.2 (by omega:0<=i/\i<=3))).1;omega)
  |exact Hm k2 k0 (by assumption) (by assumption) (by assumption)
  |exact Hl k2 i0 k1 (by omega)
  |exact JQ i2 i0 (by assumption) (by omega)
  |exact JP
  |done
end Go.V