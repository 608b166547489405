/- Contracts. -/
import Derived.Test.YtllcfbgmhgodhaaGreatLayLr
set_option linter.all false
namespace Go.V
open Go Go.Proofs
set_option maxRecDepth 1000000
set_option maxHeartbeats 8000000
namespace Ma0
structure aQ where
 inR:Int->Int->Int->Bool
abbrev F0 :aQ:=⟨inR⟩
def ct (F:aQ):CT:=fun f ds=>match f,ds with
 |105,[.one (.v (.int .i64 x)),.one (.v (.int .i64 a)),.one (.v (.int .i64 b))]=>some (fun _=>True,[.k (F.inR x a b)])
 |103,[.one (.v (.int .i64 x)),.one (.v (.int .i64 a)),.one (.v (.int .i64 b))]=>some (fun _=>True,[.k (F.inR x a b)])
 |_,_=>none
theorem ai :aS (ct F0):=by
 intro f ds pre res h hp;unfold ct at h;split at h<;>cases h
 exact aZ hp;exact bg hp
abbrev B :cy:=tb ai
end Ma0
theorem ky {n a l:Int}(hp:0<=n/\n<=1099511627776):au 257 [.j n,.agg [.i a,.i l]] [.k (rngIn n a l)]:=by
 refine cb Ma0.B Tryz.func257 ?_
 exact SP
theorem jq {n a l:Int}(hp:0<=n/\n<=1099511627776):au 234 [.j n,.agg [.i a,.i l]] [.k (rngIn n a l)]:=by
 refine cb Ma0.B Tryz.func234 ?_
 exact SP
namespace Ma1
structure aQ where
 inR:Int->Int->Int->Bool
 rngIn:Int->Int->Int->Bool
abbrev F0 :aQ:=⟨inR,rngIn⟩
def ct (F:aQ):CT:=fun f ds=>match f,ds with
 |105,[.one (.v (.int .i64 x)),.one (.v (.int .i64 a)),.one (.v (.int .i64 b))]=>some (fun _=>True,[.k (F.inR x a b)])
 |103,[.one (.v (.int .i64 x)),.one (.v (.int .i64 a)),.one (.v (.int .i64 b))]=>some (fun _=>True,[.k (F.inR x a b)])
 |257,[.one (.v (.int .i64 n)),.agg [.v (.int .i64 a),.v (.int .i64 l)]]=>some (fun _=>0<=n/\n<=1099511627776,[.k (F.rngIn n a l)])
 |234,[.one (.v (.int .i64 n)),.agg [.v (.int .i64 a),.v (.int .i64 l)]]=>some (fun _=>0<=n/\n<=1099511627776,[.k (F.rngIn n a l)])
 |_,_=>none
theorem ai :aS (ct F0):=by
 intro f ds pre res h hp;unfold ct at h;split at h<;>cases h
 exact aZ hp;exact bg hp;exact ky hp;exact jq hp
abbrev B :cy:=tb ai
end Ma1
theorem jX {n:Int}{rs:aa}(hp:0<=n/\n<=1099511627776/\Rw [tI,tI] rs/\rs.length<=1099511627776):au 154 [.j n,.one (.s 2 rs)] [.k (rgOk n rs)]:=by
 obtain⟨n0,n1,hw,hl⟩:=hp;refine cb Ma1.B Tryz.func154 ?_
 intro O r F hO hr hF;cbv
 repeat' first|apply And.intro|(apply be<;>intro hb<;>cbv)|(refine⟨[0,1,7,8,9],[],Int,fun i=>[.reg 9 (.j i)],fun i=>0<=i/\i<=((rs.length:Nat):Int)/\upto (pP n rs) i,fun i=>(rs.length)-i.toNat,⟨0,?_,?_⟩,?_⟩;rotate_left;(focus (cbv;done));intro i hi;replace hi:0<=i/\i<=((rs.length:Nat):Int)/\upto (pP n rs) i:=hi;obtain⟨i0,i1,i2⟩:=hi;cbv)|(refine ab (O.ar .add .i64 i 1) ?_ ?_ ?_;focus (cbv;done))
 all_goals exact SF
theorem f9 {n:Int}{rs:aa}(hp:0<=n/\n<=1099511627776/\Rw [tI,tI] rs/\rs.length<=1099511627776):au 123 [.j n,.one (.s 2 rs)] [.k (rgOk n rs)]:=by
 obtain⟨n0,n1,hw,hl⟩:=hp;refine cb Ma1.B Tryz.func123 ?_
 intro O r F hO hr hF;cbv
 repeat' first|apply And.intro|(apply be<;>intro hb<;>cbv)|(refine⟨[0,1,5],[],Int,fun i=>[.reg 5 (.j i)],fun i=>0<=i/\i<=((rs.length:Nat):Int)/\upto (pP n rs) i,fun i=>(rs.length)-i.toNat,⟨0,?_,?_⟩,?_⟩;rotate_left;(focus (cbv;done));intro i hi;replace hi:0<=i/\i<=((rs.length:Nat):Int)/\upto (pP n rs) i:=hi;obtain⟨i0,i1,i2⟩:=hi;cbv)|(refine ab (O.ar .add .i64 i 1) ?_ ?_ ?_;focus (cbv;done))
 all_goals exact SF
theorem mV {a l p:Int}(hp:True):au 334 [.agg [.i a,.i l],.ptr [.i p]] [.k (rh1 a l p)]:=by
 refine cb nB Tryz.func334 ?_
 intro O r F hO hr hF;cbv
 repeat' first|apply And.intro|(apply be<;>intro hb<;>cbv)
 all_goals(subst hO hr hF;(try simp only[nc]at*);(try simp only[aj,SS,sa,az]at*))
 all_goals first|(show(_:List DV)=_;refine ak ?_;unfold rh1;rw[decide_eq_true hb];rfl)|(show(_:List DV)=_;refine ak ?_;unfold rh1;rw[decide_eq_false (by omega)];rfl)|done
namespace Ma3
structure aQ where
 rh1:Int->Int->Int->Bool
abbrev F0 :aQ:=⟨rh1⟩
def ct (F:aQ):CT:=fun f ds=>match f,ds with
 |334,[.agg [.v (.int .i64 a),.v (.int .i64 l)],.ptr [.v (.int .i64 p)]]=>some (fun _=>True,[.k (F.rh1 a l p)])
 |_,_=>none
theorem ai :aS (ct F0):=by
 intro f ds pre res h hp;unfold ct at h;split at h<;>cases h
 exact mV hp
abbrev B :cy:=tb ai
end Ma3
theorem bU {os:aa}{id:Int}(hp:Rw [tI,tI] os/\os.length<=1099511627776):au 355 [.one (.s 2 os),.fn 334 [[.i id]]] [.j (rhI os id)]:=by
 obtain⟨hw,hn⟩:=hp;refine cb Ma3.B Tryz.func355 ?_
 intro O r F hO hr hF;cbv
 repeat' first|apply And.intro|(apply be<;>intro hb<;>cbv)|(refine⟨[0,1,7,8],[0],Int,fun i=>[.reg 8 (.j i)],fun i=>0<=i/\i<=((os.length:Nat):Int)/\upto (cg (nX os id)) i,fun i=>(os.length)-i.toNat,⟨0,?_,?_⟩,?_⟩;rotate_left;(focus (cbv;done));intro i hi;replace hi:0<=i/\i<=((os.length:Nat):Int)/\upto (cg (nX os id)) i:=hi;obtain⟨i0,i1,i2⟩:=hi;cbv)|(refine ab (O.ar .add .i64 i 1) ?_ ?_ ?_;focus (cbv;done))
 all_goals(subst hO hr hF;(try simp only[nc]at*);(try simp only[aj,SS,sa,az]at*);(try rw[cv (by omega) (by omega)]))
 all_goals first
  | (show(_:List DV)=_
     first
      |exact cp (cJ i2 i0 (by assumption) (show nX os id i=true from by assumption)).symm
      |exact cp (cK i2 (by assumption)).symm
      |done)
  |omega
  |exact eR
  |(show(lk _ _).isSome=true;kernel_rfl)
  |exact bi
  |exact aV i2 (eW (show nX os id i=false from by assumption))
  |done
namespace Ma4
structure aQ where
 rhI:aa->Int->Int
abbrev F0 :aQ:=⟨rhI⟩
def ct (F:aQ):CT:=fun f ds=>match f,ds with
 |355,[.one (.s 2 os),.fn 334 [[.v (.int .i64 id)]]]=>some (fun _=>Rw [tI,tI] os/\os.length<=1099511627776,[.j (F.rhI os id)])
 |_,_=>none
theorem ai :aS (ct F0):=by
 intro f ds pre res h hp;unfold ct at h;split at h<;>cases h
 exact bU hp
abbrev B :cy:=tb ai
end Ma4
theorem bP {os:aa}{id:Int}(hp:Rw [tI,tI] os/\os.length<=1099511627776):au 333 [.one (.s 2 os),.fn 334 [[.i id]]] [.k (rhB os id)]:=by
 refine cb Ma4.B Tryz.func333 ?_
 intro O r F hO hr hF;cbv
 repeat' first|apply And.intro|(apply be<;>intro hb<;>cbv)
 all_goals(subst hO hr hF;(try simp only[nc]at*);(try simp only[aj,SS,sa,az]at*))
 all_goals first
  | (show(_:List DV)=_
     first
      |exact ak (ew (by unfold rhB;simp only[SS,decide_eq_true_eq]))
      |done)
  |exact hp
  |done
namespace Ma5
structure aQ where
 rhB:aa->Int->Bool
abbrev F0 :aQ:=⟨rhB⟩
def ct (F:aQ):CT:=fun f ds=>match f,ds with
 |333,[.one (.s 2 os),.fn 334 [[.v (.int .i64 id)]]]=>some (fun _=>Rw [tI,tI] os/\os.length<=1099511627776,[.k (F.rhB os id)])
 |_,_=>none
theorem ai :aS (ct F0):=by
 intro f ds pre res h hp;unfold ct at h;split at h<;>cases h
 exact bP hp
abbrev B :cy:=tb ai
end Ma5
theorem q9 {os:aa}{id:Int}(hp:Rw [tI,tI] os/\os.length<=1099511627776):au 261 [.one (.s 2 os),.j id] [.k (rhB os id)]:=by
 refine cb Ma5.B Tryz.func261 ?_
 exact Ti
theorem sq {os:aa}{id:Int}(hp:Rw [tI,tI] os/\os.length<=1099511627776):au 239 [.one (.s 2 os),.j id] [.k (rhB os id)]:=by
 obtain⟨hw,hn⟩:=hp;refine cb nB Tryz.func239 ?_
 intro O r F hO hr hF;cbv
 repeat' first|apply And.intro|(apply be<;>intro hb<;>cbv)|(refine⟨[0,1,5],[],Int,fun i=>[.reg 5 (.j i)],fun i=>0<=i/\i<=((os.length:Nat):Int)/\upto (cg (nX os id)) i,fun i=>(os.length)-i.toNat,⟨0,?_,?_⟩,?_⟩;rotate_left;(focus (cbv;done));intro i hi;replace hi:0<=i/\i<=((os.length:Nat):Int)/\upto (cg (nX os id)) i:=hi;obtain⟨i0,i1,i2⟩:=hi;cbv)|(refine ab (O.ar .add .i64 i 1) ?_ ?_ ?_;focus (cbv;done))
 all_goals(subst hO hr hF;(try simp only[nc]at*);(try simp only[aj,SS,sa,az]at*);(try rw[cv (by omega) (by omega)]))
 all_goals first
  | (show(_:List DV)=_
     first
      |(refine ak ?_;symm;exact NZ i2 i0 (by assumption) (by assumption) (by assumption))
      |(refine ak ?_;symm;exact RG i2 (by omega))
      |done)
  |omega
  |exact eR
  |(show aW _ _=true;kernel_rfl)
  |exact bi
  |exact aV i2 (RE (by omega))
  |exact aV i2 (RF (by omega))
  |done
namespace Ma6
structure aQ where
 spOk:Int->Int->Int->Bool
abbrev F0 :aQ:=⟨spOk⟩
def ct (F:aQ):CT:=fun f ds=>match f,ds with
 |259,[.agg [.v (.int .i64 p),.v (.int .i64 k),.v (.int .i64 b)]]=>some (fun _=>True,[.k (F.spOk p k b)])
 |235,[.agg [.v (.int .i64 p),.v (.int .i64 k),.v (.int .i64 b)]]=>some (fun _=>True,[.k (F.spOk p k b)])
 |_,_=>none
theorem ai :aS (ct F0):=by
 intro f ds pre res h hp;unfold ct at h;split at h<;>cases h
 exact fx hp;exact fA hp
abbrev B :cy:=tb ai
end Ma6
theorem q7 {p1 k1 b1 p2 k2 b2:Int}(hp:True):au 216 [.agg [.i p1,.i k1,.i b1],.agg [.i p2,.i k2,.i b2]] [.k (mshB p1 k1 b1 p2 k2 b2)]:=by
 refine cb Ma6.B Tryz.func216 ?_
 exact SX
theorem so {p1 k1 b1 p2 k2 b2:Int}(hp:True):au 240 [.agg [.i p1,.i k1,.i b1],.agg [.i p2,.i k2,.i b2]] [.k (mshB p1 k1 b1 p2 k2 b2)]:=by
 refine cb Ma6.B Tryz.func240 ?_
 exact SX
namespace Ma7
structure aQ where
 clsSz:Int->Int
abbrev F0 :aQ:=⟨clsSz⟩
def ct (F:aQ):CT:=fun f ds=>match f,ds with
 |265,[.one (.v (.int .i64 k))]=>some (fun _=>True,[.j (F.clsSz k)])
 |244,[.one (.v (.int .i64 k))]=>some (fun _=>True,[.j (F.clsSz k)])
 |_,_=>none
theorem ai :aS (ct F0):=by
 intro f ds pre res h hp;unfold ct at h;split at h<;>cases h
 exact cC hp;exact dB hp
abbrev B :cy:=tb ai
end Ma7
theorem oZ {qs:aa}(hp:Rw [tI,tI,tI] qs/\qs.length<=1073741824):au 263 [.one (.s 3 qs)] [.j (qcI qs)]:=by
 obtain⟨hw,hl⟩:=hp;refine cb Ma7.B Tryz.func263 ?_
 intro O r F hO hr hF;cbv
 repeat' first|apply And.intro|(apply be<;>intro hb<;>cbv)|(refine⟨[3,6,7,8],[],Int×Int,fun s_=>match s_ with|(i,t)=>[.reg 8 (.j i),.reg 3 (.j t)],fun s_=>match s_ with|(i,t)=>0<=i/\i<=(qs.length:Int)/\Is qs i t,fun s_=>match s_ with|(i,t)=>qs.length-i.toNat,⟨(0,0),?_,?_⟩,?_⟩;rotate_left;(focus (cbv;done));intro s_ hi;obtain⟨i,t⟩:=s_;replace hi:0<=i/\i<=(qs.length:Int)/\Is qs i t:=hi;obtain⟨i0,i1,i2⟩:=hi;cbv)|(refine ab (O.ar .add .i64 i 1,O.ar .add .i64 t (F.clsSz (O.gi qs i 1))) ?_ ?_ ?_;focus (cbv;done))
 all_goals exact SO
theorem sr {qs:aa}(hp:Rw [tI,tI,tI] qs/\qs.length<=1073741824):au 243 [.one (.s 3 qs)] [.j (qcI qs)]:=by
 obtain⟨hw,hl⟩:=hp;refine cb Ma7.B Tryz.func243 ?_
 intro O r F hO hr hF;cbv
 repeat' first|apply And.intro|(apply be<;>intro hb<;>cbv)|(refine⟨[0,3,4],[],Int×Int,fun s_=>match s_ with|(i,t)=>[.reg 4 (.j i),.reg 3 (.j t)],fun s_=>match s_ with|(i,t)=>0<=i/\i<=(qs.length:Int)/\Is qs i t,fun s_=>match s_ with|(i,t)=>qs.length-i.toNat,⟨(0,0),?_,?_⟩,?_⟩;rotate_left;(focus (cbv;done));intro s_ hi;obtain⟨i,t⟩:=s_;replace hi:0<=i/\i<=(qs.length:Int)/\Is qs i t:=hi;obtain⟨i0,i1,i2⟩:=hi;cbv)|(refine ab (O.ar .add .i64 i 1,O.ar .add .i64 t (F.clsSz (O.gi qs i 1))) ?_ ?_ ?_;focus (cbv;done))
 all_goals exact SO
namespace Ma8
structure aQ where
 inR:Int->Int->Int->Bool
 qtB:aa->Int->Bool
abbrev F0 :aQ:=⟨inR,qtB⟩
def ct (F:aQ):CT:=fun f ds=>match f,ds with
 |264,[.one (.v (.int .i64 k))]=>some (fun _=>True,[.k (F.inR k 0 3)])
 |335,[.one (.s 3 os),.one (.v (.int .i64 id))]=>some (fun _=>Rw [tI,tI,tI] os/\os.length<=1099511627776,[.k (F.qtB os id)])
 |103,[.one (.v (.int .i64 x)),.one (.v (.int .i64 a)),.one (.v (.int .i64 b))]=>some (fun _=>True,[.k (F.inR x a b)])
 |_,_=>none
theorem ai :aS (ct F0):=by
 intro f ds pre res h hp;unfold ct at h;split at h<;>cases h
 exact dR hp;exact jY hp;exact bg hp
abbrev B :cy:=tb ai
end Ma8
theorem tK {b:aa}{a c s:Int}(hp:Rw [tI,tI,tI] b/\b.length<=1073741824):au 262 [.one (.s 3 b),.agg [.i a,.i c,.i s]] [.k (stlOk b a c s)]:=by
 obtain⟨hw,hl⟩:=hp;have hs:bF .sub .i64 (b.length:Int) 1=b.length-1:=cR (by omega);refine cb Ma8.B Tryz.func262 ?_
 intro O r F hO hr hF;cbv
 repeat' first|apply And.intro|(apply be<;>intro hb<;>cbv)
 all_goals(subst hO hr hF;(try simp only[nc]at*);(try simp only[aj,SS,sa,az]at*);(try simp only[hs]at*))
 all_goals first|exact eR|(show aW _ _=true;kernel_rfl)|exact⟨hw,by omega⟩|(show(_:List DV)=_;refine ak ?_;unfold stlOk;simp[*,cD];done)|(show(_:List DV)=_;refine ak ?_;unfold stlOk;rw[decide_eq_false (p:=0<=a) (by omega)];simp;done)|(show(_:List DV)=_;refine ak ?_;unfold stlOk;rw[decide_eq_false (p:=0<=s) (by omega)];simp;done)|(show(_:List DV)=_;refine ak ?_;unfold stlOk;rw[decide_eq_false (p:=b.length=0) (by omega)];simp[*,cD];done)|(show(_:List DV)=_;refine ak ?_;unfold stlOk;simp_all;done)|done
theorem wT {a c s:Int}(hp:True):au 241 [.agg [.i a,.i c,.i s]] [.k (staB a c s)]:=by
 refine cb Ma8.B Tryz.func241 ?_
 intro O r F hO hr hF;cbv
 repeat' first|apply And.intro|(apply be<;>intro hb<;>cbv)
 all_goals(subst hO hr hF;(try simp only[nc]at*);(try simp only[aj,SS,sa,az]at*))
 all_goals first|(show(_:List DV)=_;refine ak ?_;unfold staB;simp[*,cD];done)|(show(_:List DV)=_;refine ak ?_;unfold staB;rw[decide_eq_false (p:=0<=a) (by omega)];simp;done)|done
namespace Ma9
structure aQ where
 inR:Int->Int->Int->Bool
 stlOk:aa->Int->Int->Int->Bool
 qcI:aa->Int
 staB:Int->Int->Int->Bool
 qtB:aa->Int->Bool
abbrev F0 :aQ:=⟨inR,stlOk,qcI,staB,qtB⟩
def ct (F:aQ):CT:=fun f ds=>match f,ds with
 |105,[.one (.v (.int .i64 x)),.one (.v (.int .i64 a)),.one (.v (.int .i64 b))]=>some (fun _=>True,[.k (F.inR x a b)])
 |262,[.one (.s 3 b),.agg [.v (.int .i64 a),.v (.int .i64 c),.v (.int .i64 s)]]=>some (fun _=>Rw [tI,tI,tI] b/\b.length<=1073741824,[.k (F.stlOk b a c s)])
 |263,[.one (.s 3 qs)]=>some (fun _=>Rw [tI,tI,tI] qs/\qs.length<=1073741824,[.j (F.qcI qs)])
 |103,[.one (.v (.int .i64 x)),.one (.v (.int .i64 a)),.one (.v (.int .i64 b))]=>some (fun _=>True,[.k (F.inR x a b)])
 |241,[.agg [.v (.int .i64 a),.v (.int .i64 c),.v (.int .i64 s)]]=>some (fun _=>True,[.k (F.staB a c s)])
 |242,[.agg [.v (.int .i64 rm),.s 3 os],.one (.v (.int .i64 id))]=>some (fun _=>Rw [tI,tI,tI] os/\os.length<=1099511627776,[.k (F.qtB os id)])
 |243,[.one (.s 3 qs)]=>some (fun _=>Rw [tI,tI,tI] qs/\qs.length<=1073741824,[.j (F.qcI qs)])
 |_,_=>none
theorem ai :aS (ct F0):=by
 intro f ds pre res h hp;unfold ct at h;split at h<;>cases h
 exact aZ hp;exact tK hp;exact oZ hp;exact bg hp;exact wT hp;exact uk hp;exact sr hp
abbrev B :cy:=tb ai
end Ma9
theorem wo {rm:Int}{qs:aa}(hp:Rw [tI,tI,tI] qs/\qs.length<=1073741824):au 158 [.agg [.i rm,.s 3 qs]] [.k (quarOk rm qs)]:=by
 obtain⟨hw,hl⟩:=hp;refine cb Ma9.B Tryz.func158 ?_
 intro O r F hO hr hF;cbv
 repeat' first|apply And.intro|(apply be<;>intro hb<;>cbv)|(refine⟨[1,6,7,8],[1],Int,fun i=>[.reg 8 (.j i)],fun i=>0<=i/\i<=((qs.length:Nat):Int)/\upto (AY qs) i,fun i=>(qs.length)-i.toNat,⟨0,?_,?_⟩,?_⟩;rotate_left;(focus (cbv;done));intro i hi;replace hi:0<=i/\i<=((qs.length:Nat):Int)/\upto (AY qs) i:=hi;obtain⟨i0,i1,i2⟩:=hi;cbv)|(refine ab (O.ar .add .i64 i 1) ?_ ?_ ?_;focus (cbv;done))
 all_goals(subst hO hr hF;(try simp only[nc]at*);(try simp only[aj,SS,sa,az]at*);(try rw[cv (by omega) (by omega)]);(try simp only[vP]at*))
 all_goals first
  | (show(_:List DV)=_
     first
      |(refine ak ?_;symm;exact D5 i0 (by assumption) (by assumption))
      |(refine ak ?_;rw[Hp i2 (by omega)];simp[*,cD];done)
      |done)
  |omega
  |exact eR
  |(show aW _ _=true;kernel_rfl)
  |exact⟨hw,hl⟩
  |exact⟨Rw.take hw _,by rw[List.length_take];omega⟩
  |exact bi
  |exact aV i2 (by assumption)
  |done
theorem wQ {rm:Int}{qs:aa}(hp:Rw [tI,tI,tI] qs/\qs.length<=1073741824):au 128 [.agg [.i rm,.s 3 qs]] [.k (quarOk rm qs)]:=by
 obtain⟨hw,hl⟩:=hp;refine cb Ma9.B Tryz.func128 ?_
 intro O r F hO hr hF;cbv
 repeat' first|apply And.intro|(apply be<;>intro hb<;>cbv)|(refine⟨[1,3],[1],Int,fun i=>[.reg 3 (.j i)],fun i=>0<=i/\i<=((qs.length:Nat):Int)/\upto (AY qs) i,fun i=>(qs.length)-i.toNat,⟨0,?_,?_⟩,?_⟩;rotate_left;(focus (cbv;done));intro i hi;replace hi:0<=i/\i<=((qs.length:Nat):Int)/\upto (AY qs) i:=hi;obtain⟨i0,i1,i2⟩:=hi;cbv)|(refine ab (O.ar .add .i64 i 1) ?_ ?_ ?_;focus (cbv;done))
 all_goals(subst hO hr hF;(try simp only[nc]at*);(try simp only[aj,SS,sa,az]at*);(try rw[cv (by omega) (by omega)]);(try simp only[vP]at*);(try have z:=xi i0 (by omega));(try simp only[z]at*))
 all_goals first
  | (show(_:List DV)=_
     first
      |(refine ak ?_;symm;exact D5 i0 (by assumption) (Rp (by assumption)))
      |(refine ak ?_;symm;exact D5 i0 (by assumption) (Rq (by omega) (by assumption) (by assumption)))
      |(refine ak ?_;symm;exact D5 i0 (by assumption) (Rr (by assumption)))
      |(refine ak ?_;rw[Hp i2 (by omega)];simp[*,cD];done)
      |(have q:false=true:=(by assumption);cases q)
      |done)
  |omega
  |exact eR
  |(show aW _ _=true;kernel_rfl)
  |exact⟨hw,hl⟩
  |exact⟨Rw.take hw _,by rw[List.length_take];omega⟩
  |exact bi
  |exact aV i2 (Rs (by assumption) (by assumption) i0 (by omega))
  |exact aV i2 (Rt (by assumption) (by assumption) (by omega) (by assumption) (by assumption))
  |done
theorem wt {c:Int}(hp:True):au 299 [.j c] [.k (inR c 0 15)]:=by
 refine cb Ma0.B Tryz.func299 ?_
 exact J1
theorem ww {c:Int}(hp:True):au 162 [.j c] [.k (inR c 0 1073741823)]:=by
 refine cb Ma0.B Tryz.func162 ?_
 exact J1
namespace Mb1
structure aQ where
 inR:Int->Int->Int->Bool
abbrev F0 :aQ:=⟨inR⟩
def ct (F:aQ):CT:=fun f ds=>match f,ds with
 |105,[.one (.v (.int .i64 x)),.one (.v (.int .i64 a)),.one (.v (.int .i64 b))]=>some (fun _=>True,[.k (F.inR x a b)])
 |299,[.one (.v (.int .i64 c))]=>some (fun _=>True,[.k (F.inR c 0 15)])
 |103,[.one (.v (.int .i64 x)),.one (.v (.int .i64 a)),.one (.v (.int .i64 b))]=>some (fun _=>True,[.k (F.inR x a b)])
 |_,_=>none
theorem ai :aS (ct F0):=by
 intro f ds pre res h hp;unfold ct at h;split at h<;>cases h
 exact aZ hp;exact wt hp;exact bg hp
abbrev B :cy:=tb ai
end Mb1
theorem wn {k m:Int}{cs:aa}(hp:Rw [tI] cs/\cs.length<=1099511627776):au 218 [.agg [.i k,.i m,.s 1 cs]] [.k (plOk k m cs)]:=by
 obtain⟨hw,hl⟩:=hp;refine cb Mb1.B Tryz.func218 ?_
 intro O r F hO hr hF;cbv
 repeat' first|apply And.intro|(apply be<;>intro hb<;>cbv)|(refine⟨[1,6,7,8],[1],Int,fun i=>[.reg 8 (.j i)],fun i=>0<=i/\i<=((cs.length:Nat):Int)/\upto (E9 cs) i,fun i=>(cs.length)-i.toNat,⟨0,?_,?_⟩,?_⟩;rotate_left;(focus (cbv;done));intro i hi;replace hi:0<=i/\i<=((cs.length:Nat):Int)/\upto (E9 cs) i:=hi;obtain⟨i0,i1,i2⟩:=hi;cbv)|(refine ab (O.ar .add .i64 i 1) ?_ ?_ ?_;focus (cbv;done))
 all_goals(subst hO hr hF;(try simp only[nc]at*);(try simp only[aj,SS,sa,az]at*);(try rw[cv (by omega) (by omega)]);(try have z:=xi i0 (by omega));(try simp only[z]at*))
 all_goals first
  | (show(_:List DV)=_
     first
      |(refine ak ?_;symm;exact Hl i0 (by assumption) (by assumption))
      |(refine ak ?_;symm;exact Hm i0 (by assumption) (by omega) (by assumption))
      |(refine ak ?_;rw[zk i2 (by omega)];simp[*,cD];done)
      |(refine ak ?_;rw[zk i2 (by omega),yC];simp[*];done)
      |(have q:false=true:=(by assumption);cases q)
      |done)
  |omega
  |exact eR
  |exact bi
  |exact aV i2 (DZ (by assumption) (by omega))
  |exact aV i2 (D1 (by assumption) (by assumption))
  |done
theorem wP {k m:Int}{cs:aa}(hp:Rw [tI] cs/\cs.length<=1099511627776):au 250 [.agg [.i k,.i m,.s 1 cs]] [.k (plOk k m cs)]:=by
 obtain⟨hw,hl⟩:=hp;refine cb Mb1.B Tryz.func250 ?_
 intro O r F hO hr hF;cbv
 repeat' first|apply And.intro|(apply be<;>intro hb<;>cbv)|(refine⟨[1,3],[1],Int,fun i=>[.reg 3 (.j i)],fun i=>0<=i/\i<=((cs.length:Nat):Int)/\upto (E9 cs) i,fun i=>(cs.length)-i.toNat,⟨0,?_,?_⟩,?_⟩;rotate_left;(focus (cbv;done));intro i hi;replace hi:0<=i/\i<=((cs.length:Nat):Int)/\upto (E9 cs) i:=hi;obtain⟨i0,i1,i2⟩:=hi;cbv)|(refine ab (O.ar .add .i64 i 1) ?_ ?_ ?_;focus (cbv;done))
 all_goals(subst hO hr hF;(try simp only[nc]at*);(try simp only[aj,SS,sa,az]at*);(try rw[cv (by omega) (by omega)]);(try have z:=xi i0 (by omega));(try simp only[z]at*))
 all_goals first
  | (show(_:List DV)=_
     first
      |(refine ak ?_;symm;exact Hl i0 (by assumption) (by assumption))
      |(refine ak ?_;symm;exact Hm i0 (by assumption) (by omega) (by assumption))
      |(refine ak ?_;rw[zk i2 (by omega)];simp[*,cD];done)
      |(refine ak ?_;rw[zk i2 (by omega),yC];simp[*];done)
      |(have q:false=true:=(by assumption);cases q)
      |done)
  |omega
  |exact eR
  |(show aW _ _=true;kernel_rfl)
  |exact bi
  |exact aV i2 (DZ (by assumption) (by omega))
  |exact aV i2 (D1 (by assumption) (by assumption))
  |done
namespace Mb2
structure aQ where
 plOk:Int->Int->aa->Bool
 inR:Int->Int->Int->Bool
abbrev F0 :aQ:=⟨plOk,inR⟩
def ct (F:aQ):CT:=fun f ds=>match f,ds with
 |218,[.agg [.v (.int .i64 k),.v (.int .i64 m),.s 1 cs]]=>some (fun _=>Rw [tI] cs/\cs.length<=1099511627776,[.k (F.plOk k m cs)])
 |105,[.one (.v (.int .i64 x)),.one (.v (.int .i64 a)),.one (.v (.int .i64 b))]=>some (fun _=>True,[.k (F.inR x a b)])
 |250,[.agg [.v (.int .i64 k),.v (.int .i64 m),.s 1 cs]]=>some (fun _=>Rw [tI] cs/\cs.length<=1099511627776,[.k (F.plOk k m cs)])
 |103,[.one (.v (.int .i64 x)),.one (.v (.int .i64 a)),.one (.v (.int .i64 b))]=>some (fun _=>True,[.k (F.inR x a b)])
 |_,_=>none
theorem ai :aS (ct F0):=by
 intro f ds pre res h hp;unfold ct at h;split at h<;>cases h
 exact wn hp;exact aZ hp;exact wP hp;exact bg hp
abbrev B :cy:=tb ai
end Mb2
theorem yn {k m:Int}{cs:aa}{ph nx:Int}(hp:Rw [tI] cs/\cs.length<=1099511627776):au 163 [.agg [.i k,.i m,.s 1 cs,.i ph,.i nx]] [.k (jbOk k m cs ph nx)]:=by
 refine cb Mb2.B Tryz.func163 ?_
 exact Tf
theorem yw {k m:Int}{cs:aa}{ph nx:Int}(hp:Rw [tI] cs/\cs.length<=1099511627776):au 133 [.agg [.i k,.i m,.s 1 cs,.i ph,.i nx]] [.k (jbOk k m cs ph nx)]:=by
 refine cb Mb2.B Tryz.func133 ?_
 exact Tf
namespace Mb3
structure aQ where
 inR:Int->Int->Int->Bool
 clsSz:Int->Int
 hasB:aa->Int->Bool
abbrev F0 :aQ:=⟨inR,clsSz,hasB⟩
def ct (F:aQ):CT:=fun f ds=>match f,ds with
 |264,[.one (.v (.int .i64 k))]=>some (fun _=>True,[.k (F.inR k 0 3)])
 |105,[.one (.v (.int .i64 x)),.one (.v (.int .i64 a)),.one (.v (.int .i64 b))]=>some (fun _=>True,[.k (F.inR x a b)])
 |265,[.one (.v (.int .i64 k))]=>some (fun _=>True,[.j (F.clsSz k)])
 |103,[.one (.v (.int .i64 x)),.one (.v (.int .i64 a)),.one (.v (.int .i64 b))]=>some (fun _=>True,[.k (F.inR x a b)])
 |244,[.one (.v (.int .i64 k))]=>some (fun _=>True,[.j (F.clsSz k)])
 |236,[.one (.s 1 l),.one (.v (.int .i64 x))]=>some (fun _=>Rw [tI] l,[.k (F.hasB l x)])
 |_,_=>none
theorem ai :aS (ct F0):=by
 intro f ds pre res h hp;unfold ct at h;split at h<;>cases h
 exact dR hp;exact aZ hp;exact cC hp;exact bg hp;exact dB hp;exact fB hp
abbrev B :cy:=tb ai
end Mb3
theorem uj {ls:aa}(hp:J8 ls):au 129 [.agg [.s 1 ls]] [.k (caOk ls)]:=by
 have hw:=hp.w;have hl:=hp.l;have hn:=hp.n;refine cb Mb3.B Tryz.func129 ?_
 intro O r F hO hr hF;cbv
 repeat' first|apply And.intro|(apply be<;>intro hb<;>cbv)|(refine⟨[1,3,4],[1,3],Int×aa,fun s_=>match s_ with|(i,o)=>[.reg 4 (.j i),.reg 3 (.one (.vw 3 0 0 0 (O.ln o))),.leaf 3 0 ⟨0,0,none,.own (.s 1 o)⟩],fun s_=>match s_ with|(i,o)=>0<=i/\i<=4/\O0 ls i o,fun s_=>match s_ with|(i,o)=>(4-i).toNat,⟨(0,[]),?_,?_⟩,?_⟩;rotate_left;(focus (cbv;done));intro s_ hi;obtain⟨i,o⟩:=s_;replace hi:0<=i/\i<=4/\O0 ls i o:=hi;obtain⟨i0,i1,i2⟩:=hi;cbv)|(refine⟨[1,3,4,5],[1,3],Int×aa,fun s_=>match s_ with|(k,o1)=>[.reg 5 (.j k),.reg 3 (.one (.vw 3 0 0 0 (O.ln o1))),.leaf 3 0 ⟨0,0,none,.own (.s 1 o1)⟩],fun s_=>match s_ with|(k,o1)=>0<=k/\k<=((aR ls i 0).length:Int)/\Kb ls i k o1,fun s_=>match s_ with|(k,o1)=>(aR ls i 0).length-k.toNat,⟨(0,o),?_,?_⟩,?_⟩;rotate_left;(focus (cbv;done));intro s_ hk;obtain⟨k,o1⟩:=s_;replace hk:0<=k/\k<=((aR ls i 0).length:Int)/\Kb ls i k o1:=hk;obtain⟨k0,k1,k2⟩:=hk;cbv)|(refine ab (O.ar .add .i64 k 1,O.cat o1 (O.sub [[.i (O.gi (O.gs ls i 0) k 0)]] 0 (O.ln [[.i (O.gi (O.gs ls i 0) k 0)]]))) ?_ ?_ ?_;focus (cbv;done))|(refine ab (O.ar .add .i64 i 1,o1) ?_ ?_ ?_;focus (cbv;done))
 all_goals(subst hO hr hF;(try simp only[nc]at*);(try simp only[aj,SS,sa,az]at*);(try rw[cv (by omega) (by omega)]);(try have z6:bF .add .i64 k 1=k+1:=bc (by have:=hn i;omega));(try simp only[z6]at*);(try have w1:=N8 k2 k0);(try have w2:=hp.el i0 (by omega));(try have w3:=w2.1))
 all_goals first
  | (show(_:List DV)=_
     first
      |(refine ak ?_;symm;exact yy (by assumption))
      |(refine ak ?_;symm;exact FA i0 (by omega) (by omega))
      |(refine ak ?_;symm;exact yz i0 (by omega) k0 (by assumption) (Ki (by assumption)))
      |(refine ak ?_;symm;exact yz i0 (by omega) k0 (by assumption) (Kj (by assumption)))
      |(refine ak ?_;symm;exact N7 k2 i0 k0 (by assumption) (by assumption))
      |(refine ak ?_;symm;exact FB i2.p (by omega) (by omega))
      |done)
  |omega
  |exact eR
  |exact w1.2
  |(constructor<;>(simp only[List.length_cons,List.length_nil];omega))
  |(have c:=(gR (bE.2 (by omega:0<=i/\i<=3))).1;omega)
  |exact R3 k2 k0 (by assumption) (by assumption) (by assumption)
  |exact R2 k2 i0 k1 (by omega)
  |exact Vb i2 i0 (by omega) (by omega)
  |exact U9
  |exact⟨True.intro,True.intro⟩
  |done
theorem tz {ls:aa}(hp:J8 ls):au 159 [.agg [.s 1 ls]] [.k (caOk ls)]:=by
 have hw:=hp.w;have hl:=hp.l;have hn:=hp.n;refine cb Mb3.B Tryz.func159 ?_
 intro O r F hO hr hF;cbv
 repeat' first|apply And.intro|(apply be<;>intro hb<;>cbv)|(refine⟨[1,3,10,11,12],[1,8],Int×aa,fun s_=>match s_ with|(i,es)=>[.reg 12 (.j i),.leaf 8 0 ⟨0,0,none,.own (.m true es)⟩],fun s_=>match s_ with|(i,es)=>0<=i/\i<=(ls.length:Int)/\BD ls i es,fun s_=>match s_ with|(i,es)=>ls.length-i.toNat,⟨(0,[]),?_,?_⟩,?_⟩;rotate_left;(focus (cbv;done));intro s_ hi;obtain⟨i,es⟩:=s_;replace hi:0<=i/\i<=(ls.length:Int)/\BD ls i es:=hi;obtain⟨i0,i1,i2⟩:=hi;cbv)|(refine⟨[1,3,4,10,11,12,25,26,27],[1,8],Int×aa,fun s_=>match s_ with|(k,es1)=>[.reg 27 (.j k),.leaf 8 0 ⟨0,0,none,.own (.m true es1)⟩],fun s_=>match s_ with|(k,es1)=>0<=k/\k<=((aR ls i 0).length:Int)/\BE ls i k es1,fun s_=>match s_ with|(k,es1)=>(aR ls i 0).length-k.toNat,⟨(0,es),?_,?_⟩,?_⟩;rotate_left;(focus (cbv;done));intro s_ hk;obtain⟨k,es1⟩:=s_;replace hk:0<=k/\k<=((aR ls i 0).length:Int)/\BE ls i k es1:=hk;obtain⟨k0,k1,k2⟩:=hk;cbv)|(refine ab (O.ar .add .i64 k 1,O.mu es1 (O.gi (O.gs ls i 0) k 0) (.v (.bool true))) ?_ ?_ ?_;focus (cbv;done))|(refine ab (O.ar .add .i64 i 1,es1) ?_ ?_ ?_;focus (cbv;done))
 all_goals(subst hO hr hF;(try simp only[nc]at*);(try simp only[aj,SS,sa,az]at*);(try rw[cv (by omega) (by omega)]);(try have z6:bF .add .i64 k 1=k+1:=bc (by have:=hn i;omega));(try simp only[z6]at*);(try have w2:=hp.el i0 (by omega));(try have w3:=w2.1);(try have w4:=k2.p.l))
 all_goals first
  | (show(_:List DV)=_
     first
      |(refine ak ?_;exact Mh i2.p i1 (by omega))
      |(refine ak ?_;symm;exact I1 i2 i0 (by omega) (by assumption))
      |(refine ak ?_;symm;exact I2 i2 i0 (by assumption) (by assumption))
      |(refine ak ?_;symm;exact yz i0 (by omega) k0 (by assumption) (Ki (by assumption)))
      |(refine ak ?_;symm;exact yz i0 (by omega) k0 (by assumption) (Kj (by assumption)))
      |(refine ak ?_;symm;exact I3 k2 i0 k0 (by assumption) (by assumption))
      |done)
  |omega
  |exact eR
  |(have c:=(gR (bE.2 (by omega:0<=i/\i<=3))).1;omega)
  |exact M1 k2 k0 (by assumption) (by assumption) (by assumption)
  |exact M0 k2 i0 k1 (by omega)
  |exact P6 i2 i0 (by assumption) (by omega)
  |exact P5
  |done
end Go.V