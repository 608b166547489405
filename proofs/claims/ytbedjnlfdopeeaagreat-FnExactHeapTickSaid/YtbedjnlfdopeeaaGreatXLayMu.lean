/- Contracts. -/
import Derived.Test.YtbedjnlfdopeeaaGreatXLayLu
set_option linter.all false
open Go
open And renaming intro->Zb
open IntKind renaming i64->Za
open List renaming length_take->Zl
open True renaming intro->Zk
namespace Go.V
open Go Go.Proofs
set_option maxRecDepth 1000000
set_option maxHeartbeats 8000000
namespace Ma0
structure aP where
 inR:Int->Int->Int->Bool
abbrev F0:aP:=⟨inR⟩
def ct (F:aP):CT:=fun f ds=>match f,ds with
 |41,[.one (.v (.int Za x)),.one (.v (.int Za a)),.one (.v (.int Za b))]=>some (fun _=>True,[.k (F.inR x a b)])
 |28,[.one (.v (.int Za x)),.one (.v (.int Za a)),.one (.v (.int Za b))]=>some (fun _=>True,[.k (F.inR x a b)])
 |_,_=>none
theorem aj:aT (ct F0):=by
 intro f ds pre res h hp;unfold ct at h;split at h<;>cases h
 exact bc hp;exact be hp
abbrev B:cF:=tb aj
end Ma0
theorem j5 {n a l:Int}(hp:0<=n/\n<=1099511627776):ap 225 [.j n,.agg [.i a,.i l]] [.k (rngIn n a l)]:=by
 refine cb Ma0.B Tryz.func225 ?_
 exact SJ
theorem iX {n a l:Int}(hp:0<=n/\n<=1099511627776):ap 258 [.j n,.agg [.i a,.i l]] [.k (rngIn n a l)]:=by
 refine cb Ma0.B Tryz.func258 ?_
 exact SJ
namespace Ma1
structure aP where
 inR:Int->Int->Int->Bool
 rngIn:Int->Int->Int->Bool
abbrev F0:aP:=⟨inR,rngIn⟩
def ct (F:aP):CT:=fun f ds=>match f,ds with
 |41,[.one (.v (.int Za x)),.one (.v (.int Za a)),.one (.v (.int Za b))]=>some (fun _=>True,[.k (F.inR x a b)])
 |28,[.one (.v (.int Za x)),.one (.v (.int Za a)),.one (.v (.int Za b))]=>some (fun _=>True,[.k (F.inR x a b)])
 |225,[.one (.v (.int Za n)),.agg [.v (.int Za a),.v (.int Za l)]]=>some (fun _=>0<=n/\n<=1099511627776,[.k (F.rngIn n a l)])
 |258,[.one (.v (.int Za n)),.agg [.v (.int Za a),.v (.int Za l)]]=>some (fun _=>0<=n/\n<=1099511627776,[.k (F.rngIn n a l)])
 |_,_=>none
theorem aj:aT (ct F0):=by
 intro f ds pre res h hp;unfold ct at h;split at h<;>cases h
 exact bc hp;exact be hp;exact j5 hp;exact iX hp
abbrev B:cF:=tb aj
end Ma1
theorem jG {n:Int}{rs:aa}(hp:0<=n/\n<=1099511627776/\Rw [tI,tI] rs/\rs.length<=1099511627776):ap 125 [.j n,.one (.s 2 rs)] [.k (rgOk n rs)]:=by
 obtain⟨n0,n1,hw,hl⟩:=hp;refine cb Ma1.B Tryz.func125 ?_
 intro O r F hO hr hF;cbv
 repeat' first|apply Zb|(apply bu<;>intro hb<;>cbv)|(refine⟨[0,1,7,8,9],[],Int,fun i=>[.reg 9 (.j i)],fun i=>0<=i/\i<=((rs.length:Nat):Int)/\upto (o9 n rs) i,fun i=>(rs.length)-i.toNat,⟨0,?_,?_⟩,?_⟩;rotate_left;(focus (cbv;done));intro i hi;replace hi:0<=i/\i<=((rs.length:Nat):Int)/\upto (o9 n rs) i:=hi;obtain⟨i0,i1,i2⟩:=hi;cbv)|(refine ab (O.ar .add Za i 1) ?_ ?_ ?_;focus (cbv;done))
 all_goals exact Sv
theorem fV {n:Int}{rs:aa}(hp:0<=n/\n<=1099511627776/\Rw [tI,tI] rs/\rs.length<=1099511627776):ap 165 [.j n,.one (.s 2 rs)] [.k (rgOk n rs)]:=by
 obtain⟨n0,n1,hw,hl⟩:=hp;refine cb Ma1.B Tryz.func165 ?_
 intro O r F hO hr hF;cbv
 repeat' first|apply Zb|(apply bu<;>intro hb<;>cbv)|(refine⟨[0,1,5],[],Int,fun i=>[.reg 5 (.j i)],fun i=>0<=i/\i<=((rs.length:Nat):Int)/\upto (o9 n rs) i,fun i=>(rs.length)-i.toNat,⟨0,?_,?_⟩,?_⟩;rotate_left;(focus (cbv;done));intro i hi;replace hi:0<=i/\i<=((rs.length:Nat):Int)/\upto (o9 n rs) i:=hi;obtain⟨i0,i1,i2⟩:=hi;cbv)|(refine ab (O.ar .add Za i 1) ?_ ?_ ?_;focus (cbv;done))
 all_goals exact Sv
theorem mF {a l p:Int}(hp:True):ap 318 [.agg [.i a,.i l],.ptr [.i p]] [.k (rh1 a l p)]:=by
 refine cb nB Tryz.func318 ?_
 intro O r F hO hr hF;cbv
 repeat' first|apply Zb|(apply bu<;>intro hb<;>cbv)
 all_goals(subst hO hr hF;(try simp only[nc]at*);(try simp only[ak,SS,sa,az]at*))
 all_goals first|(show(_:List DV)=_;refine ai ?_;unfold rh1;rw[aa0 hb];rfl)|(show(_:List DV)=_;refine ai ?_;unfold rh1;rw[aa1 (by omega)];rfl)|done
namespace Ma3
structure aP where
 rh1:Int->Int->Int->Bool
abbrev F0:aP:=⟨rh1⟩
def ct (F:aP):CT:=fun f ds=>match f,ds with
 |318,[.agg [.v (.int Za a),.v (.int Za l)],.ptr [.v (.int Za p)]]=>some (fun _=>True,[.k (F.rh1 a l p)])
 |_,_=>none
theorem aj:aT (ct F0):=by
 intro f ds pre res h hp;unfold ct at h;split at h<;>cases h
 exact mF hp
abbrev B:cF:=tb aj
end Ma3
theorem bT {os:aa}{id:Int}(hp:Rw [tI,tI] os/\os.length<=1099511627776):ap 360 [.one (.s 2 os),.fn 318 [[.i id]]] [.j (rhI os id)]:=by
 obtain⟨hw,hn⟩:=hp;refine cb Ma3.B Tryz.func360 ?_
 intro O r F hO hr hF;cbv
 repeat' first|apply Zb|(apply bu<;>intro hb<;>cbv)|(refine⟨[0,1,7,8],[0],Int,fun i=>[.reg 8 (.j i)],fun i=>0<=i/\i<=((os.length:Nat):Int)/\upto (cv (nD os id)) i,fun i=>(os.length)-i.toNat,⟨0,?_,?_⟩,?_⟩;rotate_left;(focus (cbv;done));intro i hi;replace hi:0<=i/\i<=((os.length:Nat):Int)/\upto (cv (nD os id)) i:=hi;obtain⟨i0,i1,i2⟩:=hi;cbv)|(refine ab (O.ar .add Za i 1) ?_ ?_ ?_;focus (cbv;done))
 all_goals(subst hO hr hF;(try simp only[nc]at*);(try simp only[ak,SS,sa,az]at*);(try rw[cy (by omega) (by omega)]))
 all_goals first
  | (show(_:List DV)=_
     first
      |exact cT (dz i2 i0 (by assumption) (show nD os id i=true from by assumption)).symm
      |exact cT (dP i2 (by assumption)).symm
      |done)
  |omega
  |exact eF
  |(show(lk _ _).isSome=true;kernel_rfl)
  |exact bC
  |exact aW i2 (iz (show nD os id i=false from by assumption))
  |done
namespace Ma4
structure aP where
 rhI:aa->Int->Int
abbrev F0:aP:=⟨rhI⟩
def ct (F:aP):CT:=fun f ds=>match f,ds with
 |360,[.one (.s 2 os),.fn 318 [[.v (.int Za id)]]]=>some (fun _=>Rw [tI,tI] os/\os.length<=1099511627776,[.j (F.rhI os id)])
 |_,_=>none
theorem aj:aT (ct F0):=by
 intro f ds pre res h hp;unfold ct at h;split at h<;>cases h
 exact bT hp
abbrev B:cF:=tb aj
end Ma4
theorem bP {os:aa}{id:Int}(hp:Rw [tI,tI] os/\os.length<=1099511627776):ap 317 [.one (.s 2 os),.fn 318 [[.i id]]] [.k (rhB os id)]:=by
 refine cb Ma4.B Tryz.func317 ?_
 intro O r F hO hr hF;cbv
 repeat' first|apply Zb|(apply bu<;>intro hb<;>cbv)
 all_goals(subst hO hr hF;(try simp only[nc]at*);(try simp only[ak,SS,sa,az]at*))
 all_goals first
  | (show(_:List DV)=_
     first
      |exact ai (er (by unfold rhB;simp only[SS,aa2]))
      |done)
  |exact hp
  |done
namespace Ma5
structure aP where
 rhB:aa->Int->Bool
abbrev F0:aP:=⟨rhB⟩
def ct (F:aP):CT:=fun f ds=>match f,ds with
 |317,[.one (.s 2 os),.fn 318 [[.v (.int Za id)]]]=>some (fun _=>Rw [tI,tI] os/\os.length<=1099511627776,[.k (F.rhB os id)])
 |_,_=>none
theorem aj:aT (ct F0):=by
 intro f ds pre res h hp;unfold ct at h;split at h<;>cases h
 exact bP hp
abbrev B:cF:=tb aj
end Ma5
theorem qi {os:aa}{id:Int}(hp:Rw [tI,tI] os/\os.length<=1099511627776):ap 231 [.one (.s 2 os),.j id] [.k (rhB os id)]:=by
 refine cb Ma5.B Tryz.func231 ?_
 exact Tc
theorem rB {os:aa}{id:Int}(hp:Rw [tI,tI] os/\os.length<=1099511627776):ap 263 [.one (.s 2 os),.j id] [.k (rhB os id)]:=by
 obtain⟨hw,hn⟩:=hp;refine cb nB Tryz.func263 ?_
 intro O r F hO hr hF;cbv
 repeat' first|apply Zb|(apply bu<;>intro hb<;>cbv)|(refine⟨[0,1,5],[],Int,fun i=>[.reg 5 (.j i)],fun i=>0<=i/\i<=((os.length:Nat):Int)/\upto (cv (nD os id)) i,fun i=>(os.length)-i.toNat,⟨0,?_,?_⟩,?_⟩;rotate_left;(focus (cbv;done));intro i hi;replace hi:0<=i/\i<=((os.length:Nat):Int)/\upto (cv (nD os id)) i:=hi;obtain⟨i0,i1,i2⟩:=hi;cbv)|(refine ab (O.ar .add Za i 1) ?_ ?_ ?_;focus (cbv;done))
 all_goals(subst hO hr hF;(try simp only[nc]at*);(try simp only[ak,SS,sa,az]at*);(try rw[cy (by omega) (by omega)]))
 all_goals first
  | (show(_:List DV)=_
     first
      |(refine ai ?_;symm;exact NA i2 i0 (by assumption) (by assumption) (by assumption))
      |(refine ai ?_;symm;exact Rv i2 (by omega))
      |done)
  |omega
  |exact eF
  |(show aV _ _=true;kernel_rfl)
  |exact bC
  |exact aW i2 (Rt (by omega))
  |exact aW i2 (Ru (by omega))
  |done
namespace Ma6
structure aP where
 spOk:Int->Int->Int->Bool
abbrev F0:aP:=⟨spOk⟩
def ct (F:aP):CT:=fun f ds=>match f,ds with
 |227,[.agg [.v (.int Za p),.v (.int Za k),.v (.int Za b)]]=>some (fun _=>True,[.k (F.spOk p k b)])
 |259,[.agg [.v (.int Za p),.v (.int Za k),.v (.int Za b)]]=>some (fun _=>True,[.k (F.spOk p k b)])
 |_,_=>none
theorem aj:aT (ct F0):=by
 intro f ds pre res h hp;unfold ct at h;split at h<;>cases h
 exact ew hp;exact ez hp
abbrev B:cF:=tb aj
end Ma6
theorem qg {p1 k1 b1 p2 k2 b2:Int}(hp:True):ap 232 [.agg [.i p1,.i k1,.i b1],.agg [.i p2,.i k2,.i b2]] [.k (mshB p1 k1 b1 p2 k2 b2)]:=by
 refine cb Ma6.B Tryz.func232 ?_
 exact SP
theorem rz {p1 k1 b1 p2 k2 b2:Int}(hp:True):ap 264 [.agg [.i p1,.i k1,.i b1],.agg [.i p2,.i k2,.i b2]] [.k (mshB p1 k1 b1 p2 k2 b2)]:=by
 refine cb Ma6.B Tryz.func264 ?_
 exact SP
namespace Ma7
structure aP where
 clsSz:Int->Int
abbrev F0:aP:=⟨clsSz⟩
def ct (F:aP):CT:=fun f ds=>match f,ds with
 |84,[.one (.v (.int Za k))]=>some (fun _=>True,[.j (F.clsSz k)])
 |183,[.one (.v (.int Za k))]=>some (fun _=>True,[.j (F.clsSz k)])
 |_,_=>none
theorem aj:aT (ct F0):=by
 intro f ds pre res h hp;unfold ct at h;split at h<;>cases h
 exact cz hp;exact du hp
abbrev B:cF:=tb aj
end Ma7
theorem oC {qs:aa}(hp:Rw [tI,tI,tI] qs/\qs.length<=1073741824):ap 196 [.one (.s 3 qs)] [.j (qcI qs)]:=by
 obtain⟨hw,hl⟩:=hp;refine cb Ma7.B Tryz.func196 ?_
 intro O r F hO hr hF;cbv
 repeat' first|apply Zb|(apply bu<;>intro hb<;>cbv)|(refine⟨[3,6,7,8],[],Int×Int,fun s_=>match s_ with|(i,t)=>[.reg 8 (.j i),.reg 3 (.j t)],fun s_=>match s_ with|(i,t)=>0<=i/\i<=(qs.length:Int)/\HV qs i t,fun s_=>match s_ with|(i,t)=>qs.length-i.toNat,⟨(0,0),?_,?_⟩,?_⟩;rotate_left;(focus (cbv;done));intro s_ hi;obtain⟨i,t⟩:=s_;replace hi:0<=i/\i<=(qs.length:Int)/\HV qs i t:=hi;obtain⟨i0,i1,i2⟩:=hi;cbv)|(refine ab (O.ar .add Za i 1,O.ar .add Za t (F.clsSz (O.gi qs i 1))) ?_ ?_ ?_;focus (cbv;done))
 all_goals exact SI
theorem rF {qs:aa}(hp:Rw [tI,tI,tI] qs/\qs.length<=1073741824):ap 267 [.one (.s 3 qs)] [.j (qcI qs)]:=by
 obtain⟨hw,hl⟩:=hp;refine cb Ma7.B Tryz.func267 ?_
 intro O r F hO hr hF;cbv
 repeat' first|apply Zb|(apply bu<;>intro hb<;>cbv)|(refine⟨[0,3,4],[],Int×Int,fun s_=>match s_ with|(i,t)=>[.reg 4 (.j i),.reg 3 (.j t)],fun s_=>match s_ with|(i,t)=>0<=i/\i<=(qs.length:Int)/\HV qs i t,fun s_=>match s_ with|(i,t)=>qs.length-i.toNat,⟨(0,0),?_,?_⟩,?_⟩;rotate_left;(focus (cbv;done));intro s_ hi;obtain⟨i,t⟩:=s_;replace hi:0<=i/\i<=(qs.length:Int)/\HV qs i t:=hi;obtain⟨i0,i1,i2⟩:=hi;cbv)|(refine ab (O.ar .add Za i 1,O.ar .add Za t (F.clsSz (O.gi qs i 1))) ?_ ?_ ?_;focus (cbv;done))
 all_goals exact SI
namespace Ma8
structure aP where
 inR:Int->Int->Int->Bool
 qtB:aa->Int->Bool
abbrev F0:aP:=⟨inR,qtB⟩
def ct (F:aP):CT:=fun f ds=>match f,ds with
 |193,[.one (.v (.int Za k))]=>some (fun _=>True,[.k (F.inR k 0 3)])
 |281,[.one (.s 3 os),.one (.v (.int Za id))]=>some (fun _=>Rw [tI,tI,tI] os/\os.length<=1099511627776,[.k (F.qtB os id)])
 |28,[.one (.v (.int Za x)),.one (.v (.int Za a)),.one (.v (.int Za b))]=>some (fun _=>True,[.k (F.inR x a b)])
 |_,_=>none
theorem aj:aT (ct F0):=by
 intro f ds pre res h hp;unfold ct at h;split at h<;>cases h
 exact dM hp;exact jI hp;exact be hp
abbrev B:cF:=tb aj
end Ma8
theorem sS {b:aa}{a c s:Int}(hp:Rw [tI,tI,tI] b/\b.length<=1073741824):ap 195 [.one (.s 3 b),.agg [.i a,.i c,.i s]] [.k (stlOk b a c s)]:=by
 obtain⟨hw,hl⟩:=hp;have hs:bK .sub Za (b.length:Int) 1=b.length-1:=cN (by omega);refine cb Ma8.B Tryz.func195 ?_
 intro O r F hO hr hF;cbv
 repeat' first|apply Zb|(apply bu<;>intro hb<;>cbv)
 all_goals(subst hO hr hF;(try simp only[nc]at*);(try simp only[ak,SS,sa,az]at*);(try simp only[hs]at*))
 all_goals first|exact eF|(show aV _ _=true;kernel_rfl)|exact⟨hw,by omega⟩|(show(_:List DV)=_;refine ai ?_;unfold stlOk;simp[*,cA];done)|(show(_:List DV)=_;refine ai ?_;unfold stlOk;rw[aa1 (p:=0<=a) (by omega)];simp;done)|(show(_:List DV)=_;refine ai ?_;unfold stlOk;rw[aa1 (p:=0<=s) (by omega)];simp;done)|(show(_:List DV)=_;refine ai ?_;unfold stlOk;rw[aa1 (p:=b.length=0) (by omega)];simp[*,cA];done)|(show(_:List DV)=_;refine ai ?_;unfold stlOk;simp_all;done)|done
theorem wB {a c s:Int}(hp:True):ap 265 [.agg [.i a,.i c,.i s]] [.k (staB a c s)]:=by
 refine cb Ma8.B Tryz.func265 ?_
 intro O r F hO hr hF;cbv
 repeat' first|apply Zb|(apply bu<;>intro hb<;>cbv)
 all_goals(subst hO hr hF;(try simp only[nc]at*);(try simp only[ak,SS,sa,az]at*))
 all_goals first|(show(_:List DV)=_;refine ai ?_;unfold staB;simp[*,cA];done)|(show(_:List DV)=_;refine ai ?_;unfold staB;rw[aa1 (p:=0<=a) (by omega)];simp;done)|done
namespace Ma9
structure aP where
 inR:Int->Int->Int->Bool
 stlOk:aa->Int->Int->Int->Bool
 qcI:aa->Int
 staB:Int->Int->Int->Bool
 qtB:aa->Int->Bool
abbrev F0:aP:=⟨inR,stlOk,qcI,staB,qtB⟩
def ct (F:aP):CT:=fun f ds=>match f,ds with
 |41,[.one (.v (.int Za x)),.one (.v (.int Za a)),.one (.v (.int Za b))]=>some (fun _=>True,[.k (F.inR x a b)])
 |195,[.one (.s 3 b),.agg [.v (.int Za a),.v (.int Za c),.v (.int Za s)]]=>some (fun _=>Rw [tI,tI,tI] b/\b.length<=1073741824,[.k (F.stlOk b a c s)])
 |196,[.one (.s 3 qs)]=>some (fun _=>Rw [tI,tI,tI] qs/\qs.length<=1073741824,[.j (F.qcI qs)])
 |28,[.one (.v (.int Za x)),.one (.v (.int Za a)),.one (.v (.int Za b))]=>some (fun _=>True,[.k (F.inR x a b)])
 |265,[.agg [.v (.int Za a),.v (.int Za c),.v (.int Za s)]]=>some (fun _=>True,[.k (F.staB a c s)])
 |266,[.agg [.v (.int Za rm),.s 3 os],.one (.v (.int Za id))]=>some (fun _=>Rw [tI,tI,tI] os/\os.length<=1099511627776,[.k (F.qtB os id)])
 |267,[.one (.s 3 qs)]=>some (fun _=>Rw [tI,tI,tI] qs/\qs.length<=1073741824,[.j (F.qcI qs)])
 |_,_=>none
theorem aj:aT (ct F0):=by
 intro f ds pre res h hp;unfold ct at h;split at h<;>cases h
 exact bc hp;exact sS hp;exact oC hp;exact be hp;exact wB hp;exact tD hp;exact rF hp
abbrev B:cF:=tb aj
end Ma9
theorem lE {rm:Int}{qs:aa}(hp:Rw [tI,tI,tI] qs/\qs.length<=1073741824):ap 129 [.agg [.i rm,.s 3 qs]] [.k (quarOk rm qs)]:=by
 obtain⟨hw,hl⟩:=hp;refine cb Ma9.B Tryz.func129 ?_
 intro O r F hO hr hF;cbv
 repeat' first|apply Zb|(apply bu<;>intro hb<;>cbv)|(refine⟨[1,6,7,8],[1],Int,fun i=>[.reg 8 (.j i)],fun i=>0<=i/\i<=((qs.length:Nat):Int)/\upto (yM qs) i,fun i=>(qs.length)-i.toNat,⟨0,?_,?_⟩,?_⟩;rotate_left;(focus (cbv;done));intro i hi;replace hi:0<=i/\i<=((qs.length:Nat):Int)/\upto (yM qs) i:=hi;obtain⟨i0,i1,i2⟩:=hi;cbv)|(refine ab (O.ar .add Za i 1) ?_ ?_ ?_;focus (cbv;done))
 all_goals(subst hO hr hF;(try simp only[nc]at*);(try simp only[ak,SS,sa,az]at*);(try rw[cy (by omega) (by omega)]);(try simp only[vp]at*))
 all_goals first
  | (show(_:List DV)=_
     first
      |(refine ai ?_;symm;exact Dx i0 (by assumption) (by assumption))
      |(refine ai ?_;rw[GX i2 (by omega)];simp[*,cA];done)
      |done)
  |omega
  |exact eF
  |(show aV _ _=true;kernel_rfl)
  |exact⟨hw,hl⟩
  |exact⟨Rw.take hw _,by rw[Zl];omega⟩
  |exact bC
  |exact aW i2 (by assumption)
  |done
theorem lJ {rm:Int}{qs:aa}(hp:Rw [tI,tI,tI] qs/\qs.length<=1073741824):ap 170 [.agg [.i rm,.s 3 qs]] [.k (quarOk rm qs)]:=by
 obtain⟨hw,hl⟩:=hp;refine cb Ma9.B Tryz.func170 ?_
 intro O r F hO hr hF;cbv
 repeat' first|apply Zb|(apply bu<;>intro hb<;>cbv)|(refine⟨[1,3],[1],Int,fun i=>[.reg 3 (.j i)],fun i=>0<=i/\i<=((qs.length:Nat):Int)/\upto (yM qs) i,fun i=>(qs.length)-i.toNat,⟨0,?_,?_⟩,?_⟩;rotate_left;(focus (cbv;done));intro i hi;replace hi:0<=i/\i<=((qs.length:Nat):Int)/\upto (yM qs) i:=hi;obtain⟨i0,i1,i2⟩:=hi;cbv)|(refine ab (O.ar .add Za i 1) ?_ ?_ ?_;focus (cbv;done))
 all_goals(subst hO hr hF;(try simp only[nc]at*);(try simp only[ak,SS,sa,az]at*);(try rw[cy (by omega) (by omega)]);(try simp only[vp]at*);(try have z:=wK i0 (by omega));(try simp only[z]at*))
 all_goals first
  | (show(_:List DV)=_
     first
      |(refine ai ?_;symm;exact Dx i0 (by assumption) (Q9 (by assumption)))
      |(refine ai ?_;symm;exact Dx i0 (by assumption) (Ra (by omega) (by assumption) (by assumption)))
      |(refine ai ?_;symm;exact Dx i0 (by assumption) (Rb (by assumption)))
      |(refine ai ?_;rw[GX i2 (by omega)];simp[*,cA];done)
      |(have q:false=true:=(by assumption);cases q)
      |done)
  |omega
  |exact eF
  |(show aV _ _=true;kernel_rfl)
  |exact⟨hw,hl⟩
  |exact⟨Rw.take hw _,by rw[Zl];omega⟩
  |exact bC
  |exact aW i2 (Rc (by assumption) (by assumption) i0 (by omega))
  |exact aW i2 (Re (by assumption) (by assumption) (by omega) (by assumption) (by assumption))
  |done
theorem vV {c:Int}(hp:True):ap 320 [.j c] [.k (inR c 0 15)]:=by
 refine cb Ma0.B Tryz.func320 ?_
 exact N2
theorem vX {c:Int}(hp:True):ap 133 [.j c] [.k (inR c 0 1073741823)]:=by
 refine cb Ma0.B Tryz.func133 ?_
 exact N2
namespace Mb1
structure aP where
 inR:Int->Int->Int->Bool
abbrev F0:aP:=⟨inR⟩
def ct (F:aP):CT:=fun f ds=>match f,ds with
 |41,[.one (.v (.int Za x)),.one (.v (.int Za a)),.one (.v (.int Za b))]=>some (fun _=>True,[.k (F.inR x a b)])
 |320,[.one (.v (.int Za c))]=>some (fun _=>True,[.k (F.inR c 0 15)])
 |28,[.one (.v (.int Za x)),.one (.v (.int Za a)),.one (.v (.int Za b))]=>some (fun _=>True,[.k (F.inR x a b)])
 |_,_=>none
theorem aj:aT (ct F0):=by
 intro f ds pre res h hp;unfold ct at h;split at h<;>cases h
 exact bc hp;exact vV hp;exact be hp
abbrev B:cF:=tb aj
end Mb1
theorem vS {k m:Int}{cs:aa}(hp:Rw [tI] cs/\cs.length<=1099511627776):ap 238 [.agg [.i k,.i m,.s 1 cs]] [.k (plOk k m cs)]:=by
 obtain⟨hw,hl⟩:=hp;refine cb Mb1.B Tryz.func238 ?_
 intro O r F hO hr hF;cbv
 repeat' first|apply Zb|(apply bu<;>intro hb<;>cbv)|(refine⟨[1,6,7,8],[1],Int,fun i=>[.reg 8 (.j i)],fun i=>0<=i/\i<=((cs.length:Nat):Int)/\upto (EJ cs) i,fun i=>(cs.length)-i.toNat,⟨0,?_,?_⟩,?_⟩;rotate_left;(focus (cbv;done));intro i hi;replace hi:0<=i/\i<=((cs.length:Nat):Int)/\upto (EJ cs) i:=hi;obtain⟨i0,i1,i2⟩:=hi;cbv)|(refine ab (O.ar .add Za i 1) ?_ ?_ ?_;focus (cbv;done))
 all_goals(subst hO hr hF;(try simp only[nc]at*);(try simp only[ak,SS,sa,az]at*);(try rw[cy (by omega) (by omega)]);(try have z:=wK i0 (by omega));(try simp only[z]at*))
 all_goals first
  | (show(_:List DV)=_
     first
      |(refine ai ?_;symm;exact GR i0 (by assumption) (by assumption))
      |(refine ai ?_;symm;exact GT i0 (by assumption) (by omega) (by assumption))
      |(refine ai ?_;rw[yL i2 (by omega)];simp[*,cA];done)
      |(refine ai ?_;rw[yL i2 (by omega),ye];simp[*];done)
      |(have q:false=true:=(by assumption);cases q)
      |done)
  |omega
  |exact eF
  |exact bC
  |exact aW i2 (Dr (by assumption) (by omega))
  |exact aW i2 (Ds (by assumption) (by assumption))
  |done
theorem wz {k m:Int}{cs:aa}(hp:Rw [tI] cs/\cs.length<=1099511627776):ap 272 [.agg [.i k,.i m,.s 1 cs]] [.k (plOk k m cs)]:=by
 obtain⟨hw,hl⟩:=hp;refine cb Mb1.B Tryz.func272 ?_
 intro O r F hO hr hF;cbv
 repeat' first|apply Zb|(apply bu<;>intro hb<;>cbv)|(refine⟨[1,3],[1],Int,fun i=>[.reg 3 (.j i)],fun i=>0<=i/\i<=((cs.length:Nat):Int)/\upto (EJ cs) i,fun i=>(cs.length)-i.toNat,⟨0,?_,?_⟩,?_⟩;rotate_left;(focus (cbv;done));intro i hi;replace hi:0<=i/\i<=((cs.length:Nat):Int)/\upto (EJ cs) i:=hi;obtain⟨i0,i1,i2⟩:=hi;cbv)|(refine ab (O.ar .add Za i 1) ?_ ?_ ?_;focus (cbv;done))
 all_goals(subst hO hr hF;(try simp only[nc]at*);(try simp only[ak,SS,sa,az]at*);(try rw[cy (by omega) (by omega)]);(try have z:=wK i0 (by omega));(try simp only[z]at*))
 all_goals first
  | (show(_:List DV)=_
     first
      |(refine ai ?_;symm;exact GR i0 (by assumption) (by assumption))
      |(refine ai ?_;symm;exact GT i0 (by assumption) (by omega) (by assumption))
      |(refine ai ?_;rw[yL i2 (by omega)];simp[*,cA];done)
      |(refine ai ?_;rw[yL i2 (by omega),ye];simp[*];done)
      |(have q:false=true:=(by assumption);cases q)
      |done)
  |omega
  |exact eF
  |(show aV _ _=true;kernel_rfl)
  |exact bC
  |exact aW i2 (Dr (by assumption) (by omega))
  |exact aW i2 (Ds (by assumption) (by assumption))
  |done
namespace Mb2
structure aP where
 plOk:Int->Int->aa->Bool
 inR:Int->Int->Int->Bool
abbrev F0:aP:=⟨plOk,inR⟩
def ct (F:aP):CT:=fun f ds=>match f,ds with
 |238,[.agg [.v (.int Za k),.v (.int Za m),.s 1 cs]]=>some (fun _=>Rw [tI] cs/\cs.length<=1099511627776,[.k (F.plOk k m cs)])
 |41,[.one (.v (.int Za x)),.one (.v (.int Za a)),.one (.v (.int Za b))]=>some (fun _=>True,[.k (F.inR x a b)])
 |272,[.agg [.v (.int Za k),.v (.int Za m),.s 1 cs]]=>some (fun _=>Rw [tI] cs/\cs.length<=1099511627776,[.k (F.plOk k m cs)])
 |28,[.one (.v (.int Za x)),.one (.v (.int Za a)),.one (.v (.int Za b))]=>some (fun _=>True,[.k (F.inR x a b)])
 |_,_=>none
theorem aj:aT (ct F0):=by
 intro f ds pre res h hp;unfold ct at h;split at h<;>cases h
 exact vS hp;exact bc hp;exact wz hp;exact be hp
abbrev B:cF:=tb aj
end Mb2
theorem xX {k m:Int}{cs:aa}{ph nx:Int}(hp:Rw [tI] cs/\cs.length<=1099511627776):ap 134 [.agg [.i k,.i m,.s 1 cs,.i ph,.i nx]] [.k (jbOk k m cs ph nx)]:=by
 refine cb Mb2.B Tryz.func134 ?_
 exact S8
theorem x8 {k m:Int}{cs:aa}{ph nx:Int}(hp:Rw [tI] cs/\cs.length<=1099511627776):ap 175 [.agg [.i k,.i m,.s 1 cs,.i ph,.i nx]] [.k (jbOk k m cs ph nx)]:=by
 refine cb Mb2.B Tryz.func175 ?_
 exact S8
namespace Mb3
structure aP where
 inR:Int->Int->Int->Bool
 clsSz:Int->Int
 hasB:aa->Int->Bool
abbrev F0:aP:=⟨inR,clsSz,hasB⟩
def ct (F:aP):CT:=fun f ds=>match f,ds with
 |193,[.one (.v (.int Za k))]=>some (fun _=>True,[.k (F.inR k 0 3)])
 |41,[.one (.v (.int Za x)),.one (.v (.int Za a)),.one (.v (.int Za b))]=>some (fun _=>True,[.k (F.inR x a b)])
 |84,[.one (.v (.int Za k))]=>some (fun _=>True,[.j (F.clsSz k)])
 |28,[.one (.v (.int Za x)),.one (.v (.int Za a)),.one (.v (.int Za b))]=>some (fun _=>True,[.k (F.inR x a b)])
 |183,[.one (.v (.int Za k))]=>some (fun _=>True,[.j (F.clsSz k)])
 |260,[.one (.s 1 l),.one (.v (.int Za x))]=>some (fun _=>Rw [tI] l,[.k (F.hasB l x)])
 |_,_=>none
theorem aj:aT (ct F0):=by
 intro f ds pre res h hp;unfold ct at h;split at h<;>cases h
 exact dM hp;exact bc hp;exact cz hp;exact be hp;exact du hp;exact fw hp
abbrev B:cF:=tb aj
end Mb3
theorem tC {ls:aa}(hp:JI ls):ap 171 [.agg [.s 1 ls]] [.k (caOk ls)]:=by
 have hw:=hp.w;have hl:=hp.l;have hn:=hp.n;refine cb Mb3.B Tryz.func171 ?_
 intro O r F hO hr hF;cbv
 repeat' first|apply Zb|(apply bu<;>intro hb<;>cbv)|(refine⟨[1,3,4],[1,3],Int×aa,fun s_=>match s_ with|(i,o)=>[.reg 4 (.j i),.reg 3 (.one (.vw 3 0 0 0 (O.ln o))),.leaf 3 0 ⟨0,0,none,.own (.s 1 o)⟩],fun s_=>match s_ with|(i,o)=>0<=i/\i<=4/\OI ls i o,fun s_=>match s_ with|(i,o)=>(4-i).toNat,⟨(0,[]),?_,?_⟩,?_⟩;rotate_left;(focus (cbv;done));intro s_ hi;obtain⟨i,o⟩:=s_;replace hi:0<=i/\i<=4/\OI ls i o:=hi;obtain⟨i0,i1,i2⟩:=hi;cbv)|(refine⟨[1,3,4,5],[1,3],Int×aa,fun s_=>match s_ with|(k,o1)=>[.reg 5 (.j k),.reg 3 (.one (.vw 3 0 0 0 (O.ln o1))),.leaf 3 0 ⟨0,0,none,.own (.s 1 o1)⟩],fun s_=>match s_ with|(k,o1)=>0<=k/\k<=((aR ls i 0).length:Int)/\JL ls i k o1,fun s_=>match s_ with|(k,o1)=>(aR ls i 0).length-k.toNat,⟨(0,o),?_,?_⟩,?_⟩;rotate_left;(focus (cbv;done));intro s_ hk;obtain⟨k,o1⟩:=s_;replace hk:0<=k/\k<=((aR ls i 0).length:Int)/\JL ls i k o1:=hk;obtain⟨k0,k1,k2⟩:=hk;cbv)|(refine ab (O.ar .add Za k 1,O.cat o1 (O.sub [[.i (O.gi (O.gs ls i 0) k 0)]] 0 (O.ln [[.i (O.gi (O.gs ls i 0) k 0)]]))) ?_ ?_ ?_;focus (cbv;done))|(refine ab (O.ar .add Za i 1,o1) ?_ ?_ ?_;focus (cbv;done))
 all_goals(subst hO hr hF;(try simp only[nc]at*);(try simp only[ak,SS,sa,az]at*);(try rw[cy (by omega) (by omega)]);(try have z6:bK .add Za k 1=k+1:=bh (by have:=hn i;omega));(try simp only[z6]at*);(try have w1:=NI k2 k0);(try have w2:=hp.el i0 (by omega));(try have w3:=w2.1))
 all_goals first
  | (show(_:List DV)=_
     first
      |(refine ai ?_;symm;exact ya (by assumption))
      |(refine ai ?_;symm;exact E3 i0 (by omega) (by omega))
      |(refine ai ?_;symm;exact yb i0 (by omega) k0 (by assumption) (JV (by assumption)))
      |(refine ai ?_;symm;exact yb i0 (by omega) k0 (by assumption) (JW (by assumption)))
      |(refine ai ?_;symm;exact NH k2 i0 k0 (by assumption) (by assumption))
      |(refine ai ?_;symm;exact E4 i2.p (by omega) (by omega))
      |done)
  |omega
  |exact eF
  |exact w1.2
  |(constructor<;>(simp only[List.length_cons,List.length_nil];omega))
  |(have c:=(gC (bB.2 (by omega:0<=i/\i<=3))).1;omega)
  |exact RS k2 k0 (by assumption) (by assumption) (by assumption)
  |exact RQ k2 i0 k1 (by omega)
  |exact UY i2 i0 (by omega) (by omega)
  |exact UW
  |exact⟨Zk,Zk⟩
  |done
theorem sK {ls:aa}(hp:JI ls):ap 130 [.agg [.s 1 ls]] [.k (caOk ls)]:=by
 have hw:=hp.w;have hl:=hp.l;have hn:=hp.n;refine cb Mb3.B Tryz.func130 ?_
 intro O r F hO hr hF;cbv
 repeat' first|apply Zb|(apply bu<;>intro hb<;>cbv)|(refine⟨[1,3,10,11,12],[1,8],Int×aa,fun s_=>match s_ with|(i,es)=>[.reg 12 (.j i),.leaf 8 0 ⟨0,0,none,.own (.m true es)⟩],fun s_=>match s_ with|(i,es)=>0<=i/\i<=(ls.length:Int)/\Bc ls i es,fun s_=>match s_ with|(i,es)=>ls.length-i.toNat,⟨(0,[]),?_,?_⟩,?_⟩;rotate_left;(focus (cbv;done));intro s_ hi;obtain⟨i,es⟩:=s_;replace hi:0<=i/\i<=(ls.length:Int)/\Bc ls i es:=hi;obtain⟨i0,i1,i2⟩:=hi;cbv)|(refine⟨[1,3,4,10,11,12,25,26,27],[1,8],Int×aa,fun s_=>match s_ with|(k,es1)=>[.reg 27 (.j k),.leaf 8 0 ⟨0,0,none,.own (.m true es1)⟩],fun s_=>match s_ with|(k,es1)=>0<=k/\k<=((aR ls i 0).length:Int)/\Bd ls i k es1,fun s_=>match s_ with|(k,es1)=>(aR ls i 0).length-k.toNat,⟨(0,es),?_,?_⟩,?_⟩;rotate_left;(focus (cbv;done));intro s_ hk;obtain⟨k,es1⟩:=s_;replace hk:0<=k/\k<=((aR ls i 0).length:Int)/\Bd ls i k es1:=hk;obtain⟨k0,k1,k2⟩:=hk;cbv)|(refine ab (O.ar .add Za k 1,O.mu es1 (O.gi (O.gs ls i 0) k 0) (.v (.bool true))) ?_ ?_ ?_;focus (cbv;done))|(refine ab (O.ar .add Za i 1,es1) ?_ ?_ ?_;focus (cbv;done))
 all_goals(subst hO hr hF;(try simp only[nc]at*);(try simp only[ak,SS,sa,az]at*);(try rw[cy (by omega) (by omega)]);(try have z6:bK .add Za k 1=k+1:=bh (by have:=hn i;omega));(try simp only[z6]at*);(try have w2:=hp.el i0 (by omega));(try have w3:=w2.1);(try have w4:=k2.p.l))
 all_goals first
  | (show(_:List DV)=_
     first
      |(refine ai ?_;exact LQ i2.p i1 (by omega))
      |(refine ai ?_;symm;exact IA i2 i0 (by omega) (by assumption))
      |(refine ai ?_;symm;exact IB i2 i0 (by assumption) (by assumption))
      |(refine ai ?_;symm;exact yb i0 (by omega) k0 (by assumption) (JV (by assumption)))
      |(refine ai ?_;symm;exact yb i0 (by omega) k0 (by assumption) (JW (by assumption)))
      |(refine ai ?_;symm;exact IC k2 i0 k0 (by assumption) (by assumption))
      |done)
  |omega
  |exact eF
  |(have c:=(gC (bB.2 (by omega:0<=i/\i<=3))).1;omega)
  |exact MC k2 k0 (by assumption) (by assumption) (by assumption)
  |exact MB k2 i0 k1 (by omega)
  |exact PZ i2 i0 (by assumption) (by omega)
  |exact PY
  |done
end Go.V