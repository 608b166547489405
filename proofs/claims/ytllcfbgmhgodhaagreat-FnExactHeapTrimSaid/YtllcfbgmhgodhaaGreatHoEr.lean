/- Contracts. -/
import Derived.Test.YtllcfbgmhgodhaaGreatHoDr
set_option linter.all false
namespace Go.V
open Go Go.Proofs
set_option maxRecDepth 1000000
set_option maxHeartbeats 8000000
theorem mT {d0 d1 d2 ad:Int}(hp:True):au 92 [.agg [.i d0,.i d1,.i d2],.ptr [.i ad]] [.k (pmB d0 ad)]:=by
 refine cb nB Tryz.func92 ?_
 intro O r F hO hr hF;cbv
 repeat' first|apply And.intro|(apply be<;>intro hb<;>cbv)
 all_goals(subst hO hr hF;(try simp only[nc]at*);(try simp only[aj,SS,sa,az]at*))
 all_goals first
  | (show(_:List DV)=_
     first
      |exact ak (ew (by unfold pmB eqB;simp only[SS,decide_eq_true_eq]))
      |exact ak (show true=pmB d0 ad from(nM (by assumption)).symm)
      |exact ak (show false=pmB d0 ad from(qo (by assumption)).symm)
      |done)
  |done
namespace Ze1
structure aQ where
 pmB:Int->Int->Bool
abbrev F0 :aQ:=⟨pmB⟩
def ct (F:aQ):CT:=fun f ds=>match f,ds with
 |92,[.agg [.v (.int .i64 d0),.v (.int .i64 d1),.v (.int .i64 d2)],.ptr [.v (.int .i64 ad)]]=>some (fun _=>True,[.k (F.pmB d0 ad)])
 |_,_=>none
theorem ai :aS (ct F0):=by
 intro f ds pre res h hp;unfold ct at h;split at h<;>cases h
 exact mT hp
abbrev B :cy:=tb ai
end Ze1
theorem bT {os:aa}{id:Int}(hp:Rw [tI,tI,tI] os/\os.length<=1099511627776):au 91 [.one (.s 3 os),.fn 92 [[.i id]]] [.j (lhI os id)]:=by
 obtain⟨hw,hn⟩:=hp;refine cb Ze1.B Tryz.func91 ?_
 intro O r F hO hr hF;cbv
 repeat' first|apply And.intro|(apply be<;>intro hb<;>cbv)|(refine⟨[0,1,7,8],[0],Int,fun i=>[.reg 8 (.j i)],fun i=>0<=i/\i<=((os.length:Nat):Int)/\upto (cg (wZ os id)) i,fun i=>(os.length)-i.toNat,⟨0,?_,?_⟩,?_⟩;rotate_left;(focus (cbv;done));intro i hi;replace hi:0<=i/\i<=((os.length:Nat):Int)/\upto (cg (wZ os id)) i:=hi;obtain⟨i0,i1,i2⟩:=hi;cbv)|(refine ab (O.ar .add .i64 i 1) ?_ ?_ ?_;focus (cbv;done))
 all_goals(subst hO hr hF;(try simp only[nc]at*);(try simp only[aj,SS,sa,az]at*);(try rw[cv (by omega) (by omega)]))
 all_goals first
  | (show(_:List DV)=_
     first
      |exact cp (cJ i2 i0 (by assumption) (show wZ os id i=true from by assumption)).symm
      |exact cp (cK i2 (by assumption)).symm
      |done)
  |omega
  |exact eR
  |(show(lk _ _).isSome=true;kernel_rfl)
  |exact bi
  |exact aV i2 (eW (show wZ os id i=false from by assumption))
  |done
namespace Ze2
structure aQ where
 lgOk:Int->Int->Int->Bool
 inR:Int->Int->Int->Bool
 pfN:Int->Int
abbrev F0 :aQ:=⟨lgOk,inR,pfN⟩
def ct (F:aQ):CT:=fun f ds=>match f,ds with
 |200,[.agg [.v (.int .i64 p),.v (.int .i64 n),.v (.int .i64 s)]]=>some (fun _=>True,[.k (F.lgOk p n s)])
 |105,[.one (.v (.int .i64 x)),.one (.v (.int .i64 a)),.one (.v (.int .i64 b))]=>some (fun _=>True,[.k (F.inR x a b)])
 |201,[.one (.v (.int .i64 s))]=>some (fun _=>True,[.j (F.pfN s)])
 |237,[.agg [.v (.int .i64 p),.v (.int .i64 n),.v (.int .i64 s)]]=>some (fun _=>True,[.k (F.lgOk p n s)])
 |103,[.one (.v (.int .i64 x)),.one (.v (.int .i64 a)),.one (.v (.int .i64 b))]=>some (fun _=>True,[.k (F.inR x a b)])
 |288,[.one (.v (.int .i64 s))]=>some (fun _=>True,[.j (F.pfN s)])
 |_,_=>none
theorem ai :aS (ct F0):=by
 intro f ds pre res h hp;unfold ct at h;split at h<;>cases h
 exact gF hp;exact aZ hp;exact jW hp;exact gN hp;exact bg hp;exact j4 hp
abbrev B :cy:=tb ai
end Ze2
theorem oU {p n s z:Int}(hp:True):au 93 [.agg [.i p,.i n,.i s],.j z] [.agg [.i p,.i (ltN p n s z),.i (ltS p n s z)],.agg [.i (ltA p n s z),.i (ltL p n s z)],.k (ltB p n s z)]:=by
 refine cb Ze2.B Tryz.func93 ?_
 exact SA
theorem pq {p n s z:Int}(hp:True):au 198 [.agg [.i p,.i n,.i s],.j z] [.agg [.i p,.i (ltN p n s z),.i (ltS p n s z)],.agg [.i (ltA p n s z),.i (ltL p n s z)],.k (ltB p n s z)]:=by
 refine cb Ze2.B Tryz.func198 ?_
 exact SA
namespace Ze3
structure aQ where
 peM:aa->Int->Int
 peF:aa->Int->Int
abbrev F0 :aQ:=⟨peM,peF⟩
def ct (F:aQ):CT:=fun f ds=>match f,ds with
 |204,[.agg [.s 2 es],.one (.v (.int .i64 p))]=>some (fun _=>Rw [tI,tI] es,[.agg [.i (F.peM es p),.i (F.peF es p)]])
 |_,_=>none
theorem ai :aS (ct F0):=by
 intro f ds pre res h hp;unfold ct at h;split at h<;>cases h
 exact dA hp
abbrev B :cy:=tb ai
end Ze3
theorem mW {cs us es:aa}{c:Int}{rs:aa}{a n:Int}(hp:Rw [.sl [tI]] cs/\Rw [tI,tI] es/\lT cs us es/\0<=a/\a<=9223372036854775807/\peM es (a/16)≠0/\0<=n/\a%16+n<=16):kn 95 [.mp [.own (.s 1 cs),.own (.s 1 us),.own (.s 2 es),.own (.i c),.own (.s 1 rs)],.j a,.j n] [[.own (.s 1 (tcC cs es a n)),.own (.s 1 us),.own (.s 2 es),.own (.i c),.own (.s 1 rs)]] []:=by
 obtain⟨wc,we,km,a0,a1,hm,n0,n1⟩:=hp;have fr:=GU km hm;have e1:bF .quo .i64 a 16=a/16:=oz (by omega) (by omega) (by omega);have e2:bF .rem .i64 a 16=a%16:=qN (by omega);refine pb Ze3.B Tryz.func95 ?_
 intro O r os F hO hr hos hF;cbv
 repeat' first|apply And.intro|(apply be<;>intro hb<;>cbv)|(refine⟨[0,1,2,6,7],[0],Int×aa,fun s_=>match s_ with|(i,d)=>[.reg 7 (.j i),.leaf 0 0 ⟨0,0,none,.own (.s 1 d)⟩],fun s_=>match s_ with|(i,d)=>0<=i/\i<=n/\Ic cs us es (peF es (a/16)) (a%16) i d,fun s_=>match s_ with|(i,d)=>(n-i).toNat,⟨(0,cs),?_,?_⟩,?_⟩;rotate_left;(focus (cbv;done));intro s_ hi;obtain⟨i,d⟩:=s_;replace hi:0<=i/\i<=n/\Ic cs us es (peF es (a/16)) (a%16) i d:=hi;obtain⟨i0,i1,i2⟩:=hi;cbv)|(refine ab (O.ar .add .i64 i 1,O.up (.s 1 d) [(O.ad 0 (F.peF (O.sub es 0 (O.ln es)) (O.ar .quo .i64 a 16)),0),(O.ad 0 (O.ar .add .i64 (O.ar .rem .i64 a 16) i),0)] [.i 0]) ?_ ?_ ?_;focus (cbv;done))
 all_goals((try subst hos);subst hO hr hF;(try simp only[nc]at*);(try simp only[aj,SS,sa,az]at*);(try simp only[vC]at*);(try rw[cv (by omega) (by omega)]);(try simp only[e1]at*);(try simp only[e2]at*);(try have e3:bF .add .i64 (a%16) i=a%16+i:=bc (by omega));(try simp only[e3]at*);(try have dl:=i2.m.u.symm.trans km.u);(try have lf:=i2.m.l (peF es (a/16)) fr.1 (by omega));(try have q:=CE i2 i0 hm rfl (by omega) (by omega)))
 all_goals first
  |(show(_:List DV)=_;exact rfl)
  | (show(_:List H)=_
     first
      |(have z:=JR i2 (n:=n) (by omega) (by omega);rw[z];exact rfl)
      |done)
  |omega
  |exact we
  |exact HQ km wc
  |(rw[EY i2.w fr.1 (by omega) (by omega) (by omega)];exact q)
  |exact Dh i2.w fr.1 (by omega) (by omega) (by omega)
  |exact sT i2.w fr.1 (by omega)
  |exact⟨by omega,by omega,nV i2.w fr.1 (by omega)⟩
  |(show aW _ _=true;kernel_rfl)
  |exact⟨True.intro,True.intro⟩
  |exact True.intro
  |done
end Go.V