/- Contracts. -/
import Derived.Test.YtniaaknbbceigaaGreatLayQq
set_option linter.all false
namespace Go.V
open Go Go.Proofs
set_option maxRecDepth 1000000
set_option maxHeartbeats 8000000
namespace Of0
structure av where
 inR:Int->Int->Int->Bool
abbrev F0 :av:=⟨inR⟩
def ct (F:av):CT:=fun f ds=>match f,ds with
 |152,[.one (.v (.int .i64 x)),.one (.v (.int .i64 a)),.one (.v (.int .i64 b))]=>some (fun _=>True,[.k (F.inR x a b)])
 |_,_=>none
theorem ah :aO (ct F0):=by
 intro f ds pre res h hp;unfold ct at h;split at h<;>cases h
 exact aV hp
abbrev B :ce:=tb ah
end Of0
theorem mB {d0 d1 d2 d3 ad:Int}(hp:True):ap 155 [.agg [.i d0,.i d1,.i d2,.i d3],.ptr [.i ad]] [.k (obD d1 d2 ad)]:=by
 refine cb Of0.B Tryz.func155 ?_
 exact G8
namespace Of1
structure av where
 obD:Int->Int->Int->Bool
abbrev F0 :av:=⟨obD⟩
def ct (F:av):CT:=fun f ds=>match f,ds with
 |155,[.agg [.v (.int .i64 d0),.v (.int .i64 d1),.v (.int .i64 d2),.v (.int .i64 d3)],.ptr [.v (.int .i64 ad)]]=>some (fun _=>True,[.k (F.obD d1 d2 ad)])
 |_,_=>none
theorem ah :aO (ct F0):=by
 intro f ds pre res h hp;unfold ct at h;split at h<;>cases h
 exact mB hp
abbrev B :ce:=tb ah
end Of1
theorem bQ {os:aa}{ad:Int}(hp:Rw [tI,tI,tI,tI] os/\os.length<=1099511627776):ap 99 [.one (.s 4 os),.fn 155 [[.i ad]]] [.j (ofI os ad)]:=by
 obtain⟨hw,hn⟩:=hp;refine cb Of1.B Tryz.func99 ?_
 intro O r F hO hr hF;cbv
 repeat' first|apply And.intro|(apply be<;>intro hb<;>cbv)|(refine⟨[0,1,7,8],[0],Int,fun i=>[.reg 8 (.j i)],fun i=>0<=i/\i<=((os.length:Nat):Int)/\upto (bZ (FN os ad)) i,fun i=>(os.length)-i.toNat,⟨0,?_,?_⟩,?_⟩;rotate_left;(focus (cbv;done));intro i hi;replace hi:0<=i/\i<=((os.length:Nat):Int)/\upto (bZ (FN os ad)) i:=hi;obtain⟨i0,i1,i2⟩:=hi;cbv)|(refine ab (O.ar .add .i64 i 1) ?_ ?_ ?_;focus (cbv;done))
 all_goals(subst hO hr hF;(try simp only[nc]at*);(try simp only[ai,SS,sa,az]at*);(try rw[bX (by omega) (by omega)]))
 all_goals first
  | (show(_:List DV)=_
     first
      |exact bJ (cO i2 i0 (by assumption) (show FN os ad i=true from by assumption)).symm
      |exact bJ (cP i2 (by assumption)).symm
      |done)
  |omega
  |exact d9
  |(show(lk _ _).isSome=true;kernel_rfl)
  |exact aX
  |exact aP i2 (fO (show FN os ad i=false from by assumption))
  |done
namespace Of2
structure av where
 ofI:aa->Int->Int
abbrev F0 :av:=⟨ofI⟩
def ct (F:av):CT:=fun f ds=>match f,ds with
 |99,[.one (.s 4 os),.fn 155 [[.v (.int .i64 ad)]]]=>some (fun _=>Rw [tI,tI,tI,tI] os/\os.length<=1099511627776,[.j (F.ofI os ad)])
 |_,_=>none
theorem ah :aO (ct F0):=by
 intro f ds pre res h hp;unfold ct at h;split at h<;>cases h
 exact bQ hp
abbrev B :ce:=tb ah
end Of2
theorem qd {a0 a1 a2:aa}{a3:Int}{a4 a5 a6 a7 a8 a9 aA aB:aa}{aC:Int}{aD:aa}{aE aF aG aH:Int}{aI:Bool}{aJ aK:Int}{aL:aa}{aM aN ad:Int}(hp:Rw [tI,tI,tI,tI] a8/\a8.length<=1099511627776):ap 56 [.agg (ez a0 a1 a2 a3 a4 a5 a6 a7 a8 a9 aA aB aC aD aE aF aG aH aI aJ aK aL aM aN),.j ad] [.j (ofI a8 ad)]:=by
 refine cb Of2.B Tryz.func56 ?_
 intro O r F hO hr hF;cbv
 repeat' first|apply And.intro|(apply be<;>intro hb<;>cbv)
 all_goals(subst hO hr hF;(try simp only[nc]at*);(try simp only[ai,SS,sa,az]at*))
 all_goals first|exact hp|done
theorem wK {a0 a1 a2:aa}{a3:Int}{a4 a5 a6 a7 a8 a9 aA aB:aa}{aC:Int}{aD:aa}{aE aF aG aH:Int}{aI:Bool}{aJ aK:Int}{aL:aa}{aM aN ad:Int}(hp:Hb a8):ap 45 [.ptr (ez a0 a1 a2 a3 a4 a5 a6 a7 a8 a9 aA aB aC aD aE aF aG aH aI aJ aK aL aM aN),.j ad] [.j (ofI a8 ad)]:=by
 have hw:=hp.w;have hn:=hp.l;refine cb Of2.B Tryz.func45 ?_
 intro O r F hO hr hF;cbv
 repeat' first|apply And.intro|(apply be<;>intro hb<;>cbv)|(refine⟨[0,1,5],[0],Int,fun i=>[.reg 5 (.j i)],fun i=>0<=i/\i<=((a8.length:Nat):Int)/\upto (bZ (FN a8 ad)) i,fun i=>(a8.length)-i.toNat,⟨0,?_,?_⟩,?_⟩;rotate_left;(focus (cbv;done));intro i hi;replace hi:0<=i/\i<=((a8.length:Nat):Int)/\upto (bZ (FN a8 ad)) i:=hi;obtain⟨i0,i1,i2⟩:=hi;cbv)|(refine ab (O.ar .add .i64 i 1) ?_ ?_ ?_;focus (cbv;done))
 all_goals(subst hO hr hF;(try simp only[nc]at*);(try simp only[ai,SS,sa,az]at*);(try rw[bX (by omega) (by omega)]))
 all_goals first
  | (show(_:List DV)=_
     first
      |exact bJ (cO i2 i0 (by assumption) (SR hp i0 (by assumption) (by assumption) (by assumption))).symm
      |exact bJ (cP i2 (by omega)).symm
      |done)
  |omega
  |exact d9
  |(show aU _ _=true;kernel_rfl)
  |exact aX
  |exact aP i2 (fO (SQ hp i0 (by assumption) (by omega)))
  |done
namespace Of3
structure av where
 ofI:aa->Int->Int
 hpI:aa->aa->aa->Int->aa->aa->aa->aa->aa->aa->aa->aa->Int->aa->Int->Int->Int->Int->Bool->Int->Int->aa->Int->Int->Bool
abbrev F0 :av:=⟨ofI,hpI⟩
def ct (F:av):CT:=fun f ds=>match f with
 | 56=>match ds with
   |[.agg [.s 1 a0,.s 1 a1,.s 2 a2,.v (.int .i64 a3),.s 1 a4,.s 2 a5,.s 3 a6,.s 3 a7,.s 4 a8,.s 1 a9,.s 1 aA,.s 1 aB,.v (.int .i64 aC),.s 3 aD,.v (.int .i64 aE),.v (.int .i64 aF),.v (.int .i64 aG),.v (.int .i64 aH),.v (.bool aI),.v (.int .i64 aJ),.v (.int .i64 aK),.s 1 aL,.v (.int .i64 aM),.v (.int .i64 aN)],.one (.v (.int .i64 ad))]=>some (fun _=>Rw [tI,tI,tI,tI] a8/\a8.length<=1099511627776,[.j (F.ofI a8 ad)])
   |_=>none
 | 45=>match ds with
   |[.ptr [.s 1 a0,.s 1 a1,.s 2 a2,.v (.int .i64 a3),.s 1 a4,.s 2 a5,.s 3 a6,.s 3 a7,.s 4 a8,.s 1 a9,.s 1 aA,.s 1 aB,.v (.int .i64 aC),.s 3 aD,.v (.int .i64 aE),.v (.int .i64 aF),.v (.int .i64 aG),.v (.int .i64 aH),.v (.bool aI),.v (.int .i64 aJ),.v (.int .i64 aK),.s 1 aL,.v (.int .i64 aM),.v (.int .i64 aN)],.one (.v (.int .i64 ad))]=>some (fun _=>Hb a8,[.j (F.ofI a8 ad)])
   |_=>none
 | 55=>match ds with
   |[.agg [.s 1 a0,.s 1 a1,.s 2 a2,.v (.int .i64 a3),.s 1 a4,.s 2 a5,.s 3 a6,.s 3 a7,.s 4 a8,.s 1 a9,.s 1 aA,.s 1 aB,.v (.int .i64 aC),.s 3 aD,.v (.int .i64 aE),.v (.int .i64 aF),.v (.int .i64 aG),.v (.int .i64 aH),.v (.bool aI),.v (.int .i64 aJ),.v (.int .i64 aK),.s 1 aL,.v (.int .i64 aM),.v (.int .i64 aN)]]=>some (fun _=>eR a0 a1 a2 a4 a5 a6 a7 a8 a9 aA aB aD aL,[.k (F.hpI a0 a1 a2 a3 a4 a5 a6 a7 a8 a9 aA aB aC aD aE aF aG aH aI aJ aK aL aM aN)])
   |_=>none
 | 44=>match ds with
   |[.agg [.s 1 a0,.s 1 a1,.s 2 a2,.v (.int .i64 a3),.s 1 a4,.s 2 a5,.s 3 a6,.s 3 a7,.s 4 a8,.s 1 a9,.s 1 aA,.s 1 aB,.v (.int .i64 aC),.s 3 aD,.v (.int .i64 aE),.v (.int .i64 aF),.v (.int .i64 aG),.v (.int .i64 aH),.v (.bool aI),.v (.int .i64 aJ),.v (.int .i64 aK),.s 1 aL,.v (.int .i64 aM),.v (.int .i64 aN)]]=>some (fun _=>eR a0 a1 a2 a4 a5 a6 a7 a8 a9 aA aB aD aL,[.k (F.hpI a0 a1 a2 a3 a4 a5 a6 a7 a8 a9 aA aB aC aD aE aF aG aH aI aJ aK aL aM aN)])
   |_=>none
 |_=>none
theorem ah :aO (ct F0):=by
 intro f ds pre res h hp;unfold ct at h;split at h<;>(try split at h)<;>cases h
 exact qd hp;exact wK hp;exact cK hp;exact dE hp
abbrev B :ce:=tb ah
end Of3
theorem jz {a0 a1 a2:aa}{a3:Int}{a4 a5 a6 a7 a8 a9 aA aB:aa}{aC:Int}{aD:aa}{aE aF aG aH:Int}{aI:Bool}{aJ aK:Int}{aL:aa}{aM aN ad:Int}(hp:eR a0 a1 a2 a4 a5 a6 a7 a8 a9 aA aB aD aL):ap 13 [.agg (ez a0 a1 a2 a3 a4 a5 a6 a7 a8 a9 aA aB aC aD aE aF aG aH aI aJ aK aL aM aN),.j ad] [.j (ooI (hpI a0 a1 a2 a3 a4 a5 a6 a7 a8 a9 aA aB aC aD aE aF aG aH aI aJ aK aL aM aN) a8 ad)]:=by
 have N:=hp.n;refine cb Of3.B Tryz.func13 ?_
 intro O r F hO hr hF;cbv
 repeat' first|apply And.intro|(apply be<;>intro hb<;>cbv)
 all_goals(subst hO hr hF;(try simp only[nc]at*);(try simp only[ai,SS,sa,az]at*))
 all_goals first|exact hp|exact bJ (P0 (by assumption)).symm|exact bJ (PZ (by assumption)).symm|exact⟨N.ow,by have:=N.ol;omega⟩|done
theorem jF {a0 a1 a2:aa}{a3:Int}{a4 a5 a6 a7 a8 a9 aA aB:aa}{aC:Int}{aD:aa}{aE aF aG aH:Int}{aI:Bool}{aJ aK:Int}{aL:aa}{aM aN ad:Int}(hp:eR a0 a1 a2 a4 a5 a6 a7 a8 a9 aA aB aD aL):ap 11 [.agg (ez a0 a1 a2 a3 a4 a5 a6 a7 a8 a9 aA aB aC aD aE aF aG aH aI aJ aK aL aM aN),.j ad] [.j (ooI (hpI a0 a1 a2 a3 a4 a5 a6 a7 a8 a9 aA aB aC aD aE aF aG aH aI aJ aK aL aM aN) a8 ad)]:=by
 have N:=hp.n;refine cb Of3.B Tryz.func11 ?_
 intro O r F hO hr hF;cbv
 repeat' first|apply And.intro|(apply be<;>intro hb<;>cbv)
 all_goals(subst hO hr hF;(try simp only[nc]at*);(try simp only[ai,SS,sa,az]at*))
 all_goals first|exact hp|exact bJ (P0 (by assumption)).symm|exact bJ (PZ (by assumption)).symm|exact xt N.ow (by have:=N.ol;omega) (by assumption)|done
end Go.V