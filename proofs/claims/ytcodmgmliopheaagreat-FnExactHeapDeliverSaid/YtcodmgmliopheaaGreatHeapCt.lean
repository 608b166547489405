/- Contracts. -/
import Derived.Test.YtcodmgmliopheaaGreatHeapBt
set_option linter.all false
namespace Go.V
open Go Go.Proofs
set_option maxRecDepth 1000000
set_option maxHeartbeats 8000000
namespace C1
structure aQ where
 inR:Int->Int->Int->Bool
abbrev F0 :aQ:=⟨inR⟩
def ct (F:aQ):CT:=fun f ds=>match f,ds with
 |91,[.one (.v (.int .i64 x)),.one (.v (.int .i64 a)),.one (.v (.int .i64 b))]=>some (fun _=>True,[.k (F.inR x a b)])
 |89,[.one (.v (.int .i64 x)),.one (.v (.int .i64 a)),.one (.v (.int .i64 b))]=>some (fun _=>True,[.k (F.inR x a b)])
 |_,_=>none
theorem ah :aR (ct F0):=by
 intro f ds pre res h hp;unfold ct at h;split at h<;>cases h
 exact aU hp;exact bc hp
abbrev B :cq:=tb ah
end C1
theorem vW {b i:Int}(hp:True):ap 393 [.j b,.j i] [.k (slB b i)]:=by
 refine cb C1.B Tryz.func393 ?_
 exact S5
theorem wt {b i:Int}(hp:True):ap 417 [.j b,.j i] [.k (slB b i)]:=by
 refine cb C1.B Tryz.func417 ?_
 exact S5
namespace C2
structure aQ where
 slB:Int->Int->Bool
abbrev F0 :aQ:=⟨slB⟩
def ct (F:aQ):CT:=fun f ds=>match f,ds with
 |393,[.one (.v (.int .i64 b)),.one (.v (.int .i64 i))]=>some (fun _=>True,[.k (F.slB b i)])
 |417,[.one (.v (.int .i64 b)),.one (.v (.int .i64 i))]=>some (fun _=>True,[.k (F.slB b i)])
 |_,_=>none
theorem ah :aR (ct F0):=by
 intro f ds pre res h hp;unfold ct at h;split at h<;>cases h
 exact vW hp;exact wt hp
abbrev B :cq:=tb ah
end C2
theorem eD {b i:Int}(hp:True):ap 311 [.j b,.j i] [.k (hsB b i)]:=by
 refine cb C2.B Tryz.func311 ?_
 exact SP
theorem gj {b i:Int}(hp:True):ap 371 [.j b,.j i] [.k (hsB b i)]:=by
 refine cb C2.B Tryz.func371 ?_
 exact SP
namespace C3
structure aQ where
 hsB:Int->Int->Bool
abbrev F0 :aQ:=⟨hsB⟩
def ct (F:aQ):CT:=fun f ds=>match f,ds with
 |311,[.one (.v (.int .i64 b)),.one (.v (.int .i64 i))]=>some (fun _=>True,[.k (F.hsB b i)])
 |371,[.one (.v (.int .i64 b)),.one (.v (.int .i64 i))]=>some (fun _=>True,[.k (F.hsB b i)])
 |_,_=>none
theorem ah :aR (ct F0):=by
 intro f ds pre res h hp;unfold ct at h;split at h<;>cases h
 exact eD hp;exact gj hp
abbrev B :cq:=tb ah
end C3
theorem mn {b:Int}(hp:True):ap 205 [.j b] [.j (ctI b)]:=by
 refine cb C3.B Tryz.func205 ?_
 exact SB
theorem mS {b:Int}(hp:True):ap 308 [.j b] [.j (ctI b)]:=by
 refine cb C3.B Tryz.func308 ?_
 exact SB
namespace C4
structure aQ where
 ctI:Int->Int
 fpg:aa->Int->aa
abbrev F0 :aQ:=⟨ctI,fpg⟩
def ct (F:aQ):CT:=fun f ds=>match f,ds with
 |205,[.one (.v (.int .i64 b))]=>some (fun _=>True,[.j (F.ctI b)])
 |206,[.agg [.s 1 a0,.s 1 a1,.s 2 a2,.v (.int .i64 a3),.s 1 a4,.s 2 a5,.s 3 a6,.s 3 a7,.s 4 a8,.s 1 a9,.s 1 aA,.s 1 aB,.v (.int .i64 aC),.s 3 aD,.v (.int .i64 aE),.v (.int .i64 aF),.v (.int .i64 aG),.v (.int .i64 aH),.v (.bool aI),.v (.int .i64 aJ),.v (.int .i64 aK),.s 1 aL,.v (.int .i64 aM),.v (.int .i64 aN)],.one (.v (.int .i64 pg))]=>some (fun _=>Rw [tI,tI] a2/\a2.length<=1099511627776,[.one (.s 1 (F.fpg a2 pg))])
 |308,[.one (.v (.int .i64 b))]=>some (fun _=>True,[.j (F.ctI b)])
 |268,[.agg [.s 1 a0,.s 1 a1,.s 2 a2,.v (.int .i64 a3),.s 1 a4,.s 2 a5,.s 3 a6,.s 3 a7,.s 4 a8,.s 1 a9,.s 1 aA,.s 1 aB,.v (.int .i64 aC),.s 3 aD,.v (.int .i64 aE),.v (.int .i64 aF),.v (.int .i64 aG),.v (.int .i64 aH),.v (.bool aI),.v (.int .i64 aJ),.v (.int .i64 aK),.s 1 aL,.v (.int .i64 aM),.v (.int .i64 aN)],.one (.v (.int .i64 pg))]=>some (fun _=>Rw [tI,tI] a2/\a2.length<=1099511627776,[.one (.s 1 (F.fpg a2 pg))])
 |_,_=>none
theorem ah :aR (ct F0):=by
 intro f ds pre res h hp;unfold ct at h;split at h<;>cases h
 exact mn hp;exact gM hp;exact mS hp;exact eE hp
abbrev B :cq:=tb ah
end C4
theorem oz {a0 a1 a2:aa}{a3:Int}{a4 a5 a6 a7 a8 a9 aA aB:aa}{aC:Int}{aD:aa}{aE aF aG aH:Int}{aI:Bool}{aJ aK:Int}{aL:aa}{aM aN:Int}(hp:Rw [tI,tI] a2/\Rw [tI,tI,tI] a6/\a2.length<=1099511627776/\a6.length<=1099511627776):ap 84 [.agg (fU a0 a1 a2 a3 a4 a5 a6 a7 a8 a9 aA aB aC aD aE aF aG aH aI aJ aK aL aM aN)] [.one (.s 3 (msS a2 a6))]:=by
 obtain⟨he,hw,hm,hn⟩:=hp;refine cb C4.B Tryz.func84 ?_
 intro O r F hO hr hF;cbv
 repeat' first|apply And.intro|(apply bi<;>intro hb<;>cbv)|(refine⟨[1,3,8,9,10],[1,3],Int×aa,fun s_=>match s_ with|(i,out)=>[.reg 10 (.j i),.reg 3 (.one (.vw 3 0 0 0 (O.ln out))),.leaf 3 0 ⟨0,0,none,.own (.s 3 out)⟩],fun s_=>match s_ with|(i,out)=>0<=i/\i<=(a6.length:Int)/\out=zu a2 a6 i.toNat,fun s_=>match s_ with|(i,out)=>a6.length-i.toNat,⟨(0,[]),?_,?_⟩,?_⟩;rotate_left;(focus (cbv;done));intro s_ hi;obtain⟨i,out⟩:=s_;replace hi:0<=i/\i<=(a6.length:Int)/\out=zu a2 a6 i.toNat:=hi;obtain⟨i0,i1,i2⟩:=hi;cbv)|(refine ab (O.ar .add .i64 i 1,O.cat out (O.sub [[.i (O.gi a6 i 0),.i (O.gi a6 i 1),.i (O.gi a6 i 2)]] 0 (O.ln [[.i (O.gi a6 i 0),.i (O.gi a6 i 1),.i (O.gi a6 i 2)]]))) ?_ ?_ ?_;focus (cbv;done))|(refine ab (O.ar .add .i64 i 1,out) ?_ ?_ ?_;focus (cbv;done))
 all_goals exact SF
theorem oU {a0 a1 a2:aa}{a3:Int}{a4 a5 a6 a7 a8 a9 aA aB:aa}{aC:Int}{aD:aa}{aE aF aG aH:Int}{aI:Bool}{aJ aK:Int}{aL:aa}{aM aN:Int}(hp:Rw [tI,tI] a2/\Rw [tI,tI,tI] a6/\a2.length<=1099511627776/\a6.length<=1099511627776):ap 201 [.agg (fU a0 a1 a2 a3 a4 a5 a6 a7 a8 a9 aA aB aC aD aE aF aG aH aI aJ aK aL aM aN)] [.one (.s 3 (msS a2 a6))]:=by
 obtain⟨he,hw,hm,hn⟩:=hp;refine cb C4.B Tryz.func201 ?_
 intro O r F hO hr hF;cbv
 repeat' first|apply And.intro|(apply bi<;>intro hb<;>cbv)|(refine⟨[1,3,4],[1,3],Int×aa,fun s_=>match s_ with|(i,out)=>[.reg 4 (.j i),.reg 3 (.one (.vw 3 0 0 0 (O.ln out))),.leaf 3 0 ⟨0,0,none,.own (.s 3 out)⟩],fun s_=>match s_ with|(i,out)=>0<=i/\i<=(a6.length:Int)/\out=zu a2 a6 i.toNat,fun s_=>match s_ with|(i,out)=>a6.length-i.toNat,⟨(0,[]),?_,?_⟩,?_⟩;rotate_left;(focus (cbv;done));intro s_ hi;obtain⟨i,out⟩:=s_;replace hi:0<=i/\i<=(a6.length:Int)/\out=zu a2 a6 i.toNat:=hi;obtain⟨i0,i1,i2⟩:=hi;cbv)|(refine ab (O.ar .add .i64 i 1,O.cat out (O.sub [[.i (O.gi a6 i 0),.i (O.gi a6 i 1),.i (O.gi a6 i 2)]] 0 (O.ln [[.i (O.gi a6 i 0),.i (O.gi a6 i 1),.i (O.gi a6 i 2)]]))) ?_ ?_ ?_;focus (cbv;done))|(refine ab (O.ar .add .i64 i 1,out) ?_ ?_ ?_;focus (cbv;done))
 all_goals exact SF
end Go.V