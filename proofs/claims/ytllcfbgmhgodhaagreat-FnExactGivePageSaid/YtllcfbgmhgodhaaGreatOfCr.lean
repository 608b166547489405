/- Contracts. -/
import Derived.Test.YtllcfbgmhgodhaaGreatOfBr
set_option linter.all false
namespace Go.V
open Go Go.Proofs
set_option maxRecDepth 1000000
set_option maxHeartbeats 8000000
namespace Oc0
structure aQ where
 spOk:Int->Int->Int->Bool
 clsSz:Int->Int
 hsB:Int->Int->Bool
abbrev F0 :aQ:=⟨spOk,clsSz,hsB⟩
def ct (F:aQ):CT:=fun f ds=>match f,ds with
 |259,[.agg [.v (.int .i64 p),.v (.int .i64 k),.v (.int .i64 b)]]=>some (fun _=>True,[.k (F.spOk p k b)])
 |235,[.agg [.v (.int .i64 p),.v (.int .i64 k),.v (.int .i64 b)]]=>some (fun _=>True,[.k (F.spOk p k b)])
 |265,[.one (.v (.int .i64 k))]=>some (fun _=>True,[.j (F.clsSz k)])
 |244,[.one (.v (.int .i64 k))]=>some (fun _=>True,[.j (F.clsSz k)])
 |294,[.one (.v (.int .i64 b)),.one (.v (.int .i64 i))]=>some (fun _=>True,[.k (F.hsB b i)])
 |323,[.one (.v (.int .i64 b)),.one (.v (.int .i64 i))]=>some (fun _=>True,[.k (F.hsB b i)])
 |_,_=>none
theorem ai :aS (ct F0):=by
 intro f ds pre res h hp;unfold ct at h;split at h<;>cases h
 exact fx hp;exact fA hp;exact cC hp;exact dB hp;exact gE hp;exact kB hp
abbrev B :cy:=tb ai
end Oc0
theorem tG {a0 a1 a2:aa}{a3:Int}{a4 a5 a6 a7 a8 a9 aA aB:aa}{aC:Int}{aD:aa}{aE aF aG aH:Int}{aI:Bool}{aJ aK:Int}{aL:aa}{aM aN:Int}(hp:a2.length<=1073741824):au 207 [.agg (eD a0 a1 a2 a3 a4 a5 a6 a7 a8 a9 aA aB aC aD aE aF aG aH aI aJ aK aL aM aN)] [.j (zlI a2)]:=by
 refine cb Oc0.B Tryz.func207 ?_
 exact J1
end Go.V