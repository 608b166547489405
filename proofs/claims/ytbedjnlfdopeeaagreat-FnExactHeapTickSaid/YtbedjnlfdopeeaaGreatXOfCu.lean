/- Contracts. -/
import Derived.Test.YtbedjnlfdopeeaaGreatXOfBu
set_option linter.all false
open Go
open IntKind renaming i64->Za
namespace Go.V
open Go Go.Proofs
set_option maxRecDepth 1000000
set_option maxHeartbeats 8000000
namespace Oc0
structure aP where
 spOk:Int->Int->Int->Bool
 clsSz:Int->Int
 hsB:Int->Int->Bool
abbrev F0:aP:=⟨spOk,clsSz,hsB⟩
def ct (F:aP):CT:=fun f ds=>match f,ds with
 |227,[.agg [.v (.int Za p),.v (.int Za k),.v (.int Za b)]]=>some (fun _=>True,[.k (F.spOk p k b)])
 |259,[.agg [.v (.int Za p),.v (.int Za k),.v (.int Za b)]]=>some (fun _=>True,[.k (F.spOk p k b)])
 |84,[.one (.v (.int Za k))]=>some (fun _=>True,[.j (F.clsSz k)])
 |183,[.one (.v (.int Za k))]=>some (fun _=>True,[.j (F.clsSz k)])
 |242,[.one (.v (.int Za b)),.one (.v (.int Za i))]=>some (fun _=>True,[.k (F.hsB b i)])
 |305,[.one (.v (.int Za b)),.one (.v (.int Za i))]=>some (fun _=>True,[.k (F.hsB b i)])
 |_,_=>none
theorem aj:aT (ct F0):=by
 intro f ds pre res h hp;unfold ct at h;split at h<;>cases h
 exact ew hp;exact ez hp;exact cz hp;exact du hp;exact eP hp;exact gA hp
abbrev B:cF:=tb aj
end Oc0
theorem sP {a0 a1 a2:aa}{a3:Int}{a4 a5 a6 a7 a8 a9 aA aB:aa}{aC:Int}{aD:aa}{aE aF aG aH:Int}{aI:Bool}{aJ aK:Int}{aL:aa}{aM aN:Int}(hp:a2.length<=1073741824):ap 192 [.agg (iF a0 a1 a2 a3 a4 a5 a6 a7 a8 a9 aA aB aC aD aE aF aG aH aI aJ aK aL aM aN)] [.j (zlI a2)]:=by
 refine cb Oc0.B Tryz.func192 ?_
 exact N2
end Go.V