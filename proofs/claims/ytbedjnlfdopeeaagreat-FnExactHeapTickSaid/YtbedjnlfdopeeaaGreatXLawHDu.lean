/- Contracts. -/
import Derived.Test.YtbedjnlfdopeeaaGreatXLawHBu
import Derived.Test.YtbedjnlfdopeeaaGreatXLawHCu
set_option linter.all false
open Go
open And renaming intro->Zb
open Int renaming le_trans->Xy
open IntKind renaming i64->ZC,i64->Za
open List renaming cons_append->ZJ,nil_append->ZH
open Nat renaming add_zero->Zh
open Value renaming int->Zn
namespace Go.V
open Go Go.Proofs
set_option maxRecDepth 1000000
set_option maxHeartbeats 8000000
namespace LHeap
structure aP where
 szN:List aa->Int->Int
abbrev F0:aP:=⟨bN⟩
def ct (F:aP):CT:=fun f ds=>match f,ds with
 |17,[.agg [.s 1 a0,.s 1 a1,.s 2 a2,.v (.int Za a3),.s 1 a4],.one (.v (.int Za left))]=>some (fun _=>Rw [.sl [tI]] a0/\Rw [tB] a1/\Rw [tI,tI] a2/\Rw [tI] a4/\0<=left/\left<=1048576,[.j (F.szN [a0,a1,a2,a4] left)])
 |30,[.agg [.s 1 a0,.s 1 a1,.s 2 a2,.v (.int Za a3),.s 1 a4]]=>some (fun _=>Rw [.sl [tI]] a0/\Rw [tB] a1/\Rw [tI,tI] a2/\Rw [tI] a4/\av [a0,a1,a2,a4]<=1048576,[.agg [.s 1 a0,.s 1 a1,.s 2 a2,.i a3,.s 1 a4]])
 |44,[.agg [.s 1 a0,.s 1 a1,.s 2 a2,.v (.int Za a3),.s 1 a4],d]=>some (fun _=>d=.agg [.s 1 a0,.s 1 a1,.s 2 a2,.i a3,.s 1 a4]/\Rw [.sl [tI]] a0/\Rw [tB] a1/\Rw [tI,tI] a2/\Rw [tI] a4/\av [a0,a1,a2,a4]<=1099511627776,[.k true])
 |18,[.one (.s 2 es),.one (.v (.int Za left))]=>some (fun _=>Rw [tI,tI] es/\0<=left/\left<=1048576,[.j (F.szN [es] left)])
 |31,[.one (.s 2 es)]=>some (fun _=>Rw [tI,tI] es/\ah es<=1048576,[.one (.s 2 es)])
 |45,[.one (.s 2 es),d]=>some (fun _=>d=.one (.s 2 es)/\Rw [tI,tI] es/\ah es<=1099511627776,[.k true])
 |19,[.one (.s 3 es),.one (.v (.int Za left))]=>some (fun _=>Rw [tI,tI,tI] es/\0<=left/\left<=1048576,[.j (F.szN [es] left)])
 |32,[.one (.s 3 es)]=>some (fun _=>Rw [tI,tI,tI] es/\ah es<=1048576,[.one (.s 3 es)])
 |46,[.one (.s 3 es),d]=>some (fun _=>d=.one (.s 3 es)/\Rw [tI,tI,tI] es/\ah es<=1099511627776,[.k true])
 |20,[.one (.s 3 es),.one (.v (.int Za left))]=>some (fun _=>Rw [tI,tI,tI] es/\0<=left/\left<=1048576,[.j (F.szN [es] left)])
 |33,[.one (.s 3 es)]=>some (fun _=>Rw [tI,tI,tI] es/\ah es<=1048576,[.one (.s 3 es)])
 |47,[.one (.s 3 es),d]=>some (fun _=>d=.one (.s 3 es)/\Rw [tI,tI,tI] es/\ah es<=1099511627776,[.k true])
 |21,[.one (.s 4 es),.one (.v (.int Za left))]=>some (fun _=>Rw [tI,tI,tI,tI] es/\0<=left/\left<=1048576,[.j (F.szN [es] left)])
 |34,[.one (.s 4 es)]=>some (fun _=>Rw [tI,tI,tI,tI] es/\ah es<=1048576,[.one (.s 4 es)])
 |48,[.one (.s 4 es),d]=>some (fun _=>d=.one (.s 4 es)/\Rw [tI,tI,tI,tI] es/\ah es<=1099511627776,[.k true])
 |22,[.one (.s 1 es),.one (.v (.int Za left))]=>some (fun _=>Rw [.sl [.sl [tI]]] es/\0<=left/\left<=1048576,[.j (F.szN [es] left)])
 |35,[.one (.s 1 es)]=>some (fun _=>Rw [.sl [.sl [tI]]] es/\ah es<=1048576,[.one (.s 1 es)])
 |49,[.one (.s 1 es),d]=>some (fun _=>d=.one (.s 1 es)/\Rw [.sl [.sl [tI]]] es/\ah es<=1099511627776,[.k true])
 |23,[.agg [.s 1 a0,.s 1 a1],.one (.v (.int Za left))]=>some (fun _=>Rw [.sl [tI,tI]] a0/\Rw [.sl [tI]] a1/\0<=left/\left<=1048576,[.j (F.szN [a0,a1] left)])
 |36,[.agg [.s 1 a0,.s 1 a1]]=>some (fun _=>Rw [.sl [tI,tI]] a0/\Rw [.sl [tI]] a1/\av [a0,a1]<=1048576,[.agg [.s 1 a0,.s 1 a1]])
 |50,[.agg [.s 1 a0,.s 1 a1],d]=>some (fun _=>d=.agg [.s 1 a0,.s 1 a1]/\Rw [.sl [tI,tI]] a0/\Rw [.sl [tI]] a1/\av [a0,a1]<=1099511627776,[.k true])
 |24,[.agg [.v (.int Za a0),.s 3 a1],.one (.v (.int Za left))]=>some (fun _=>Rw [tI,tI,tI] a1/\0<=left/\left<=1048576,[.j (F.szN [a1] left)])
 |37,[.agg [.v (.int Za a0),.s 3 a1]]=>some (fun _=>Rw [tI,tI,tI] a1/\av [a1]<=1048576,[.agg [.i a0,.s 3 a1]])
 |51,[.agg [.v (.int Za a0),.s 3 a1],d]=>some (fun _=>d=.agg [.i a0,.s 3 a1]/\Rw [tI,tI,tI] a1/\av [a1]<=1099511627776,[.k true])
 |25,[.agg [.v (.int Za a0),.v (.int Za a1),.s 1 a2,.v (.int Za a3),.v (.int Za a4)],.one (.v (.int Za left))]=>some (fun _=>Rw [tI] a2/\0<=left/\left<=1048576,[.j (F.szN [a2] left)])
 |38,[.agg [.v (.int Za a0),.v (.int Za a1),.s 1 a2,.v (.int Za a3),.v (.int Za a4)]]=>some (fun _=>Rw [tI] a2/\av [a2]<=1048576,[.agg [.i a0,.i a1,.s 1 a2,.i a3,.i a4]])
 |52,[.agg [.v (.int Za a0),.v (.int Za a1),.s 1 a2,.v (.int Za a3),.v (.int Za a4)],d]=>some (fun _=>d=.agg [.i a0,.i a1,.s 1 a2,.i a3,.i a4]/\Rw [tI] a2/\av [a2]<=1099511627776,[.k true])
 |_,_=>none
theorem aj:aT (ct F0):=by
 intro f ds pre res h hp;unfold ct at h;split at h<;>cases h
 exact qV hp;exact ra hp;exact qD hp;exact qY hp;exact rl hp;exact qG hp;exact tg hp;exact tx hp;exact sZ hp;exact qW hp;exact rh hp;exact qE hp;exact wh hp;exact wn hp;exact v5 hp;exact qS hp;exact q7 hp;exact qz hp;exact wg hp;exact wm hp;exact vZ hp;exact wj hp;exact wv hp;exact v8 hp;exact x5 hp;exact x6 hp;exact xY hp
abbrev B:cF:=tb aj
end LHeap
namespace MHeap
structure aP where
 kN:List aa->Int->Int
 mkN:aa->Int->aa
abbrev F0:aP:=⟨au,aU⟩
def ct (F:aP):CT:=fun f ds=>match f,ds with
 |62,[.agg [.s 1 m0,.s 1 m1,.s 2 m2,.v (.int Za m3),.s 1 m4],.one (.v (.int Za k))]=>some (fun _=>(∃ a0,m0=aU a0 k/\Rw [.sl [tI]] a0/\ah a0<=1099511627776)/\(∃ a1,m1=aU a1 (au [m0] k)/\Rw [tB] a1/\ah a1<=1099511627776)/\(∃ a2,m2=aU a2 (au [m0,m1] k)/\Rw [tI,tI] a2/\ah a2<=1099511627776)/\(∃ a4,m4=aU a4 (au [m0,m1,m2] k)/\Rw [tI] a4/\ah a4<=1099511627776)/\0<=k/\au [m0,m1,m2,m4] k<=1152921504606846976,[.j (F.kN [m0,m1,m2,m4] k)])
 |63,[.one (.s 2 ms),.one (.v (.int Za k))]=>some (fun _=>∃ es,ms=aU es k/\Rw [tI,tI] es/\ah es<=1099511627776/\0<=k/\au [ms] k<=1152921504606846976,[.j (F.kN [ms] k)])
 |64,[.one (.s 3 ms),.one (.v (.int Za k))]=>some (fun _=>∃ es,ms=aU es k/\Rw [tI,tI,tI] es/\ah es<=1099511627776/\0<=k/\au [ms] k<=1152921504606846976,[.j (F.kN [ms] k)])
 |65,[.one (.s 3 ms),.one (.v (.int Za k))]=>some (fun _=>∃ es,ms=aU es k/\Rw [tI,tI,tI] es/\ah es<=1099511627776/\0<=k/\au [ms] k<=1152921504606846976,[.j (F.kN [ms] k)])
 |66,[.one (.s 4 ms),.one (.v (.int Za k))]=>some (fun _=>∃ es,ms=aU es k/\Rw [tI,tI,tI,tI] es/\ah es<=1099511627776/\0<=k/\au [ms] k<=1152921504606846976,[.j (F.kN [ms] k)])
 |67,[.one (.s 1 ms),.one (.v (.int Za k))]=>some (fun _=>∃ es,ms=aU es k/\Rw [.sl [.sl [tI]]] es/\ah es<=1099511627776/\0<=k/\au [ms] k<=1152921504606846976,[.j (F.kN [ms] k)])
 |68,[.agg [.s 1 m0,.s 1 m1],.one (.v (.int Za k))]=>some (fun _=>(∃ a0,m0=aU a0 k/\Rw [.sl [tI,tI]] a0/\ah a0<=1099511627776)/\(∃ a1,m1=aU a1 (au [m0] k)/\Rw [.sl [tI]] a1/\ah a1<=1099511627776)/\0<=k/\au [m0,m1] k<=1152921504606846976,[.j (F.kN [m0,m1] k)])
 |69,[.agg [.v (.int Za m0),.s 3 m1],.one (.v (.int Za k))]=>some (fun _=>(∃ a1,m1=aU a1 k/\Rw [tI,tI,tI] a1/\ah a1<=1099511627776)/\0<=k/\au [m1] k<=1152921504606846976,[.j (F.kN [m1] k)])
 |70,[.agg [.v (.int Za m0),.v (.int Za m1),.s 1 m2,.v (.int Za m3),.v (.int Za m4)],.one (.v (.int Za k))]=>some (fun _=>(∃ a2,m2=aU a2 k/\Rw [tI] a2/\ah a2<=1099511627776)/\0<=k/\au [m2] k<=1152921504606846976,[.j (F.kN [m2] k)])
 |_,_=>none
theorem aj:aT (ct F0):=by
 intro f ds pre res h hp;unfold ct at h;split at h<;>cases h
 exact mM hp;exact mP hp;exact oG hp;exact mN hp;exact qK hp;exact mJ hp;exact qJ hp;exact qM hp;exact s9 hp
def mt (F:aP):MT:=fun f=>match f with
 | 53=>some fun ds=>match ds with
   |[.agg [.s 1 a0,.s 1 a1,.s 2 a2,.v (.int Za a3),.s 1 a4],.one (.v (.int Za k))]=>some (fun _=>Rw [.sl [tI]] a0/\Rw [tB] a1/\Rw [tI,tI] a2/\Rw [tI] a4/\av [a0,a1,a2,a4]<=1099511627776/\0<=k/\au [a0,a1,a2,a4] k<=1152921504606846976,[.s 1 (F.mkN a0 k),.s 1 (F.mkN a1 (F.kN [a0] k)),.s 2 (F.mkN a2 (F.kN [a0,a1] k)),.s 1 (F.mkN a4 (F.kN [a0,a1,a2] k))],[.j (F.kN [a0,a1,a2,a4] k)])
   |_=>none
 | 54=>some fun ds=>match ds with
   |[.one (.s 2 es),.one (.v (.int Za k))]=>some (fun _=>Rw [tI,tI] es/\ah es<=1099511627776/\0<=k/\au [es] k<=1152921504606846976,[.s 2 (F.mkN es k)],[.j (F.kN [es] k)])
   |_=>none
 | 55=>some fun ds=>match ds with
   |[.one (.s 3 es),.one (.v (.int Za k))]=>some (fun _=>Rw [tI,tI,tI] es/\ah es<=1099511627776/\0<=k/\au [es] k<=1152921504606846976,[.s 3 (F.mkN es k)],[.j (F.kN [es] k)])
   |_=>none
 | 56=>some fun ds=>match ds with
   |[.one (.s 3 es),.one (.v (.int Za k))]=>some (fun _=>Rw [tI,tI,tI] es/\ah es<=1099511627776/\0<=k/\au [es] k<=1152921504606846976,[.s 3 (F.mkN es k)],[.j (F.kN [es] k)])
   |_=>none
 | 57=>some fun ds=>match ds with
   |[.one (.s 4 es),.one (.v (.int Za k))]=>some (fun _=>Rw [tI,tI,tI,tI] es/\ah es<=1099511627776/\0<=k/\au [es] k<=1152921504606846976,[.s 4 (F.mkN es k)],[.j (F.kN [es] k)])
   |_=>none
 | 58=>some fun ds=>match ds with
   |[.one (.s 1 es),.one (.v (.int Za k))]=>some (fun _=>Rw [.sl [.sl [tI]]] es/\ah es<=1099511627776/\0<=k/\au [es] k<=1152921504606846976,[.s 1 (F.mkN es k)],[.j (F.kN [es] k)])
   |_=>none
 | 59=>some fun ds=>match ds with
   |[.agg [.s 1 a0,.s 1 a1],.one (.v (.int Za k))]=>some (fun _=>Rw [.sl [tI,tI]] a0/\Rw [.sl [tI]] a1/\av [a0,a1]<=1099511627776/\0<=k/\au [a0,a1] k<=1152921504606846976,[.s 1 (F.mkN a0 k),.s 1 (F.mkN a1 (F.kN [a0] k))],[.j (F.kN [a0,a1] k)])
   |_=>none
 | 60=>some fun ds=>match ds with
   |[.agg [.v (.int Za a0),.s 3 a1],.one (.v (.int Za k))]=>some (fun _=>Rw [tI,tI,tI] a1/\av [a1]<=1099511627776/\0<=k/\au [a1] k<=1152921504606846976,[.s 3 (F.mkN a1 k)],[.j (F.kN [a1] k)])
   |_=>none
 | 61=>some fun ds=>match ds with
   |[.agg [.v (.int Za a0),.v (.int Za a1),.s 1 a2,.v (.int Za a3),.v (.int Za a4)],.one (.v (.int Za k))]=>some (fun _=>Rw [tI] a2/\av [a2]<=1099511627776/\0<=k/\au [a2] k<=1152921504606846976,[.s 1 (F.mkN a2 k)],[.j (F.kN [a2] k)])
   |_=>none
 |_=>none
theorem dB:gY (mt F0):=by
 intro f mk h ds pre outs res hm hp;unfold mt at h;split at h
 ·cases h;dsimp only at hm;split at hm
  ·cases hm;exact mU hp
  ·cases hm
 ·cases h;dsimp only at hm;split at hm
  ·cases hm;exact mX hp
  ·cases hm
 ·cases h;dsimp only at hm;split at hm
  ·cases hm;exact oK hp
  ·cases hm
 ·cases h;dsimp only at hm;split at hm
  ·cases hm;exact mV hp
  ·cases hm
 ·cases h;dsimp only at hm;split at hm
  ·cases hm;exact qP hp
  ·cases hm
 ·cases h;dsimp only at hm;split at hm
  ·cases hm;exact mR hp
  ·cases hm
 ·cases h;dsimp only at hm;split at hm
  ·cases hm;exact qO hp
  ·cases hm
 ·cases h;dsimp only at hm;split at hm
  ·cases hm;exact qR hp
  ·cases hm
 ·cases h;dsimp only at hm;split at hm
  ·cases hm;exact ta hp
  ·cases hm
 ·cases h
abbrev B:cF:={Φ:=aP,F0:=F0,ct:=ct,hc:=aj,mt:=mt,hm:=dB}
end MHeap
theorem wd {a0 a1 a2:aa}{a3:Int}{a4 a5 a6 a7 a8 a9 aA aB:aa}{aC:Int}{aD:aa}{aE aF aG aH:Int}{aI:Bool}{aJ aK:Int}{aL:aa}{aM aN left:Int}(hp:Rw [.sl [tI]] a0/\Rw [tB] a1/\Rw [tI,tI] a2/\Rw [tI] a4/\Rw [tI,tI] a5/\Rw [tI,tI,tI] a6/\Rw [tI,tI,tI] a7/\Rw [tI,tI,tI,tI] a8/\Rw [.sl [.sl [tI]]] a9/\Rw [.sl [tI,tI]] aA/\Rw [.sl [tI]] aB/\Rw [tI,tI,tI] aD/\Rw [tI] aL/\0<=left/\left<=1048576):ap 6 [.agg (iF a0 a1 a2 a3 a4 a5 a6 a7 a8 a9 aA aB aC aD aE aF aG aH aI aJ aK aL aM aN),.j left] [.j (bN [a0,a1,a2,a4,a5,a6,a7,a8,a9,aA,aB,aD,aL] left)]:=by
 obtain⟨w0,w1,w2,w3,w4,w5,w6,w7,w8,w9,w10,w11,w12,h0,h1⟩:=hp;refine cb LHeap.B Tryz.func6 ?_
 intro O r F hO hr hF;cbv
 repeat' first|apply Zb|(apply bu<;>intro hb<;>cbv)
 all_goals(subst hO hr hF;(try simp only[nc]at*);(try simp only[ak,SS,sa,az]at*))
 all_goals iterate 13 (try simp(disch:=assumption) only[ia,ZJ,ZH]at*)
 all_goals first|trivial|(refine⟨by assumption,by omega,by first|omega|exact Xy (vq (by assumption)) h1⟩)|(refine⟨by assumption,by assumption,by omega,by first|omega|exact Xy (vq (by assumption)) h1⟩)|(rw[gO (by assumption)])|exact congrArg (fun x=>[DV.one (L.v (Zn ZC x))]) (dX (a:=[a0,a1,a2,a4]) (b:=[a5,a6,a7,a8,a9,aA,aB,aD,aL]) (by assumption)).symm|exact congrArg (fun x=>[DV.one (L.v (Zn ZC x))]) (dX (a:=[a0,a1,a2,a4,a5]) (b:=[a6,a7,a8,a9,aA,aB,aD,aL]) (by assumption)).symm|exact congrArg (fun x=>[DV.one (L.v (Zn ZC x))]) (dX (a:=[a0,a1,a2,a4,a5,a6]) (b:=[a7,a8,a9,aA,aB,aD,aL]) (by assumption)).symm|exact congrArg (fun x=>[DV.one (L.v (Zn ZC x))]) (dX (a:=[a0,a1,a2,a4,a5,a6,a7]) (b:=[a8,a9,aA,aB,aD,aL]) (by assumption)).symm|exact congrArg (fun x=>[DV.one (L.v (Zn ZC x))]) (dX (a:=[a0,a1,a2,a4,a5,a6,a7,a8]) (b:=[a9,aA,aB,aD,aL]) (by assumption)).symm|exact congrArg (fun x=>[DV.one (L.v (Zn ZC x))]) (dX (a:=[a0,a1,a2,a4,a5,a6,a7,a8,a9]) (b:=[aA,aB,aD,aL]) (by assumption)).symm|exact congrArg (fun x=>[DV.one (L.v (Zn ZC x))]) (dX (a:=[a0,a1,a2,a4,a5,a6,a7,a8,a9,aA,aB]) (b:=[aD,aL]) (by assumption)).symm|exact congrArg (fun x=>[DV.one (L.v (Zn ZC x))]) (dX (a:=[a0,a1,a2,a4,a5,a6,a7,a8,a9,aA,aB,aD]) (b:=[aL]) (by assumption)).symm|trace_state
theorem wl {a0 a1 a2:aa}{a3:Int}{a4 a5 a6 a7 a8 a9 aA aB:aa}{aC:Int}{aD:aa}{aE aF aG aH:Int}{aI:Bool}{aJ aK:Int}{aL:aa}{aM aN:Int}(hp:Rw [.sl [tI]] a0/\Rw [tB] a1/\Rw [tI,tI] a2/\Rw [tI] a4/\Rw [tI,tI] a5/\Rw [tI,tI,tI] a6/\Rw [tI,tI,tI] a7/\Rw [tI,tI,tI,tI] a8/\Rw [.sl [.sl [tI]]] a9/\Rw [.sl [tI,tI]] aA/\Rw [.sl [tI]] aB/\Rw [tI,tI,tI] aD/\Rw [tI] aL/\av [a0,a1,a2,a4,a5,a6,a7,a8,a9,aA,aB,aD,aL]<=1048576):ap 8 [.agg (iF a0 a1 a2 a3 a4 a5 a6 a7 a8 a9 aA aB aC aD aE aF aG aH aI aJ aK aL aM aN)] [.agg (iF a0 a1 a2 a3 a4 a5 a6 a7 a8 a9 aA aB aC aD aE aF aG aH aI aJ aK aL aM aN)]:=by
 obtain⟨w0,w1,w2,w3,w4,w5,w6,w7,w8,w9,w10,w11,w12,hlim⟩:=hp;simp only[av,Zh]at hlim;refine cb LHeap.B Tryz.func8 ?_
 intro O r F hO hr hF;cbv
 repeat' first|apply Zb|(apply bu<;>intro hb<;>cbv)
 all_goals(subst hO hr hF;(try simp only[nc]at*);(try simp only[ak,SS,sa,az]at*))
 all_goals first|trivial|(refine⟨by assumption,?_⟩;(try simp only[av,Zh]);omega)|(refine⟨by assumption,by assumption,?_⟩;(try simp only[av,Zh]);omega)|(refine⟨by assumption,by assumption,by assumption,by assumption,?_⟩;(try simp only[av,Zh]);omega)|trace_state
theorem vY {a0 a1 a2:aa}{a3:Int}{a4 a5 a6 a7 a8 a9 aA aB:aa}{aC:Int}{aD:aa}{aE aF aG aH:Int}{aI:Bool}{aJ aK:Int}{aL:aa}{aM aN:Int}{d:DV}(hp:d=.agg (iF a0 a1 a2 a3 a4 a5 a6 a7 a8 a9 aA aB aC aD aE aF aG aH aI aJ aK aL aM aN)/\Rw [.sl [tI]] a0/\Rw [tB] a1/\Rw [tI,tI] a2/\Rw [tI] a4/\Rw [tI,tI] a5/\Rw [tI,tI,tI] a6/\Rw [tI,tI,tI] a7/\Rw [tI,tI,tI,tI] a8/\Rw [.sl [.sl [tI]]] a9/\Rw [.sl [tI,tI]] aA/\Rw [.sl [tI]] aB/\Rw [tI,tI,tI] aD/\Rw [tI] aL/\av [a0,a1,a2,a4,a5,a6,a7,a8,a9,aA,aB,aD,aL]<=1099511627776):ap 10 [.agg (iF a0 a1 a2 a3 a4 a5 a6 a7 a8 a9 aA aB aC aD aE aF aG aH aI aJ aK aL aM aN),d] [.k true]:=by
 obtain⟨rfl,w0,w1,w2,w3,w4,w5,w6,w7,w8,w9,w10,w11,w12,hlim⟩:=hp;simp only[av,Zh]at hlim;refine cb LHeap.B Tryz.func10 ?_
 intro O r F hO hr hF;cbv
 repeat' first|apply Zb|(apply bu<;>intro hb<;>cbv)
 all_goals(subst hO hr hF;(try simp only[nc]at*);(try simp only[ak,SS,sa,az]at*))
 all_goals first|trivial|(refine⟨trivial,by assumption,?_⟩;(try simp only[av,Zh]);omega)|(refine⟨trivial,by assumption,by assumption,?_⟩;(try simp only[av,Zh]);omega)|(refine⟨trivial,by assumption,by assumption,by assumption,by assumption,?_⟩;(try simp only[av,Zh]);omega)|trace_state
theorem qN {a0 a1 a2:aa}{a3:Int}{a4 a5 a6 a7 a8 a9 aA aB:aa}{aC:Int}{aD:aa}{aE aF aG aH:Int}{aI:Bool}{aJ aK:Int}{aL:aa}{aM aN k:Int}(hp:Rw [.sl [tI]] a0/\Rw [tB] a1/\Rw [tI,tI] a2/\Rw [tI] a4/\Rw [tI,tI] a5/\Rw [tI,tI,tI] a6/\Rw [tI,tI,tI] a7/\Rw [tI,tI,tI,tI] a8/\Rw [.sl [.sl [tI]]] a9/\Rw [.sl [tI,tI]] aA/\Rw [.sl [tI]] aB/\Rw [tI,tI,tI] aD/\Rw [tI] aL/\av [a0,a1,a2,a4,a5,a6,a7,a8,a9,aA,aB,aD,aL]<=1099511627776/\0<=k/\au [a0,a1,a2,a4,a5,a6,a7,a8,a9,aA,aB,aD,aL] k<=1152921504606846976):eb 11 [.agg (iF a0 a1 a2 a3 a4 a5 a6 a7 a8 a9 aA aB aC aD aE aF aG aH aI aJ aK aL aM aN),.j k] [.s 1 (aU a0 k),.s 1 (aU a1 (au [a0] k)),.s 2 (aU a2 (au [a0,a1] k)),.s 1 (aU a4 (au [a0,a1,a2] k)),.s 2 (aU a5 (au [a0,a1,a2,a4] k)),.s 3 (aU a6 (au [a0,a1,a2,a4,a5] k)),.s 3 (aU a7 (au [a0,a1,a2,a4,a5,a6] k)),.s 4 (aU a8 (au [a0,a1,a2,a4,a5,a6,a7] k)),.s 1 (aU a9 (au [a0,a1,a2,a4,a5,a6,a7,a8] k)),.s 1 (aU aA (au [a0,a1,a2,a4,a5,a6,a7,a8,a9] k)),.s 1 (aU aB (au [a0,a1,a2,a4,a5,a6,a7,a8,a9,aA] k)),.s 3 (aU aD (au [a0,a1,a2,a4,a5,a6,a7,a8,a9,aA,aB] k)),.s 1 (aU aL (au [a0,a1,a2,a4,a5,a6,a7,a8,a9,aA,aB,aD] k))] [.j (au [a0,a1,a2,a4,a5,a6,a7,a8,a9,aA,aB,aD,aL] k)]:=by
 obtain⟨w0,w1,w2,w3,w4,w5,w6,w7,w8,w9,w10,w11,w12,hlim,hk0,hkb⟩:=hp;simp only[av,Zh]at hlim;have p0:au [a0] k<=au [a0,a1,a2,a4,a5,a6,a7,a8,a9,aA,aB,aD,aL] k/\0<=au [a0] k:=bz (b:=[a1,a2,a4,a5,a6,a7,a8,a9,aA,aB,aD,aL]) hk0;have p1:au [a0,a1] k<=au [a0,a1,a2,a4,a5,a6,a7,a8,a9,aA,aB,aD,aL] k/\0<=au [a0,a1] k:=bz (b:=[a2,a4,a5,a6,a7,a8,a9,aA,aB,aD,aL]) hk0;have p2:au [a0,a1,a2] k<=au [a0,a1,a2,a4,a5,a6,a7,a8,a9,aA,aB,aD,aL] k/\0<=au [a0,a1,a2] k:=bz (b:=[a4,a5,a6,a7,a8,a9,aA,aB,aD,aL]) hk0;have p3:au [a0,a1,a2,a4] k<=au [a0,a1,a2,a4,a5,a6,a7,a8,a9,aA,aB,aD,aL] k/\0<=au [a0,a1,a2,a4] k:=bz (b:=[a5,a6,a7,a8,a9,aA,aB,aD,aL]) hk0;have p4:au [a0,a1,a2,a4,a5] k<=au [a0,a1,a2,a4,a5,a6,a7,a8,a9,aA,aB,aD,aL] k/\0<=au [a0,a1,a2,a4,a5] k:=bz (b:=[a6,a7,a8,a9,aA,aB,aD,aL]) hk0;have p5:au [a0,a1,a2,a4,a5,a6] k<=au [a0,a1,a2,a4,a5,a6,a7,a8,a9,aA,aB,aD,aL] k/\0<=au [a0,a1,a2,a4,a5,a6] k:=bz (b:=[a7,a8,a9,aA,aB,aD,aL]) hk0;have p6:au [a0,a1,a2,a4,a5,a6,a7] k<=au [a0,a1,a2,a4,a5,a6,a7,a8,a9,aA,aB,aD,aL] k/\0<=au [a0,a1,a2,a4,a5,a6,a7] k:=bz (b:=[a8,a9,aA,aB,aD,aL]) hk0;have p7:au [a0,a1,a2,a4,a5,a6,a7,a8] k<=au [a0,a1,a2,a4,a5,a6,a7,a8,a9,aA,aB,aD,aL] k/\0<=au [a0,a1,a2,a4,a5,a6,a7,a8] k:=bz (b:=[a9,aA,aB,aD,aL]) hk0;have p8:au [a0,a1,a2,a4,a5,a6,a7,a8,a9] k<=au [a0,a1,a2,a4,a5,a6,a7,a8,a9,aA,aB,aD,aL] k/\0<=au [a0,a1,a2,a4,a5,a6,a7,a8,a9] k:=bz (b:=[aA,aB,aD,aL]) hk0;have p9:au [a0,a1,a2,a4,a5,a6,a7,a8,a9,aA] k<=au [a0,a1,a2,a4,a5,a6,a7,a8,a9,aA,aB,aD,aL] k/\0<=au [a0,a1,a2,a4,a5,a6,a7,a8,a9,aA] k:=bz (b:=[aB,aD,aL]) hk0;have p10:au [a0,a1,a2,a4,a5,a6,a7,a8,a9,aA,aB] k<=au [a0,a1,a2,a4,a5,a6,a7,a8,a9,aA,aB,aD,aL] k/\0<=au [a0,a1,a2,a4,a5,a6,a7,a8,a9,aA,aB] k:=bz (b:=[aD,aL]) hk0;have p11:au [a0,a1,a2,a4,a5,a6,a7,a8,a9,aA,aB,aD] k<=au [a0,a1,a2,a4,a5,a6,a7,a8,a9,aA,aB,aD,aL] k/\0<=au [a0,a1,a2,a4,a5,a6,a7,a8,a9,aA,aB,aD] k:=bz (b:=[aL]) hk0;have p12:au [a0,a1,a2,a4,a5,a6,a7,a8,a9,aA,aB,aD,aL] k<=au [a0,a1,a2,a4,a5,a6,a7,a8,a9,aA,aB,aD,aL] k/\0<=au [a0,a1,a2,a4,a5,a6,a7,a8,a9,aA,aB,aD,aL] k:=bz (b:=[]) hk0;refine mb MHeap.B [(2,0),(2,1),(2,2),(2,4),(2,5),(2,6),(2,7),(2,8),(2,9),(2,10),(2,11),(2,13),(2,21)] Tryz.func11 ?_
 intro O r os F hO hr hos hF;cbv
 repeat' first|apply Zb|(apply bu<;>intro hb<;>cbv)
 all_goals((try subst hos);subst hO hr hF;(try simp only[nc]at*);(try simp only[ak,SS,sa,az]at*);(try simp only[fo,ZJ,ZH,ca]at*))
 all_goals first|trivial|(refine⟨by assumption,?_,?_,?_⟩<;>(try simp only[fo,ZJ,ZH,av,Zh])<;>omega)|(refine⟨by assumption,by assumption,?_,?_,?_⟩<;>(try simp only[fo,ZJ,ZH,av,Zh])<;>omega)|trace_state
theorem qI {m0 m1 m2:aa}{m3:Int}{m4 m5 m6 m7 m8 m9 m10 m11:aa}{m12:Int}{m13:aa}{m14 m15 m16 m17:Int}{m18:Bool}{m19 m20:Int}{m21:aa}{m22 m23 k:Int}(hp:(∃ a0,m0=aU a0 k/\Rw [.sl [tI]] a0/\ah a0<=1099511627776)/\(∃ a1,m1=aU a1 (au [m0] k)/\Rw [tB] a1/\ah a1<=1099511627776)/\(∃ a2,m2=aU a2 (au [m0,m1] k)/\Rw [tI,tI] a2/\ah a2<=1099511627776)/\(∃ a4,m4=aU a4 (au [m0,m1,m2] k)/\Rw [tI] a4/\ah a4<=1099511627776)/\(∃ a5,m5=aU a5 (au [m0,m1,m2,m4] k)/\Rw [tI,tI] a5/\ah a5<=1099511627776)/\(∃ a6,m6=aU a6 (au [m0,m1,m2,m4,m5] k)/\Rw [tI,tI,tI] a6/\ah a6<=1099511627776)/\(∃ a7,m7=aU a7 (au [m0,m1,m2,m4,m5,m6] k)/\Rw [tI,tI,tI] a7/\ah a7<=1099511627776)/\(∃ a8,m8=aU a8 (au [m0,m1,m2,m4,m5,m6,m7] k)/\Rw [tI,tI,tI,tI] a8/\ah a8<=1099511627776)/\(∃ a9,m9=aU a9 (au [m0,m1,m2,m4,m5,m6,m7,m8] k)/\Rw [.sl [.sl [tI]]] a9/\ah a9<=1099511627776)/\(∃ aA,m10=aU aA (au [m0,m1,m2,m4,m5,m6,m7,m8,m9] k)/\Rw [.sl [tI,tI]] aA/\ah aA<=1099511627776)/\(∃ aB,m11=aU aB (au [m0,m1,m2,m4,m5,m6,m7,m8,m9,m10] k)/\Rw [.sl [tI]] aB/\ah aB<=1099511627776)/\(∃ aD,m13=aU aD (au [m0,m1,m2,m4,m5,m6,m7,m8,m9,m10,m11] k)/\Rw [tI,tI,tI] aD/\ah aD<=1099511627776)/\(∃ aL,m21=aU aL (au [m0,m1,m2,m4,m5,m6,m7,m8,m9,m10,m11,m13] k)/\Rw [tI] aL/\ah aL<=1099511627776)/\0<=k/\au [m0,m1,m2,m4,m5,m6,m7,m8,m9,m10,m11,m13,m21] k<=1152921504606846976):ap 12 [.agg (iF m0 m1 m2 m3 m4 m5 m6 m7 m8 m9 m10 m11 m12 m13 m14 m15 m16 m17 m18 m19 m20 m21 m22 m23),.j k] [.j (au [m0,m1,m2,m4,m5,m6,m7,m8,m9,m10,m11,m13,m21] k)]:=by
 obtain⟨e0,e1,e2,e3,e4,e5,e6,e7,e8,e9,e10,e11,e12,hk0,hkb⟩:=hp;have p0:au [m0] k<=au [m0,m1,m2,m4,m5,m6,m7,m8,m9,m10,m11,m13,m21] k/\0<=au [m0] k:=bz (b:=[m1,m2,m4,m5,m6,m7,m8,m9,m10,m11,m13,m21]) hk0;have p1:au [m0,m1] k<=au [m0,m1,m2,m4,m5,m6,m7,m8,m9,m10,m11,m13,m21] k/\0<=au [m0,m1] k:=bz (b:=[m2,m4,m5,m6,m7,m8,m9,m10,m11,m13,m21]) hk0;have p2:au [m0,m1,m2] k<=au [m0,m1,m2,m4,m5,m6,m7,m8,m9,m10,m11,m13,m21] k/\0<=au [m0,m1,m2] k:=bz (b:=[m4,m5,m6,m7,m8,m9,m10,m11,m13,m21]) hk0;have p3:au [m0,m1,m2,m4] k<=au [m0,m1,m2,m4,m5,m6,m7,m8,m9,m10,m11,m13,m21] k/\0<=au [m0,m1,m2,m4] k:=bz (b:=[m5,m6,m7,m8,m9,m10,m11,m13,m21]) hk0;have p4:au [m0,m1,m2,m4,m5] k<=au [m0,m1,m2,m4,m5,m6,m7,m8,m9,m10,m11,m13,m21] k/\0<=au [m0,m1,m2,m4,m5] k:=bz (b:=[m6,m7,m8,m9,m10,m11,m13,m21]) hk0;have p5:au [m0,m1,m2,m4,m5,m6] k<=au [m0,m1,m2,m4,m5,m6,m7,m8,m9,m10,m11,m13,m21] k/\0<=au [m0,m1,m2,m4,m5,m6] k:=bz (b:=[m7,m8,m9,m10,m11,m13,m21]) hk0;have p6:au [m0,m1,m2,m4,m5,m6,m7] k<=au [m0,m1,m2,m4,m5,m6,m7,m8,m9,m10,m11,m13,m21] k/\0<=au [m0,m1,m2,m4,m5,m6,m7] k:=bz (b:=[m8,m9,m10,m11,m13,m21]) hk0;have p7:au [m0,m1,m2,m4,m5,m6,m7,m8] k<=au [m0,m1,m2,m4,m5,m6,m7,m8,m9,m10,m11,m13,m21] k/\0<=au [m0,m1,m2,m4,m5,m6,m7,m8] k:=bz (b:=[m9,m10,m11,m13,m21]) hk0;have p8:au [m0,m1,m2,m4,m5,m6,m7,m8,m9] k<=au [m0,m1,m2,m4,m5,m6,m7,m8,m9,m10,m11,m13,m21] k/\0<=au [m0,m1,m2,m4,m5,m6,m7,m8,m9] k:=bz (b:=[m10,m11,m13,m21]) hk0;have p9:au [m0,m1,m2,m4,m5,m6,m7,m8,m9,m10] k<=au [m0,m1,m2,m4,m5,m6,m7,m8,m9,m10,m11,m13,m21] k/\0<=au [m0,m1,m2,m4,m5,m6,m7,m8,m9,m10] k:=bz (b:=[m11,m13,m21]) hk0;have p10:au [m0,m1,m2,m4,m5,m6,m7,m8,m9,m10,m11] k<=au [m0,m1,m2,m4,m5,m6,m7,m8,m9,m10,m11,m13,m21] k/\0<=au [m0,m1,m2,m4,m5,m6,m7,m8,m9,m10,m11] k:=bz (b:=[m13,m21]) hk0;have p11:au [m0,m1,m2,m4,m5,m6,m7,m8,m9,m10,m11,m13] k<=au [m0,m1,m2,m4,m5,m6,m7,m8,m9,m10,m11,m13,m21] k/\0<=au [m0,m1,m2,m4,m5,m6,m7,m8,m9,m10,m11,m13] k:=bz (b:=[m21]) hk0;have p12:au [m0,m1,m2,m4,m5,m6,m7,m8,m9,m10,m11,m13,m21] k<=au [m0,m1,m2,m4,m5,m6,m7,m8,m9,m10,m11,m13,m21] k/\0<=au [m0,m1,m2,m4,m5,m6,m7,m8,m9,m10,m11,m13,m21] k:=bz (b:=[]) hk0;refine cb MHeap.B Tryz.func12 ?_
 intro O r F hO hr hF;cbv
 repeat' first|apply Zb|(apply bu<;>intro hb<;>cbv)
 all_goals(subst hO hr hF;(try simp only[nc]at*);(try simp only[ak,SS,sa,az]at*);(try simp only[fo,ZJ,ZH]at*))
 all_goals first|trivial|(exfalso;omega)|(obtain⟨x,y1,y2,y3⟩:=e0;exact⟨x,y1,y2,y3,by omega,by omega⟩)|(obtain⟨x,y1,y2,y3⟩:=e1;exact⟨x,y1,y2,y3,by omega,by omega⟩)|(obtain⟨x,y1,y2,y3⟩:=e2;exact⟨x,y1,y2,y3,by omega,by omega⟩)|(obtain⟨x,y1,y2,y3⟩:=e3;exact⟨x,y1,y2,y3,by omega,by omega⟩)|(obtain⟨x,y1,y2,y3⟩:=e4;exact⟨x,y1,y2,y3,by omega,by omega⟩)|(obtain⟨x,y1,y2,y3⟩:=e5;exact⟨x,y1,y2,y3,by omega,by omega⟩)|(obtain⟨x,y1,y2,y3⟩:=e6;exact⟨x,y1,y2,y3,by omega,by omega⟩)|(obtain⟨x,y1,y2,y3⟩:=e7;exact⟨x,y1,y2,y3,by omega,by omega⟩)|(obtain⟨x,y1,y2,y3⟩:=e8;exact⟨x,y1,y2,y3,by omega,by omega⟩)|(obtain⟨x,y1,y2,y3⟩:=e9;exact⟨x,y1,y2,y3,by omega,by omega⟩)|(obtain⟨x,y1,y2,y3⟩:=e10;exact⟨x,y1,y2,y3,by omega,by omega⟩)|(obtain⟨x,y1,y2,y3⟩:=e11;exact⟨x,y1,y2,y3,by omega,by omega⟩)|(obtain⟨x,y1,y2,y3⟩:=e12;exact⟨x,y1,y2,y3,by omega,by omega⟩)|(refine⟨by assumption,by omega,by omega⟩)|(refine⟨by assumption,by assumption,by omega,by omega⟩)|(refine⟨by assumption,by assumption,by assumption,by omega,by omega⟩)|(refine⟨by assumption,by assumption,by assumption,by assumption,by omega,by omega⟩)|(refine⟨by assumption,by assumption,by assumption,by assumption,by assumption,by omega,by omega⟩)|(refine⟨by assumption,by assumption,by assumption,by assumption,by assumption,by assumption,by omega,by omega⟩)|(refine⟨by assumption,by assumption,by assumption,by assumption,by assumption,by assumption,by assumption,by omega,by omega⟩)|(refine⟨by assumption,by assumption,by assumption,by assumption,by assumption,by assumption,by assumption,by assumption,by omega,by omega⟩)|(refine⟨by assumption,by assumption,by assumption,by assumption,by assumption,by assumption,by assumption,by assumption,by assumption,by omega,by omega⟩)|(refine⟨by assumption,by assumption,by assumption,by assumption,by assumption,by assumption,by assumption,by assumption,by assumption,by assumption,by omega,by omega⟩)|(refine⟨by assumption,by assumption,by assumption,by assumption,by assumption,by assumption,by assumption,by assumption,by assumption,by assumption,by assumption,by omega,by omega⟩)|(refine⟨by assumption,by assumption,by assumption,by assumption,by assumption,by assumption,by assumption,by assumption,by assumption,by assumption,by assumption,by assumption,by omega,by omega⟩)|(refine⟨by assumption,by assumption,by assumption,by assumption,by assumption,by assumption,by assumption,by assumption,by assumption,by assumption,by assumption,by assumption,by assumption,by omega,by omega⟩)|trace_state
end Go.V