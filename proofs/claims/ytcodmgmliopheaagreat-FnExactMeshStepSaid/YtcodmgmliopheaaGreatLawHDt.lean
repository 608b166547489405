/- Contracts. -/
import Derived.Test.YtcodmgmliopheaaGreatLawHBt
import Derived.Test.YtcodmgmliopheaaGreatLawHCt
set_option linter.all false
open Go
open And renaming intro->AT
open Int renaming le_trans->YM
open IntKind renaming i64->Wx
open List renaming cons_append->We,nil_append->V5
open Nat renaming add_zero->VL
open Value renaming int->Wg
namespace Go.V
open Go Go.Proofs
set_option maxRecDepth 1000000
set_option maxHeartbeats 8000000
namespace LHeap
structure aQ where
 szN:List aa->Int->Int
abbrev F0 :aQ:=⟨bK⟩
def ct (F:aQ):CT:=fun f ds=>match f,ds with
 |32,[.agg [.s 1 a0,.s 1 a1,.s 2 a2,.v (.int .i64 a3),.s 1 a4],.one (.v (.int .i64 left))]=>some (fun _=>Rw [.sl [tI]] a0/\Rw [tB] a1/\Rw [tI,tI] a2/\Rw [tI] a4/\0<=left/\left<=1048576,[.j (F.szN [a0,a1,a2,a4] left)])
 |44,[.agg [.s 1 a0,.s 1 a1,.s 2 a2,.v (.int .i64 a3),.s 1 a4]]=>some (fun _=>Rw [.sl [tI]] a0/\Rw [tB] a1/\Rw [tI,tI] a2/\Rw [tI] a4/\ax [a0,a1,a2,a4]<=1048576,[.agg [.s 1 a0,.s 1 a1,.s 2 a2,.i a3,.s 1 a4]])
 |56,[.agg [.s 1 a0,.s 1 a1,.s 2 a2,.v (.int .i64 a3),.s 1 a4],d]=>some (fun _=>d=.agg [.s 1 a0,.s 1 a1,.s 2 a2,.i a3,.s 1 a4]/\Rw [.sl [tI]] a0/\Rw [tB] a1/\Rw [tI,tI] a2/\Rw [tI] a4/\ax [a0,a1,a2,a4]<=1099511627776,[.k true])
 |33,[.one (.s 2 es),.one (.v (.int .i64 left))]=>some (fun _=>Rw [tI,tI] es/\0<=left/\left<=1048576,[.j (F.szN [es] left)])
 |45,[.one (.s 2 es)]=>some (fun _=>Rw [tI,tI] es/\ag es<=1048576,[.one (.s 2 es)])
 |57,[.one (.s 2 es),d]=>some (fun _=>d=.one (.s 2 es)/\Rw [tI,tI] es/\ag es<=1099511627776,[.k true])
 |34,[.one (.s 3 es),.one (.v (.int .i64 left))]=>some (fun _=>Rw [tI,tI,tI] es/\0<=left/\left<=1048576,[.j (F.szN [es] left)])
 |46,[.one (.s 3 es)]=>some (fun _=>Rw [tI,tI,tI] es/\ag es<=1048576,[.one (.s 3 es)])
 |58,[.one (.s 3 es),d]=>some (fun _=>d=.one (.s 3 es)/\Rw [tI,tI,tI] es/\ag es<=1099511627776,[.k true])
 |35,[.one (.s 3 es),.one (.v (.int .i64 left))]=>some (fun _=>Rw [tI,tI,tI] es/\0<=left/\left<=1048576,[.j (F.szN [es] left)])
 |47,[.one (.s 3 es)]=>some (fun _=>Rw [tI,tI,tI] es/\ag es<=1048576,[.one (.s 3 es)])
 |59,[.one (.s 3 es),d]=>some (fun _=>d=.one (.s 3 es)/\Rw [tI,tI,tI] es/\ag es<=1099511627776,[.k true])
 |36,[.one (.s 4 es),.one (.v (.int .i64 left))]=>some (fun _=>Rw [tI,tI,tI,tI] es/\0<=left/\left<=1048576,[.j (F.szN [es] left)])
 |48,[.one (.s 4 es)]=>some (fun _=>Rw [tI,tI,tI,tI] es/\ag es<=1048576,[.one (.s 4 es)])
 |60,[.one (.s 4 es),d]=>some (fun _=>d=.one (.s 4 es)/\Rw [tI,tI,tI,tI] es/\ag es<=1099511627776,[.k true])
 |37,[.one (.s 1 es),.one (.v (.int .i64 left))]=>some (fun _=>Rw [.sl [.sl [tI]]] es/\0<=left/\left<=1048576,[.j (F.szN [es] left)])
 |49,[.one (.s 1 es)]=>some (fun _=>Rw [.sl [.sl [tI]]] es/\ag es<=1048576,[.one (.s 1 es)])
 |61,[.one (.s 1 es),d]=>some (fun _=>d=.one (.s 1 es)/\Rw [.sl [.sl [tI]]] es/\ag es<=1099511627776,[.k true])
 |38,[.agg [.s 1 a0,.s 1 a1],.one (.v (.int .i64 left))]=>some (fun _=>Rw [.sl [tI,tI]] a0/\Rw [.sl [tI]] a1/\0<=left/\left<=1048576,[.j (F.szN [a0,a1] left)])
 |50,[.agg [.s 1 a0,.s 1 a1]]=>some (fun _=>Rw [.sl [tI,tI]] a0/\Rw [.sl [tI]] a1/\ax [a0,a1]<=1048576,[.agg [.s 1 a0,.s 1 a1]])
 |62,[.agg [.s 1 a0,.s 1 a1],d]=>some (fun _=>d=.agg [.s 1 a0,.s 1 a1]/\Rw [.sl [tI,tI]] a0/\Rw [.sl [tI]] a1/\ax [a0,a1]<=1099511627776,[.k true])
 |39,[.agg [.v (.int .i64 a0),.s 3 a1],.one (.v (.int .i64 left))]=>some (fun _=>Rw [tI,tI,tI] a1/\0<=left/\left<=1048576,[.j (F.szN [a1] left)])
 |51,[.agg [.v (.int .i64 a0),.s 3 a1]]=>some (fun _=>Rw [tI,tI,tI] a1/\ax [a1]<=1048576,[.agg [.i a0,.s 3 a1]])
 |63,[.agg [.v (.int .i64 a0),.s 3 a1],d]=>some (fun _=>d=.agg [.i a0,.s 3 a1]/\Rw [tI,tI,tI] a1/\ax [a1]<=1099511627776,[.k true])
 |40,[.agg [.v (.int .i64 a0),.v (.int .i64 a1),.s 1 a2,.v (.int .i64 a3),.v (.int .i64 a4)],.one (.v (.int .i64 left))]=>some (fun _=>Rw [tI] a2/\0<=left/\left<=1048576,[.j (F.szN [a2] left)])
 |52,[.agg [.v (.int .i64 a0),.v (.int .i64 a1),.s 1 a2,.v (.int .i64 a3),.v (.int .i64 a4)]]=>some (fun _=>Rw [tI] a2/\ax [a2]<=1048576,[.agg [.i a0,.i a1,.s 1 a2,.i a3,.i a4]])
 |64,[.agg [.v (.int .i64 a0),.v (.int .i64 a1),.s 1 a2,.v (.int .i64 a3),.v (.int .i64 a4)],d]=>some (fun _=>d=.agg [.i a0,.i a1,.s 1 a2,.i a3,.i a4]/\Rw [tI] a2/\ax [a2]<=1099511627776,[.k true])
 |_,_=>none
theorem aj :aR (ct F0):=by
 intro f ds pre res h hp;unfold ct at h;split at h<;>cases h
 exact rB hp;exact rJ hp;exact qZ hp;exact rE hp;exact rM hp;exact q9 hp;exact tG hp;exact tP hp;exact tw hp;exact rC hp;exact rK hp;exact q7 hp;exact wG hp;exact wL hp;exact wz hp;exact ry hp;exact rG hp;exact qW hp;exact wF hp;exact wK hp;exact wy hp;exact wI hp;exact wO hp;exact wC hp;exact yw hp;exact yx hp;exact yu hp
abbrev B :cy:=tb aj
end LHeap
namespace MHeap
structure aQ where
 kN:List aa->Int->Int
 mkN:aa->Int->aa
abbrev F0 :aQ:=⟨am,ao⟩
def ct (F:aQ):CT:=fun f ds=>match f,ds with
 |74,[.agg [.s 1 m0,.s 1 m1,.s 2 m2,.v (.int .i64 m3),.s 1 m4],.one (.v (.int .i64 k))]=>some (fun _=>(∃ a0,m0=ao a0 k/\Rw [.sl [tI]] a0/\ag a0<=1099511627776)/\(∃ a1,m1=ao a1 (am [m0] k)/\Rw [tB] a1/\ag a1<=1099511627776)/\(∃ a2,m2=ao a2 (am [m0,m1] k)/\Rw [tI,tI] a2/\ag a2<=1099511627776)/\(∃ a4,m4=ao a4 (am [m0,m1,m2] k)/\Rw [tI] a4/\ag a4<=1099511627776)/\0<=k/\am [m0,m1,m2,m4] k<=1152921504606846976,[.j (F.kN [m0,m1,m2,m4] k)])
 |75,[.one (.s 2 ms),.one (.v (.int .i64 k))]=>some (fun _=>∃ es,ms=ao es k/\Rw [tI,tI] es/\ag es<=1099511627776/\0<=k/\am [ms] k<=1152921504606846976,[.j (F.kN [ms] k)])
 |76,[.one (.s 3 ms),.one (.v (.int .i64 k))]=>some (fun _=>∃ es,ms=ao es k/\Rw [tI,tI,tI] es/\ag es<=1099511627776/\0<=k/\am [ms] k<=1152921504606846976,[.j (F.kN [ms] k)])
 |77,[.one (.s 3 ms),.one (.v (.int .i64 k))]=>some (fun _=>∃ es,ms=ao es k/\Rw [tI,tI,tI] es/\ag es<=1099511627776/\0<=k/\am [ms] k<=1152921504606846976,[.j (F.kN [ms] k)])
 |78,[.one (.s 4 ms),.one (.v (.int .i64 k))]=>some (fun _=>∃ es,ms=ao es k/\Rw [tI,tI,tI,tI] es/\ag es<=1099511627776/\0<=k/\am [ms] k<=1152921504606846976,[.j (F.kN [ms] k)])
 |79,[.one (.s 1 ms),.one (.v (.int .i64 k))]=>some (fun _=>∃ es,ms=ao es k/\Rw [.sl [.sl [tI]]] es/\ag es<=1099511627776/\0<=k/\am [ms] k<=1152921504606846976,[.j (F.kN [ms] k)])
 |80,[.agg [.s 1 m0,.s 1 m1],.one (.v (.int .i64 k))]=>some (fun _=>(∃ a0,m0=ao a0 k/\Rw [.sl [tI,tI]] a0/\ag a0<=1099511627776)/\(∃ a1,m1=ao a1 (am [m0] k)/\Rw [.sl [tI]] a1/\ag a1<=1099511627776)/\0<=k/\am [m0,m1] k<=1152921504606846976,[.j (F.kN [m0,m1] k)])
 |81,[.agg [.v (.int .i64 m0),.s 3 m1],.one (.v (.int .i64 k))]=>some (fun _=>(∃ a1,m1=ao a1 k/\Rw [tI,tI,tI] a1/\ag a1<=1099511627776)/\0<=k/\am [m1] k<=1152921504606846976,[.j (F.kN [m1] k)])
 |82,[.agg [.v (.int .i64 m0),.v (.int .i64 m1),.s 1 m2,.v (.int .i64 m3),.v (.int .i64 m4)],.one (.v (.int .i64 k))]=>some (fun _=>(∃ a2,m2=ao a2 k/\Rw [tI] a2/\ag a2<=1099511627776)/\0<=k/\am [m2] k<=1152921504606846976,[.j (F.kN [m2] k)])
 |_,_=>none
theorem aj :aR (ct F0):=by
 intro f ds pre res h hp;unfold ct at h;split at h<;>cases h
 exact mY hp;exact ng hp;exact pa hp;exact mZ hp;exact ri hp;exact mV hp;exact rh hp;exact rl hp;exact tA hp
def mt (F:aQ):MT:=fun f=>match f with
 | 65=>some fun ds=>match ds with
   |[.agg [.s 1 a0,.s 1 a1,.s 2 a2,.v (.int .i64 a3),.s 1 a4],.one (.v (.int .i64 k))]=>some (fun _=>Rw [.sl [tI]] a0/\Rw [tB] a1/\Rw [tI,tI] a2/\Rw [tI] a4/\ax [a0,a1,a2,a4]<=1099511627776/\0<=k/\am [a0,a1,a2,a4] k<=1152921504606846976,[.s 1 (F.mkN a0 k),.s 1 (F.mkN a1 (F.kN [a0] k)),.s 2 (F.mkN a2 (F.kN [a0,a1] k)),.s 1 (F.mkN a4 (F.kN [a0,a1,a2] k))],[.j (F.kN [a0,a1,a2,a4] k)])
   |_=>none
 | 66=>some fun ds=>match ds with
   |[.one (.s 2 es),.one (.v (.int .i64 k))]=>some (fun _=>Rw [tI,tI] es/\ag es<=1099511627776/\0<=k/\am [es] k<=1152921504606846976,[.s 2 (F.mkN es k)],[.j (F.kN [es] k)])
   |_=>none
 | 67=>some fun ds=>match ds with
   |[.one (.s 3 es),.one (.v (.int .i64 k))]=>some (fun _=>Rw [tI,tI,tI] es/\ag es<=1099511627776/\0<=k/\am [es] k<=1152921504606846976,[.s 3 (F.mkN es k)],[.j (F.kN [es] k)])
   |_=>none
 | 68=>some fun ds=>match ds with
   |[.one (.s 3 es),.one (.v (.int .i64 k))]=>some (fun _=>Rw [tI,tI,tI] es/\ag es<=1099511627776/\0<=k/\am [es] k<=1152921504606846976,[.s 3 (F.mkN es k)],[.j (F.kN [es] k)])
   |_=>none
 | 69=>some fun ds=>match ds with
   |[.one (.s 4 es),.one (.v (.int .i64 k))]=>some (fun _=>Rw [tI,tI,tI,tI] es/\ag es<=1099511627776/\0<=k/\am [es] k<=1152921504606846976,[.s 4 (F.mkN es k)],[.j (F.kN [es] k)])
   |_=>none
 | 70=>some fun ds=>match ds with
   |[.one (.s 1 es),.one (.v (.int .i64 k))]=>some (fun _=>Rw [.sl [.sl [tI]]] es/\ag es<=1099511627776/\0<=k/\am [es] k<=1152921504606846976,[.s 1 (F.mkN es k)],[.j (F.kN [es] k)])
   |_=>none
 | 71=>some fun ds=>match ds with
   |[.agg [.s 1 a0,.s 1 a1],.one (.v (.int .i64 k))]=>some (fun _=>Rw [.sl [tI,tI]] a0/\Rw [.sl [tI]] a1/\ax [a0,a1]<=1099511627776/\0<=k/\am [a0,a1] k<=1152921504606846976,[.s 1 (F.mkN a0 k),.s 1 (F.mkN a1 (F.kN [a0] k))],[.j (F.kN [a0,a1] k)])
   |_=>none
 | 72=>some fun ds=>match ds with
   |[.agg [.v (.int .i64 a0),.s 3 a1],.one (.v (.int .i64 k))]=>some (fun _=>Rw [tI,tI,tI] a1/\ax [a1]<=1099511627776/\0<=k/\am [a1] k<=1152921504606846976,[.s 3 (F.mkN a1 k)],[.j (F.kN [a1] k)])
   |_=>none
 | 73=>some fun ds=>match ds with
   |[.agg [.v (.int .i64 a0),.v (.int .i64 a1),.s 1 a2,.v (.int .i64 a3),.v (.int .i64 a4)],.one (.v (.int .i64 k))]=>some (fun _=>Rw [tI] a2/\ax [a2]<=1099511627776/\0<=k/\am [a2] k<=1152921504606846976,[.s 1 (F.mkN a2 k)],[.j (F.kN [a2] k)])
   |_=>none
 |_=>none
theorem du :gR (mt F0):=by
 intro f mk h ds pre outs res hm hp;unfold mt at h;split at h
 ·cases h;dsimp only at hm;split at hm
  ·cases hm;exact np hp
  ·cases hm
 ·cases h;dsimp only at hm;split at hm
  ·cases hm;exact ny hp
  ·cases hm
 ·cases h;dsimp only at hm;split at hm
  ·cases hm;exact pj hp
  ·cases hm
 ·cases h;dsimp only at hm;split at hm
  ·cases hm;exact nq hp
  ·cases hm
 ·cases h;dsimp only at hm;split at hm
  ·cases hm;exact rr hp
  ·cases hm
 ·cases h;dsimp only at hm;split at hm
  ·cases hm;exact nj hp
  ·cases hm
 ·cases h;dsimp only at hm;split at hm
  ·cases hm;exact rq hp
  ·cases hm
 ·cases h;dsimp only at hm;split at hm
  ·cases hm;exact rx hp
  ·cases hm
 ·cases h;dsimp only at hm;split at hm
  ·cases hm;exact tC hp
  ·cases hm
 ·cases h
abbrev B :cy:={Φ:=aQ,F0:=F0,ct:=ct,hc:=aj,mt:=mt,hm:=du}
end MHeap
theorem wE {a0 a1 a2:aa}{a3:Int}{a4 a5 a6 a7 a8 a9 aA aB:aa}{aC:Int}{aD:aa}{aE aF aG aH:Int}{aI:Bool}{aJ aK:Int}{aL:aa}{aM aN left:Int}(hp:Rw [.sl [tI]] a0/\Rw [tB] a1/\Rw [tI,tI] a2/\Rw [tI] a4/\Rw [tI,tI] a5/\Rw [tI,tI,tI] a6/\Rw [tI,tI,tI] a7/\Rw [tI,tI,tI,tI] a8/\Rw [.sl [.sl [tI]]] a9/\Rw [.sl [tI,tI]] aA/\Rw [.sl [tI]] aB/\Rw [tI,tI,tI] aD/\Rw [tI] aL/\0<=left/\left<=1048576):aw 11 [.agg (ji a0 a1 a2 a3 a4 a5 a6 a7 a8 a9 aA aB aC aD aE aF aG aH aI aJ aK aL aM aN),.j left] [.j (bK [a0,a1,a2,a4,a5,a6,a7,a8,a9,aA,aB,aD,aL] left)]:=by
 obtain⟨w0,w1,w2,w3,w4,w5,w6,w7,w8,w9,w10,w11,w12,h0,h1⟩:=hp;refine cb LHeap.B Tryz.func11 ?_
 intro O r F hO hr hF;cbv
 repeat' first|apply AT|(apply bi<;>intro hb<;>cbv)
 all_goals(subst hO hr hF;(try simp only[nc]at*);(try simp only[ah,SS,sa,az]at*))
 all_goals iterate 13 (try simp(disch:=assumption) only[hH,We,V5]at*)
 all_goals first|trivial|(refine⟨by assumption,by omega,by first|omega|exact YM (vM (by assumption)) h1⟩)|(refine⟨by assumption,by assumption,by omega,by first|omega|exact YM (vM (by assumption)) h1⟩)|(rw[gJ (by assumption)])|exact congrArg (fun x=>[DV.one (L.v (Wg Wx x))]) (dV (a:=[a0,a1,a2,a4]) (b:=[a5,a6,a7,a8,a9,aA,aB,aD,aL]) (by assumption)).symm|exact congrArg (fun x=>[DV.one (L.v (Wg Wx x))]) (dV (a:=[a0,a1,a2,a4,a5]) (b:=[a6,a7,a8,a9,aA,aB,aD,aL]) (by assumption)).symm|exact congrArg (fun x=>[DV.one (L.v (Wg Wx x))]) (dV (a:=[a0,a1,a2,a4,a5,a6]) (b:=[a7,a8,a9,aA,aB,aD,aL]) (by assumption)).symm|exact congrArg (fun x=>[DV.one (L.v (Wg Wx x))]) (dV (a:=[a0,a1,a2,a4,a5,a6,a7]) (b:=[a8,a9,aA,aB,aD,aL]) (by assumption)).symm|exact congrArg (fun x=>[DV.one (L.v (Wg Wx x))]) (dV (a:=[a0,a1,a2,a4,a5,a6,a7,a8]) (b:=[a9,aA,aB,aD,aL]) (by assumption)).symm|exact congrArg (fun x=>[DV.one (L.v (Wg Wx x))]) (dV (a:=[a0,a1,a2,a4,a5,a6,a7,a8,a9]) (b:=[aA,aB,aD,aL]) (by assumption)).symm|exact congrArg (fun x=>[DV.one (L.v (Wg Wx x))]) (dV (a:=[a0,a1,a2,a4,a5,a6,a7,a8,a9,aA,aB]) (b:=[aD,aL]) (by assumption)).symm|exact congrArg (fun x=>[DV.one (L.v (Wg Wx x))]) (dV (a:=[a0,a1,a2,a4,a5,a6,a7,a8,a9,aA,aB,aD]) (b:=[aL]) (by assumption)).symm|trace_state
theorem wJ {a0 a1 a2:aa}{a3:Int}{a4 a5 a6 a7 a8 a9 aA aB:aa}{aC:Int}{aD:aa}{aE aF aG aH:Int}{aI:Bool}{aJ aK:Int}{aL:aa}{aM aN:Int}(hp:Rw [.sl [tI]] a0/\Rw [tB] a1/\Rw [tI,tI] a2/\Rw [tI] a4/\Rw [tI,tI] a5/\Rw [tI,tI,tI] a6/\Rw [tI,tI,tI] a7/\Rw [tI,tI,tI,tI] a8/\Rw [.sl [.sl [tI]]] a9/\Rw [.sl [tI,tI]] aA/\Rw [.sl [tI]] aB/\Rw [tI,tI,tI] aD/\Rw [tI] aL/\ax [a0,a1,a2,a4,a5,a6,a7,a8,a9,aA,aB,aD,aL]<=1048576):aw 13 [.agg (ji a0 a1 a2 a3 a4 a5 a6 a7 a8 a9 aA aB aC aD aE aF aG aH aI aJ aK aL aM aN)] [.agg (ji a0 a1 a2 a3 a4 a5 a6 a7 a8 a9 aA aB aC aD aE aF aG aH aI aJ aK aL aM aN)]:=by
 obtain⟨w0,w1,w2,w3,w4,w5,w6,w7,w8,w9,w10,w11,w12,hlim⟩:=hp;simp only[ax,VL]at hlim;refine cb LHeap.B Tryz.func13 ?_
 intro O r F hO hr hF;cbv
 repeat' first|apply AT|(apply bi<;>intro hb<;>cbv)
 all_goals(subst hO hr hF;(try simp only[nc]at*);(try simp only[ah,SS,sa,az]at*))
 all_goals first|trivial|(refine⟨by assumption,?_⟩;(try simp only[ax,VL]);omega)|(refine⟨by assumption,by assumption,?_⟩;(try simp only[ax,VL]);omega)|(refine⟨by assumption,by assumption,by assumption,by assumption,?_⟩;(try simp only[ax,VL]);omega)|trace_state
theorem ww {a0 a1 a2:aa}{a3:Int}{a4 a5 a6 a7 a8 a9 aA aB:aa}{aC:Int}{aD:aa}{aE aF aG aH:Int}{aI:Bool}{aJ aK:Int}{aL:aa}{aM aN:Int}{d:DV}(hp:d=.agg (ji a0 a1 a2 a3 a4 a5 a6 a7 a8 a9 aA aB aC aD aE aF aG aH aI aJ aK aL aM aN)/\Rw [.sl [tI]] a0/\Rw [tB] a1/\Rw [tI,tI] a2/\Rw [tI] a4/\Rw [tI,tI] a5/\Rw [tI,tI,tI] a6/\Rw [tI,tI,tI] a7/\Rw [tI,tI,tI,tI] a8/\Rw [.sl [.sl [tI]]] a9/\Rw [.sl [tI,tI]] aA/\Rw [.sl [tI]] aB/\Rw [tI,tI,tI] aD/\Rw [tI] aL/\ax [a0,a1,a2,a4,a5,a6,a7,a8,a9,aA,aB,aD,aL]<=1099511627776):aw 15 [.agg (ji a0 a1 a2 a3 a4 a5 a6 a7 a8 a9 aA aB aC aD aE aF aG aH aI aJ aK aL aM aN),d] [.k true]:=by
 obtain⟨rfl,w0,w1,w2,w3,w4,w5,w6,w7,w8,w9,w10,w11,w12,hlim⟩:=hp;simp only[ax,VL]at hlim;refine cb LHeap.B Tryz.func15 ?_
 intro O r F hO hr hF;cbv
 repeat' first|apply AT|(apply bi<;>intro hb<;>cbv)
 all_goals(subst hO hr hF;(try simp only[nc]at*);(try simp only[ah,SS,sa,az]at*))
 all_goals first|trivial|(refine⟨trivial,by assumption,?_⟩;(try simp only[ax,VL]);omega)|(refine⟨trivial,by assumption,by assumption,?_⟩;(try simp only[ax,VL]);omega)|(refine⟨trivial,by assumption,by assumption,by assumption,by assumption,?_⟩;(try simp only[ax,VL]);omega)|trace_state
theorem rn {a0 a1 a2:aa}{a3:Int}{a4 a5 a6 a7 a8 a9 aA aB:aa}{aC:Int}{aD:aa}{aE aF aG aH:Int}{aI:Bool}{aJ aK:Int}{aL:aa}{aM aN k:Int}(hp:Rw [.sl [tI]] a0/\Rw [tB] a1/\Rw [tI,tI] a2/\Rw [tI] a4/\Rw [tI,tI] a5/\Rw [tI,tI,tI] a6/\Rw [tI,tI,tI] a7/\Rw [tI,tI,tI,tI] a8/\Rw [.sl [.sl [tI]]] a9/\Rw [.sl [tI,tI]] aA/\Rw [.sl [tI]] aB/\Rw [tI,tI,tI] aD/\Rw [tI] aL/\ax [a0,a1,a2,a4,a5,a6,a7,a8,a9,aA,aB,aD,aL]<=1099511627776/\0<=k/\am [a0,a1,a2,a4,a5,a6,a7,a8,a9,aA,aB,aD,aL] k<=1152921504606846976):ed 16 [.agg (ji a0 a1 a2 a3 a4 a5 a6 a7 a8 a9 aA aB aC aD aE aF aG aH aI aJ aK aL aM aN),.j k] [.s 1 (ao a0 k),.s 1 (ao a1 (am [a0] k)),.s 2 (ao a2 (am [a0,a1] k)),.s 1 (ao a4 (am [a0,a1,a2] k)),.s 2 (ao a5 (am [a0,a1,a2,a4] k)),.s 3 (ao a6 (am [a0,a1,a2,a4,a5] k)),.s 3 (ao a7 (am [a0,a1,a2,a4,a5,a6] k)),.s 4 (ao a8 (am [a0,a1,a2,a4,a5,a6,a7] k)),.s 1 (ao a9 (am [a0,a1,a2,a4,a5,a6,a7,a8] k)),.s 1 (ao aA (am [a0,a1,a2,a4,a5,a6,a7,a8,a9] k)),.s 1 (ao aB (am [a0,a1,a2,a4,a5,a6,a7,a8,a9,aA] k)),.s 3 (ao aD (am [a0,a1,a2,a4,a5,a6,a7,a8,a9,aA,aB] k)),.s 1 (ao aL (am [a0,a1,a2,a4,a5,a6,a7,a8,a9,aA,aB,aD] k))] [.j (am [a0,a1,a2,a4,a5,a6,a7,a8,a9,aA,aB,aD,aL] k)]:=by
 obtain⟨w0,w1,w2,w3,w4,w5,w6,w7,w8,w9,w10,w11,w12,hlim,hk0,hkb⟩:=hp;simp only[ax,VL]at hlim;have p0:am [a0] k<=am [a0,a1,a2,a4,a5,a6,a7,a8,a9,aA,aB,aD,aL] k/\0<=am [a0] k:=bj (b:=[a1,a2,a4,a5,a6,a7,a8,a9,aA,aB,aD,aL]) hk0;have p1:am [a0,a1] k<=am [a0,a1,a2,a4,a5,a6,a7,a8,a9,aA,aB,aD,aL] k/\0<=am [a0,a1] k:=bj (b:=[a2,a4,a5,a6,a7,a8,a9,aA,aB,aD,aL]) hk0;have p2:am [a0,a1,a2] k<=am [a0,a1,a2,a4,a5,a6,a7,a8,a9,aA,aB,aD,aL] k/\0<=am [a0,a1,a2] k:=bj (b:=[a4,a5,a6,a7,a8,a9,aA,aB,aD,aL]) hk0;have p3:am [a0,a1,a2,a4] k<=am [a0,a1,a2,a4,a5,a6,a7,a8,a9,aA,aB,aD,aL] k/\0<=am [a0,a1,a2,a4] k:=bj (b:=[a5,a6,a7,a8,a9,aA,aB,aD,aL]) hk0;have p4:am [a0,a1,a2,a4,a5] k<=am [a0,a1,a2,a4,a5,a6,a7,a8,a9,aA,aB,aD,aL] k/\0<=am [a0,a1,a2,a4,a5] k:=bj (b:=[a6,a7,a8,a9,aA,aB,aD,aL]) hk0;have p5:am [a0,a1,a2,a4,a5,a6] k<=am [a0,a1,a2,a4,a5,a6,a7,a8,a9,aA,aB,aD,aL] k/\0<=am [a0,a1,a2,a4,a5,a6] k:=bj (b:=[a7,a8,a9,aA,aB,aD,aL]) hk0;have p6:am [a0,a1,a2,a4,a5,a6,a7] k<=am [a0,a1,a2,a4,a5,a6,a7,a8,a9,aA,aB,aD,aL] k/\0<=am [a0,a1,a2,a4,a5,a6,a7] k:=bj (b:=[a8,a9,aA,aB,aD,aL]) hk0;have p7:am [a0,a1,a2,a4,a5,a6,a7,a8] k<=am [a0,a1,a2,a4,a5,a6,a7,a8,a9,aA,aB,aD,aL] k/\0<=am [a0,a1,a2,a4,a5,a6,a7,a8] k:=bj (b:=[a9,aA,aB,aD,aL]) hk0;have p8:am [a0,a1,a2,a4,a5,a6,a7,a8,a9] k<=am [a0,a1,a2,a4,a5,a6,a7,a8,a9,aA,aB,aD,aL] k/\0<=am [a0,a1,a2,a4,a5,a6,a7,a8,a9] k:=bj (b:=[aA,aB,aD,aL]) hk0;have p9:am [a0,a1,a2,a4,a5,a6,a7,a8,a9,aA] k<=am [a0,a1,a2,a4,a5,a6,a7,a8,a9,aA,aB,aD,aL] k/\0<=am [a0,a1,a2,a4,a5,a6,a7,a8,a9,aA] k:=bj (b:=[aB,aD,aL]) hk0;have p10:am [a0,a1,a2,a4,a5,a6,a7,a8,a9,aA,aB] k<=am [a0,a1,a2,a4,a5,a6,a7,a8,a9,aA,aB,aD,aL] k/\0<=am [a0,a1,a2,a4,a5,a6,a7,a8,a9,aA,aB] k:=bj (b:=[aD,aL]) hk0;have p11:am [a0,a1,a2,a4,a5,a6,a7,a8,a9,aA,aB,aD] k<=am [a0,a1,a2,a4,a5,a6,a7,a8,a9,aA,aB,aD,aL] k/\0<=am [a0,a1,a2,a4,a5,a6,a7,a8,a9,aA,aB,aD] k:=bj (b:=[aL]) hk0;have p12:am [a0,a1,a2,a4,a5,a6,a7,a8,a9,aA,aB,aD,aL] k<=am [a0,a1,a2,a4,a5,a6,a7,a8,a9,aA,aB,aD,aL] k/\0<=am [a0,a1,a2,a4,a5,a6,a7,a8,a9,aA,aB,aD,aL] k:=bj (b:=[]) hk0;refine mb MHeap.B [(2,0),(2,1),(2,2),(2,4),(2,5),(2,6),(2,7),(2,8),(2,9),(2,10),(2,11),(2,13),(2,21)] Tryz.func16 ?_
 intro O r os F hO hr hos hF;cbv
 repeat' first|apply AT|(apply bi<;>intro hb<;>cbv)
 all_goals((try subst hos);subst hO hr hF;(try simp only[nc]at*);(try simp only[ah,SS,sa,az]at*);(try simp only[fk,We,V5,b8]at*))
 all_goals first|trivial|(refine⟨by assumption,?_,?_,?_⟩<;>(try simp only[fk,We,V5,ax,VL])<;>omega)|(refine⟨by assumption,by assumption,?_,?_,?_⟩<;>(try simp only[fk,We,V5,ax,VL])<;>omega)|trace_state
theorem rf {m0 m1 m2:aa}{m3:Int}{m4 m5 m6 m7 m8 m9 m10 m11:aa}{m12:Int}{m13:aa}{m14 m15 m16 m17:Int}{m18:Bool}{m19 m20:Int}{m21:aa}{m22 m23 k:Int}(hp:(∃ a0,m0=ao a0 k/\Rw [.sl [tI]] a0/\ag a0<=1099511627776)/\(∃ a1,m1=ao a1 (am [m0] k)/\Rw [tB] a1/\ag a1<=1099511627776)/\(∃ a2,m2=ao a2 (am [m0,m1] k)/\Rw [tI,tI] a2/\ag a2<=1099511627776)/\(∃ a4,m4=ao a4 (am [m0,m1,m2] k)/\Rw [tI] a4/\ag a4<=1099511627776)/\(∃ a5,m5=ao a5 (am [m0,m1,m2,m4] k)/\Rw [tI,tI] a5/\ag a5<=1099511627776)/\(∃ a6,m6=ao a6 (am [m0,m1,m2,m4,m5] k)/\Rw [tI,tI,tI] a6/\ag a6<=1099511627776)/\(∃ a7,m7=ao a7 (am [m0,m1,m2,m4,m5,m6] k)/\Rw [tI,tI,tI] a7/\ag a7<=1099511627776)/\(∃ a8,m8=ao a8 (am [m0,m1,m2,m4,m5,m6,m7] k)/\Rw [tI,tI,tI,tI] a8/\ag a8<=1099511627776)/\(∃ a9,m9=ao a9 (am [m0,m1,m2,m4,m5,m6,m7,m8] k)/\Rw [.sl [.sl [tI]]] a9/\ag a9<=1099511627776)/\(∃ aA,m10=ao aA (am [m0,m1,m2,m4,m5,m6,m7,m8,m9] k)/\Rw [.sl [tI,tI]] aA/\ag aA<=1099511627776)/\(∃ aB,m11=ao aB (am [m0,m1,m2,m4,m5,m6,m7,m8,m9,m10] k)/\Rw [.sl [tI]] aB/\ag aB<=1099511627776)/\(∃ aD,m13=ao aD (am [m0,m1,m2,m4,m5,m6,m7,m8,m9,m10,m11] k)/\Rw [tI,tI,tI] aD/\ag aD<=1099511627776)/\(∃ aL,m21=ao aL (am [m0,m1,m2,m4,m5,m6,m7,m8,m9,m10,m11,m13] k)/\Rw [tI] aL/\ag aL<=1099511627776)/\0<=k/\am [m0,m1,m2,m4,m5,m6,m7,m8,m9,m10,m11,m13,m21] k<=1152921504606846976):aw 17 [.agg (ji m0 m1 m2 m3 m4 m5 m6 m7 m8 m9 m10 m11 m12 m13 m14 m15 m16 m17 m18 m19 m20 m21 m22 m23),.j k] [.j (am [m0,m1,m2,m4,m5,m6,m7,m8,m9,m10,m11,m13,m21] k)]:=by
 obtain⟨e0,e1,e2,e3,e4,e5,e6,e7,e8,e9,e10,e11,e12,hk0,hkb⟩:=hp;have p0:am [m0] k<=am [m0,m1,m2,m4,m5,m6,m7,m8,m9,m10,m11,m13,m21] k/\0<=am [m0] k:=bj (b:=[m1,m2,m4,m5,m6,m7,m8,m9,m10,m11,m13,m21]) hk0;have p1:am [m0,m1] k<=am [m0,m1,m2,m4,m5,m6,m7,m8,m9,m10,m11,m13,m21] k/\0<=am [m0,m1] k:=bj (b:=[m2,m4,m5,m6,m7,m8,m9,m10,m11,m13,m21]) hk0;have p2:am [m0,m1,m2] k<=am [m0,m1,m2,m4,m5,m6,m7,m8,m9,m10,m11,m13,m21] k/\0<=am [m0,m1,m2] k:=bj (b:=[m4,m5,m6,m7,m8,m9,m10,m11,m13,m21]) hk0;have p3:am [m0,m1,m2,m4] k<=am [m0,m1,m2,m4,m5,m6,m7,m8,m9,m10,m11,m13,m21] k/\0<=am [m0,m1,m2,m4] k:=bj (b:=[m5,m6,m7,m8,m9,m10,m11,m13,m21]) hk0;have p4:am [m0,m1,m2,m4,m5] k<=am [m0,m1,m2,m4,m5,m6,m7,m8,m9,m10,m11,m13,m21] k/\0<=am [m0,m1,m2,m4,m5] k:=bj (b:=[m6,m7,m8,m9,m10,m11,m13,m21]) hk0;have p5:am [m0,m1,m2,m4,m5,m6] k<=am [m0,m1,m2,m4,m5,m6,m7,m8,m9,m10,m11,m13,m21] k/\0<=am [m0,m1,m2,m4,m5,m6] k:=bj (b:=[m7,m8,m9,m10,m11,m13,m21]) hk0;have p6:am [m0,m1,m2,m4,m5,m6,m7] k<=am [m0,m1,m2,m4,m5,m6,m7,m8,m9,m10,m11,m13,m21] k/\0<=am [m0,m1,m2,m4,m5,m6,m7] k:=bj (b:=[m8,m9,m10,m11,m13,m21]) hk0;have p7:am [m0,m1,m2,m4,m5,m6,m7,m8] k<=am [m0,m1,m2,m4,m5,m6,m7,m8,m9,m10,m11,m13,m21] k/\0<=am [m0,m1,m2,m4,m5,m6,m7,m8] k:=bj (b:=[m9,m10,m11,m13,m21]) hk0;have p8:am [m0,m1,m2,m4,m5,m6,m7,m8,m9] k<=am [m0,m1,m2,m4,m5,m6,m7,m8,m9,m10,m11,m13,m21] k/\0<=am [m0,m1,m2,m4,m5,m6,m7,m8,m9] k:=bj (b:=[m10,m11,m13,m21]) hk0;have p9:am [m0,m1,m2,m4,m5,m6,m7,m8,m9,m10] k<=am [m0,m1,m2,m4,m5,m6,m7,m8,m9,m10,m11,m13,m21] k/\0<=am [m0,m1,m2,m4,m5,m6,m7,m8,m9,m10] k:=bj (b:=[m11,m13,m21]) hk0;have p10:am [m0,m1,m2,m4,m5,m6,m7,m8,m9,m10,m11] k<=am [m0,m1,m2,m4,m5,m6,m7,m8,m9,m10,m11,m13,m21] k/\0<=am [m0,m1,m2,m4,m5,m6,m7,m8,m9,m10,m11] k:=bj (b:=[m13,m21]) hk0;have p11:am [m0,m1,m2,m4,m5,m6,m7,m8,m9,m10,m11,m13] k<=am [m0,m1,m2,m4,m5,m6,m7,m8,m9,m10,m11,m13,m21] k/\0<=am [m0,m1,m2,m4,m5,m6,m7,m8,m9,m10,m11,m13] k:=bj (b:=[m21]) hk0;have p12:am [m0,m1,m2,m4,m5,m6,m7,m8,m9,m10,m11,m13,m21] k<=am [m0,m1,m2,m4,m5,m6,m7,m8,m9,m10,m11,m13,m21] k/\0<=am [m0,m1,m2,m4,m5,m6,m7,m8,m9,m10,m11,m13,m21] k:=bj (b:=[]) hk0;refine cb MHeap.B Tryz.func17 ?_
 intro O r F hO hr hF;cbv
 repeat' first|apply AT|(apply bi<;>intro hb<;>cbv)
 all_goals(subst hO hr hF;(try simp only[nc]at*);(try simp only[ah,SS,sa,az]at*);(try simp only[fk,We,V5]at*))
 all_goals first|trivial|(exfalso;omega)|(obtain⟨x,y1,y2,y3⟩:=e0;exact⟨x,y1,y2,y3,by omega,by omega⟩)|(obtain⟨x,y1,y2,y3⟩:=e1;exact⟨x,y1,y2,y3,by omega,by omega⟩)|(obtain⟨x,y1,y2,y3⟩:=e2;exact⟨x,y1,y2,y3,by omega,by omega⟩)|(obtain⟨x,y1,y2,y3⟩:=e3;exact⟨x,y1,y2,y3,by omega,by omega⟩)|(obtain⟨x,y1,y2,y3⟩:=e4;exact⟨x,y1,y2,y3,by omega,by omega⟩)|(obtain⟨x,y1,y2,y3⟩:=e5;exact⟨x,y1,y2,y3,by omega,by omega⟩)|(obtain⟨x,y1,y2,y3⟩:=e6;exact⟨x,y1,y2,y3,by omega,by omega⟩)|(obtain⟨x,y1,y2,y3⟩:=e7;exact⟨x,y1,y2,y3,by omega,by omega⟩)|(obtain⟨x,y1,y2,y3⟩:=e8;exact⟨x,y1,y2,y3,by omega,by omega⟩)|(obtain⟨x,y1,y2,y3⟩:=e9;exact⟨x,y1,y2,y3,by omega,by omega⟩)|(obtain⟨x,y1,y2,y3⟩:=e10;exact⟨x,y1,y2,y3,by omega,by omega⟩)|(obtain⟨x,y1,y2,y3⟩:=e11;exact⟨x,y1,y2,y3,by omega,by omega⟩)|(obtain⟨x,y1,y2,y3⟩:=e12;exact⟨x,y1,y2,y3,by omega,by omega⟩)|(refine⟨by assumption,by omega,by omega⟩)|(refine⟨by assumption,by assumption,by omega,by omega⟩)|(refine⟨by assumption,by assumption,by assumption,by omega,by omega⟩)|(refine⟨by assumption,by assumption,by assumption,by assumption,by omega,by omega⟩)|(refine⟨by assumption,by assumption,by assumption,by assumption,by assumption,by omega,by omega⟩)|(refine⟨by assumption,by assumption,by assumption,by assumption,by assumption,by assumption,by omega,by omega⟩)|(refine⟨by assumption,by assumption,by assumption,by assumption,by assumption,by assumption,by assumption,by omega,by omega⟩)|(refine⟨by assumption,by assumption,by assumption,by assumption,by assumption,by assumption,by assumption,by assumption,by omega,by omega⟩)|(refine⟨by assumption,by assumption,by assumption,by assumption,by assumption,by assumption,by assumption,by assumption,by assumption,by omega,by omega⟩)|(refine⟨by assumption,by assumption,by assumption,by assumption,by assumption,by assumption,by assumption,by assumption,by assumption,by assumption,by omega,by omega⟩)|(refine⟨by assumption,by assumption,by assumption,by assumption,by assumption,by assumption,by assumption,by assumption,by assumption,by assumption,by assumption,by omega,by omega⟩)|(refine⟨by assumption,by assumption,by assumption,by assumption,by assumption,by assumption,by assumption,by assumption,by assumption,by assumption,by assumption,by assumption,by omega,by omega⟩)|(refine⟨by assumption,by assumption,by assumption,by assumption,by assumption,by assumption,by assumption,by assumption,by assumption,by assumption,by assumption,by assumption,by assumption,by omega,by omega⟩)|trace_state
end Go.V