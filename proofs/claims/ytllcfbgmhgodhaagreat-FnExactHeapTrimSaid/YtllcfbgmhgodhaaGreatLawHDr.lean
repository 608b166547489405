/- Contracts. -/
import Derived.Test.YtllcfbgmhgodhaaGreatLawHBr
import Derived.Test.YtllcfbgmhgodhaaGreatLawHCr
set_option linter.all false
namespace Go.V
open Go Go.Proofs
set_option maxRecDepth 1000000
set_option maxHeartbeats 8000000
namespace LHeap
structure aQ where
 szN:List aa->Int->Int
abbrev F0 :aQ:=⟨bK⟩
def ct (F:aQ):CT:=fun f ds=>match f,ds with
 |29,[.agg [.s 1 a0,.s 1 a1,.s 2 a2,.v (.int .i64 a3),.s 1 a4],.one (.v (.int .i64 left))]=>some (fun _=>Rw [.sl [tI]] a0/\Rw [tB] a1/\Rw [tI,tI] a2/\Rw [tI] a4/\0<=left/\left<=1048576,[.j (F.szN [a0,a1,a2,a4] left)])
 |41,[.agg [.s 1 a0,.s 1 a1,.s 2 a2,.v (.int .i64 a3),.s 1 a4]]=>some (fun _=>Rw [.sl [tI]] a0/\Rw [tB] a1/\Rw [tI,tI] a2/\Rw [tI] a4/\aw [a0,a1,a2,a4]<=1048576,[.agg [.s 1 a0,.s 1 a1,.s 2 a2,.i a3,.s 1 a4]])
 |53,[.agg [.s 1 a0,.s 1 a1,.s 2 a2,.v (.int .i64 a3),.s 1 a4],d]=>some (fun _=>d=.agg [.s 1 a0,.s 1 a1,.s 2 a2,.i a3,.s 1 a4]/\Rw [.sl [tI]] a0/\Rw [tB] a1/\Rw [tI,tI] a2/\Rw [tI] a4/\aw [a0,a1,a2,a4]<=1099511627776,[.k true])
 |30,[.one (.s 2 es),.one (.v (.int .i64 left))]=>some (fun _=>Rw [tI,tI] es/\0<=left/\left<=1048576,[.j (F.szN [es] left)])
 |42,[.one (.s 2 es)]=>some (fun _=>Rw [tI,tI] es/\ah es<=1048576,[.one (.s 2 es)])
 |54,[.one (.s 2 es),d]=>some (fun _=>d=.one (.s 2 es)/\Rw [tI,tI] es/\ah es<=1099511627776,[.k true])
 |31,[.one (.s 3 es),.one (.v (.int .i64 left))]=>some (fun _=>Rw [tI,tI,tI] es/\0<=left/\left<=1048576,[.j (F.szN [es] left)])
 |43,[.one (.s 3 es)]=>some (fun _=>Rw [tI,tI,tI] es/\ah es<=1048576,[.one (.s 3 es)])
 |55,[.one (.s 3 es),d]=>some (fun _=>d=.one (.s 3 es)/\Rw [tI,tI,tI] es/\ah es<=1099511627776,[.k true])
 |32,[.one (.s 3 es),.one (.v (.int .i64 left))]=>some (fun _=>Rw [tI,tI,tI] es/\0<=left/\left<=1048576,[.j (F.szN [es] left)])
 |44,[.one (.s 3 es)]=>some (fun _=>Rw [tI,tI,tI] es/\ah es<=1048576,[.one (.s 3 es)])
 |56,[.one (.s 3 es),d]=>some (fun _=>d=.one (.s 3 es)/\Rw [tI,tI,tI] es/\ah es<=1099511627776,[.k true])
 |33,[.one (.s 4 es),.one (.v (.int .i64 left))]=>some (fun _=>Rw [tI,tI,tI,tI] es/\0<=left/\left<=1048576,[.j (F.szN [es] left)])
 |45,[.one (.s 4 es)]=>some (fun _=>Rw [tI,tI,tI,tI] es/\ah es<=1048576,[.one (.s 4 es)])
 |57,[.one (.s 4 es),d]=>some (fun _=>d=.one (.s 4 es)/\Rw [tI,tI,tI,tI] es/\ah es<=1099511627776,[.k true])
 |34,[.one (.s 1 es),.one (.v (.int .i64 left))]=>some (fun _=>Rw [.sl [.sl [tI]]] es/\0<=left/\left<=1048576,[.j (F.szN [es] left)])
 |46,[.one (.s 1 es)]=>some (fun _=>Rw [.sl [.sl [tI]]] es/\ah es<=1048576,[.one (.s 1 es)])
 |58,[.one (.s 1 es),d]=>some (fun _=>d=.one (.s 1 es)/\Rw [.sl [.sl [tI]]] es/\ah es<=1099511627776,[.k true])
 |35,[.agg [.s 1 a0,.s 1 a1],.one (.v (.int .i64 left))]=>some (fun _=>Rw [.sl [tI,tI]] a0/\Rw [.sl [tI]] a1/\0<=left/\left<=1048576,[.j (F.szN [a0,a1] left)])
 |47,[.agg [.s 1 a0,.s 1 a1]]=>some (fun _=>Rw [.sl [tI,tI]] a0/\Rw [.sl [tI]] a1/\aw [a0,a1]<=1048576,[.agg [.s 1 a0,.s 1 a1]])
 |59,[.agg [.s 1 a0,.s 1 a1],d]=>some (fun _=>d=.agg [.s 1 a0,.s 1 a1]/\Rw [.sl [tI,tI]] a0/\Rw [.sl [tI]] a1/\aw [a0,a1]<=1099511627776,[.k true])
 |36,[.agg [.v (.int .i64 a0),.s 3 a1],.one (.v (.int .i64 left))]=>some (fun _=>Rw [tI,tI,tI] a1/\0<=left/\left<=1048576,[.j (F.szN [a1] left)])
 |48,[.agg [.v (.int .i64 a0),.s 3 a1]]=>some (fun _=>Rw [tI,tI,tI] a1/\aw [a1]<=1048576,[.agg [.i a0,.s 3 a1]])
 |60,[.agg [.v (.int .i64 a0),.s 3 a1],d]=>some (fun _=>d=.agg [.i a0,.s 3 a1]/\Rw [tI,tI,tI] a1/\aw [a1]<=1099511627776,[.k true])
 |37,[.agg [.v (.int .i64 a0),.v (.int .i64 a1),.s 1 a2,.v (.int .i64 a3),.v (.int .i64 a4)],.one (.v (.int .i64 left))]=>some (fun _=>Rw [tI] a2/\0<=left/\left<=1048576,[.j (F.szN [a2] left)])
 |49,[.agg [.v (.int .i64 a0),.v (.int .i64 a1),.s 1 a2,.v (.int .i64 a3),.v (.int .i64 a4)]]=>some (fun _=>Rw [tI] a2/\aw [a2]<=1048576,[.agg [.i a0,.i a1,.s 1 a2,.i a3,.i a4]])
 |61,[.agg [.v (.int .i64 a0),.v (.int .i64 a1),.s 1 a2,.v (.int .i64 a3),.v (.int .i64 a4)],d]=>some (fun _=>d=.agg [.i a0,.i a1,.s 1 a2,.i a3,.i a4]/\Rw [tI] a2/\aw [a2]<=1099511627776,[.k true])
 |_,_=>none
theorem ai :aS (ct F0):=by
 intro f ds pre res h hp;unfold ct at h;split at h<;>cases h
 exact rQ hp;exact rY hp;exact rA hp;exact rT hp;exact sd hp;exact rD hp;exact t6 hp;exact ug hp;exact tR hp;exact rR hp;exact rZ hp;exact rB hp;exact wG hp;exact wK hp;exact wA hp;exact rN hp;exact rV hp;exact rx hp;exact wF hp;exact wJ hp;exact wz hp;exact wI hp;exact wN hp;exact wD hp;exact yt hp;exact yu hp;exact yq hp
abbrev B :cy:=tb ai
end LHeap
namespace MHeap
structure aQ where
 kN:List aa->Int->Int
 mkN:aa->Int->aa
abbrev F0 :aQ:=⟨ao,am⟩
def ct (F:aQ):CT:=fun f ds=>match f,ds with
 |71,[.agg [.s 1 m0,.s 1 m1,.s 2 m2,.v (.int .i64 m3),.s 1 m4],.one (.v (.int .i64 k))]=>some (fun _=>(∃ a0,m0=am a0 k/\Rw [.sl [tI]] a0/\ah a0<=1099511627776)/\(∃ a1,m1=am a1 (ao [m0] k)/\Rw [tB] a1/\ah a1<=1099511627776)/\(∃ a2,m2=am a2 (ao [m0,m1] k)/\Rw [tI,tI] a2/\ah a2<=1099511627776)/\(∃ a4,m4=am a4 (ao [m0,m1,m2] k)/\Rw [tI] a4/\ah a4<=1099511627776)/\0<=k/\ao [m0,m1,m2,m4] k<=1152921504606846976,[.j (F.kN [m0,m1,m2,m4] k)])
 |72,[.one (.s 2 ms),.one (.v (.int .i64 k))]=>some (fun _=>∃ es,ms=am es k/\Rw [tI,tI] es/\ah es<=1099511627776/\0<=k/\ao [ms] k<=1152921504606846976,[.j (F.kN [ms] k)])
 |73,[.one (.s 3 ms),.one (.v (.int .i64 k))]=>some (fun _=>∃ es,ms=am es k/\Rw [tI,tI,tI] es/\ah es<=1099511627776/\0<=k/\ao [ms] k<=1152921504606846976,[.j (F.kN [ms] k)])
 |74,[.one (.s 3 ms),.one (.v (.int .i64 k))]=>some (fun _=>∃ es,ms=am es k/\Rw [tI,tI,tI] es/\ah es<=1099511627776/\0<=k/\ao [ms] k<=1152921504606846976,[.j (F.kN [ms] k)])
 |75,[.one (.s 4 ms),.one (.v (.int .i64 k))]=>some (fun _=>∃ es,ms=am es k/\Rw [tI,tI,tI,tI] es/\ah es<=1099511627776/\0<=k/\ao [ms] k<=1152921504606846976,[.j (F.kN [ms] k)])
 |76,[.one (.s 1 ms),.one (.v (.int .i64 k))]=>some (fun _=>∃ es,ms=am es k/\Rw [.sl [.sl [tI]]] es/\ah es<=1099511627776/\0<=k/\ao [ms] k<=1152921504606846976,[.j (F.kN [ms] k)])
 |77,[.agg [.s 1 m0,.s 1 m1],.one (.v (.int .i64 k))]=>some (fun _=>(∃ a0,m0=am a0 k/\Rw [.sl [tI,tI]] a0/\ah a0<=1099511627776)/\(∃ a1,m1=am a1 (ao [m0] k)/\Rw [.sl [tI]] a1/\ah a1<=1099511627776)/\0<=k/\ao [m0,m1] k<=1152921504606846976,[.j (F.kN [m0,m1] k)])
 |78,[.agg [.v (.int .i64 m0),.s 3 m1],.one (.v (.int .i64 k))]=>some (fun _=>(∃ a1,m1=am a1 k/\Rw [tI,tI,tI] a1/\ah a1<=1099511627776)/\0<=k/\ao [m1] k<=1152921504606846976,[.j (F.kN [m1] k)])
 |79,[.agg [.v (.int .i64 m0),.v (.int .i64 m1),.s 1 m2,.v (.int .i64 m3),.v (.int .i64 m4)],.one (.v (.int .i64 k))]=>some (fun _=>(∃ a2,m2=am a2 k/\Rw [tI] a2/\ah a2<=1099511627776)/\0<=k/\ao [m2] k<=1152921504606846976,[.j (F.kN [m2] k)])
 |_,_=>none
theorem ai :aS (ct F0):=by
 intro f ds pre res h hp;unfold ct at h;split at h<;>cases h
 exact ni hp;exact np hp;exact o9 hp;exact nj hp;exact rG hp;exact na hp;exact rF hp;exact rI hp;exact tV hp
def mt (F:aQ):MT:=fun f=>match f with
 | 62=>some fun ds=>match ds with
   |[.agg [.s 1 a0,.s 1 a1,.s 2 a2,.v (.int .i64 a3),.s 1 a4],.one (.v (.int .i64 k))]=>some (fun _=>Rw [.sl [tI]] a0/\Rw [tB] a1/\Rw [tI,tI] a2/\Rw [tI] a4/\aw [a0,a1,a2,a4]<=1099511627776/\0<=k/\ao [a0,a1,a2,a4] k<=1152921504606846976,[.s 1 (F.mkN a0 k),.s 1 (F.mkN a1 (F.kN [a0] k)),.s 2 (F.mkN a2 (F.kN [a0,a1] k)),.s 1 (F.mkN a4 (F.kN [a0,a1,a2] k))],[.j (F.kN [a0,a1,a2,a4] k)])
   |_=>none
 | 63=>some fun ds=>match ds with
   |[.one (.s 2 es),.one (.v (.int .i64 k))]=>some (fun _=>Rw [tI,tI] es/\ah es<=1099511627776/\0<=k/\ao [es] k<=1152921504606846976,[.s 2 (F.mkN es k)],[.j (F.kN [es] k)])
   |_=>none
 | 64=>some fun ds=>match ds with
   |[.one (.s 3 es),.one (.v (.int .i64 k))]=>some (fun _=>Rw [tI,tI,tI] es/\ah es<=1099511627776/\0<=k/\ao [es] k<=1152921504606846976,[.s 3 (F.mkN es k)],[.j (F.kN [es] k)])
   |_=>none
 | 65=>some fun ds=>match ds with
   |[.one (.s 3 es),.one (.v (.int .i64 k))]=>some (fun _=>Rw [tI,tI,tI] es/\ah es<=1099511627776/\0<=k/\ao [es] k<=1152921504606846976,[.s 3 (F.mkN es k)],[.j (F.kN [es] k)])
   |_=>none
 | 66=>some fun ds=>match ds with
   |[.one (.s 4 es),.one (.v (.int .i64 k))]=>some (fun _=>Rw [tI,tI,tI,tI] es/\ah es<=1099511627776/\0<=k/\ao [es] k<=1152921504606846976,[.s 4 (F.mkN es k)],[.j (F.kN [es] k)])
   |_=>none
 | 67=>some fun ds=>match ds with
   |[.one (.s 1 es),.one (.v (.int .i64 k))]=>some (fun _=>Rw [.sl [.sl [tI]]] es/\ah es<=1099511627776/\0<=k/\ao [es] k<=1152921504606846976,[.s 1 (F.mkN es k)],[.j (F.kN [es] k)])
   |_=>none
 | 68=>some fun ds=>match ds with
   |[.agg [.s 1 a0,.s 1 a1],.one (.v (.int .i64 k))]=>some (fun _=>Rw [.sl [tI,tI]] a0/\Rw [.sl [tI]] a1/\aw [a0,a1]<=1099511627776/\0<=k/\ao [a0,a1] k<=1152921504606846976,[.s 1 (F.mkN a0 k),.s 1 (F.mkN a1 (F.kN [a0] k))],[.j (F.kN [a0,a1] k)])
   |_=>none
 | 69=>some fun ds=>match ds with
   |[.agg [.v (.int .i64 a0),.s 3 a1],.one (.v (.int .i64 k))]=>some (fun _=>Rw [tI,tI,tI] a1/\aw [a1]<=1099511627776/\0<=k/\ao [a1] k<=1152921504606846976,[.s 3 (F.mkN a1 k)],[.j (F.kN [a1] k)])
   |_=>none
 | 70=>some fun ds=>match ds with
   |[.agg [.v (.int .i64 a0),.v (.int .i64 a1),.s 1 a2,.v (.int .i64 a3),.v (.int .i64 a4)],.one (.v (.int .i64 k))]=>some (fun _=>Rw [tI] a2/\aw [a2]<=1099511627776/\0<=k/\ao [a2] k<=1152921504606846976,[.s 1 (F.mkN a2 k)],[.j (F.kN [a2] k)])
   |_=>none
 |_=>none
theorem cW :gh (mt F0):=by
 intro f mk h ds pre outs res hm hp;unfold mt at h;split at h
 ·cases h;dsimp only at hm;split at hm
  ·cases hm;exact nC hp
  ·cases hm
 ·cases h;dsimp only at hm;split at hm
  ·cases hm;exact nF hp
  ·cases hm
 ·cases h;dsimp only at hm;split at hm
  ·cases hm;exact pj hp
  ·cases hm
 ·cases h;dsimp only at hm;split at hm
  ·cases hm;exact nD hp
  ·cases hm
 ·cases h;dsimp only at hm;split at hm
  ·cases hm;exact rK hp
  ·cases hm
 ·cases h;dsimp only at hm;split at hm
  ·cases hm;exact nu hp
  ·cases hm
 ·cases h;dsimp only at hm;split at hm
  ·cases hm;exact rJ hp
  ·cases hm
 ·cases h;dsimp only at hm;split at hm
  ·cases hm;exact rM hp
  ·cases hm
 ·cases h;dsimp only at hm;split at hm
  ·cases hm;exact tW hp
  ·cases hm
 ·cases h
abbrev B :cy:={Φ:=aQ,F0:=F0,ct:=ct,hc:=ai,mt:=mt,hm:=cW}
end MHeap
theorem iG {a0 a1 a2:aa}{a3:Int}{a4 a5 a6 a7 a8 a9 aA aB:aa}{aC:Int}{aD:aa}{aE aF aG aH:Int}{aI:Bool}{aJ aK:Int}{aL:aa}{aM aN left:Int}(hp:Rw [.sl [tI]] a0/\Rw [tB] a1/\Rw [tI,tI] a2/\Rw [tI] a4/\Rw [tI,tI] a5/\Rw [tI,tI,tI] a6/\Rw [tI,tI,tI] a7/\Rw [tI,tI,tI,tI] a8/\Rw [.sl [.sl [tI]]] a9/\Rw [.sl [tI,tI]] aA/\Rw [.sl [tI]] aB/\Rw [tI,tI,tI] aD/\Rw [tI] aL/\0<=left/\left<=1048576):au 10 [.agg (eD a0 a1 a2 a3 a4 a5 a6 a7 a8 a9 aA aB aC aD aE aF aG aH aI aJ aK aL aM aN),.j left] [.j (bK [a0,a1,a2,a4,a5,a6,a7,a8,a9,aA,aB,aD,aL] left)]:=by
 obtain⟨w0,w1,w2,w3,w4,w5,w6,w7,w8,w9,w10,w11,w12,h0,h1⟩:=hp;refine cb LHeap.B Tryz.func10 ?_
 intro O r F hO hr hF;cbv
 repeat' first|apply And.intro|(apply be<;>intro hb<;>cbv)
 all_goals(subst hO hr hF;(try simp only[nc]at*);(try simp only[aj,SS,sa,az]at*))
 all_goals iterate 13 (try simp(disch:=assumption) only[iy,List.cons_append,List.nil_append]at*)
 all_goals first|trivial|(refine⟨by assumption,by omega,by first|omega|exact Int.le_trans (vQ (by assumption)) h1⟩)|(refine⟨by assumption,by assumption,by omega,by first|omega|exact Int.le_trans (vQ (by assumption)) h1⟩)|(rw[hH (by assumption)])|exact congrArg (fun x=>[DV.one (L.v (Value.int IntKind.i64 x))]) (d5 (a:=[a0,a1,a2,a4]) (b:=[a5,a6,a7,a8,a9,aA,aB,aD,aL]) (by assumption)).symm|exact congrArg (fun x=>[DV.one (L.v (Value.int IntKind.i64 x))]) (d5 (a:=[a0,a1,a2,a4,a5]) (b:=[a6,a7,a8,a9,aA,aB,aD,aL]) (by assumption)).symm|exact congrArg (fun x=>[DV.one (L.v (Value.int IntKind.i64 x))]) (d5 (a:=[a0,a1,a2,a4,a5,a6]) (b:=[a7,a8,a9,aA,aB,aD,aL]) (by assumption)).symm|exact congrArg (fun x=>[DV.one (L.v (Value.int IntKind.i64 x))]) (d5 (a:=[a0,a1,a2,a4,a5,a6,a7]) (b:=[a8,a9,aA,aB,aD,aL]) (by assumption)).symm|exact congrArg (fun x=>[DV.one (L.v (Value.int IntKind.i64 x))]) (d5 (a:=[a0,a1,a2,a4,a5,a6,a7,a8]) (b:=[a9,aA,aB,aD,aL]) (by assumption)).symm|exact congrArg (fun x=>[DV.one (L.v (Value.int IntKind.i64 x))]) (d5 (a:=[a0,a1,a2,a4,a5,a6,a7,a8,a9]) (b:=[aA,aB,aD,aL]) (by assumption)).symm|exact congrArg (fun x=>[DV.one (L.v (Value.int IntKind.i64 x))]) (d5 (a:=[a0,a1,a2,a4,a5,a6,a7,a8,a9,aA,aB]) (b:=[aD,aL]) (by assumption)).symm|exact congrArg (fun x=>[DV.one (L.v (Value.int IntKind.i64 x))]) (d5 (a:=[a0,a1,a2,a4,a5,a6,a7,a8,a9,aA,aB,aD]) (b:=[aL]) (by assumption)).symm|trace_state
theorem iI {a0 a1 a2:aa}{a3:Int}{a4 a5 a6 a7 a8 a9 aA aB:aa}{aC:Int}{aD:aa}{aE aF aG aH:Int}{aI:Bool}{aJ aK:Int}{aL:aa}{aM aN:Int}(hp:Rw [.sl [tI]] a0/\Rw [tB] a1/\Rw [tI,tI] a2/\Rw [tI] a4/\Rw [tI,tI] a5/\Rw [tI,tI,tI] a6/\Rw [tI,tI,tI] a7/\Rw [tI,tI,tI,tI] a8/\Rw [.sl [.sl [tI]]] a9/\Rw [.sl [tI,tI]] aA/\Rw [.sl [tI]] aB/\Rw [tI,tI,tI] aD/\Rw [tI] aL/\aw [a0,a1,a2,a4,a5,a6,a7,a8,a9,aA,aB,aD,aL]<=1048576):au 12 [.agg (eD a0 a1 a2 a3 a4 a5 a6 a7 a8 a9 aA aB aC aD aE aF aG aH aI aJ aK aL aM aN)] [.agg (eD a0 a1 a2 a3 a4 a5 a6 a7 a8 a9 aA aB aC aD aE aF aG aH aI aJ aK aL aM aN)]:=by
 obtain⟨w0,w1,w2,w3,w4,w5,w6,w7,w8,w9,w10,w11,w12,hlim⟩:=hp;simp only[aw,Nat.add_zero]at hlim;refine cb LHeap.B Tryz.func12 ?_
 intro O r F hO hr hF;cbv
 repeat' first|apply And.intro|(apply be<;>intro hb<;>cbv)
 all_goals(subst hO hr hF;(try simp only[nc]at*);(try simp only[aj,SS,sa,az]at*))
 all_goals first|trivial|(refine⟨by assumption,?_⟩;(try simp only[aw,Nat.add_zero]);omega)|(refine⟨by assumption,by assumption,?_⟩;(try simp only[aw,Nat.add_zero]);omega)|(refine⟨by assumption,by assumption,by assumption,by assumption,?_⟩;(try simp only[aw,Nat.add_zero]);omega)|trace_state
theorem iE {a0 a1 a2:aa}{a3:Int}{a4 a5 a6 a7 a8 a9 aA aB:aa}{aC:Int}{aD:aa}{aE aF aG aH:Int}{aI:Bool}{aJ aK:Int}{aL:aa}{aM aN:Int}{d:DV}(hp:d=.agg (eD a0 a1 a2 a3 a4 a5 a6 a7 a8 a9 aA aB aC aD aE aF aG aH aI aJ aK aL aM aN)/\Rw [.sl [tI]] a0/\Rw [tB] a1/\Rw [tI,tI] a2/\Rw [tI] a4/\Rw [tI,tI] a5/\Rw [tI,tI,tI] a6/\Rw [tI,tI,tI] a7/\Rw [tI,tI,tI,tI] a8/\Rw [.sl [.sl [tI]]] a9/\Rw [.sl [tI,tI]] aA/\Rw [.sl [tI]] aB/\Rw [tI,tI,tI] aD/\Rw [tI] aL/\aw [a0,a1,a2,a4,a5,a6,a7,a8,a9,aA,aB,aD,aL]<=1099511627776):au 14 [.agg (eD a0 a1 a2 a3 a4 a5 a6 a7 a8 a9 aA aB aC aD aE aF aG aH aI aJ aK aL aM aN),d] [.k true]:=by
 obtain⟨rfl,w0,w1,w2,w3,w4,w5,w6,w7,w8,w9,w10,w11,w12,hlim⟩:=hp;simp only[aw,Nat.add_zero]at hlim;refine cb LHeap.B Tryz.func14 ?_
 intro O r F hO hr hF;cbv
 repeat' first|apply And.intro|(apply be<;>intro hb<;>cbv)
 all_goals(subst hO hr hF;(try simp only[nc]at*);(try simp only[aj,SS,sa,az]at*))
 all_goals first|trivial|(refine⟨trivial,by assumption,?_⟩;(try simp only[aw,Nat.add_zero]);omega)|(refine⟨trivial,by assumption,by assumption,?_⟩;(try simp only[aw,Nat.add_zero]);omega)|(refine⟨trivial,by assumption,by assumption,by assumption,by assumption,?_⟩;(try simp only[aw,Nat.add_zero]);omega)|trace_state
theorem fY {a0 a1 a2:aa}{a3:Int}{a4 a5 a6 a7 a8 a9 aA aB:aa}{aC:Int}{aD:aa}{aE aF aG aH:Int}{aI:Bool}{aJ aK:Int}{aL:aa}{aM aN k:Int}(hp:Rw [.sl [tI]] a0/\Rw [tB] a1/\Rw [tI,tI] a2/\Rw [tI] a4/\Rw [tI,tI] a5/\Rw [tI,tI,tI] a6/\Rw [tI,tI,tI] a7/\Rw [tI,tI,tI,tI] a8/\Rw [.sl [.sl [tI]]] a9/\Rw [.sl [tI,tI]] aA/\Rw [.sl [tI]] aB/\Rw [tI,tI,tI] aD/\Rw [tI] aL/\aw [a0,a1,a2,a4,a5,a6,a7,a8,a9,aA,aB,aD,aL]<=1099511627776/\0<=k/\ao [a0,a1,a2,a4,a5,a6,a7,a8,a9,aA,aB,aD,aL] k<=1152921504606846976):eg 15 [.agg (eD a0 a1 a2 a3 a4 a5 a6 a7 a8 a9 aA aB aC aD aE aF aG aH aI aJ aK aL aM aN),.j k] [.s 1 (am a0 k),.s 1 (am a1 (ao [a0] k)),.s 2 (am a2 (ao [a0,a1] k)),.s 1 (am a4 (ao [a0,a1,a2] k)),.s 2 (am a5 (ao [a0,a1,a2,a4] k)),.s 3 (am a6 (ao [a0,a1,a2,a4,a5] k)),.s 3 (am a7 (ao [a0,a1,a2,a4,a5,a6] k)),.s 4 (am a8 (ao [a0,a1,a2,a4,a5,a6,a7] k)),.s 1 (am a9 (ao [a0,a1,a2,a4,a5,a6,a7,a8] k)),.s 1 (am aA (ao [a0,a1,a2,a4,a5,a6,a7,a8,a9] k)),.s 1 (am aB (ao [a0,a1,a2,a4,a5,a6,a7,a8,a9,aA] k)),.s 3 (am aD (ao [a0,a1,a2,a4,a5,a6,a7,a8,a9,aA,aB] k)),.s 1 (am aL (ao [a0,a1,a2,a4,a5,a6,a7,a8,a9,aA,aB,aD] k))] [.j (ao [a0,a1,a2,a4,a5,a6,a7,a8,a9,aA,aB,aD,aL] k)]:=by
 obtain⟨w0,w1,w2,w3,w4,w5,w6,w7,w8,w9,w10,w11,w12,hlim,hk0,hkb⟩:=hp;simp only[aw,Nat.add_zero]at hlim;have p0:ao [a0] k<=ao [a0,a1,a2,a4,a5,a6,a7,a8,a9,aA,aB,aD,aL] k/\0<=ao [a0] k:=bu (b:=[a1,a2,a4,a5,a6,a7,a8,a9,aA,aB,aD,aL]) hk0;have p1:ao [a0,a1] k<=ao [a0,a1,a2,a4,a5,a6,a7,a8,a9,aA,aB,aD,aL] k/\0<=ao [a0,a1] k:=bu (b:=[a2,a4,a5,a6,a7,a8,a9,aA,aB,aD,aL]) hk0;have p2:ao [a0,a1,a2] k<=ao [a0,a1,a2,a4,a5,a6,a7,a8,a9,aA,aB,aD,aL] k/\0<=ao [a0,a1,a2] k:=bu (b:=[a4,a5,a6,a7,a8,a9,aA,aB,aD,aL]) hk0;have p3:ao [a0,a1,a2,a4] k<=ao [a0,a1,a2,a4,a5,a6,a7,a8,a9,aA,aB,aD,aL] k/\0<=ao [a0,a1,a2,a4] k:=bu (b:=[a5,a6,a7,a8,a9,aA,aB,aD,aL]) hk0;have p4:ao [a0,a1,a2,a4,a5] k<=ao [a0,a1,a2,a4,a5,a6,a7,a8,a9,aA,aB,aD,aL] k/\0<=ao [a0,a1,a2,a4,a5] k:=bu (b:=[a6,a7,a8,a9,aA,aB,aD,aL]) hk0;have p5:ao [a0,a1,a2,a4,a5,a6] k<=ao [a0,a1,a2,a4,a5,a6,a7,a8,a9,aA,aB,aD,aL] k/\0<=ao [a0,a1,a2,a4,a5,a6] k:=bu (b:=[a7,a8,a9,aA,aB,aD,aL]) hk0;have p6:ao [a0,a1,a2,a4,a5,a6,a7] k<=ao [a0,a1,a2,a4,a5,a6,a7,a8,a9,aA,aB,aD,aL] k/\0<=ao [a0,a1,a2,a4,a5,a6,a7] k:=bu (b:=[a8,a9,aA,aB,aD,aL]) hk0;have p7:ao [a0,a1,a2,a4,a5,a6,a7,a8] k<=ao [a0,a1,a2,a4,a5,a6,a7,a8,a9,aA,aB,aD,aL] k/\0<=ao [a0,a1,a2,a4,a5,a6,a7,a8] k:=bu (b:=[a9,aA,aB,aD,aL]) hk0;have p8:ao [a0,a1,a2,a4,a5,a6,a7,a8,a9] k<=ao [a0,a1,a2,a4,a5,a6,a7,a8,a9,aA,aB,aD,aL] k/\0<=ao [a0,a1,a2,a4,a5,a6,a7,a8,a9] k:=bu (b:=[aA,aB,aD,aL]) hk0;have p9:ao [a0,a1,a2,a4,a5,a6,a7,a8,a9,aA] k<=ao [a0,a1,a2,a4,a5,a6,a7,a8,a9,aA,aB,aD,aL] k/\0<=ao [a0,a1,a2,a4,a5,a6,a7,a8,a9,aA] k:=bu (b:=[aB,aD,aL]) hk0;have p10:ao [a0,a1,a2,a4,a5,a6,a7,a8,a9,aA,aB] k<=ao [a0,a1,a2,a4,a5,a6,a7,a8,a9,aA,aB,aD,aL] k/\0<=ao [a0,a1,a2,a4,a5,a6,a7,a8,a9,aA,aB] k:=bu (b:=[aD,aL]) hk0;have p11:ao [a0,a1,a2,a4,a5,a6,a7,a8,a9,aA,aB,aD] k<=ao [a0,a1,a2,a4,a5,a6,a7,a8,a9,aA,aB,aD,aL] k/\0<=ao [a0,a1,a2,a4,a5,a6,a7,a8,a9,aA,aB,aD] k:=bu (b:=[aL]) hk0;have p12:ao [a0,a1,a2,a4,a5,a6,a7,a8,a9,aA,aB,aD,aL] k<=ao [a0,a1,a2,a4,a5,a6,a7,a8,a9,aA,aB,aD,aL] k/\0<=ao [a0,a1,a2,a4,a5,a6,a7,a8,a9,aA,aB,aD,aL] k:=bu (b:=[]) hk0;refine mb MHeap.B [(2,0),(2,1),(2,2),(2,4),(2,5),(2,6),(2,7),(2,8),(2,9),(2,10),(2,11),(2,13),(2,21)] Tryz.func15 ?_
 intro O r os F hO hr hos hF;cbv
 repeat' first|apply And.intro|(apply be<;>intro hb<;>cbv)
 all_goals((try subst hos);subst hO hr hF;(try simp only[nc]at*);(try simp only[aj,SS,sa,az]at*);(try simp only[fq,List.cons_append,List.nil_append,bZ]at*))
 all_goals first|trivial|(refine⟨by assumption,?_,?_,?_⟩<;>(try simp only[fq,List.cons_append,List.nil_append,aw,Nat.add_zero])<;>omega)|(refine⟨by assumption,by assumption,?_,?_,?_⟩<;>(try simp only[fq,List.cons_append,List.nil_append,aw,Nat.add_zero])<;>omega)|trace_state
theorem fW {m0 m1 m2:aa}{m3:Int}{m4 m5 m6 m7 m8 m9 m10 m11:aa}{m12:Int}{m13:aa}{m14 m15 m16 m17:Int}{m18:Bool}{m19 m20:Int}{m21:aa}{m22 m23 k:Int}(hp:(∃ a0,m0=am a0 k/\Rw [.sl [tI]] a0/\ah a0<=1099511627776)/\(∃ a1,m1=am a1 (ao [m0] k)/\Rw [tB] a1/\ah a1<=1099511627776)/\(∃ a2,m2=am a2 (ao [m0,m1] k)/\Rw [tI,tI] a2/\ah a2<=1099511627776)/\(∃ a4,m4=am a4 (ao [m0,m1,m2] k)/\Rw [tI] a4/\ah a4<=1099511627776)/\(∃ a5,m5=am a5 (ao [m0,m1,m2,m4] k)/\Rw [tI,tI] a5/\ah a5<=1099511627776)/\(∃ a6,m6=am a6 (ao [m0,m1,m2,m4,m5] k)/\Rw [tI,tI,tI] a6/\ah a6<=1099511627776)/\(∃ a7,m7=am a7 (ao [m0,m1,m2,m4,m5,m6] k)/\Rw [tI,tI,tI] a7/\ah a7<=1099511627776)/\(∃ a8,m8=am a8 (ao [m0,m1,m2,m4,m5,m6,m7] k)/\Rw [tI,tI,tI,tI] a8/\ah a8<=1099511627776)/\(∃ a9,m9=am a9 (ao [m0,m1,m2,m4,m5,m6,m7,m8] k)/\Rw [.sl [.sl [tI]]] a9/\ah a9<=1099511627776)/\(∃ aA,m10=am aA (ao [m0,m1,m2,m4,m5,m6,m7,m8,m9] k)/\Rw [.sl [tI,tI]] aA/\ah aA<=1099511627776)/\(∃ aB,m11=am aB (ao [m0,m1,m2,m4,m5,m6,m7,m8,m9,m10] k)/\Rw [.sl [tI]] aB/\ah aB<=1099511627776)/\(∃ aD,m13=am aD (ao [m0,m1,m2,m4,m5,m6,m7,m8,m9,m10,m11] k)/\Rw [tI,tI,tI] aD/\ah aD<=1099511627776)/\(∃ aL,m21=am aL (ao [m0,m1,m2,m4,m5,m6,m7,m8,m9,m10,m11,m13] k)/\Rw [tI] aL/\ah aL<=1099511627776)/\0<=k/\ao [m0,m1,m2,m4,m5,m6,m7,m8,m9,m10,m11,m13,m21] k<=1152921504606846976):au 16 [.agg (eD m0 m1 m2 m3 m4 m5 m6 m7 m8 m9 m10 m11 m12 m13 m14 m15 m16 m17 m18 m19 m20 m21 m22 m23),.j k] [.j (ao [m0,m1,m2,m4,m5,m6,m7,m8,m9,m10,m11,m13,m21] k)]:=by
 obtain⟨e0,e1,e2,e3,e4,e5,e6,e7,e8,e9,e10,e11,e12,hk0,hkb⟩:=hp;have p0:ao [m0] k<=ao [m0,m1,m2,m4,m5,m6,m7,m8,m9,m10,m11,m13,m21] k/\0<=ao [m0] k:=bu (b:=[m1,m2,m4,m5,m6,m7,m8,m9,m10,m11,m13,m21]) hk0;have p1:ao [m0,m1] k<=ao [m0,m1,m2,m4,m5,m6,m7,m8,m9,m10,m11,m13,m21] k/\0<=ao [m0,m1] k:=bu (b:=[m2,m4,m5,m6,m7,m8,m9,m10,m11,m13,m21]) hk0;have p2:ao [m0,m1,m2] k<=ao [m0,m1,m2,m4,m5,m6,m7,m8,m9,m10,m11,m13,m21] k/\0<=ao [m0,m1,m2] k:=bu (b:=[m4,m5,m6,m7,m8,m9,m10,m11,m13,m21]) hk0;have p3:ao [m0,m1,m2,m4] k<=ao [m0,m1,m2,m4,m5,m6,m7,m8,m9,m10,m11,m13,m21] k/\0<=ao [m0,m1,m2,m4] k:=bu (b:=[m5,m6,m7,m8,m9,m10,m11,m13,m21]) hk0;have p4:ao [m0,m1,m2,m4,m5] k<=ao [m0,m1,m2,m4,m5,m6,m7,m8,m9,m10,m11,m13,m21] k/\0<=ao [m0,m1,m2,m4,m5] k:=bu (b:=[m6,m7,m8,m9,m10,m11,m13,m21]) hk0;have p5:ao [m0,m1,m2,m4,m5,m6] k<=ao [m0,m1,m2,m4,m5,m6,m7,m8,m9,m10,m11,m13,m21] k/\0<=ao [m0,m1,m2,m4,m5,m6] k:=bu (b:=[m7,m8,m9,m10,m11,m13,m21]) hk0;have p6:ao [m0,m1,m2,m4,m5,m6,m7] k<=ao [m0,m1,m2,m4,m5,m6,m7,m8,m9,m10,m11,m13,m21] k/\0<=ao [m0,m1,m2,m4,m5,m6,m7] k:=bu (b:=[m8,m9,m10,m11,m13,m21]) hk0;have p7:ao [m0,m1,m2,m4,m5,m6,m7,m8] k<=ao [m0,m1,m2,m4,m5,m6,m7,m8,m9,m10,m11,m13,m21] k/\0<=ao [m0,m1,m2,m4,m5,m6,m7,m8] k:=bu (b:=[m9,m10,m11,m13,m21]) hk0;have p8:ao [m0,m1,m2,m4,m5,m6,m7,m8,m9] k<=ao [m0,m1,m2,m4,m5,m6,m7,m8,m9,m10,m11,m13,m21] k/\0<=ao [m0,m1,m2,m4,m5,m6,m7,m8,m9] k:=bu (b:=[m10,m11,m13,m21]) hk0;have p9:ao [m0,m1,m2,m4,m5,m6,m7,m8,m9,m10] k<=ao [m0,m1,m2,m4,m5,m6,m7,m8,m9,m10,m11,m13,m21] k/\0<=ao [m0,m1,m2,m4,m5,m6,m7,m8,m9,m10] k:=bu (b:=[m11,m13,m21]) hk0;have p10:ao [m0,m1,m2,m4,m5,m6,m7,m8,m9,m10,m11] k<=ao [m0,m1,m2,m4,m5,m6,m7,m8,m9,m10,m11,m13,m21] k/\0<=ao [m0,m1,m2,m4,m5,m6,m7,m8,m9,m10,m11] k:=bu (b:=[m13,m21]) hk0;have p11:ao [m0,m1,m2,m4,m5,m6,m7,m8,m9,m10,m11,m13] k<=ao [m0,m1,m2,m4,m5,m6,m7,m8,m9,m10,m11,m13,m21] k/\0<=ao [m0,m1,m2,m4,m5,m6,m7,m8,m9,m10,m11,m13] k:=bu (b:=[m21]) hk0;have p12:ao [m0,m1,m2,m4,m5,m6,m7,m8,m9,m10,m11,m13,m21] k<=ao [m0,m1,m2,m4,m5,m6,m7,m8,m9,m10,m11,m13,m21] k/\0<=ao [m0,m1,m2,m4,m5,m6,m7,m8,m9,m10,m11,m13,m21] k:=bu (b:=[]) hk0;refine cb MHeap.B Tryz.func16 ?_
 intro O r F hO hr hF;cbv
 repeat' first|apply And.intro|(apply be<;>intro hb<;>cbv)
 all_goals(subst hO hr hF;(try simp only[nc]at*);(try simp only[aj,SS,sa,az]at*);(try simp only[fq,List.cons_append,List.nil_append]at*))
 all_goals first|trivial|(exfalso;omega)|(obtain⟨x,y1,y2,y3⟩:=e0;exact⟨x,y1,y2,y3,by omega,by omega⟩)|(obtain⟨x,y1,y2,y3⟩:=e1;exact⟨x,y1,y2,y3,by omega,by omega⟩)|(obtain⟨x,y1,y2,y3⟩:=e2;exact⟨x,y1,y2,y3,by omega,by omega⟩)|(obtain⟨x,y1,y2,y3⟩:=e3;exact⟨x,y1,y2,y3,by omega,by omega⟩)|(obtain⟨x,y1,y2,y3⟩:=e4;exact⟨x,y1,y2,y3,by omega,by omega⟩)|(obtain⟨x,y1,y2,y3⟩:=e5;exact⟨x,y1,y2,y3,by omega,by omega⟩)|(obtain⟨x,y1,y2,y3⟩:=e6;exact⟨x,y1,y2,y3,by omega,by omega⟩)|(obtain⟨x,y1,y2,y3⟩:=e7;exact⟨x,y1,y2,y3,by omega,by omega⟩)|(obtain⟨x,y1,y2,y3⟩:=e8;exact⟨x,y1,y2,y3,by omega,by omega⟩)|(obtain⟨x,y1,y2,y3⟩:=e9;exact⟨x,y1,y2,y3,by omega,by omega⟩)|(obtain⟨x,y1,y2,y3⟩:=e10;exact⟨x,y1,y2,y3,by omega,by omega⟩)|(obtain⟨x,y1,y2,y3⟩:=e11;exact⟨x,y1,y2,y3,by omega,by omega⟩)|(obtain⟨x,y1,y2,y3⟩:=e12;exact⟨x,y1,y2,y3,by omega,by omega⟩)|(refine⟨by assumption,by omega,by omega⟩)|(refine⟨by assumption,by assumption,by omega,by omega⟩)|(refine⟨by assumption,by assumption,by assumption,by omega,by omega⟩)|(refine⟨by assumption,by assumption,by assumption,by assumption,by omega,by omega⟩)|(refine⟨by assumption,by assumption,by assumption,by assumption,by assumption,by omega,by omega⟩)|(refine⟨by assumption,by assumption,by assumption,by assumption,by assumption,by assumption,by omega,by omega⟩)|(refine⟨by assumption,by assumption,by assumption,by assumption,by assumption,by assumption,by assumption,by omega,by omega⟩)|(refine⟨by assumption,by assumption,by assumption,by assumption,by assumption,by assumption,by assumption,by assumption,by omega,by omega⟩)|(refine⟨by assumption,by assumption,by assumption,by assumption,by assumption,by assumption,by assumption,by assumption,by assumption,by omega,by omega⟩)|(refine⟨by assumption,by assumption,by assumption,by assumption,by assumption,by assumption,by assumption,by assumption,by assumption,by assumption,by omega,by omega⟩)|(refine⟨by assumption,by assumption,by assumption,by assumption,by assumption,by assumption,by assumption,by assumption,by assumption,by assumption,by assumption,by omega,by omega⟩)|(refine⟨by assumption,by assumption,by assumption,by assumption,by assumption,by assumption,by assumption,by assumption,by assumption,by assumption,by assumption,by assumption,by omega,by omega⟩)|(refine⟨by assumption,by assumption,by assumption,by assumption,by assumption,by assumption,by assumption,by assumption,by assumption,by assumption,by assumption,by assumption,by assumption,by omega,by omega⟩)|trace_state
end Go.V