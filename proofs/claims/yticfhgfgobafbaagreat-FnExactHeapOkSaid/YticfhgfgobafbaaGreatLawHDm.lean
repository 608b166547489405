/- Contracts. -/
import Derived.Test.YticfhgfgobafbaaGreatLawHBm
import Derived.Test.YticfhgfgobafbaaGreatLawHCm
set_option linter.all false
namespace Go.V
open Go Go.Proofs
set_option maxRecDepth 1000000
set_option maxHeartbeats 8000000
namespace LHeap
structure aO where
 szN:List aa->Int->Int
abbrev F0 :aO:=⟨bA⟩
def ct (F:aO):CT:=fun f ds=>match f,ds with
 |16,[.agg [.s 1 a0,.s 1 a1,.s 2 a2,.v (.int .i64 a3),.s 1 a4],.one (.v (.int .i64 left))]=>some (fun _=>Rw [.sl [tI]] a0/\Rw [tB] a1/\Rw [tI,tI] a2/\Rw [tI] a4/\0<=left/\left<=1048576,[.j (F.szN [a0,a1,a2,a4] left)])
 |28,[.agg [.s 1 a0,.s 1 a1,.s 2 a2,.v (.int .i64 a3),.s 1 a4]]=>some (fun _=>Rw [.sl [tI]] a0/\Rw [tB] a1/\Rw [tI,tI] a2/\Rw [tI] a4/\am [a0,a1,a2,a4]<=1048576,[.agg [.s 1 a0,.s 1 a1,.s 2 a2,.i a3,.s 1 a4]])
 |45,[.agg [.s 1 a0,.s 1 a1,.s 2 a2,.v (.int .i64 a3),.s 1 a4],d]=>some (fun _=>d=.agg [.s 1 a0,.s 1 a1,.s 2 a2,.i a3,.s 1 a4]/\Rw [.sl [tI]] a0/\Rw [tB] a1/\Rw [tI,tI] a2/\Rw [tI] a4/\am [a0,a1,a2,a4]<=1099511627776,[.k true])
 |17,[.one (.s 2 es),.one (.v (.int .i64 left))]=>some (fun _=>Rw [tI,tI] es/\0<=left/\left<=1048576,[.j (F.szN [es] left)])
 |29,[.one (.s 2 es)]=>some (fun _=>Rw [tI,tI] es/\ak es<=1048576,[.one (.s 2 es)])
 |46,[.one (.s 2 es),d]=>some (fun _=>d=.one (.s 2 es)/\Rw [tI,tI] es/\ak es<=1099511627776,[.k true])
 |18,[.one (.s 3 es),.one (.v (.int .i64 left))]=>some (fun _=>Rw [tI,tI,tI] es/\0<=left/\left<=1048576,[.j (F.szN [es] left)])
 |30,[.one (.s 3 es)]=>some (fun _=>Rw [tI,tI,tI] es/\ak es<=1048576,[.one (.s 3 es)])
 |47,[.one (.s 3 es),d]=>some (fun _=>d=.one (.s 3 es)/\Rw [tI,tI,tI] es/\ak es<=1099511627776,[.k true])
 |19,[.one (.s 3 es),.one (.v (.int .i64 left))]=>some (fun _=>Rw [tI,tI,tI] es/\0<=left/\left<=1048576,[.j (F.szN [es] left)])
 |31,[.one (.s 3 es)]=>some (fun _=>Rw [tI,tI,tI] es/\ak es<=1048576,[.one (.s 3 es)])
 |48,[.one (.s 3 es),d]=>some (fun _=>d=.one (.s 3 es)/\Rw [tI,tI,tI] es/\ak es<=1099511627776,[.k true])
 |20,[.one (.s 4 es),.one (.v (.int .i64 left))]=>some (fun _=>Rw [tI,tI,tI,tI] es/\0<=left/\left<=1048576,[.j (F.szN [es] left)])
 |32,[.one (.s 4 es)]=>some (fun _=>Rw [tI,tI,tI,tI] es/\ak es<=1048576,[.one (.s 4 es)])
 |49,[.one (.s 4 es),d]=>some (fun _=>d=.one (.s 4 es)/\Rw [tI,tI,tI,tI] es/\ak es<=1099511627776,[.k true])
 |21,[.one (.s 1 es),.one (.v (.int .i64 left))]=>some (fun _=>Rw [.sl [.sl [tI]]] es/\0<=left/\left<=1048576,[.j (F.szN [es] left)])
 |33,[.one (.s 1 es)]=>some (fun _=>Rw [.sl [.sl [tI]]] es/\ak es<=1048576,[.one (.s 1 es)])
 |50,[.one (.s 1 es),d]=>some (fun _=>d=.one (.s 1 es)/\Rw [.sl [.sl [tI]]] es/\ak es<=1099511627776,[.k true])
 |22,[.agg [.s 1 a0,.s 1 a1],.one (.v (.int .i64 left))]=>some (fun _=>Rw [.sl [tI,tI]] a0/\Rw [.sl [tI]] a1/\0<=left/\left<=1048576,[.j (F.szN [a0,a1] left)])
 |34,[.agg [.s 1 a0,.s 1 a1]]=>some (fun _=>Rw [.sl [tI,tI]] a0/\Rw [.sl [tI]] a1/\am [a0,a1]<=1048576,[.agg [.s 1 a0,.s 1 a1]])
 |51,[.agg [.s 1 a0,.s 1 a1],d]=>some (fun _=>d=.agg [.s 1 a0,.s 1 a1]/\Rw [.sl [tI,tI]] a0/\Rw [.sl [tI]] a1/\am [a0,a1]<=1099511627776,[.k true])
 |23,[.agg [.v (.int .i64 a0),.s 3 a1],.one (.v (.int .i64 left))]=>some (fun _=>Rw [tI,tI,tI] a1/\0<=left/\left<=1048576,[.j (F.szN [a1] left)])
 |35,[.agg [.v (.int .i64 a0),.s 3 a1]]=>some (fun _=>Rw [tI,tI,tI] a1/\am [a1]<=1048576,[.agg [.i a0,.s 3 a1]])
 |52,[.agg [.v (.int .i64 a0),.s 3 a1],d]=>some (fun _=>d=.agg [.i a0,.s 3 a1]/\Rw [tI,tI,tI] a1/\am [a1]<=1099511627776,[.k true])
 |24,[.agg [.v (.int .i64 a0),.v (.int .i64 a1),.s 1 a2,.v (.int .i64 a3),.v (.int .i64 a4)],.one (.v (.int .i64 left))]=>some (fun _=>Rw [tI] a2/\0<=left/\left<=1048576,[.j (F.szN [a2] left)])
 |36,[.agg [.v (.int .i64 a0),.v (.int .i64 a1),.s 1 a2,.v (.int .i64 a3),.v (.int .i64 a4)]]=>some (fun _=>Rw [tI] a2/\am [a2]<=1048576,[.agg [.i a0,.i a1,.s 1 a2,.i a3,.i a4]])
 |53,[.agg [.v (.int .i64 a0),.v (.int .i64 a1),.s 1 a2,.v (.int .i64 a3),.v (.int .i64 a4)],d]=>some (fun _=>d=.agg [.i a0,.i a1,.s 1 a2,.i a3,.i a4]/\Rw [tI] a2/\am [a2]<=1099511627776,[.k true])
 |_,_=>none
theorem aj :aR (ct F0):=by
 intro f ds pre res h hp;unfold ct at h;split at h<;>cases h
 exact oy hp;exact oG hp;exact nY hp;exact oB hp;exact oJ hp;exact oc hp;exact qi hp;exact qt hp;exact qa hp;exact oz hp;exact oH hp;exact nZ hp;exact sD hp;exact sH hp;exact su hp;exact oq hp;exact oD hp;exact nV hp;exact sC hp;exact sG hp;exact sr hp;exact sF hp;exact sK hp;exact sy hp;exact uh hp;exact ui hp;exact uf hp
abbrev B :cD:=tb aj
end LHeap
namespace MHeap
structure aO where
 kN:List aa->Int->Int
 mkN:aa->Int->aa
abbrev F0 :aO:=⟨aX,bV⟩
def mt (F:aO):MT:=fun f=>match f with
 | 54=>some fun ds=>match ds with
   |[.agg [.s 1 a0,.s 1 a1,.s 2 a2,.v (.int .i64 a3),.s 1 a4],.one (.v (.int .i64 k))]=>some (fun _=>Rw [.sl [tI]] a0/\Rw [tB] a1/\Rw [tI,tI] a2/\Rw [tI] a4/\am [a0,a1,a2,a4]<=1099511627776/\0<=k/\aX [a0,a1,a2,a4] k<=1152921504606846976,[.s 1 (F.mkN a0 k),.s 1 (F.mkN a1 (F.kN [a0] k)),.s 2 (F.mkN a2 (F.kN [a0,a1] k)),.s 1 (F.mkN a4 (F.kN [a0,a1,a2] k))],[.j (F.kN [a0,a1,a2,a4] k)])
   |_=>none
 | 55=>some fun ds=>match ds with
   |[.one (.s 2 es),.one (.v (.int .i64 k))]=>some (fun _=>Rw [tI,tI] es/\ak es<=1099511627776/\0<=k/\aX [es] k<=1152921504606846976,[.s 2 (F.mkN es k)],[.j (F.kN [es] k)])
   |_=>none
 | 56=>some fun ds=>match ds with
   |[.one (.s 3 es),.one (.v (.int .i64 k))]=>some (fun _=>Rw [tI,tI,tI] es/\ak es<=1099511627776/\0<=k/\aX [es] k<=1152921504606846976,[.s 3 (F.mkN es k)],[.j (F.kN [es] k)])
   |_=>none
 | 57=>some fun ds=>match ds with
   |[.one (.s 3 es),.one (.v (.int .i64 k))]=>some (fun _=>Rw [tI,tI,tI] es/\ak es<=1099511627776/\0<=k/\aX [es] k<=1152921504606846976,[.s 3 (F.mkN es k)],[.j (F.kN [es] k)])
   |_=>none
 | 58=>some fun ds=>match ds with
   |[.one (.s 4 es),.one (.v (.int .i64 k))]=>some (fun _=>Rw [tI,tI,tI,tI] es/\ak es<=1099511627776/\0<=k/\aX [es] k<=1152921504606846976,[.s 4 (F.mkN es k)],[.j (F.kN [es] k)])
   |_=>none
 | 59=>some fun ds=>match ds with
   |[.one (.s 1 es),.one (.v (.int .i64 k))]=>some (fun _=>Rw [.sl [.sl [tI]]] es/\ak es<=1099511627776/\0<=k/\aX [es] k<=1152921504606846976,[.s 1 (F.mkN es k)],[.j (F.kN [es] k)])
   |_=>none
 | 60=>some fun ds=>match ds with
   |[.agg [.s 1 a0,.s 1 a1],.one (.v (.int .i64 k))]=>some (fun _=>Rw [.sl [tI,tI]] a0/\Rw [.sl [tI]] a1/\am [a0,a1]<=1099511627776/\0<=k/\aX [a0,a1] k<=1152921504606846976,[.s 1 (F.mkN a0 k),.s 1 (F.mkN a1 (F.kN [a0] k))],[.j (F.kN [a0,a1] k)])
   |_=>none
 | 61=>some fun ds=>match ds with
   |[.agg [.v (.int .i64 a0),.s 3 a1],.one (.v (.int .i64 k))]=>some (fun _=>Rw [tI,tI,tI] a1/\am [a1]<=1099511627776/\0<=k/\aX [a1] k<=1152921504606846976,[.s 3 (F.mkN a1 k)],[.j (F.kN [a1] k)])
   |_=>none
 | 62=>some fun ds=>match ds with
   |[.agg [.v (.int .i64 a0),.v (.int .i64 a1),.s 1 a2,.v (.int .i64 a3),.v (.int .i64 a4)],.one (.v (.int .i64 k))]=>some (fun _=>Rw [tI] a2/\am [a2]<=1099511627776/\0<=k/\aX [a2] k<=1152921504606846976,[.s 1 (F.mkN a2 k)],[.j (F.kN [a2] k)])
   |_=>none
 |_=>none
theorem db :fK (mt F0):=by
 intro f mk h ds pre outs res hm hp;unfold mt at h;split at h
 ·cases h;dsimp only at hm;split at hm
  ·cases hm;exact kV hp
  ·cases hm
 ·cases h;dsimp only at hm;split at hm
  ·cases hm;exact kY hp
  ·cases hm
 ·cases h;dsimp only at hm;split at hm
  ·cases hm;exact mj hp
  ·cases hm
 ·cases h;dsimp only at hm;split at hm
  ·cases hm;exact kW hp
  ·cases hm
 ·cases h;dsimp only at hm;split at hm
  ·cases hm;exact oi hp
  ·cases hm
 ·cases h;dsimp only at hm;split at hm
  ·cases hm;exact kS hp
  ·cases hm
 ·cases h;dsimp only at hm;split at hm
  ·cases hm;exact oh hp
  ·cases hm
 ·cases h;dsimp only at hm;split at hm
  ·cases hm;exact om hp
  ·cases hm
 ·cases h;dsimp only at hm;split at hm
  ·cases hm;exact qe hp
  ·cases hm
 ·cases h
abbrev B :cD:={Φ:=aO,F0:=F0,mt:=mt,hm:=db}
end MHeap
theorem j5 {a0 a1 a2:aa}{a3:Int}{a4 a5 a6 a7 a8 a9 aA aB:aa}{aC:Int}{aD:aa}{aE aF aG aH:Int}{aI:Bool}{aJ aK:Int}{aL:aa}{aM aN left:Int}(hp:Rw [.sl [tI]] a0/\Rw [tB] a1/\Rw [tI,tI] a2/\Rw [tI] a4/\Rw [tI,tI] a5/\Rw [tI,tI,tI] a6/\Rw [tI,tI,tI] a7/\Rw [tI,tI,tI,tI] a8/\Rw [.sl [.sl [tI]]] a9/\Rw [.sl [tI,tI]] aA/\Rw [.sl [tI]] aB/\Rw [tI,tI,tI] aD/\Rw [tI] aL/\0<=left/\left<=1048576):ao 5 [.agg (kH a0 a1 a2 a3 a4 a5 a6 a7 a8 a9 aA aB aC aD aE aF aG aH aI aJ aK aL aM aN),.j left] [.j (bA [a0,a1,a2,a4,a5,a6,a7,a8,a9,aA,aB,aD,aL] left)]:=by
 obtain⟨w0,w1,w2,w3,w4,w5,w6,w7,w8,w9,w10,w11,w12,h0,h1⟩:=hp;refine cb LHeap.B Tryz.func5 ?_
 intro O r F hO hr hF;cbv
 repeat' first|apply And.intro|(apply bi<;>intro hb<;>cbv)
 all_goals(subst hO hr hF;(try simp only[nc]at*);(try simp only[ai,SS,sa,az]at*))
 all_goals iterate 13 (try simp(disch:=assumption) only[fW,List.cons_append,List.nil_append]at*)
 all_goals first|trivial|(refine⟨by assumption,by omega,by first|omega|exact Int.le_trans (rO (by assumption)) h1⟩)|(refine⟨by assumption,by assumption,by omega,by first|omega|exact Int.le_trans (rO (by assumption)) h1⟩)|(rw[fE (by assumption)])|exact congrArg (fun x=>[DV.one (L.v (Value.int IntKind.i64 x))]) (dD (a:=[a0,a1,a2,a4]) (b:=[a5,a6,a7,a8,a9,aA,aB,aD,aL]) (by assumption)).symm|exact congrArg (fun x=>[DV.one (L.v (Value.int IntKind.i64 x))]) (dD (a:=[a0,a1,a2,a4,a5]) (b:=[a6,a7,a8,a9,aA,aB,aD,aL]) (by assumption)).symm|exact congrArg (fun x=>[DV.one (L.v (Value.int IntKind.i64 x))]) (dD (a:=[a0,a1,a2,a4,a5,a6]) (b:=[a7,a8,a9,aA,aB,aD,aL]) (by assumption)).symm|exact congrArg (fun x=>[DV.one (L.v (Value.int IntKind.i64 x))]) (dD (a:=[a0,a1,a2,a4,a5,a6,a7]) (b:=[a8,a9,aA,aB,aD,aL]) (by assumption)).symm|exact congrArg (fun x=>[DV.one (L.v (Value.int IntKind.i64 x))]) (dD (a:=[a0,a1,a2,a4,a5,a6,a7,a8]) (b:=[a9,aA,aB,aD,aL]) (by assumption)).symm|exact congrArg (fun x=>[DV.one (L.v (Value.int IntKind.i64 x))]) (dD (a:=[a0,a1,a2,a4,a5,a6,a7,a8,a9]) (b:=[aA,aB,aD,aL]) (by assumption)).symm|exact congrArg (fun x=>[DV.one (L.v (Value.int IntKind.i64 x))]) (dD (a:=[a0,a1,a2,a4,a5,a6,a7,a8,a9,aA,aB]) (b:=[aD,aL]) (by assumption)).symm|exact congrArg (fun x=>[DV.one (L.v (Value.int IntKind.i64 x))]) (dD (a:=[a0,a1,a2,a4,a5,a6,a7,a8,a9,aA,aB,aD]) (b:=[aL]) (by assumption)).symm|trace_state
theorem j6 {a0 a1 a2:aa}{a3:Int}{a4 a5 a6 a7 a8 a9 aA aB:aa}{aC:Int}{aD:aa}{aE aF aG aH:Int}{aI:Bool}{aJ aK:Int}{aL:aa}{aM aN:Int}(hp:Rw [.sl [tI]] a0/\Rw [tB] a1/\Rw [tI,tI] a2/\Rw [tI] a4/\Rw [tI,tI] a5/\Rw [tI,tI,tI] a6/\Rw [tI,tI,tI] a7/\Rw [tI,tI,tI,tI] a8/\Rw [.sl [.sl [tI]]] a9/\Rw [.sl [tI,tI]] aA/\Rw [.sl [tI]] aB/\Rw [tI,tI,tI] aD/\Rw [tI] aL/\am [a0,a1,a2,a4,a5,a6,a7,a8,a9,aA,aB,aD,aL]<=1048576):ao 7 [.agg (kH a0 a1 a2 a3 a4 a5 a6 a7 a8 a9 aA aB aC aD aE aF aG aH aI aJ aK aL aM aN)] [.agg (kH a0 a1 a2 a3 a4 a5 a6 a7 a8 a9 aA aB aC aD aE aF aG aH aI aJ aK aL aM aN)]:=by
 obtain⟨w0,w1,w2,w3,w4,w5,w6,w7,w8,w9,w10,w11,w12,hlim⟩:=hp;simp only[am,Nat.add_zero]at hlim;refine cb LHeap.B Tryz.func7 ?_
 intro O r F hO hr hF;cbv
 repeat' first|apply And.intro|(apply bi<;>intro hb<;>cbv)
 all_goals(subst hO hr hF;(try simp only[nc]at*);(try simp only[ai,SS,sa,az]at*))
 all_goals first|trivial|(refine⟨by assumption,?_⟩;(try simp only[am,Nat.add_zero]);omega)|(refine⟨by assumption,by assumption,?_⟩;(try simp only[am,Nat.add_zero]);omega)|(refine⟨by assumption,by assumption,by assumption,by assumption,?_⟩;(try simp only[am,Nat.add_zero]);omega)|trace_state
theorem j4 {a0 a1 a2:aa}{a3:Int}{a4 a5 a6 a7 a8 a9 aA aB:aa}{aC:Int}{aD:aa}{aE aF aG aH:Int}{aI:Bool}{aJ aK:Int}{aL:aa}{aM aN:Int}{d:DV}(hp:d=.agg (kH a0 a1 a2 a3 a4 a5 a6 a7 a8 a9 aA aB aC aD aE aF aG aH aI aJ aK aL aM aN)/\Rw [.sl [tI]] a0/\Rw [tB] a1/\Rw [tI,tI] a2/\Rw [tI] a4/\Rw [tI,tI] a5/\Rw [tI,tI,tI] a6/\Rw [tI,tI,tI] a7/\Rw [tI,tI,tI,tI] a8/\Rw [.sl [.sl [tI]]] a9/\Rw [.sl [tI,tI]] aA/\Rw [.sl [tI]] aB/\Rw [tI,tI,tI] aD/\Rw [tI] aL/\am [a0,a1,a2,a4,a5,a6,a7,a8,a9,aA,aB,aD,aL]<=1099511627776):ao 10 [.agg (kH a0 a1 a2 a3 a4 a5 a6 a7 a8 a9 aA aB aC aD aE aF aG aH aI aJ aK aL aM aN),d] [.k true]:=by
 obtain⟨rfl,w0,w1,w2,w3,w4,w5,w6,w7,w8,w9,w10,w11,w12,hlim⟩:=hp;simp only[am,Nat.add_zero]at hlim;refine cb LHeap.B Tryz.func10 ?_
 intro O r F hO hr hF;cbv
 repeat' first|apply And.intro|(apply bi<;>intro hb<;>cbv)
 all_goals(subst hO hr hF;(try simp only[nc]at*);(try simp only[ai,SS,sa,az]at*))
 all_goals first|trivial|(refine⟨trivial,by assumption,?_⟩;(try simp only[am,Nat.add_zero]);omega)|(refine⟨trivial,by assumption,by assumption,?_⟩;(try simp only[am,Nat.add_zero]);omega)|(refine⟨trivial,by assumption,by assumption,by assumption,by assumption,?_⟩;(try simp only[am,Nat.add_zero]);omega)|trace_state
theorem oe {a0 a1 a2:aa}{a3:Int}{a4 a5 a6 a7 a8 a9 aA aB:aa}{aC:Int}{aD:aa}{aE aF aG aH:Int}{aI:Bool}{aJ aK:Int}{aL:aa}{aM aN k:Int}(hp:Rw [.sl [tI]] a0/\Rw [tB] a1/\Rw [tI,tI] a2/\Rw [tI] a4/\Rw [tI,tI] a5/\Rw [tI,tI,tI] a6/\Rw [tI,tI,tI] a7/\Rw [tI,tI,tI,tI] a8/\Rw [.sl [.sl [tI]]] a9/\Rw [.sl [tI,tI]] aA/\Rw [.sl [tI]] aB/\Rw [tI,tI,tI] aD/\Rw [tI] aL/\am [a0,a1,a2,a4,a5,a6,a7,a8,a9,aA,aB,aD,aL]<=1099511627776/\0<=k/\aX [a0,a1,a2,a4,a5,a6,a7,a8,a9,aA,aB,aD,aL] k<=1152921504606846976):dK 11 [.agg (kH a0 a1 a2 a3 a4 a5 a6 a7 a8 a9 aA aB aC aD aE aF aG aH aI aJ aK aL aM aN),.j k] [.s 1 (bV a0 k),.s 1 (bV a1 (aX [a0] k)),.s 2 (bV a2 (aX [a0,a1] k)),.s 1 (bV a4 (aX [a0,a1,a2] k)),.s 2 (bV a5 (aX [a0,a1,a2,a4] k)),.s 3 (bV a6 (aX [a0,a1,a2,a4,a5] k)),.s 3 (bV a7 (aX [a0,a1,a2,a4,a5,a6] k)),.s 4 (bV a8 (aX [a0,a1,a2,a4,a5,a6,a7] k)),.s 1 (bV a9 (aX [a0,a1,a2,a4,a5,a6,a7,a8] k)),.s 1 (bV aA (aX [a0,a1,a2,a4,a5,a6,a7,a8,a9] k)),.s 1 (bV aB (aX [a0,a1,a2,a4,a5,a6,a7,a8,a9,aA] k)),.s 3 (bV aD (aX [a0,a1,a2,a4,a5,a6,a7,a8,a9,aA,aB] k)),.s 1 (bV aL (aX [a0,a1,a2,a4,a5,a6,a7,a8,a9,aA,aB,aD] k))] [.j (aX [a0,a1,a2,a4,a5,a6,a7,a8,a9,aA,aB,aD,aL] k)]:=by
 obtain⟨w0,w1,w2,w3,w4,w5,w6,w7,w8,w9,w10,w11,w12,hlim,hk0,hkb⟩:=hp;simp only[am,Nat.add_zero]at hlim;have p0:aX [a0] k<=aX [a0,a1,a2,a4,a5,a6,a7,a8,a9,aA,aB,aD,aL] k/\0<=aX [a0] k:=ca (b:=[a1,a2,a4,a5,a6,a7,a8,a9,aA,aB,aD,aL]) hk0;have p1:aX [a0,a1] k<=aX [a0,a1,a2,a4,a5,a6,a7,a8,a9,aA,aB,aD,aL] k/\0<=aX [a0,a1] k:=ca (b:=[a2,a4,a5,a6,a7,a8,a9,aA,aB,aD,aL]) hk0;have p2:aX [a0,a1,a2] k<=aX [a0,a1,a2,a4,a5,a6,a7,a8,a9,aA,aB,aD,aL] k/\0<=aX [a0,a1,a2] k:=ca (b:=[a4,a5,a6,a7,a8,a9,aA,aB,aD,aL]) hk0;have p3:aX [a0,a1,a2,a4] k<=aX [a0,a1,a2,a4,a5,a6,a7,a8,a9,aA,aB,aD,aL] k/\0<=aX [a0,a1,a2,a4] k:=ca (b:=[a5,a6,a7,a8,a9,aA,aB,aD,aL]) hk0;have p4:aX [a0,a1,a2,a4,a5] k<=aX [a0,a1,a2,a4,a5,a6,a7,a8,a9,aA,aB,aD,aL] k/\0<=aX [a0,a1,a2,a4,a5] k:=ca (b:=[a6,a7,a8,a9,aA,aB,aD,aL]) hk0;have p5:aX [a0,a1,a2,a4,a5,a6] k<=aX [a0,a1,a2,a4,a5,a6,a7,a8,a9,aA,aB,aD,aL] k/\0<=aX [a0,a1,a2,a4,a5,a6] k:=ca (b:=[a7,a8,a9,aA,aB,aD,aL]) hk0;have p6:aX [a0,a1,a2,a4,a5,a6,a7] k<=aX [a0,a1,a2,a4,a5,a6,a7,a8,a9,aA,aB,aD,aL] k/\0<=aX [a0,a1,a2,a4,a5,a6,a7] k:=ca (b:=[a8,a9,aA,aB,aD,aL]) hk0;have p7:aX [a0,a1,a2,a4,a5,a6,a7,a8] k<=aX [a0,a1,a2,a4,a5,a6,a7,a8,a9,aA,aB,aD,aL] k/\0<=aX [a0,a1,a2,a4,a5,a6,a7,a8] k:=ca (b:=[a9,aA,aB,aD,aL]) hk0;have p8:aX [a0,a1,a2,a4,a5,a6,a7,a8,a9] k<=aX [a0,a1,a2,a4,a5,a6,a7,a8,a9,aA,aB,aD,aL] k/\0<=aX [a0,a1,a2,a4,a5,a6,a7,a8,a9] k:=ca (b:=[aA,aB,aD,aL]) hk0;have p9:aX [a0,a1,a2,a4,a5,a6,a7,a8,a9,aA] k<=aX [a0,a1,a2,a4,a5,a6,a7,a8,a9,aA,aB,aD,aL] k/\0<=aX [a0,a1,a2,a4,a5,a6,a7,a8,a9,aA] k:=ca (b:=[aB,aD,aL]) hk0;have p10:aX [a0,a1,a2,a4,a5,a6,a7,a8,a9,aA,aB] k<=aX [a0,a1,a2,a4,a5,a6,a7,a8,a9,aA,aB,aD,aL] k/\0<=aX [a0,a1,a2,a4,a5,a6,a7,a8,a9,aA,aB] k:=ca (b:=[aD,aL]) hk0;have p11:aX [a0,a1,a2,a4,a5,a6,a7,a8,a9,aA,aB,aD] k<=aX [a0,a1,a2,a4,a5,a6,a7,a8,a9,aA,aB,aD,aL] k/\0<=aX [a0,a1,a2,a4,a5,a6,a7,a8,a9,aA,aB,aD] k:=ca (b:=[aL]) hk0;have p12:aX [a0,a1,a2,a4,a5,a6,a7,a8,a9,aA,aB,aD,aL] k<=aX [a0,a1,a2,a4,a5,a6,a7,a8,a9,aA,aB,aD,aL] k/\0<=aX [a0,a1,a2,a4,a5,a6,a7,a8,a9,aA,aB,aD,aL] k:=ca (b:=[]) hk0;refine mb MHeap.B [(2,0),(2,1),(2,2),(2,4),(2,5),(2,6),(2,7),(2,8),(2,9),(2,10),(2,11),(2,13),(2,21)] Tryz.func11 ?_
 intro O r os F hO hr hos hF;cbv
 repeat' first|apply And.intro|(apply bi<;>intro hb<;>cbv)
 all_goals((try subst hos);subst hO hr hF;(try simp only[nc]at*);(try simp only[ai,SS,sa,az]at*);(try simp only[jc,List.cons_append,List.nil_append,eC]at*))
 all_goals first|trivial|(refine⟨by assumption,?_,?_,?_⟩<;>(try simp only[jc,List.cons_append,List.nil_append,am,Nat.add_zero])<;>omega)|(refine⟨by assumption,by assumption,?_,?_,?_⟩<;>(try simp only[jc,List.cons_append,List.nil_append,am,Nat.add_zero])<;>omega)|trace_state
end Go.V