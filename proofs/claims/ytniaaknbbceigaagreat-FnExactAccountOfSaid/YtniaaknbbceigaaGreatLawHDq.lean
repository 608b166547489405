/- Contracts. -/
import Derived.Test.YtniaaknbbceigaaGreatLawHBq
import Derived.Test.YtniaaknbbceigaaGreatLawHCq
set_option linter.all false
namespace Go.V
open Go Go.Proofs
set_option maxRecDepth 1000000
set_option maxHeartbeats 8000000
namespace LHeap
structure av where
 szN:List aa->Int->Int
abbrev F0 :av:=⟨bi⟩
def ct (F:av):CT:=fun f ds=>match f,ds with
 |35,[.agg [.s 1 a0,.s 1 a1,.s 2 a2,.v (.int .i64 a3),.s 1 a4],.one (.v (.int .i64 left))]=>some (fun _=>Rw [.sl [tI]] a0/\Rw [tB] a1/\Rw [tI,tI] a2/\Rw [tI] a4/\0<=left/\left<=1048576,[.j (F.szN [a0,a1,a2,a4] left)])
 |46,[.agg [.s 1 a0,.s 1 a1,.s 2 a2,.v (.int .i64 a3),.s 1 a4]]=>some (fun _=>Rw [.sl [tI]] a0/\Rw [tB] a1/\Rw [tI,tI] a2/\Rw [tI] a4/\ao [a0,a1,a2,a4]<=1048576,[.agg [.s 1 a0,.s 1 a1,.s 2 a2,.i a3,.s 1 a4]])
 |57,[.agg [.s 1 a0,.s 1 a1,.s 2 a2,.v (.int .i64 a3),.s 1 a4],d]=>some (fun _=>d=.agg [.s 1 a0,.s 1 a1,.s 2 a2,.i a3,.s 1 a4]/\Rw [.sl [tI]] a0/\Rw [tB] a1/\Rw [tI,tI] a2/\Rw [tI] a4/\ao [a0,a1,a2,a4]<=1099511627776,[.k true])
 |36,[.one (.s 2 es),.one (.v (.int .i64 left))]=>some (fun _=>Rw [tI,tI] es/\0<=left/\left<=1048576,[.j (F.szN [es] left)])
 |47,[.one (.s 2 es)]=>some (fun _=>Rw [tI,tI] es/\ak es<=1048576,[.one (.s 2 es)])
 |58,[.one (.s 2 es),d]=>some (fun _=>d=.one (.s 2 es)/\Rw [tI,tI] es/\ak es<=1099511627776,[.k true])
 |37,[.one (.s 3 es),.one (.v (.int .i64 left))]=>some (fun _=>Rw [tI,tI,tI] es/\0<=left/\left<=1048576,[.j (F.szN [es] left)])
 |48,[.one (.s 3 es)]=>some (fun _=>Rw [tI,tI,tI] es/\ak es<=1048576,[.one (.s 3 es)])
 |59,[.one (.s 3 es),d]=>some (fun _=>d=.one (.s 3 es)/\Rw [tI,tI,tI] es/\ak es<=1099511627776,[.k true])
 |38,[.one (.s 3 es),.one (.v (.int .i64 left))]=>some (fun _=>Rw [tI,tI,tI] es/\0<=left/\left<=1048576,[.j (F.szN [es] left)])
 |49,[.one (.s 3 es)]=>some (fun _=>Rw [tI,tI,tI] es/\ak es<=1048576,[.one (.s 3 es)])
 |60,[.one (.s 3 es),d]=>some (fun _=>d=.one (.s 3 es)/\Rw [tI,tI,tI] es/\ak es<=1099511627776,[.k true])
 |39,[.one (.s 4 es),.one (.v (.int .i64 left))]=>some (fun _=>Rw [tI,tI,tI,tI] es/\0<=left/\left<=1048576,[.j (F.szN [es] left)])
 |50,[.one (.s 4 es)]=>some (fun _=>Rw [tI,tI,tI,tI] es/\ak es<=1048576,[.one (.s 4 es)])
 |61,[.one (.s 4 es),d]=>some (fun _=>d=.one (.s 4 es)/\Rw [tI,tI,tI,tI] es/\ak es<=1099511627776,[.k true])
 |40,[.one (.s 1 es),.one (.v (.int .i64 left))]=>some (fun _=>Rw [.sl [.sl [tI]]] es/\0<=left/\left<=1048576,[.j (F.szN [es] left)])
 |51,[.one (.s 1 es)]=>some (fun _=>Rw [.sl [.sl [tI]]] es/\ak es<=1048576,[.one (.s 1 es)])
 |62,[.one (.s 1 es),d]=>some (fun _=>d=.one (.s 1 es)/\Rw [.sl [.sl [tI]]] es/\ak es<=1099511627776,[.k true])
 |41,[.agg [.s 1 a0,.s 1 a1],.one (.v (.int .i64 left))]=>some (fun _=>Rw [.sl [tI,tI]] a0/\Rw [.sl [tI]] a1/\0<=left/\left<=1048576,[.j (F.szN [a0,a1] left)])
 |52,[.agg [.s 1 a0,.s 1 a1]]=>some (fun _=>Rw [.sl [tI,tI]] a0/\Rw [.sl [tI]] a1/\ao [a0,a1]<=1048576,[.agg [.s 1 a0,.s 1 a1]])
 |63,[.agg [.s 1 a0,.s 1 a1],d]=>some (fun _=>d=.agg [.s 1 a0,.s 1 a1]/\Rw [.sl [tI,tI]] a0/\Rw [.sl [tI]] a1/\ao [a0,a1]<=1099511627776,[.k true])
 |42,[.agg [.v (.int .i64 a0),.s 3 a1],.one (.v (.int .i64 left))]=>some (fun _=>Rw [tI,tI,tI] a1/\0<=left/\left<=1048576,[.j (F.szN [a1] left)])
 |53,[.agg [.v (.int .i64 a0),.s 3 a1]]=>some (fun _=>Rw [tI,tI,tI] a1/\ao [a1]<=1048576,[.agg [.i a0,.s 3 a1]])
 |64,[.agg [.v (.int .i64 a0),.s 3 a1],d]=>some (fun _=>d=.agg [.i a0,.s 3 a1]/\Rw [tI,tI,tI] a1/\ao [a1]<=1099511627776,[.k true])
 |43,[.agg [.v (.int .i64 a0),.v (.int .i64 a1),.s 1 a2,.v (.int .i64 a3),.v (.int .i64 a4)],.one (.v (.int .i64 left))]=>some (fun _=>Rw [tI] a2/\0<=left/\left<=1048576,[.j (F.szN [a2] left)])
 |54,[.agg [.v (.int .i64 a0),.v (.int .i64 a1),.s 1 a2,.v (.int .i64 a3),.v (.int .i64 a4)]]=>some (fun _=>Rw [tI] a2/\ao [a2]<=1048576,[.agg [.i a0,.i a1,.s 1 a2,.i a3,.i a4]])
 |65,[.agg [.v (.int .i64 a0),.v (.int .i64 a1),.s 1 a2,.v (.int .i64 a3),.v (.int .i64 a4)],d]=>some (fun _=>d=.agg [.i a0,.i a1,.s 1 a2,.i a3,.i a4]/\Rw [tI] a2/\ao [a2]<=1099511627776,[.k true])
 |_,_=>none
theorem ah :aO (ct F0):=by
 intro f ds pre res h hp;unfold ct at h;split at h<;>cases h
 exact qC hp;exact qL hp;exact qi hp;exact qF hp;exact qO hp;exact qm hp;exact sH hp;exact sP hp;exact sx hp;exact qD hp;exact qM hp;exact qj hp;exact u9 hp;exact vf hp;exact uW hp;exact qy hp;exact qI hp;exact qf hp;exact u7 hp;exact ve hp;exact uV hp;exact vd hp;exact vi hp;exact uZ hp;exact wF hp;exact wG hp;exact wD hp
abbrev B :ce:=tb ah
end LHeap
namespace MHeap
structure av where
 kN:List aa->Int->Int
 mkN:aa->Int->aa
abbrev F0 :av:=⟨bc,bV⟩
def mt (F:av):MT:=fun f=>match f with
 | 102=>some fun ds=>match ds with
   |[.agg [.s 1 a0,.s 1 a1,.s 2 a2,.v (.int .i64 a3),.s 1 a4],.one (.v (.int .i64 k))]=>some (fun _=>Rw [.sl [tI]] a0/\Rw [tB] a1/\Rw [tI,tI] a2/\Rw [tI] a4/\ao [a0,a1,a2,a4]<=1099511627776/\0<=k/\bc [a0,a1,a2,a4] k<=1152921504606846976,[.s 1 (F.mkN a0 k),.s 1 (F.mkN a1 (F.kN [a0] k)),.s 2 (F.mkN a2 (F.kN [a0,a1] k)),.s 1 (F.mkN a4 (F.kN [a0,a1,a2] k))],[.j (F.kN [a0,a1,a2,a4] k)])
   |_=>none
 | 103=>some fun ds=>match ds with
   |[.one (.s 2 es),.one (.v (.int .i64 k))]=>some (fun _=>Rw [tI,tI] es/\ak es<=1099511627776/\0<=k/\bc [es] k<=1152921504606846976,[.s 2 (F.mkN es k)],[.j (F.kN [es] k)])
   |_=>none
 | 104=>some fun ds=>match ds with
   |[.one (.s 3 es),.one (.v (.int .i64 k))]=>some (fun _=>Rw [tI,tI,tI] es/\ak es<=1099511627776/\0<=k/\bc [es] k<=1152921504606846976,[.s 3 (F.mkN es k)],[.j (F.kN [es] k)])
   |_=>none
 | 105=>some fun ds=>match ds with
   |[.one (.s 3 es),.one (.v (.int .i64 k))]=>some (fun _=>Rw [tI,tI,tI] es/\ak es<=1099511627776/\0<=k/\bc [es] k<=1152921504606846976,[.s 3 (F.mkN es k)],[.j (F.kN [es] k)])
   |_=>none
 | 106=>some fun ds=>match ds with
   |[.one (.s 4 es),.one (.v (.int .i64 k))]=>some (fun _=>Rw [tI,tI,tI,tI] es/\ak es<=1099511627776/\0<=k/\bc [es] k<=1152921504606846976,[.s 4 (F.mkN es k)],[.j (F.kN [es] k)])
   |_=>none
 | 107=>some fun ds=>match ds with
   |[.one (.s 1 es),.one (.v (.int .i64 k))]=>some (fun _=>Rw [.sl [.sl [tI]]] es/\ak es<=1099511627776/\0<=k/\bc [es] k<=1152921504606846976,[.s 1 (F.mkN es k)],[.j (F.kN [es] k)])
   |_=>none
 | 108=>some fun ds=>match ds with
   |[.agg [.s 1 a0,.s 1 a1],.one (.v (.int .i64 k))]=>some (fun _=>Rw [.sl [tI,tI]] a0/\Rw [.sl [tI]] a1/\ao [a0,a1]<=1099511627776/\0<=k/\bc [a0,a1] k<=1152921504606846976,[.s 1 (F.mkN a0 k),.s 1 (F.mkN a1 (F.kN [a0] k))],[.j (F.kN [a0,a1] k)])
   |_=>none
 | 109=>some fun ds=>match ds with
   |[.agg [.v (.int .i64 a0),.s 3 a1],.one (.v (.int .i64 k))]=>some (fun _=>Rw [tI,tI,tI] a1/\ao [a1]<=1099511627776/\0<=k/\bc [a1] k<=1152921504606846976,[.s 3 (F.mkN a1 k)],[.j (F.kN [a1] k)])
   |_=>none
 | 110=>some fun ds=>match ds with
   |[.agg [.v (.int .i64 a0),.v (.int .i64 a1),.s 1 a2,.v (.int .i64 a3),.v (.int .i64 a4)],.one (.v (.int .i64 k))]=>some (fun _=>Rw [tI] a2/\ao [a2]<=1099511627776/\0<=k/\bc [a2] k<=1152921504606846976,[.s 1 (F.mkN a2 k)],[.j (F.kN [a2] k)])
   |_=>none
 |_=>none
theorem cQ :fQ (mt F0):=by
 intro f mk h ds pre outs res hm hp;unfold mt at h;split at h
 ·cases h;dsimp only at hm;split at hm
  ·cases hm;exact mF hp
  ·cases hm
 ·cases h;dsimp only at hm;split at hm
  ·cases hm;exact mI hp
  ·cases hm
 ·cases h;dsimp only at hm;split at hm
  ·cases hm;exact oe hp
  ·cases hm
 ·cases h;dsimp only at hm;split at hm
  ·cases hm;exact mG hp
  ·cases hm
 ·cases h;dsimp only at hm;split at hm
  ·cases hm;exact qt hp
  ·cases hm
 ·cases h;dsimp only at hm;split at hm
  ·cases hm;exact mC hp
  ·cases hm
 ·cases h;dsimp only at hm;split at hm
  ·cases hm;exact qq hp
  ·cases hm
 ·cases h;dsimp only at hm;split at hm
  ·cases hm;exact qx hp
  ·cases hm
 ·cases h;dsimp only at hm;split at hm
  ·cases hm;exact sD hp
  ·cases hm
 ·cases h
abbrev B :ce:={Φ:=av,F0:=F0,mt:=mt,hm:=cQ}
end MHeap
theorem di {a0 a1 a2:aa}{a3:Int}{a4 a5 a6 a7 a8 a9 aA aB:aa}{aC:Int}{aD:aa}{aE aF aG aH:Int}{aI:Bool}{aJ aK:Int}{aL:aa}{aM aN left:Int}(hp:Rw [.sl [tI]] a0/\Rw [tB] a1/\Rw [tI,tI] a2/\Rw [tI] a4/\Rw [tI,tI] a5/\Rw [tI,tI,tI] a6/\Rw [tI,tI,tI] a7/\Rw [tI,tI,tI,tI] a8/\Rw [.sl [.sl [tI]]] a9/\Rw [.sl [tI,tI]] aA/\Rw [.sl [tI]] aB/\Rw [tI,tI,tI] aD/\Rw [tI] aL/\0<=left/\left<=1048576):ap 10 [.agg (ez a0 a1 a2 a3 a4 a5 a6 a7 a8 a9 aA aB aC aD aE aF aG aH aI aJ aK aL aM aN),.j left] [.j (bi [a0,a1,a2,a4,a5,a6,a7,a8,a9,aA,aB,aD,aL] left)]:=by
 obtain⟨w0,w1,w2,w3,w4,w5,w6,w7,w8,w9,w10,w11,w12,h0,h1⟩:=hp;refine cb LHeap.B Tryz.func10 ?_
 intro O r F hO hr hF;cbv
 repeat' first|apply And.intro|(apply be<;>intro hb<;>cbv)
 all_goals(subst hO hr hF;(try simp only[nc]at*);(try simp only[ai,SS,sa,az]at*))
 all_goals iterate 13 (try simp(disch:=assumption) only[hJ,List.cons_append,List.nil_append]at*)
 all_goals first|trivial|(refine⟨by assumption,by omega,by first|omega|exact Int.le_trans (o8 (by assumption)) h1⟩)|(refine⟨by assumption,by assumption,by omega,by first|omega|exact Int.le_trans (o8 (by assumption)) h1⟩)|(rw[gI (by assumption)])|exact congrArg (fun x=>[DV.one (L.v (Value.int IntKind.i64 x))]) (dP (a:=[a0,a1,a2,a4]) (b:=[a5,a6,a7,a8,a9,aA,aB,aD,aL]) (by assumption)).symm|exact congrArg (fun x=>[DV.one (L.v (Value.int IntKind.i64 x))]) (dP (a:=[a0,a1,a2,a4,a5]) (b:=[a6,a7,a8,a9,aA,aB,aD,aL]) (by assumption)).symm|exact congrArg (fun x=>[DV.one (L.v (Value.int IntKind.i64 x))]) (dP (a:=[a0,a1,a2,a4,a5,a6]) (b:=[a7,a8,a9,aA,aB,aD,aL]) (by assumption)).symm|exact congrArg (fun x=>[DV.one (L.v (Value.int IntKind.i64 x))]) (dP (a:=[a0,a1,a2,a4,a5,a6,a7]) (b:=[a8,a9,aA,aB,aD,aL]) (by assumption)).symm|exact congrArg (fun x=>[DV.one (L.v (Value.int IntKind.i64 x))]) (dP (a:=[a0,a1,a2,a4,a5,a6,a7,a8]) (b:=[a9,aA,aB,aD,aL]) (by assumption)).symm|exact congrArg (fun x=>[DV.one (L.v (Value.int IntKind.i64 x))]) (dP (a:=[a0,a1,a2,a4,a5,a6,a7,a8,a9]) (b:=[aA,aB,aD,aL]) (by assumption)).symm|exact congrArg (fun x=>[DV.one (L.v (Value.int IntKind.i64 x))]) (dP (a:=[a0,a1,a2,a4,a5,a6,a7,a8,a9,aA,aB]) (b:=[aD,aL]) (by assumption)).symm|exact congrArg (fun x=>[DV.one (L.v (Value.int IntKind.i64 x))]) (dP (a:=[a0,a1,a2,a4,a5,a6,a7,a8,a9,aA,aB,aD]) (b:=[aL]) (by assumption)).symm|trace_state
theorem dj {a0 a1 a2:aa}{a3:Int}{a4 a5 a6 a7 a8 a9 aA aB:aa}{aC:Int}{aD:aa}{aE aF aG aH:Int}{aI:Bool}{aJ aK:Int}{aL:aa}{aM aN:Int}(hp:Rw [.sl [tI]] a0/\Rw [tB] a1/\Rw [tI,tI] a2/\Rw [tI] a4/\Rw [tI,tI] a5/\Rw [tI,tI,tI] a6/\Rw [tI,tI,tI] a7/\Rw [tI,tI,tI,tI] a8/\Rw [.sl [.sl [tI]]] a9/\Rw [.sl [tI,tI]] aA/\Rw [.sl [tI]] aB/\Rw [tI,tI,tI] aD/\Rw [tI] aL/\ao [a0,a1,a2,a4,a5,a6,a7,a8,a9,aA,aB,aD,aL]<=1048576):ap 12 [.agg (ez a0 a1 a2 a3 a4 a5 a6 a7 a8 a9 aA aB aC aD aE aF aG aH aI aJ aK aL aM aN)] [.agg (ez a0 a1 a2 a3 a4 a5 a6 a7 a8 a9 aA aB aC aD aE aF aG aH aI aJ aK aL aM aN)]:=by
 obtain⟨w0,w1,w2,w3,w4,w5,w6,w7,w8,w9,w10,w11,w12,hlim⟩:=hp;simp only[ao,Nat.add_zero]at hlim;refine cb LHeap.B Tryz.func12 ?_
 intro O r F hO hr hF;cbv
 repeat' first|apply And.intro|(apply be<;>intro hb<;>cbv)
 all_goals(subst hO hr hF;(try simp only[nc]at*);(try simp only[ai,SS,sa,az]at*))
 all_goals first|trivial|(refine⟨by assumption,?_⟩;(try simp only[ao,Nat.add_zero]);omega)|(refine⟨by assumption,by assumption,?_⟩;(try simp only[ao,Nat.add_zero]);omega)|(refine⟨by assumption,by assumption,by assumption,by assumption,?_⟩;(try simp only[ao,Nat.add_zero]);omega)|trace_state
theorem dh {a0 a1 a2:aa}{a3:Int}{a4 a5 a6 a7 a8 a9 aA aB:aa}{aC:Int}{aD:aa}{aE aF aG aH:Int}{aI:Bool}{aJ aK:Int}{aL:aa}{aM aN:Int}{d:DV}(hp:d=.agg (ez a0 a1 a2 a3 a4 a5 a6 a7 a8 a9 aA aB aC aD aE aF aG aH aI aJ aK aL aM aN)/\Rw [.sl [tI]] a0/\Rw [tB] a1/\Rw [tI,tI] a2/\Rw [tI] a4/\Rw [tI,tI] a5/\Rw [tI,tI,tI] a6/\Rw [tI,tI,tI] a7/\Rw [tI,tI,tI,tI] a8/\Rw [.sl [.sl [tI]]] a9/\Rw [.sl [tI,tI]] aA/\Rw [.sl [tI]] aB/\Rw [tI,tI,tI] aD/\Rw [tI] aL/\ao [a0,a1,a2,a4,a5,a6,a7,a8,a9,aA,aB,aD,aL]<=1099511627776):ap 14 [.agg (ez a0 a1 a2 a3 a4 a5 a6 a7 a8 a9 aA aB aC aD aE aF aG aH aI aJ aK aL aM aN),d] [.k true]:=by
 obtain⟨rfl,w0,w1,w2,w3,w4,w5,w6,w7,w8,w9,w10,w11,w12,hlim⟩:=hp;simp only[ao,Nat.add_zero]at hlim;refine cb LHeap.B Tryz.func14 ?_
 intro O r F hO hr hF;cbv
 repeat' first|apply And.intro|(apply be<;>intro hb<;>cbv)
 all_goals(subst hO hr hF;(try simp only[nc]at*);(try simp only[ai,SS,sa,az]at*))
 all_goals first|trivial|(refine⟨trivial,by assumption,?_⟩;(try simp only[ao,Nat.add_zero]);omega)|(refine⟨trivial,by assumption,by assumption,?_⟩;(try simp only[ao,Nat.add_zero]);omega)|(refine⟨trivial,by assumption,by assumption,by assumption,by assumption,?_⟩;(try simp only[ao,Nat.add_zero]);omega)|trace_state
theorem qp {a0 a1 a2:aa}{a3:Int}{a4 a5 a6 a7 a8 a9 aA aB:aa}{aC:Int}{aD:aa}{aE aF aG aH:Int}{aI:Bool}{aJ aK:Int}{aL:aa}{aM aN k:Int}(hp:Rw [.sl [tI]] a0/\Rw [tB] a1/\Rw [tI,tI] a2/\Rw [tI] a4/\Rw [tI,tI] a5/\Rw [tI,tI,tI] a6/\Rw [tI,tI,tI] a7/\Rw [tI,tI,tI,tI] a8/\Rw [.sl [.sl [tI]]] a9/\Rw [.sl [tI,tI]] aA/\Rw [.sl [tI]] aB/\Rw [tI,tI,tI] aD/\Rw [tI] aL/\ao [a0,a1,a2,a4,a5,a6,a7,a8,a9,aA,aB,aD,aL]<=1099511627776/\0<=k/\bc [a0,a1,a2,a4,a5,a6,a7,a8,a9,aA,aB,aD,aL] k<=1152921504606846976):d5 32 [.agg (ez a0 a1 a2 a3 a4 a5 a6 a7 a8 a9 aA aB aC aD aE aF aG aH aI aJ aK aL aM aN),.j k] [.s 1 (bV a0 k),.s 1 (bV a1 (bc [a0] k)),.s 2 (bV a2 (bc [a0,a1] k)),.s 1 (bV a4 (bc [a0,a1,a2] k)),.s 2 (bV a5 (bc [a0,a1,a2,a4] k)),.s 3 (bV a6 (bc [a0,a1,a2,a4,a5] k)),.s 3 (bV a7 (bc [a0,a1,a2,a4,a5,a6] k)),.s 4 (bV a8 (bc [a0,a1,a2,a4,a5,a6,a7] k)),.s 1 (bV a9 (bc [a0,a1,a2,a4,a5,a6,a7,a8] k)),.s 1 (bV aA (bc [a0,a1,a2,a4,a5,a6,a7,a8,a9] k)),.s 1 (bV aB (bc [a0,a1,a2,a4,a5,a6,a7,a8,a9,aA] k)),.s 3 (bV aD (bc [a0,a1,a2,a4,a5,a6,a7,a8,a9,aA,aB] k)),.s 1 (bV aL (bc [a0,a1,a2,a4,a5,a6,a7,a8,a9,aA,aB,aD] k))] [.j (bc [a0,a1,a2,a4,a5,a6,a7,a8,a9,aA,aB,aD,aL] k)]:=by
 obtain⟨w0,w1,w2,w3,w4,w5,w6,w7,w8,w9,w10,w11,w12,hlim,hk0,hkb⟩:=hp;simp only[ao,Nat.add_zero]at hlim;have p0:bc [a0] k<=bc [a0,a1,a2,a4,a5,a6,a7,a8,a9,aA,aB,aD,aL] k/\0<=bc [a0] k:=cn (b:=[a1,a2,a4,a5,a6,a7,a8,a9,aA,aB,aD,aL]) hk0;have p1:bc [a0,a1] k<=bc [a0,a1,a2,a4,a5,a6,a7,a8,a9,aA,aB,aD,aL] k/\0<=bc [a0,a1] k:=cn (b:=[a2,a4,a5,a6,a7,a8,a9,aA,aB,aD,aL]) hk0;have p2:bc [a0,a1,a2] k<=bc [a0,a1,a2,a4,a5,a6,a7,a8,a9,aA,aB,aD,aL] k/\0<=bc [a0,a1,a2] k:=cn (b:=[a4,a5,a6,a7,a8,a9,aA,aB,aD,aL]) hk0;have p3:bc [a0,a1,a2,a4] k<=bc [a0,a1,a2,a4,a5,a6,a7,a8,a9,aA,aB,aD,aL] k/\0<=bc [a0,a1,a2,a4] k:=cn (b:=[a5,a6,a7,a8,a9,aA,aB,aD,aL]) hk0;have p4:bc [a0,a1,a2,a4,a5] k<=bc [a0,a1,a2,a4,a5,a6,a7,a8,a9,aA,aB,aD,aL] k/\0<=bc [a0,a1,a2,a4,a5] k:=cn (b:=[a6,a7,a8,a9,aA,aB,aD,aL]) hk0;have p5:bc [a0,a1,a2,a4,a5,a6] k<=bc [a0,a1,a2,a4,a5,a6,a7,a8,a9,aA,aB,aD,aL] k/\0<=bc [a0,a1,a2,a4,a5,a6] k:=cn (b:=[a7,a8,a9,aA,aB,aD,aL]) hk0;have p6:bc [a0,a1,a2,a4,a5,a6,a7] k<=bc [a0,a1,a2,a4,a5,a6,a7,a8,a9,aA,aB,aD,aL] k/\0<=bc [a0,a1,a2,a4,a5,a6,a7] k:=cn (b:=[a8,a9,aA,aB,aD,aL]) hk0;have p7:bc [a0,a1,a2,a4,a5,a6,a7,a8] k<=bc [a0,a1,a2,a4,a5,a6,a7,a8,a9,aA,aB,aD,aL] k/\0<=bc [a0,a1,a2,a4,a5,a6,a7,a8] k:=cn (b:=[a9,aA,aB,aD,aL]) hk0;have p8:bc [a0,a1,a2,a4,a5,a6,a7,a8,a9] k<=bc [a0,a1,a2,a4,a5,a6,a7,a8,a9,aA,aB,aD,aL] k/\0<=bc [a0,a1,a2,a4,a5,a6,a7,a8,a9] k:=cn (b:=[aA,aB,aD,aL]) hk0;have p9:bc [a0,a1,a2,a4,a5,a6,a7,a8,a9,aA] k<=bc [a0,a1,a2,a4,a5,a6,a7,a8,a9,aA,aB,aD,aL] k/\0<=bc [a0,a1,a2,a4,a5,a6,a7,a8,a9,aA] k:=cn (b:=[aB,aD,aL]) hk0;have p10:bc [a0,a1,a2,a4,a5,a6,a7,a8,a9,aA,aB] k<=bc [a0,a1,a2,a4,a5,a6,a7,a8,a9,aA,aB,aD,aL] k/\0<=bc [a0,a1,a2,a4,a5,a6,a7,a8,a9,aA,aB] k:=cn (b:=[aD,aL]) hk0;have p11:bc [a0,a1,a2,a4,a5,a6,a7,a8,a9,aA,aB,aD] k<=bc [a0,a1,a2,a4,a5,a6,a7,a8,a9,aA,aB,aD,aL] k/\0<=bc [a0,a1,a2,a4,a5,a6,a7,a8,a9,aA,aB,aD] k:=cn (b:=[aL]) hk0;have p12:bc [a0,a1,a2,a4,a5,a6,a7,a8,a9,aA,aB,aD,aL] k<=bc [a0,a1,a2,a4,a5,a6,a7,a8,a9,aA,aB,aD,aL] k/\0<=bc [a0,a1,a2,a4,a5,a6,a7,a8,a9,aA,aB,aD,aL] k:=cn (b:=[]) hk0;refine mb MHeap.B [(2,0),(2,1),(2,2),(2,4),(2,5),(2,6),(2,7),(2,8),(2,9),(2,10),(2,11),(2,13),(2,21)] Tryz.func32 ?_
 intro O r os F hO hr hos hF;cbv
 repeat' first|apply And.intro|(apply be<;>intro hb<;>cbv)
 all_goals((try subst hos);subst hO hr hF;(try simp only[nc]at*);(try simp only[ai,SS,sa,az]at*);(try simp only[kv,List.cons_append,List.nil_append,ff]at*))
 all_goals first|trivial|(refine⟨by assumption,?_,?_,?_⟩<;>(try simp only[kv,List.cons_append,List.nil_append,ao,Nat.add_zero])<;>omega)|(refine⟨by assumption,by assumption,?_,?_,?_⟩<;>(try simp only[kv,List.cons_append,List.nil_append,ao,Nat.add_zero])<;>omega)|trace_state
end Go.V