/-
  Contracts, by evaluation.
-/
import Derived.Test.YtniaaknbbceigaaGreatS10
import Derived.Test.YtniaaknbbceigaaGreatLawHAq
import Derived.Test.YtniaaknbbceigaaGreatLawHBq
import Derived.Test.YtniaaknbbceigaaGreatLawHCq
import Derived.Test.YtniaaknbbceigaaGreatVE
set_option linter.all false
namespace Go.V
open Go Go.Proofs
set_option maxRecDepth 1000000
set_option maxHeartbeats 8000000
namespace LHeap
structure Fns where
 szN:List (List (List L))->Int->Int
def F0 :Fns:=⟨aZ⟩
def ct (F:Fns):CT:=fun f ds=>match f,ds with
 |35,[.agg [.s 1 a0,.s 1 a1,.s 2 a2,.v (.int .i64 a3),.s 1 a4],.one (.v (.int .i64 left))]=>some (fun _=>Rw [.sl [tI]] a0/\Rw [tB] a1/\Rw [tI,tI] a2/\Rw [tI] a4/\0<=left/\left<=1048576,[.one (.v (.int .i64 (F.szN [a0,a1,a2,a4] left)))])
 |46,[.agg [.s 1 a0,.s 1 a1,.s 2 a2,.v (.int .i64 a3),.s 1 a4]]=>some (fun _=>Rw [.sl [tI]] a0/\Rw [tB] a1/\Rw [tI,tI] a2/\Rw [tI] a4/\ao [a0,a1,a2,a4]<=1048576,[.agg [.s 1 a0,.s 1 a1,.s 2 a2,.v (.int .i64 a3),.s 1 a4]])
 |57,[.agg [.s 1 a0,.s 1 a1,.s 2 a2,.v (.int .i64 a3),.s 1 a4],d]=>some (fun _=>d=.agg [.s 1 a0,.s 1 a1,.s 2 a2,.v (.int .i64 a3),.s 1 a4]/\Rw [.sl [tI]] a0/\Rw [tB] a1/\Rw [tI,tI] a2/\Rw [tI] a4/\ao [a0,a1,a2,a4]<=1099511627776,[.one (.v (.bool true))])
 |36,[.one (.s 2 es),.one (.v (.int .i64 left))]=>some (fun _=>Rw [tI,tI] es/\0<=left/\left<=1048576,[.one (.v (.int .i64 (F.szN [es] left)))])
 |47,[.one (.s 2 es)]=>some (fun _=>Rw [tI,tI] es/\aj es<=1048576,[.one (.s 2 es)])
 |58,[.one (.s 2 es),d]=>some (fun _=>d=.one (.s 2 es)/\Rw [tI,tI] es/\aj es<=1099511627776,[.one (.v (.bool true))])
 |37,[.one (.s 3 es),.one (.v (.int .i64 left))]=>some (fun _=>Rw [tI,tI,tI] es/\0<=left/\left<=1048576,[.one (.v (.int .i64 (F.szN [es] left)))])
 |48,[.one (.s 3 es)]=>some (fun _=>Rw [tI,tI,tI] es/\aj es<=1048576,[.one (.s 3 es)])
 |59,[.one (.s 3 es),d]=>some (fun _=>d=.one (.s 3 es)/\Rw [tI,tI,tI] es/\aj es<=1099511627776,[.one (.v (.bool true))])
 |38,[.one (.s 3 es),.one (.v (.int .i64 left))]=>some (fun _=>Rw [tI,tI,tI] es/\0<=left/\left<=1048576,[.one (.v (.int .i64 (F.szN [es] left)))])
 |49,[.one (.s 3 es)]=>some (fun _=>Rw [tI,tI,tI] es/\aj es<=1048576,[.one (.s 3 es)])
 |60,[.one (.s 3 es),d]=>some (fun _=>d=.one (.s 3 es)/\Rw [tI,tI,tI] es/\aj es<=1099511627776,[.one (.v (.bool true))])
 |39,[.one (.s 4 es),.one (.v (.int .i64 left))]=>some (fun _=>Rw [tI,tI,tI,tI] es/\0<=left/\left<=1048576,[.one (.v (.int .i64 (F.szN [es] left)))])
 |50,[.one (.s 4 es)]=>some (fun _=>Rw [tI,tI,tI,tI] es/\aj es<=1048576,[.one (.s 4 es)])
 |61,[.one (.s 4 es),d]=>some (fun _=>d=.one (.s 4 es)/\Rw [tI,tI,tI,tI] es/\aj es<=1099511627776,[.one (.v (.bool true))])
 |40,[.one (.s 1 es),.one (.v (.int .i64 left))]=>some (fun _=>Rw [.sl [.sl [tI]]] es/\0<=left/\left<=1048576,[.one (.v (.int .i64 (F.szN [es] left)))])
 |51,[.one (.s 1 es)]=>some (fun _=>Rw [.sl [.sl [tI]]] es/\aj es<=1048576,[.one (.s 1 es)])
 |62,[.one (.s 1 es),d]=>some (fun _=>d=.one (.s 1 es)/\Rw [.sl [.sl [tI]]] es/\aj es<=1099511627776,[.one (.v (.bool true))])
 |41,[.agg [.s 1 a0,.s 1 a1],.one (.v (.int .i64 left))]=>some (fun _=>Rw [.sl [tI,tI]] a0/\Rw [.sl [tI]] a1/\0<=left/\left<=1048576,[.one (.v (.int .i64 (F.szN [a0,a1] left)))])
 |52,[.agg [.s 1 a0,.s 1 a1]]=>some (fun _=>Rw [.sl [tI,tI]] a0/\Rw [.sl [tI]] a1/\ao [a0,a1]<=1048576,[.agg [.s 1 a0,.s 1 a1]])
 |63,[.agg [.s 1 a0,.s 1 a1],d]=>some (fun _=>d=.agg [.s 1 a0,.s 1 a1]/\Rw [.sl [tI,tI]] a0/\Rw [.sl [tI]] a1/\ao [a0,a1]<=1099511627776,[.one (.v (.bool true))])
 |42,[.agg [.v (.int .i64 a0),.s 3 a1],.one (.v (.int .i64 left))]=>some (fun _=>Rw [tI,tI,tI] a1/\0<=left/\left<=1048576,[.one (.v (.int .i64 (F.szN [a1] left)))])
 |53,[.agg [.v (.int .i64 a0),.s 3 a1]]=>some (fun _=>Rw [tI,tI,tI] a1/\ao [a1]<=1048576,[.agg [.v (.int .i64 a0),.s 3 a1]])
 |64,[.agg [.v (.int .i64 a0),.s 3 a1],d]=>some (fun _=>d=.agg [.v (.int .i64 a0),.s 3 a1]/\Rw [tI,tI,tI] a1/\ao [a1]<=1099511627776,[.one (.v (.bool true))])
 |43,[.agg [.v (.int .i64 a0),.v (.int .i64 a1),.s 1 a2,.v (.int .i64 a3),.v (.int .i64 a4)],.one (.v (.int .i64 left))]=>some (fun _=>Rw [tI] a2/\0<=left/\left<=1048576,[.one (.v (.int .i64 (F.szN [a2] left)))])
 |54,[.agg [.v (.int .i64 a0),.v (.int .i64 a1),.s 1 a2,.v (.int .i64 a3),.v (.int .i64 a4)]]=>some (fun _=>Rw [tI] a2/\ao [a2]<=1048576,[.agg [.v (.int .i64 a0),.v (.int .i64 a1),.s 1 a2,.v (.int .i64 a3),.v (.int .i64 a4)]])
 |65,[.agg [.v (.int .i64 a0),.v (.int .i64 a1),.s 1 a2,.v (.int .i64 a3),.v (.int .i64 a4)],d]=>some (fun _=>d=.agg [.v (.int .i64 a0),.v (.int .i64 a1),.s 1 a2,.v (.int .i64 a3),.v (.int .i64 a4)]/\Rw [tI] a2/\ao [a2]<=1099511627776,[.one (.v (.bool true))])
 |_,_=>none
theorem ak :aW Tryz.prog (ct F0):=by
 intro f ds pre res h hp;unfold ct at h;split at h<;>(try split at h)<;>cases h
 exact pW _ _ _ _ _ _ hp;exact qg _ _ _ _ _ hp;exact pI _ _ _ _ _ _ hp;exact pZ _ _ hp;exact qj _ hp;exact pL _ _ hp;exact rP _ _ hp;exact rX _ hp;exact rI _ _ hp;exact pX _ _ hp;exact qh _ hp;exact pJ _ _ hp;exact uq _ _ hp;exact uw _ hp;exact ui _ _ hp;exact pT _ _ hp;exact qd _ hp;exact pF _ _ hp;exact uo _ _ _ hp;exact uv _ _ hp;exact uh _ _ _ hp;exact uu _ _ _ hp;exact uz _ _ hp;exact ul _ _ _ hp;exact vQ _ _ _ _ _ _ hp;exact vR _ _ _ _ _ hp;exact vO _ _ _ _ _ _ hp
def B :TB Tryz.prog:=tb ak
end LHeap
namespace MHeap
structure Fns where
 kN:List (List (List L))->Int->Int
 mkN:List (List L)->Int->List (List L)
def F0 :Fns:=⟨aS,bN⟩
def mt (F:Fns):MT:=fun f=>match f with
 | 102=>some fun ds=>match ds with
   |[.agg [.s 1 a0,.s 1 a1,.s 2 a2,.v (.int .i64 a3),.s 1 a4],.one (.v (.int .i64 k))]=>some (fun _=>Rw [.sl [tI]] a0/\Rw [tB] a1/\Rw [tI,tI] a2/\Rw [tI] a4/\ao [a0,a1,a2,a4]<=1099511627776/\0<=k/\aS [a0,a1,a2,a4] k<=1152921504606846976,[.s 1 (F.mkN a0 k),.s 1 (F.mkN a1 (F.kN [a0] k)),.s 2 (F.mkN a2 (F.kN [a0,a1] k)),.s 1 (F.mkN a4 (F.kN [a0,a1,a2] k))],[.one (.v (.int .i64 (F.kN [a0,a1,a2,a4] k)))])
   |_=>none
 | 103=>some fun ds=>match ds with
   |[.one (.s 2 es),.one (.v (.int .i64 k))]=>some (fun _=>Rw [tI,tI] es/\aj es<=1099511627776/\0<=k/\aS [es] k<=1152921504606846976,[.s 2 (F.mkN es k)],[.one (.v (.int .i64 (F.kN [es] k)))])
   |_=>none
 | 104=>some fun ds=>match ds with
   |[.one (.s 3 es),.one (.v (.int .i64 k))]=>some (fun _=>Rw [tI,tI,tI] es/\aj es<=1099511627776/\0<=k/\aS [es] k<=1152921504606846976,[.s 3 (F.mkN es k)],[.one (.v (.int .i64 (F.kN [es] k)))])
   |_=>none
 | 105=>some fun ds=>match ds with
   |[.one (.s 3 es),.one (.v (.int .i64 k))]=>some (fun _=>Rw [tI,tI,tI] es/\aj es<=1099511627776/\0<=k/\aS [es] k<=1152921504606846976,[.s 3 (F.mkN es k)],[.one (.v (.int .i64 (F.kN [es] k)))])
   |_=>none
 | 106=>some fun ds=>match ds with
   |[.one (.s 4 es),.one (.v (.int .i64 k))]=>some (fun _=>Rw [tI,tI,tI,tI] es/\aj es<=1099511627776/\0<=k/\aS [es] k<=1152921504606846976,[.s 4 (F.mkN es k)],[.one (.v (.int .i64 (F.kN [es] k)))])
   |_=>none
 | 107=>some fun ds=>match ds with
   |[.one (.s 1 es),.one (.v (.int .i64 k))]=>some (fun _=>Rw [.sl [.sl [tI]]] es/\aj es<=1099511627776/\0<=k/\aS [es] k<=1152921504606846976,[.s 1 (F.mkN es k)],[.one (.v (.int .i64 (F.kN [es] k)))])
   |_=>none
 | 108=>some fun ds=>match ds with
   |[.agg [.s 1 a0,.s 1 a1],.one (.v (.int .i64 k))]=>some (fun _=>Rw [.sl [tI,tI]] a0/\Rw [.sl [tI]] a1/\ao [a0,a1]<=1099511627776/\0<=k/\aS [a0,a1] k<=1152921504606846976,[.s 1 (F.mkN a0 k),.s 1 (F.mkN a1 (F.kN [a0] k))],[.one (.v (.int .i64 (F.kN [a0,a1] k)))])
   |_=>none
 | 109=>some fun ds=>match ds with
   |[.agg [.v (.int .i64 a0),.s 3 a1],.one (.v (.int .i64 k))]=>some (fun _=>Rw [tI,tI,tI] a1/\ao [a1]<=1099511627776/\0<=k/\aS [a1] k<=1152921504606846976,[.s 3 (F.mkN a1 k)],[.one (.v (.int .i64 (F.kN [a1] k)))])
   |_=>none
 | 110=>some fun ds=>match ds with
   |[.agg [.v (.int .i64 a0),.v (.int .i64 a1),.s 1 a2,.v (.int .i64 a3),.v (.int .i64 a4)],.one (.v (.int .i64 k))]=>some (fun _=>Rw [tI] a2/\ao [a2]<=1099511627776/\0<=k/\aS [a2] k<=1152921504606846976,[.s 1 (F.mkN a2 k)],[.one (.v (.int .i64 (F.kN [a2] k)))])
   |_=>none
 |_=>none
theorem cL :ga Tryz.prog (mt F0):=by
 intro f mk h ds pre outs res hm hp;unfold mt at h;split at h
 ·cases h;dsimp only at hm;split at hm
  ·cases hm;exact ma _ _ _ _ _ _ hp
  ·cases hm
 ·cases h;dsimp only at hm;split at hm
  ·cases hm;exact mg _ _ hp
  ·cases hm
 ·cases h;dsimp only at hm;split at hm
  ·cases hm;exact nH _ _ hp
  ·cases hm
 ·cases h;dsimp only at hm;split at hm
  ·cases hm;exact md _ _ hp
  ·cases hm
 ·cases h;dsimp only at hm;split at hm
  ·cases hm;exact pQ _ _ hp
  ·cases hm
 ·cases h;dsimp only at hm;split at hm
  ·cases hm;exact l7 _ _ hp
  ·cases hm
 ·cases h;dsimp only at hm;split at hm
  ·cases hm;exact pP _ _ _ hp
  ·cases hm
 ·cases h;dsimp only at hm;split at hm
  ·cases hm;exact pS _ _ _ hp
  ·cases hm
 ·cases h;dsimp only at hm;split at hm
  ·cases hm;exact rL _ _ _ _ _ _ hp
  ·cases hm
 ·cases h
def B :TB Tryz.prog:={Φ:=Fns,F0:=F0,mt:=mt,hm:=cL}
end MHeap
theorem fh (a0 a1 a2:List (List L))(a3:Int)(a4 a5 a6 a7 a8 a9 a10 a11:List (List L))(a12:Int)(a13:List (List L))(a14 a15 a16 a17:Int)(a18:Bool)(a19 a20:Int)(a21:List (List L))(a22 a23 left:Int)(hp:Rw [.sl [tI]] a0/\Rw [tB] a1/\Rw [tI,tI] a2/\Rw [tI] a4/\Rw [tI,tI] a5/\Rw [tI,tI,tI] a6/\Rw [tI,tI,tI] a7/\Rw [tI,tI,tI,tI] a8/\Rw [.sl [.sl [tI]]] a9/\Rw [.sl [tI,tI]] a10/\Rw [.sl [tI]] a11/\Rw [tI,tI,tI] a13/\Rw [tI] a21/\0<=left/\left<=1048576):aP Tryz.prog 10 [.agg [.s 1 a0,.s 1 a1,.s 2 a2,.v (.int .i64 a3),.s 1 a4,.s 2 a5,.s 3 a6,.s 3 a7,.s 4 a8,.s 1 a9,.s 1 a10,.s 1 a11,.v (.int .i64 a12),.s 3 a13,.v (.int .i64 a14),.v (.int .i64 a15),.v (.int .i64 a16),.v (.int .i64 a17),.v (.bool a18),.v (.int .i64 a19),.v (.int .i64 a20),.s 1 a21,.v (.int .i64 a22),.v (.int .i64 a23)],.one (.v (.int .i64 left))] [.one (.v (.int .i64 (aZ [a0,a1,a2,a4,a5,a6,a7,a8,a9,a10,a11,a13,a21] left)))]:=by
 obtain⟨w0,w1,w2,w3,w4,w5,w6,w7,w8,w9,w10,w11,w12,h0,h1⟩:=hp;refine ai LHeap.B ag mixed 60 _ [3] [.tmp 4] Tryz.func10 rfl rfl rfl rfl rfl ?_;intro O r (F:LHeap.Fns) hO hr (hF:F=LHeap.F0);cbv
 repeat' first|refine And.intro ?_ ?_|(refine aG (fun hb=>?_) (fun hb=>?_)<;>cbv)
 all_goals(subst hO hr hF;(try simp only[af,SS,sa,az]at*);(try simp only[nc]at*);(try simp only[aF]at*))
 all_goals(try simp only[LHeap.F0]at*)
 all_goals iterate 13 (try simp(disch:=assumption) only[eh,List.cons_append,List.nil_append]at*)
 all_goals first|trivial|(refine⟨by assumption,by omega,by first|omega|exact Int.le_trans (lO (by assumption)) h1⟩)|(refine⟨by assumption,by assumption,by omega,by first|omega|exact Int.le_trans (lO (by assumption)) h1⟩)|(rw[dD (by assumption)])|exact congrArg (fun x=>[DV.one (L.v (Value.int IntKind.i64 x))]) (dC (a:=[a0,a1,a2,a4]) (b:=[a5,a6,a7,a8,a9,a10,a11,a13,a21]) (by assumption)).symm|exact congrArg (fun x=>[DV.one (L.v (Value.int IntKind.i64 x))]) (dC (a:=[a0,a1,a2,a4,a5]) (b:=[a6,a7,a8,a9,a10,a11,a13,a21]) (by assumption)).symm|exact congrArg (fun x=>[DV.one (L.v (Value.int IntKind.i64 x))]) (dC (a:=[a0,a1,a2,a4,a5,a6]) (b:=[a7,a8,a9,a10,a11,a13,a21]) (by assumption)).symm|exact congrArg (fun x=>[DV.one (L.v (Value.int IntKind.i64 x))]) (dC (a:=[a0,a1,a2,a4,a5,a6,a7]) (b:=[a8,a9,a10,a11,a13,a21]) (by assumption)).symm|exact congrArg (fun x=>[DV.one (L.v (Value.int IntKind.i64 x))]) (dC (a:=[a0,a1,a2,a4,a5,a6,a7,a8]) (b:=[a9,a10,a11,a13,a21]) (by assumption)).symm|exact congrArg (fun x=>[DV.one (L.v (Value.int IntKind.i64 x))]) (dC (a:=[a0,a1,a2,a4,a5,a6,a7,a8,a9]) (b:=[a10,a11,a13,a21]) (by assumption)).symm|exact congrArg (fun x=>[DV.one (L.v (Value.int IntKind.i64 x))]) (dC (a:=[a0,a1,a2,a4,a5,a6,a7,a8,a9,a10,a11]) (b:=[a13,a21]) (by assumption)).symm|exact congrArg (fun x=>[DV.one (L.v (Value.int IntKind.i64 x))]) (dC (a:=[a0,a1,a2,a4,a5,a6,a7,a8,a9,a10,a11,a13]) (b:=[a21]) (by assumption)).symm|trace_state
theorem fk (a0 a1 a2:List (List L))(a3:Int)(a4 a5 a6 a7 a8 a9 a10 a11:List (List L))(a12:Int)(a13:List (List L))(a14 a15 a16 a17:Int)(a18:Bool)(a19 a20:Int)(a21:List (List L))(a22 a23:Int)(hp:Rw [.sl [tI]] a0/\Rw [tB] a1/\Rw [tI,tI] a2/\Rw [tI] a4/\Rw [tI,tI] a5/\Rw [tI,tI,tI] a6/\Rw [tI,tI,tI] a7/\Rw [tI,tI,tI,tI] a8/\Rw [.sl [.sl [tI]]] a9/\Rw [.sl [tI,tI]] a10/\Rw [.sl [tI]] a11/\Rw [tI,tI,tI] a13/\Rw [tI] a21/\ao [a0,a1,a2,a4,a5,a6,a7,a8,a9,a10,a11,a13,a21]<=1048576):aP Tryz.prog 12 [.agg [.s 1 a0,.s 1 a1,.s 2 a2,.v (.int .i64 a3),.s 1 a4,.s 2 a5,.s 3 a6,.s 3 a7,.s 4 a8,.s 1 a9,.s 1 a10,.s 1 a11,.v (.int .i64 a12),.s 3 a13,.v (.int .i64 a14),.v (.int .i64 a15),.v (.int .i64 a16),.v (.int .i64 a17),.v (.bool a18),.v (.int .i64 a19),.v (.int .i64 a20),.s 1 a21,.v (.int .i64 a22),.v (.int .i64 a23)]] [.agg [.s 1 a0,.s 1 a1,.s 2 a2,.v (.int .i64 a3),.s 1 a4,.s 2 a5,.s 3 a6,.s 3 a7,.s 4 a8,.s 1 a9,.s 1 a10,.s 1 a11,.v (.int .i64 a12),.s 3 a13,.v (.int .i64 a14),.v (.int .i64 a15),.v (.int .i64 a16),.v (.int .i64 a17),.v (.bool a18),.v (.int .i64 a19),.v (.int .i64 a20),.s 1 a21,.v (.int .i64 a22),.v (.int .i64 a23)]]:=by
 obtain⟨w0,w1,w2,w3,w4,w5,w6,w7,w8,w9,w10,w11,w12,hlim⟩:=hp;simp only[ao,Nat.add_zero]at hlim;refine ai LHeap.B ag mixed 56 _ [76] [.cell 2 76] Tryz.func12 rfl rfl rfl rfl rfl ?_;intro O r (F:LHeap.Fns) hO hr (hF:F=LHeap.F0);cbv
 repeat' first|refine And.intro ?_ ?_|(refine aG (fun hb=>?_) (fun hb=>?_)<;>cbv)
 all_goals(subst hO hr hF;(try simp only[af,SS,sa,az]at*);(try simp only[nc]at*);(try simp only[aF]at*))
 all_goals(try simp only[LHeap.F0]at*)
 all_goals first|trivial|(refine⟨by assumption,?_⟩;(try simp only[ao,Nat.add_zero]);omega)|(refine⟨by assumption,by assumption,?_⟩;(try simp only[ao,Nat.add_zero]);omega)|(refine⟨by assumption,by assumption,by assumption,by assumption,?_⟩;(try simp only[ao,Nat.add_zero]);omega)|trace_state
theorem fg (a0 a1 a2:List (List L))(a3:Int)(a4 a5 a6 a7 a8 a9 a10 a11:List (List L))(a12:Int)(a13:List (List L))(a14 a15 a16 a17:Int)(a18:Bool)(a19 a20:Int)(a21:List (List L))(a22 a23:Int)(d:DV)(hp:d=.agg [.s 1 a0,.s 1 a1,.s 2 a2,.v (.int .i64 a3),.s 1 a4,.s 2 a5,.s 3 a6,.s 3 a7,.s 4 a8,.s 1 a9,.s 1 a10,.s 1 a11,.v (.int .i64 a12),.s 3 a13,.v (.int .i64 a14),.v (.int .i64 a15),.v (.int .i64 a16),.v (.int .i64 a17),.v (.bool a18),.v (.int .i64 a19),.v (.int .i64 a20),.s 1 a21,.v (.int .i64 a22),.v (.int .i64 a23)]/\Rw [.sl [tI]] a0/\Rw [tB] a1/\Rw [tI,tI] a2/\Rw [tI] a4/\Rw [tI,tI] a5/\Rw [tI,tI,tI] a6/\Rw [tI,tI,tI] a7/\Rw [tI,tI,tI,tI] a8/\Rw [.sl [.sl [tI]]] a9/\Rw [.sl [tI,tI]] a10/\Rw [.sl [tI]] a11/\Rw [tI,tI,tI] a13/\Rw [tI] a21/\ao [a0,a1,a2,a4,a5,a6,a7,a8,a9,a10,a11,a13,a21]<=1099511627776):aP Tryz.prog 14 [.agg [.s 1 a0,.s 1 a1,.s 2 a2,.v (.int .i64 a3),.s 1 a4,.s 2 a5,.s 3 a6,.s 3 a7,.s 4 a8,.s 1 a9,.s 1 a10,.s 1 a11,.v (.int .i64 a12),.s 3 a13,.v (.int .i64 a14),.v (.int .i64 a15),.v (.int .i64 a16),.v (.int .i64 a17),.v (.bool a18),.v (.int .i64 a19),.v (.int .i64 a20),.s 1 a21,.v (.int .i64 a22),.v (.int .i64 a23)],d] [.one (.v (.bool true))]:=by
 obtain⟨rfl,w0,w1,w2,w3,w4,w5,w6,w7,w8,w9,w10,w11,w12,hlim⟩:=hp;simp only[ao,Nat.add_zero]at hlim;refine ai LHeap.B ag mixed 84 _ [4] [.tmp 4] Tryz.func14 rfl rfl rfl rfl rfl ?_;intro O r (F:LHeap.Fns) hO hr (hF:F=LHeap.F0);cbv
 repeat' first|refine And.intro ?_ ?_|(refine aG (fun hb=>?_) (fun hb=>?_)<;>cbv)
 all_goals(subst hO hr hF;(try simp only[af,SS,sa,az]at*);(try simp only[nc]at*);(try simp only[aF]at*))
 all_goals(try simp only[LHeap.F0]at*)
 all_goals first|trivial|(refine⟨trivial,by assumption,?_⟩;(try simp only[ao,Nat.add_zero]);omega)|(refine⟨trivial,by assumption,by assumption,?_⟩;(try simp only[ao,Nat.add_zero]);omega)|(refine⟨trivial,by assumption,by assumption,by assumption,by assumption,?_⟩;(try simp only[ao,Nat.add_zero]);omega)|trace_state
theorem pO (a0 a1 a2:List (List L))(a3:Int)(a4 a5 a6 a7 a8 a9 a10 a11:List (List L))(a12:Int)(a13:List (List L))(a14 a15 a16 a17:Int)(a18:Bool)(a19 a20:Int)(a21:List (List L))(a22 a23 k:Int)(hp:Rw [.sl [tI]] a0/\Rw [tB] a1/\Rw [tI,tI] a2/\Rw [tI] a4/\Rw [tI,tI] a5/\Rw [tI,tI,tI] a6/\Rw [tI,tI,tI] a7/\Rw [tI,tI,tI,tI] a8/\Rw [.sl [.sl [tI]]] a9/\Rw [.sl [tI,tI]] a10/\Rw [.sl [tI]] a11/\Rw [tI,tI,tI] a13/\Rw [tI] a21/\ao [a0,a1,a2,a4,a5,a6,a7,a8,a9,a10,a11,a13,a21]<=1099511627776/\0<=k/\aS [a0,a1,a2,a4,a5,a6,a7,a8,a9,a10,a11,a13,a21] k<=1152921504606846976):eF Tryz.prog 32 [.agg [.s 1 a0,.s 1 a1,.s 2 a2,.v (.int .i64 a3),.s 1 a4,.s 2 a5,.s 3 a6,.s 3 a7,.s 4 a8,.s 1 a9,.s 1 a10,.s 1 a11,.v (.int .i64 a12),.s 3 a13,.v (.int .i64 a14),.v (.int .i64 a15),.v (.int .i64 a16),.v (.int .i64 a17),.v (.bool a18),.v (.int .i64 a19),.v (.int .i64 a20),.s 1 a21,.v (.int .i64 a22),.v (.int .i64 a23)],.one (.v (.int .i64 k))] [.s 1 (bN a0 k),.s 1 (bN a1 (aS [a0] k)),.s 2 (bN a2 (aS [a0,a1] k)),.s 1 (bN a4 (aS [a0,a1,a2] k)),.s 2 (bN a5 (aS [a0,a1,a2,a4] k)),.s 3 (bN a6 (aS [a0,a1,a2,a4,a5] k)),.s 3 (bN a7 (aS [a0,a1,a2,a4,a5,a6] k)),.s 4 (bN a8 (aS [a0,a1,a2,a4,a5,a6,a7] k)),.s 1 (bN a9 (aS [a0,a1,a2,a4,a5,a6,a7,a8] k)),.s 1 (bN a10 (aS [a0,a1,a2,a4,a5,a6,a7,a8,a9] k)),.s 1 (bN a11 (aS [a0,a1,a2,a4,a5,a6,a7,a8,a9,a10] k)),.s 3 (bN a13 (aS [a0,a1,a2,a4,a5,a6,a7,a8,a9,a10,a11] k)),.s 1 (bN a21 (aS [a0,a1,a2,a4,a5,a6,a7,a8,a9,a10,a11,a13] k))] [.one (.v (.int .i64 (aS [a0,a1,a2,a4,a5,a6,a7,a8,a9,a10,a11,a13,a21] k)))]:=by
 obtain⟨w0,w1,w2,w3,w4,w5,w6,w7,w8,w9,w10,w11,w12,hlim,hk0,hkb⟩:=hp;simp only[ao,Nat.add_zero]at hlim;have p0:aS [a0] k<=aS [a0,a1,a2,a4,a5,a6,a7,a8,a9,a10,a11,a13,a21] k/\0<=aS [a0] k:=ca (b:=[a1,a2,a4,a5,a6,a7,a8,a9,a10,a11,a13,a21]) hk0;have p1:aS [a0,a1] k<=aS [a0,a1,a2,a4,a5,a6,a7,a8,a9,a10,a11,a13,a21] k/\0<=aS [a0,a1] k:=ca (b:=[a2,a4,a5,a6,a7,a8,a9,a10,a11,a13,a21]) hk0;have p2:aS [a0,a1,a2] k<=aS [a0,a1,a2,a4,a5,a6,a7,a8,a9,a10,a11,a13,a21] k/\0<=aS [a0,a1,a2] k:=ca (b:=[a4,a5,a6,a7,a8,a9,a10,a11,a13,a21]) hk0;have p3:aS [a0,a1,a2,a4] k<=aS [a0,a1,a2,a4,a5,a6,a7,a8,a9,a10,a11,a13,a21] k/\0<=aS [a0,a1,a2,a4] k:=ca (b:=[a5,a6,a7,a8,a9,a10,a11,a13,a21]) hk0;have p4:aS [a0,a1,a2,a4,a5] k<=aS [a0,a1,a2,a4,a5,a6,a7,a8,a9,a10,a11,a13,a21] k/\0<=aS [a0,a1,a2,a4,a5] k:=ca (b:=[a6,a7,a8,a9,a10,a11,a13,a21]) hk0;have p5:aS [a0,a1,a2,a4,a5,a6] k<=aS [a0,a1,a2,a4,a5,a6,a7,a8,a9,a10,a11,a13,a21] k/\0<=aS [a0,a1,a2,a4,a5,a6] k:=ca (b:=[a7,a8,a9,a10,a11,a13,a21]) hk0;have p6:aS [a0,a1,a2,a4,a5,a6,a7] k<=aS [a0,a1,a2,a4,a5,a6,a7,a8,a9,a10,a11,a13,a21] k/\0<=aS [a0,a1,a2,a4,a5,a6,a7] k:=ca (b:=[a8,a9,a10,a11,a13,a21]) hk0;have p7:aS [a0,a1,a2,a4,a5,a6,a7,a8] k<=aS [a0,a1,a2,a4,a5,a6,a7,a8,a9,a10,a11,a13,a21] k/\0<=aS [a0,a1,a2,a4,a5,a6,a7,a8] k:=ca (b:=[a9,a10,a11,a13,a21]) hk0;have p8:aS [a0,a1,a2,a4,a5,a6,a7,a8,a9] k<=aS [a0,a1,a2,a4,a5,a6,a7,a8,a9,a10,a11,a13,a21] k/\0<=aS [a0,a1,a2,a4,a5,a6,a7,a8,a9] k:=ca (b:=[a10,a11,a13,a21]) hk0;have p9:aS [a0,a1,a2,a4,a5,a6,a7,a8,a9,a10] k<=aS [a0,a1,a2,a4,a5,a6,a7,a8,a9,a10,a11,a13,a21] k/\0<=aS [a0,a1,a2,a4,a5,a6,a7,a8,a9,a10] k:=ca (b:=[a11,a13,a21]) hk0;have p10:aS [a0,a1,a2,a4,a5,a6,a7,a8,a9,a10,a11] k<=aS [a0,a1,a2,a4,a5,a6,a7,a8,a9,a10,a11,a13,a21] k/\0<=aS [a0,a1,a2,a4,a5,a6,a7,a8,a9,a10,a11] k:=ca (b:=[a13,a21]) hk0;have p11:aS [a0,a1,a2,a4,a5,a6,a7,a8,a9,a10,a11,a13] k<=aS [a0,a1,a2,a4,a5,a6,a7,a8,a9,a10,a11,a13,a21] k/\0<=aS [a0,a1,a2,a4,a5,a6,a7,a8,a9,a10,a11,a13] k:=ca (b:=[a21]) hk0;have p12:aS [a0,a1,a2,a4,a5,a6,a7,a8,a9,a10,a11,a13,a21] k<=aS [a0,a1,a2,a4,a5,a6,a7,a8,a9,a10,a11,a13,a21] k/\0<=aS [a0,a1,a2,a4,a5,a6,a7,a8,a9,a10,a11,a13,a21] k:=ca (b:=[]) hk0;refine dd MHeap.B ag mixed 42 _ [3] [.tmp 4] [(2,0),(2,1),(2,2),(2,4),(2,5),(2,6),(2,7),(2,8),(2,9),(2,10),(2,11),(2,13),(2,21)] Tryz.func32 rfl rfl rfl rfl rfl rfl rfl ?_;intro O r os (F:MHeap.Fns) hO hr hos (hF:F=MHeap.F0);cbv
 repeat' first|refine And.intro ?_ ?_|(refine aG (fun hb=>?_) (fun hb=>?_)<;>cbv)
 all_goals((try subst hos);subst hO hr hF;(try simp only[af,SS,sa,az]at*);(try simp only[nc]at*);(try simp only[aF]at*))
 all_goals(try simp only[MHeap.F0]at*)
 all_goals(try simp only[dO,List.cons_append,List.nil_append,cB]at*)
 all_goals first|trivial|(refine⟨by assumption,?_,?_,?_⟩<;>(try simp only[dO,List.cons_append,List.nil_append,ao,Nat.add_zero])<;>omega)|(refine⟨by assumption,by assumption,?_,?_,?_⟩<;>(try simp only[dO,List.cons_append,List.nil_append,ao,Nat.add_zero])<;>omega)|trace_state
end Go.V