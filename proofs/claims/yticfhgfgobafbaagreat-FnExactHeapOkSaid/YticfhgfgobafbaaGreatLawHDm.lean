/-
  Contracts, by evaluation.
-/import Derived.Test.YticfhgfgobafbaaGreatS9
import Derived.Test.YticfhgfgobafbaaGreatLawHAm
import Derived.Test.YticfhgfgobafbaaGreatLawHBm
import Derived.Test.YticfhgfgobafbaaGreatLawHCm
import Derived.Test.YticfhgfgobafbaaGreatVE
set_option linter.all false
namespace Go.V
open Go Go.Proofs
set_option maxRecDepth 1000000
set_option maxHeartbeats 8000000
namespace LHeap
structure Fns where
 szN : List (List (List L)) -> Int -> Int
def F0 : Fns := ⟨szN0⟩
def ct (F : Fns) : CT := fun f ds => match f with
 | 16 => match ds with
   | [.agg [.s 1 a0, .s 1 a1, .s 2 a2, .v (.int .i64 a3), .s 1 a4], .one (.v (.int .i64 left))] => some (fun _ => Rw [.sl [tI]] a0 /\ Rw [tB] a1 /\ Rw [tI, tI] a2 /\ Rw [tI] a4 /\ 0 <= left /\ left <= 1048576, [.one (.v (.int .i64 (F.szN [a0, a1, a2, a4] left)))])
   | _ => none
 | 28 => match ds with
   | [.agg [.s 1 a0, .s 1 a1, .s 2 a2, .v (.int .i64 a3), .s 1 a4]] => some (fun _ => Rw [.sl [tI]] a0 /\ Rw [tB] a1 /\ Rw [tI, tI] a2 /\ Rw [tI] a4 /\ cntRs [a0, a1, a2, a4] <= 1048576, [.agg [.s 1 a0, .s 1 a1, .s 2 a2, .v (.int .i64 a3), .s 1 a4]])
   | _ => none
 | 45 => match ds with
   | [.agg [.s 1 a0, .s 1 a1, .s 2 a2, .v (.int .i64 a3), .s 1 a4], d] => some (fun _ => d = .agg [.s 1 a0, .s 1 a1, .s 2 a2, .v (.int .i64 a3), .s 1 a4] /\ Rw [.sl [tI]] a0 /\ Rw [tB] a1 /\ Rw [tI, tI] a2 /\ Rw [tI] a4 /\ cntRs [a0, a1, a2, a4] <= 1099511627776, [.one (.v (.bool true))])
   | _ => none
 | 17 => match ds with
   | [.one (.s 2 es), .one (.v (.int .i64 left))] => some (fun _ => Rw [tI, tI] es /\ 0 <= left /\ left <= 1048576, [.one (.v (.int .i64 (F.szN [es] left)))])
   | _ => none
 | 29 => match ds with
   | [.one (.s 2 es)] => some (fun _ => Rw [tI, tI] es /\ cntE es <= 1048576, [.one (.s 2 es)])
   | _ => none
 | 46 => match ds with
   | [.one (.s 2 es), d] => some (fun _ => d = .one (.s 2 es) /\ Rw [tI, tI] es /\ cntE es <= 1099511627776, [.one (.v (.bool true))])
   | _ => none
 | 18 => match ds with
   | [.one (.s 3 es), .one (.v (.int .i64 left))] => some (fun _ => Rw [tI, tI, tI] es /\ 0 <= left /\ left <= 1048576, [.one (.v (.int .i64 (F.szN [es] left)))])
   | _ => none
 | 30 => match ds with
   | [.one (.s 3 es)] => some (fun _ => Rw [tI, tI, tI] es /\ cntE es <= 1048576, [.one (.s 3 es)])
   | _ => none
 | 47 => match ds with
   | [.one (.s 3 es), d] => some (fun _ => d = .one (.s 3 es) /\ Rw [tI, tI, tI] es /\ cntE es <= 1099511627776, [.one (.v (.bool true))])
   | _ => none
 | 19 => match ds with
   | [.one (.s 3 es), .one (.v (.int .i64 left))] => some (fun _ => Rw [tI, tI, tI] es /\ 0 <= left /\ left <= 1048576, [.one (.v (.int .i64 (F.szN [es] left)))])
   | _ => none
 | 31 => match ds with
   | [.one (.s 3 es)] => some (fun _ => Rw [tI, tI, tI] es /\ cntE es <= 1048576, [.one (.s 3 es)])
   | _ => none
 | 48 => match ds with
   | [.one (.s 3 es), d] => some (fun _ => d = .one (.s 3 es) /\ Rw [tI, tI, tI] es /\ cntE es <= 1099511627776, [.one (.v (.bool true))])
   | _ => none
 | 20 => match ds with
   | [.one (.s 4 es), .one (.v (.int .i64 left))] => some (fun _ => Rw [tI, tI, tI, tI] es /\ 0 <= left /\ left <= 1048576, [.one (.v (.int .i64 (F.szN [es] left)))])
   | _ => none
 | 32 => match ds with
   | [.one (.s 4 es)] => some (fun _ => Rw [tI, tI, tI, tI] es /\ cntE es <= 1048576, [.one (.s 4 es)])
   | _ => none
 | 49 => match ds with
   | [.one (.s 4 es), d] => some (fun _ => d = .one (.s 4 es) /\ Rw [tI, tI, tI, tI] es /\ cntE es <= 1099511627776, [.one (.v (.bool true))])
   | _ => none
 | 21 => match ds with
   | [.one (.s 1 es), .one (.v (.int .i64 left))] => some (fun _ => Rw [.sl [.sl [tI]]] es /\ 0 <= left /\ left <= 1048576, [.one (.v (.int .i64 (F.szN [es] left)))])
   | _ => none
 | 33 => match ds with
   | [.one (.s 1 es)] => some (fun _ => Rw [.sl [.sl [tI]]] es /\ cntE es <= 1048576, [.one (.s 1 es)])
   | _ => none
 | 50 => match ds with
   | [.one (.s 1 es), d] => some (fun _ => d = .one (.s 1 es) /\ Rw [.sl [.sl [tI]]] es /\ cntE es <= 1099511627776, [.one (.v (.bool true))])
   | _ => none
 | 22 => match ds with
   | [.agg [.s 1 a0, .s 1 a1], .one (.v (.int .i64 left))] => some (fun _ => Rw [.sl [tI, tI]] a0 /\ Rw [.sl [tI]] a1 /\ 0 <= left /\ left <= 1048576, [.one (.v (.int .i64 (F.szN [a0, a1] left)))])
   | _ => none
 | 34 => match ds with
   | [.agg [.s 1 a0, .s 1 a1]] => some (fun _ => Rw [.sl [tI, tI]] a0 /\ Rw [.sl [tI]] a1 /\ cntRs [a0, a1] <= 1048576, [.agg [.s 1 a0, .s 1 a1]])
   | _ => none
 | 51 => match ds with
   | [.agg [.s 1 a0, .s 1 a1], d] => some (fun _ => d = .agg [.s 1 a0, .s 1 a1] /\ Rw [.sl [tI, tI]] a0 /\ Rw [.sl [tI]] a1 /\ cntRs [a0, a1] <= 1099511627776, [.one (.v (.bool true))])
   | _ => none
 | 23 => match ds with
   | [.agg [.v (.int .i64 a0), .s 3 a1], .one (.v (.int .i64 left))] => some (fun _ => Rw [tI, tI, tI] a1 /\ 0 <= left /\ left <= 1048576, [.one (.v (.int .i64 (F.szN [a1] left)))])
   | _ => none
 | 35 => match ds with
   | [.agg [.v (.int .i64 a0), .s 3 a1]] => some (fun _ => Rw [tI, tI, tI] a1 /\ cntRs [a1] <= 1048576, [.agg [.v (.int .i64 a0), .s 3 a1]])
   | _ => none
 | 52 => match ds with
   | [.agg [.v (.int .i64 a0), .s 3 a1], d] => some (fun _ => d = .agg [.v (.int .i64 a0), .s 3 a1] /\ Rw [tI, tI, tI] a1 /\ cntRs [a1] <= 1099511627776, [.one (.v (.bool true))])
   | _ => none
 | 24 => match ds with
   | [.agg [.v (.int .i64 a0), .v (.int .i64 a1), .s 1 a2, .v (.int .i64 a3), .v (.int .i64 a4)], .one (.v (.int .i64 left))] => some (fun _ => Rw [tI] a2 /\ 0 <= left /\ left <= 1048576, [.one (.v (.int .i64 (F.szN [a2] left)))])
   | _ => none
 | 36 => match ds with
   | [.agg [.v (.int .i64 a0), .v (.int .i64 a1), .s 1 a2, .v (.int .i64 a3), .v (.int .i64 a4)]] => some (fun _ => Rw [tI] a2 /\ cntRs [a2] <= 1048576, [.agg [.v (.int .i64 a0), .v (.int .i64 a1), .s 1 a2, .v (.int .i64 a3), .v (.int .i64 a4)]])
   | _ => none
 | 53 => match ds with
   | [.agg [.v (.int .i64 a0), .v (.int .i64 a1), .s 1 a2, .v (.int .i64 a3), .v (.int .i64 a4)], d] => some (fun _ => d = .agg [.v (.int .i64 a0), .v (.int .i64 a1), .s 1 a2, .v (.int .i64 a3), .v (.int .i64 a4)] /\ Rw [tI] a2 /\ cntRs [a2] <= 1099511627776, [.one (.v (.bool true))])
   | _ => none
 | _ => none
theorem ct_ok : CTok Tryz.prog (ct F0) := by
 intro f ds pre res h hp
 unfold ct at h
 split at h <;> (try split at h) <;> cases h
 exact c_laws_szKernel _ _ _ _ _ _ hp
 exact c_laws_toKernel _ _ _ _ _ hp
 exact c_laws_eqKernel _ _ _ _ _ _ hp
 exact c_laws_szRangeS _ _ hp
 exact c_laws_toRangeS _ hp
 exact c_laws_eqRangeS _ _ hp
 exact c_laws_szSpanS _ _ hp
 exact c_laws_toSpanS _ hp
 exact c_laws_eqSpanS _ _ hp
 exact c_laws_szLargeS _ _ hp
 exact c_laws_toLargeS _ hp
 exact c_laws_eqLargeS _ _ hp
 exact c_laws_szObjS _ _ hp
 exact c_laws_toObjS _ hp
 exact c_laws_eqObjS _ _ hp
 exact c_laws_szCacheS _ _ hp
 exact c_laws_toCacheS _ hp
 exact c_laws_eqCacheS _ _ hp
 exact c_laws_szMail _ _ _ hp
 exact c_laws_toMail _ _ hp
 exact c_laws_eqMail _ _ _ hp
 exact c_laws_szQuar _ _ _ hp
 exact c_laws_toQuar _ _ hp
 exact c_laws_eqQuar _ _ _ hp
 exact c_laws_szJob _ _ _ _ _ _ hp
 exact c_laws_toJob _ _ _ _ _ hp
 exact c_laws_eqJob _ _ _ _ _ _ hp
def B : TB Tryz.prog := tb ct_ok
end LHeap
theorem c_laws_szHeap (a0 a1 a2 : List (List L)) (a3 : Int) (a4 a5 a6 a7 a8 a9 a10 a11 : List (List L)) (a12 : Int) (a13 : List (List L)) (a14 a15 a16 a17 : Int) (a18 : Bool) (a19 a20 : Int) (a21 : List (List L)) (a22 a23 left : Int) (hp : Rw [.sl [tI]] a0 /\ Rw [tB] a1 /\ Rw [tI, tI] a2 /\ Rw [tI] a4 /\ Rw [tI, tI] a5 /\ Rw [tI, tI, tI] a6 /\ Rw [tI, tI, tI] a7 /\ Rw [tI, tI, tI, tI] a8 /\ Rw [.sl [.sl [tI]]] a9 /\ Rw [.sl [tI, tI]] a10 /\ Rw [.sl [tI]] a11 /\ Rw [tI, tI, tI] a13 /\ Rw [tI] a21 /\ 0 <= left /\ left <= 1048576) : Ctr Tryz.prog 5 [.agg [.s 1 a0, .s 1 a1, .s 2 a2, .v (.int .i64 a3), .s 1 a4, .s 2 a5, .s 3 a6, .s 3 a7, .s 4 a8, .s 1 a9, .s 1 a10, .s 1 a11, .v (.int .i64 a12), .s 3 a13, .v (.int .i64 a14), .v (.int .i64 a15), .v (.int .i64 a16), .v (.int .i64 a17), .v (.bool a18), .v (.int .i64 a19), .v (.int .i64 a20), .s 1 a21, .v (.int .i64 a22), .v (.int .i64 a23)], .one (.v (.int .i64 left))] [.one (.v (.int .i64 (szN0 [a0, a1, a2, a4, a5, a6, a7, a8, a9, a10, a11, a13, a21] left)))] := by
 obtain ⟨w0, w1, w2, w3, w4, w5, w6, w7, w8, w9, w10, w11, w12, h0, h1⟩ := hp
 refine ctr_b LHeap.B tabOk mixed 60 _ [3] [.tmp 4] Tryz.func5 rfl rfl rfl rfl rfl ?_
 intro O r (F : LHeap.Fns) hO hr (hF : F = LHeap.F0)
 cbv
 repeat' first | refine And.intro ?_ ?_ | (refine cbi (fun hb => ?_) (fun hb => ?_) <;> cbv)
 all_goals (subst hO hr hF; (try simp only [stdO, SS, sa, az] at *); (try simp only [nc] at *); (try simp only [onc] at *))
 all_goals (try simp only [LHeap.F0] at *)
 all_goals iterate 13 (try simp (disch := assumption) only [szN_app, List.cons_append, List.nil_append] at *)
 all_goals first | trivial | exact rfl | (refine ⟨by assumption, by omega, by first | omega | exact Int.le_trans (szN_le (by assumption)) h1⟩) | (refine ⟨by assumption, by assumption, by omega, by first | omega | exact Int.le_trans (szN_le (by assumption)) h1⟩) | (refine ⟨by assumption, by assumption, by assumption, by omega, by first | omega | exact Int.le_trans (szN_le (by assumption)) h1⟩) | (refine ⟨by assumption, by assumption, by assumption, by assumption, by omega, by first | omega | exact Int.le_trans (szN_le (by assumption)) h1⟩) | (refine ⟨by assumption, by assumption, by assumption, by assumption, by assumption, by omega, by first | omega | exact Int.le_trans (szN_le (by assumption)) h1⟩) | (refine ⟨by assumption, by assumption, by assumption, by assumption, by assumption, by assumption, by omega, by first | omega | exact Int.le_trans (szN_le (by assumption)) h1⟩) | (refine ⟨by assumption, by assumption, by assumption, by assumption, by assumption, by assumption, by assumption, by omega, by first | omega | exact Int.le_trans (szN_le (by assumption)) h1⟩) | (refine ⟨by assumption, by assumption, by assumption, by assumption, by assumption, by assumption, by assumption, by assumption, by omega, by first | omega | exact Int.le_trans (szN_le (by assumption)) h1⟩) | (refine ⟨by assumption, by assumption, by assumption, by assumption, by assumption, by assumption, by assumption, by assumption, by assumption, by omega, by first | omega | exact Int.le_trans (szN_le (by assumption)) h1⟩) | (refine ⟨by assumption, by assumption, by assumption, by assumption, by assumption, by assumption, by assumption, by assumption, by assumption, by assumption, by omega, by first | omega | exact Int.le_trans (szN_le (by assumption)) h1⟩) | (refine ⟨by assumption, by assumption, by assumption, by assumption, by assumption, by assumption, by assumption, by assumption, by assumption, by assumption, by assumption, by omega, by first | omega | exact Int.le_trans (szN_le (by assumption)) h1⟩) | (refine ⟨by assumption, by assumption, by assumption, by assumption, by assumption, by assumption, by assumption, by assumption, by assumption, by assumption, by assumption, by assumption, by omega, by first | omega | exact Int.le_trans (szN_le (by assumption)) h1⟩) | (refine ⟨by assumption, by assumption, by assumption, by assumption, by assumption, by assumption, by assumption, by assumption, by assumption, by assumption, by assumption, by assumption, by assumption, by omega, by first | omega | exact Int.le_trans (szN_le (by assumption)) h1⟩) | (rw [szN_neg1 (by assumption)]) | exact congrArg (fun x => [DV.one (L.v (Value.int IntKind.i64 x))]) (szN_more (a := [a0]) (b := [a1, a2, a4, a5, a6, a7, a8, a9, a10, a11, a13, a21]) (by assumption)).symm | exact congrArg (fun x => [DV.one (L.v (Value.int IntKind.i64 x))]) (szN_more (a := [a0, a1]) (b := [a2, a4, a5, a6, a7, a8, a9, a10, a11, a13, a21]) (by assumption)).symm | exact congrArg (fun x => [DV.one (L.v (Value.int IntKind.i64 x))]) (szN_more (a := [a0, a1, a2]) (b := [a4, a5, a6, a7, a8, a9, a10, a11, a13, a21]) (by assumption)).symm | exact congrArg (fun x => [DV.one (L.v (Value.int IntKind.i64 x))]) (szN_more (a := [a0, a1, a2, a4]) (b := [a5, a6, a7, a8, a9, a10, a11, a13, a21]) (by assumption)).symm | exact congrArg (fun x => [DV.one (L.v (Value.int IntKind.i64 x))]) (szN_more (a := [a0, a1, a2, a4, a5]) (b := [a6, a7, a8, a9, a10, a11, a13, a21]) (by assumption)).symm | exact congrArg (fun x => [DV.one (L.v (Value.int IntKind.i64 x))]) (szN_more (a := [a0, a1, a2, a4, a5, a6]) (b := [a7, a8, a9, a10, a11, a13, a21]) (by assumption)).symm | exact congrArg (fun x => [DV.one (L.v (Value.int IntKind.i64 x))]) (szN_more (a := [a0, a1, a2, a4, a5, a6, a7]) (b := [a8, a9, a10, a11, a13, a21]) (by assumption)).symm | exact congrArg (fun x => [DV.one (L.v (Value.int IntKind.i64 x))]) (szN_more (a := [a0, a1, a2, a4, a5, a6, a7, a8]) (b := [a9, a10, a11, a13, a21]) (by assumption)).symm | exact congrArg (fun x => [DV.one (L.v (Value.int IntKind.i64 x))]) (szN_more (a := [a0, a1, a2, a4, a5, a6, a7, a8, a9]) (b := [a10, a11, a13, a21]) (by assumption)).symm | exact congrArg (fun x => [DV.one (L.v (Value.int IntKind.i64 x))]) (szN_more (a := [a0, a1, a2, a4, a5, a6, a7, a8, a9, a10]) (b := [a11, a13, a21]) (by assumption)).symm | exact congrArg (fun x => [DV.one (L.v (Value.int IntKind.i64 x))]) (szN_more (a := [a0, a1, a2, a4, a5, a6, a7, a8, a9, a10, a11]) (b := [a13, a21]) (by assumption)).symm | exact congrArg (fun x => [DV.one (L.v (Value.int IntKind.i64 x))]) (szN_more (a := [a0, a1, a2, a4, a5, a6, a7, a8, a9, a10, a11, a13]) (b := [a21]) (by assumption)).symm | trace_state
theorem c_laws_toHeap (a0 a1 a2 : List (List L)) (a3 : Int) (a4 a5 a6 a7 a8 a9 a10 a11 : List (List L)) (a12 : Int) (a13 : List (List L)) (a14 a15 a16 a17 : Int) (a18 : Bool) (a19 a20 : Int) (a21 : List (List L)) (a22 a23 : Int) (hp : Rw [.sl [tI]] a0 /\ Rw [tB] a1 /\ Rw [tI, tI] a2 /\ Rw [tI] a4 /\ Rw [tI, tI] a5 /\ Rw [tI, tI, tI] a6 /\ Rw [tI, tI, tI] a7 /\ Rw [tI, tI, tI, tI] a8 /\ Rw [.sl [.sl [tI]]] a9 /\ Rw [.sl [tI, tI]] a10 /\ Rw [.sl [tI]] a11 /\ Rw [tI, tI, tI] a13 /\ Rw [tI] a21 /\ cntRs [a0, a1, a2, a4, a5, a6, a7, a8, a9, a10, a11, a13, a21] <= 1048576) : Ctr Tryz.prog 7 [.agg [.s 1 a0, .s 1 a1, .s 2 a2, .v (.int .i64 a3), .s 1 a4, .s 2 a5, .s 3 a6, .s 3 a7, .s 4 a8, .s 1 a9, .s 1 a10, .s 1 a11, .v (.int .i64 a12), .s 3 a13, .v (.int .i64 a14), .v (.int .i64 a15), .v (.int .i64 a16), .v (.int .i64 a17), .v (.bool a18), .v (.int .i64 a19), .v (.int .i64 a20), .s 1 a21, .v (.int .i64 a22), .v (.int .i64 a23)]] [.agg [.s 1 a0, .s 1 a1, .s 2 a2, .v (.int .i64 a3), .s 1 a4, .s 2 a5, .s 3 a6, .s 3 a7, .s 4 a8, .s 1 a9, .s 1 a10, .s 1 a11, .v (.int .i64 a12), .s 3 a13, .v (.int .i64 a14), .v (.int .i64 a15), .v (.int .i64 a16), .v (.int .i64 a17), .v (.bool a18), .v (.int .i64 a19), .v (.int .i64 a20), .s 1 a21, .v (.int .i64 a22), .v (.int .i64 a23)]] := by
 obtain ⟨w0, w1, w2, w3, w4, w5, w6, w7, w8, w9, w10, w11, w12, hlim⟩ := hp
 simp only [cntRs, Nat.add_zero] at hlim
 refine ctr_b LHeap.B tabOk mixed 56 _ [76] [.cell 2 76] Tryz.func7 rfl rfl rfl rfl rfl ?_
 intro O r (F : LHeap.Fns) hO hr (hF : F = LHeap.F0)
 cbv
 repeat' first | refine And.intro ?_ ?_ | (refine cbi (fun hb => ?_) (fun hb => ?_) <;> cbv)
 all_goals (subst hO hr hF; (try simp only [stdO, SS, sa, az] at *); (try simp only [nc] at *); (try simp only [onc] at *))
 all_goals (try simp only [LHeap.F0] at *)
 all_goals first | trivial | exact rfl | exact ⟨trivial, trivial⟩ | exact ⟨rfl, rfl⟩ | (refine ⟨by assumption, ?_⟩; (try simp only [cntRs, Nat.add_zero]); omega) | (refine ⟨by assumption, by assumption, ?_⟩; (try simp only [cntRs, Nat.add_zero]); omega) | (refine ⟨by assumption, by assumption, by assumption, ?_⟩; (try simp only [cntRs, Nat.add_zero]); omega) | (refine ⟨by assumption, by assumption, by assumption, by assumption, ?_⟩; (try simp only [cntRs, Nat.add_zero]); omega) | (refine ⟨by assumption, by assumption, by assumption, by assumption, by assumption, ?_⟩; (try simp only [cntRs, Nat.add_zero]); omega) | (refine ⟨by assumption, by assumption, by assumption, by assumption, by assumption, by assumption, ?_⟩; (try simp only [cntRs, Nat.add_zero]); omega) | (refine ⟨by assumption, by assumption, by assumption, by assumption, by assumption, by assumption, by assumption, ?_⟩; (try simp only [cntRs, Nat.add_zero]); omega) | (refine ⟨by assumption, by assumption, by assumption, by assumption, by assumption, by assumption, by assumption, by assumption, ?_⟩; (try simp only [cntRs, Nat.add_zero]); omega) | (refine ⟨by assumption, by assumption, by assumption, by assumption, by assumption, by assumption, by assumption, by assumption, by assumption, ?_⟩; (try simp only [cntRs, Nat.add_zero]); omega) | (refine ⟨by assumption, by assumption, by assumption, by assumption, by assumption, by assumption, by assumption, by assumption, by assumption, by assumption, ?_⟩; (try simp only [cntRs, Nat.add_zero]); omega) | (refine ⟨by assumption, by assumption, by assumption, by assumption, by assumption, by assumption, by assumption, by assumption, by assumption, by assumption, by assumption, ?_⟩; (try simp only [cntRs, Nat.add_zero]); omega) | (refine ⟨by assumption, by assumption, by assumption, by assumption, by assumption, by assumption, by assumption, by assumption, by assumption, by assumption, by assumption, by assumption, ?_⟩; (try simp only [cntRs, Nat.add_zero]); omega) | (refine ⟨by assumption, by assumption, by assumption, by assumption, by assumption, by assumption, by assumption, by assumption, by assumption, by assumption, by assumption, by assumption, by assumption, ?_⟩; (try simp only [cntRs, Nat.add_zero]); omega) | ((try simp only [cntRs, Nat.add_zero]); omega) | trace_state
theorem c_laws_eqHeap (a0 a1 a2 : List (List L)) (a3 : Int) (a4 a5 a6 a7 a8 a9 a10 a11 : List (List L)) (a12 : Int) (a13 : List (List L)) (a14 a15 a16 a17 : Int) (a18 : Bool) (a19 a20 : Int) (a21 : List (List L)) (a22 a23 : Int) (d : DV) (hp : d = .agg [.s 1 a0, .s 1 a1, .s 2 a2, .v (.int .i64 a3), .s 1 a4, .s 2 a5, .s 3 a6, .s 3 a7, .s 4 a8, .s 1 a9, .s 1 a10, .s 1 a11, .v (.int .i64 a12), .s 3 a13, .v (.int .i64 a14), .v (.int .i64 a15), .v (.int .i64 a16), .v (.int .i64 a17), .v (.bool a18), .v (.int .i64 a19), .v (.int .i64 a20), .s 1 a21, .v (.int .i64 a22), .v (.int .i64 a23)] /\ Rw [.sl [tI]] a0 /\ Rw [tB] a1 /\ Rw [tI, tI] a2 /\ Rw [tI] a4 /\ Rw [tI, tI] a5 /\ Rw [tI, tI, tI] a6 /\ Rw [tI, tI, tI] a7 /\ Rw [tI, tI, tI, tI] a8 /\ Rw [.sl [.sl [tI]]] a9 /\ Rw [.sl [tI, tI]] a10 /\ Rw [.sl [tI]] a11 /\ Rw [tI, tI, tI] a13 /\ Rw [tI] a21 /\ cntRs [a0, a1, a2, a4, a5, a6, a7, a8, a9, a10, a11, a13, a21] <= 1099511627776) : Ctr Tryz.prog 10 [.agg [.s 1 a0, .s 1 a1, .s 2 a2, .v (.int .i64 a3), .s 1 a4, .s 2 a5, .s 3 a6, .s 3 a7, .s 4 a8, .s 1 a9, .s 1 a10, .s 1 a11, .v (.int .i64 a12), .s 3 a13, .v (.int .i64 a14), .v (.int .i64 a15), .v (.int .i64 a16), .v (.int .i64 a17), .v (.bool a18), .v (.int .i64 a19), .v (.int .i64 a20), .s 1 a21, .v (.int .i64 a22), .v (.int .i64 a23)], d] [.one (.v (.bool true))] := by
 obtain ⟨rfl, w0, w1, w2, w3, w4, w5, w6, w7, w8, w9, w10, w11, w12, hlim⟩ := hp
 simp only [cntRs, Nat.add_zero] at hlim
 refine ctr_b LHeap.B tabOk mixed 84 _ [4] [.tmp 4] Tryz.func10 rfl rfl rfl rfl rfl ?_
 intro O r (F : LHeap.Fns) hO hr (hF : F = LHeap.F0)
 cbv
 repeat' first | refine And.intro ?_ ?_ | (refine cbi (fun hb => ?_) (fun hb => ?_) <;> cbv)
 all_goals (subst hO hr hF; (try simp only [stdO, SS, sa, az] at *); (try simp only [nc] at *); (try simp only [onc] at *))
 all_goals (try simp only [LHeap.F0] at *)
 all_goals first | trivial | exact rfl | exact absurd rfl hb | exact absurd rfl (by assumption) | (refine ⟨trivial, by assumption, ?_⟩; (try simp only [cntRs, Nat.add_zero]); omega) | (refine ⟨trivial, by assumption, by assumption, ?_⟩; (try simp only [cntRs, Nat.add_zero]); omega) | (refine ⟨trivial, by assumption, by assumption, by assumption, ?_⟩; (try simp only [cntRs, Nat.add_zero]); omega) | (refine ⟨trivial, by assumption, by assumption, by assumption, by assumption, ?_⟩; (try simp only [cntRs, Nat.add_zero]); omega) | (refine ⟨trivial, by assumption, by assumption, by assumption, by assumption, by assumption, ?_⟩; (try simp only [cntRs, Nat.add_zero]); omega) | (refine ⟨trivial, by assumption, by assumption, by assumption, by assumption, by assumption, by assumption, ?_⟩; (try simp only [cntRs, Nat.add_zero]); omega) | (refine ⟨trivial, by assumption, by assumption, by assumption, by assumption, by assumption, by assumption, by assumption, ?_⟩; (try simp only [cntRs, Nat.add_zero]); omega) | (refine ⟨trivial, by assumption, by assumption, by assumption, by assumption, by assumption, by assumption, by assumption, by assumption, ?_⟩; (try simp only [cntRs, Nat.add_zero]); omega) | (refine ⟨trivial, by assumption, by assumption, by assumption, by assumption, by assumption, by assumption, by assumption, by assumption, by assumption, ?_⟩; (try simp only [cntRs, Nat.add_zero]); omega) | (refine ⟨trivial, by assumption, by assumption, by assumption, by assumption, by assumption, by assumption, by assumption, by assumption, by assumption, by assumption, ?_⟩; (try simp only [cntRs, Nat.add_zero]); omega) | (refine ⟨trivial, by assumption, by assumption, by assumption, by assumption, by assumption, by assumption, by assumption, by assumption, by assumption, by assumption, by assumption, ?_⟩; (try simp only [cntRs, Nat.add_zero]); omega) | (refine ⟨trivial, by assumption, by assumption, by assumption, by assumption, by assumption, by assumption, by assumption, by assumption, by assumption, by assumption, by assumption, by assumption, ?_⟩; (try simp only [cntRs, Nat.add_zero]); omega) | (refine ⟨trivial, by assumption, by assumption, by assumption, by assumption, by assumption, by assumption, by assumption, by assumption, by assumption, by assumption, by assumption, by assumption, by assumption, ?_⟩; (try simp only [cntRs, Nat.add_zero]); omega) | (refine ⟨trivial, ?_⟩; (try simp only [cntRs, Nat.add_zero]); omega) | trace_state
end Go.V