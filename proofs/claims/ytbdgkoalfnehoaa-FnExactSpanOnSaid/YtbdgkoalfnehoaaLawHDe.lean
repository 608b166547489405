/-
  Contracts of functions, by evaluation of conditions on their code.
-/
import Derived.Test.YtbdgkoalfnehoaaS5
import Derived.Test.YtbdgkoalfnehoaaLawHAe
import Derived.Test.YtbdgkoalfnehoaaLawHBe
import Derived.Test.YtbdgkoalfnehoaaLawHCe
import Derived.Test.YtbdgkoalfnehoaaVD

set_option linter.all false
namespace Go.V
open Go Go.Proofs
set_option maxRecDepth 1000000
set_option maxHeartbeats 8000000
namespace LHeap
structure Fns where
  szN : List (List (List L)) → Int → Int
def F0 : Fns := ⟨szN0⟩
def ct (F : Fns) : CT := fun f ds => match f, ds with
  | 21, [.agg [.s 1 a0, .s 1 a1, .s 2 a2, .v (.int .i64 a3), .s 1 a4], .one (.v (.int .i64 left))] => some (fun _ => Rw [.sl [tI]] a0 ∧ Rw [tB] a1 ∧ Rw [tI, tI] a2 ∧ Rw [tI] a4 ∧ 0 ≤ left ∧ left ≤ 1048576, [.one (.v (.int .i64 (F.szN [a0, a1, a2, a4] left)))])
  | 30, [.agg [.s 1 a0, .s 1 a1, .s 2 a2, .v (.int .i64 a3), .s 1 a4]] => some (fun _ => Rw [.sl [tI]] a0 ∧ Rw [tB] a1 ∧ Rw [tI, tI] a2 ∧ Rw [tI] a4 ∧ cntRs [a0, a1, a2, a4] ≤ 1048576, [.agg [.s 1 a0, .s 1 a1, .s 2 a2, .v (.int .i64 a3), .s 1 a4]])
  | 39, [.agg [.s 1 a0, .s 1 a1, .s 2 a2, .v (.int .i64 a3), .s 1 a4], d] => some (fun _ => d = .agg [.s 1 a0, .s 1 a1, .s 2 a2, .v (.int .i64 a3), .s 1 a4] ∧ Rw [.sl [tI]] a0 ∧ Rw [tB] a1 ∧ Rw [tI, tI] a2 ∧ Rw [tI] a4 ∧ cntRs [a0, a1, a2, a4] ≤ 1099511627776, [.one (.v (.bool true))])
  | 22, [.one (.s 2 es), .one (.v (.int .i64 left))] => some (fun _ => Rw [tI, tI] es ∧ 0 ≤ left ∧ left ≤ 1048576, [.one (.v (.int .i64 (F.szN [es] left)))])
  | 31, [.one (.s 2 es)] => some (fun _ => Rw [tI, tI] es ∧ cntE es ≤ 1048576, [.one (.s 2 es)])
  | 40, [.one (.s 2 es), d] => some (fun _ => d = .one (.s 2 es) ∧ Rw [tI, tI] es ∧ cntE es ≤ 1099511627776, [.one (.v (.bool true))])
  | 23, [.one (.s 3 es), .one (.v (.int .i64 left))] => some (fun _ => Rw [tI, tI, tI] es ∧ 0 ≤ left ∧ left ≤ 1048576, [.one (.v (.int .i64 (F.szN [es] left)))])
  | 32, [.one (.s 3 es)] => some (fun _ => Rw [tI, tI, tI] es ∧ cntE es ≤ 1048576, [.one (.s 3 es)])
  | 41, [.one (.s 3 es), d] => some (fun _ => d = .one (.s 3 es) ∧ Rw [tI, tI, tI] es ∧ cntE es ≤ 1099511627776, [.one (.v (.bool true))])
  | 24, [.one (.s 3 es), .one (.v (.int .i64 left))] => some (fun _ => Rw [tI, tI, tI] es ∧ 0 ≤ left ∧ left ≤ 1048576, [.one (.v (.int .i64 (F.szN [es] left)))])
  | 33, [.one (.s 3 es)] => some (fun _ => Rw [tI, tI, tI] es ∧ cntE es ≤ 1048576, [.one (.s 3 es)])
  | 42, [.one (.s 3 es), d] => some (fun _ => d = .one (.s 3 es) ∧ Rw [tI, tI, tI] es ∧ cntE es ≤ 1099511627776, [.one (.v (.bool true))])
  | 25, [.one (.s 4 es), .one (.v (.int .i64 left))] => some (fun _ => Rw [tI, tI, tI, tI] es ∧ 0 ≤ left ∧ left ≤ 1048576, [.one (.v (.int .i64 (F.szN [es] left)))])
  | 34, [.one (.s 4 es)] => some (fun _ => Rw [tI, tI, tI, tI] es ∧ cntE es ≤ 1048576, [.one (.s 4 es)])
  | 43, [.one (.s 4 es), d] => some (fun _ => d = .one (.s 4 es) ∧ Rw [tI, tI, tI, tI] es ∧ cntE es ≤ 1099511627776, [.one (.v (.bool true))])
  | 26, [.one (.s 1 es), .one (.v (.int .i64 left))] => some (fun _ => Rw [.sl [.sl [tI]]] es ∧ 0 ≤ left ∧ left ≤ 1048576, [.one (.v (.int .i64 (F.szN [es] left)))])
  | 35, [.one (.s 1 es)] => some (fun _ => Rw [.sl [.sl [tI]]] es ∧ cntE es ≤ 1048576, [.one (.s 1 es)])
  | 44, [.one (.s 1 es), d] => some (fun _ => d = .one (.s 1 es) ∧ Rw [.sl [.sl [tI]]] es ∧ cntE es ≤ 1099511627776, [.one (.v (.bool true))])
  | 27, [.agg [.s 1 a0, .s 1 a1], .one (.v (.int .i64 left))] => some (fun _ => Rw [.sl [tI, tI]] a0 ∧ Rw [.sl [tI]] a1 ∧ 0 ≤ left ∧ left ≤ 1048576, [.one (.v (.int .i64 (F.szN [a0, a1] left)))])
  | 36, [.agg [.s 1 a0, .s 1 a1]] => some (fun _ => Rw [.sl [tI, tI]] a0 ∧ Rw [.sl [tI]] a1 ∧ cntRs [a0, a1] ≤ 1048576, [.agg [.s 1 a0, .s 1 a1]])
  | 45, [.agg [.s 1 a0, .s 1 a1], d] => some (fun _ => d = .agg [.s 1 a0, .s 1 a1] ∧ Rw [.sl [tI, tI]] a0 ∧ Rw [.sl [tI]] a1 ∧ cntRs [a0, a1] ≤ 1099511627776, [.one (.v (.bool true))])
  | 28, [.agg [.v (.int .i64 a0), .s 3 a1], .one (.v (.int .i64 left))] => some (fun _ => Rw [tI, tI, tI] a1 ∧ 0 ≤ left ∧ left ≤ 1048576, [.one (.v (.int .i64 (F.szN [a1] left)))])
  | 37, [.agg [.v (.int .i64 a0), .s 3 a1]] => some (fun _ => Rw [tI, tI, tI] a1 ∧ cntRs [a1] ≤ 1048576, [.agg [.v (.int .i64 a0), .s 3 a1]])
  | 46, [.agg [.v (.int .i64 a0), .s 3 a1], d] => some (fun _ => d = .agg [.v (.int .i64 a0), .s 3 a1] ∧ Rw [tI, tI, tI] a1 ∧ cntRs [a1] ≤ 1099511627776, [.one (.v (.bool true))])
  | 29, [.agg [.v (.int .i64 a0), .v (.int .i64 a1), .s 1 a2, .v (.int .i64 a3), .v (.int .i64 a4)], .one (.v (.int .i64 left))] => some (fun _ => Rw [tI] a2 ∧ 0 ≤ left ∧ left ≤ 1048576, [.one (.v (.int .i64 (F.szN [a2] left)))])
  | 38, [.agg [.v (.int .i64 a0), .v (.int .i64 a1), .s 1 a2, .v (.int .i64 a3), .v (.int .i64 a4)]] => some (fun _ => Rw [tI] a2 ∧ cntRs [a2] ≤ 1048576, [.agg [.v (.int .i64 a0), .v (.int .i64 a1), .s 1 a2, .v (.int .i64 a3), .v (.int .i64 a4)]])
  | 47, [.agg [.v (.int .i64 a0), .v (.int .i64 a1), .s 1 a2, .v (.int .i64 a3), .v (.int .i64 a4)], d] => some (fun _ => d = .agg [.v (.int .i64 a0), .v (.int .i64 a1), .s 1 a2, .v (.int .i64 a3), .v (.int .i64 a4)] ∧ Rw [tI] a2 ∧ cntRs [a2] ≤ 1099511627776, [.one (.v (.bool true))])
  | _, _ => none
theorem ct_ok : CTok Try.prog (ct F0) := by
  intro f ds pre res h hp
  unfold ct at h
  split at h
  · cases h; exact c_laws_szKernel _ _ _ _ _ _ hp
  · cases h; exact c_laws_toKernel _ _ _ _ _ hp
  · cases h; exact c_laws_eqKernel _ _ _ _ _ _ hp
  · cases h; exact c_laws_szRangeS _ _ hp
  · cases h; exact c_laws_toRangeS _ hp
  · cases h; exact c_laws_eqRangeS _ _ hp
  · cases h; exact c_laws_szSpanS _ _ hp
  · cases h; exact c_laws_toSpanS _ hp
  · cases h; exact c_laws_eqSpanS _ _ hp
  · cases h; exact c_laws_szLargeS _ _ hp
  · cases h; exact c_laws_toLargeS _ hp
  · cases h; exact c_laws_eqLargeS _ _ hp
  · cases h; exact c_laws_szObjS _ _ hp
  · cases h; exact c_laws_toObjS _ hp
  · cases h; exact c_laws_eqObjS _ _ hp
  · cases h; exact c_laws_szCacheS _ _ hp
  · cases h; exact c_laws_toCacheS _ hp
  · cases h; exact c_laws_eqCacheS _ _ hp
  · cases h; exact c_laws_szMail _ _ _ hp
  · cases h; exact c_laws_toMail _ _ hp
  · cases h; exact c_laws_eqMail _ _ _ hp
  · cases h; exact c_laws_szQuar _ _ _ hp
  · cases h; exact c_laws_toQuar _ _ hp
  · cases h; exact c_laws_eqQuar _ _ _ hp
  · cases h; exact c_laws_szJob _ _ _ _ _ _ hp
  · cases h; exact c_laws_toJob _ _ _ _ _ hp
  · cases h; exact c_laws_eqJob _ _ _ _ _ _ hp
  · cases h
def mt : Fns → MT := noMT
theorem mt_ok : MTok Try.prog (mt F0) := noMT_ok
def pt : Fns → PT := noPT
theorem pt_ok : PTok Try.prog (pt F0) := noPT_ok
end LHeap
theorem c_laws_szHeap (a0 : List (List L)) (a1 : List (List L)) (a2 : List (List L)) (a3 : Int) (a4 : List (List L)) (a5 : List (List L)) (a6 : List (List L)) (a7 : List (List L)) (a8 : List (List L)) (a9 : List (List L)) (a10 : List (List L)) (a11 : List (List L)) (a12 : Int) (a13 : List (List L)) (a14 : Int) (a15 : Int) (a16 : Int) (a17 : Int) (a18 : Bool) (a19 : Int) (a20 : Int) (a21 : List (List L)) (a22 : Int) (a23 : Int) (left : Int) (hp : Rw [.sl [tI]] a0 ∧ Rw [tB] a1 ∧ Rw [tI, tI] a2 ∧ Rw [tI] a4 ∧ Rw [tI, tI] a5 ∧ Rw [tI, tI, tI] a6 ∧ Rw [tI, tI, tI] a7 ∧ Rw [tI, tI, tI, tI] a8 ∧ Rw [.sl [.sl [tI]]] a9 ∧ Rw [.sl [tI, tI]] a10 ∧ Rw [.sl [tI]] a11 ∧ Rw [tI, tI, tI] a13 ∧ Rw [tI] a21 ∧ 0 ≤ left ∧ left ≤ 1048576) : Ctr Try.prog 8 [.agg [.s 1 a0, .s 1 a1, .s 2 a2, .v (.int .i64 a3), .s 1 a4, .s 2 a5, .s 3 a6, .s 3 a7, .s 4 a8, .s 1 a9, .s 1 a10, .s 1 a11, .v (.int .i64 a12), .s 3 a13, .v (.int .i64 a14), .v (.int .i64 a15), .v (.int .i64 a16), .v (.int .i64 a17), .v (.bool a18), .v (.int .i64 a19), .v (.int .i64 a20), .s 1 a21, .v (.int .i64 a22), .v (.int .i64 a23)], .one (.v (.int .i64 left))] [.one (.v (.int .i64 (szN0 [a0, a1, a2, a4, a5, a6, a7, a8, a9, a10, a11, a13, a21] left)))] := by
  obtain ⟨w0, w1, w2, w3, w4, w5, w6, w7, w8, w9, w10, w11, w12, h0, h1⟩ := hp
  refine ctr_of (ctF := LHeap.ct) (mtF := LHeap.mt) (ptF := LHeap.pt) (F0 := LHeap.F0) tabOk LHeap.ct_ok LHeap.mt_ok LHeap.pt_ok mixed 60 _ [3] [.tmp 4] Try.func8 rfl rfl rfl rfl rfl ?_
  intro O r F hO hr hF
  cbv
  repeat' first | refine And.intro ?_ ?_ | (refine caseB_intro (fun hb => ?_) (fun hb => ?_) <;> cbv)
  all_goals ((try subst hos); subst hO hr hF; (try simp only [stdO, SS, sub_all, ad_zero] at *); (try simp only [ncast] at *); (try simp only [Int.ofNat_eq_natCast] at *))
  all_goals (try simp only [LHeap.F0] at *)
  all_goals iterate 13 (try simp (disch := assumption) only [szN_app, List.cons_append, List.nil_append] at *)
  all_goals first
    | trivial
    | exact rfl
    | (refine ⟨by assumption, by omega, by first | omega | exact Int.le_trans (szN_le (by assumption)) h1⟩)
    | (refine ⟨by assumption, by assumption, by omega, by first | omega | exact Int.le_trans (szN_le (by assumption)) h1⟩)
    | (refine ⟨by assumption, by assumption, by assumption, by omega, by first | omega | exact Int.le_trans (szN_le (by assumption)) h1⟩)
    | (refine ⟨by assumption, by assumption, by assumption, by assumption, by omega, by first | omega | exact Int.le_trans (szN_le (by assumption)) h1⟩)
    | (refine ⟨by assumption, by assumption, by assumption, by assumption, by assumption, by omega, by first | omega | exact Int.le_trans (szN_le (by assumption)) h1⟩)
    | (refine ⟨by assumption, by assumption, by assumption, by assumption, by assumption, by assumption, by omega, by first | omega | exact Int.le_trans (szN_le (by assumption)) h1⟩)
    | (refine ⟨by assumption, by assumption, by assumption, by assumption, by assumption, by assumption, by assumption, by omega, by first | omega | exact Int.le_trans (szN_le (by assumption)) h1⟩)
    | (refine ⟨by assumption, by assumption, by assumption, by assumption, by assumption, by assumption, by assumption, by assumption, by omega, by first | omega | exact Int.le_trans (szN_le (by assumption)) h1⟩)
    | (refine ⟨by assumption, by assumption, by assumption, by assumption, by assumption, by assumption, by assumption, by assumption, by assumption, by omega, by first | omega | exact Int.le_trans (szN_le (by assumption)) h1⟩)
    | (refine ⟨by assumption, by assumption, by assumption, by assumption, by assumption, by assumption, by assumption, by assumption, by assumption, by assumption, by omega, by first | omega | exact Int.le_trans (szN_le (by assumption)) h1⟩)
    | (refine ⟨by assumption, by assumption, by assumption, by assumption, by assumption, by assumption, by assumption, by assumption, by assumption, by assumption, by assumption, by omega, by first | omega | exact Int.le_trans (szN_le (by assumption)) h1⟩)
    | (refine ⟨by assumption, by assumption, by assumption, by assumption, by assumption, by assumption, by assumption, by assumption, by assumption, by assumption, by assumption, by assumption, by omega, by first | omega | exact Int.le_trans (szN_le (by assumption)) h1⟩)
    | (refine ⟨by assumption, by assumption, by assumption, by assumption, by assumption, by assumption, by assumption, by assumption, by assumption, by assumption, by assumption, by assumption, by assumption, by omega, by first | omega | exact Int.le_trans (szN_le (by assumption)) h1⟩)
    | (rw [szN_neg1 (by assumption)])
    | exact congrArg (fun x => [DV.one (L.v (Value.int IntKind.i64 x))]) (szN_more (a := [a0]) (b := [a1, a2, a4, a5, a6, a7, a8, a9, a10, a11, a13, a21]) (by assumption)).symm
    | exact congrArg (fun x => [DV.one (L.v (Value.int IntKind.i64 x))]) (szN_more (a := [a0, a1]) (b := [a2, a4, a5, a6, a7, a8, a9, a10, a11, a13, a21]) (by assumption)).symm
    | exact congrArg (fun x => [DV.one (L.v (Value.int IntKind.i64 x))]) (szN_more (a := [a0, a1, a2]) (b := [a4, a5, a6, a7, a8, a9, a10, a11, a13, a21]) (by assumption)).symm
    | exact congrArg (fun x => [DV.one (L.v (Value.int IntKind.i64 x))]) (szN_more (a := [a0, a1, a2, a4]) (b := [a5, a6, a7, a8, a9, a10, a11, a13, a21]) (by assumption)).symm
    | exact congrArg (fun x => [DV.one (L.v (Value.int IntKind.i64 x))]) (szN_more (a := [a0, a1, a2, a4, a5]) (b := [a6, a7, a8, a9, a10, a11, a13, a21]) (by assumption)).symm
    | exact congrArg (fun x => [DV.one (L.v (Value.int IntKind.i64 x))]) (szN_more (a := [a0, a1, a2, a4, a5, a6]) (b := [a7, a8, a9, a10, a11, a13, a21]) (by assumption)).symm
    | exact congrArg (fun x => [DV.one (L.v (Value.int IntKind.i64 x))]) (szN_more (a := [a0, a1, a2, a4, a5, a6, a7]) (b := [a8, a9, a10, a11, a13, a21]) (by assumption)).symm
    | exact congrArg (fun x => [DV.one (L.v (Value.int IntKind.i64 x))]) (szN_more (a := [a0, a1, a2, a4, a5, a6, a7, a8]) (b := [a9, a10, a11, a13, a21]) (by assumption)).symm
    | exact congrArg (fun x => [DV.one (L.v (Value.int IntKind.i64 x))]) (szN_more (a := [a0, a1, a2, a4, a5, a6, a7, a8, a9]) (b := [a10, a11, a13, a21]) (by assumption)).symm
    | exact congrArg (fun x => [DV.one (L.v (Value.int IntKind.i64 x))]) (szN_more (a := [a0, a1, a2, a4, a5, a6, a7, a8, a9, a10]) (b := [a11, a13, a21]) (by assumption)).symm
    | exact congrArg (fun x => [DV.one (L.v (Value.int IntKind.i64 x))]) (szN_more (a := [a0, a1, a2, a4, a5, a6, a7, a8, a9, a10, a11]) (b := [a13, a21]) (by assumption)).symm
    | exact congrArg (fun x => [DV.one (L.v (Value.int IntKind.i64 x))]) (szN_more (a := [a0, a1, a2, a4, a5, a6, a7, a8, a9, a10, a11, a13]) (b := [a21]) (by assumption)).symm
    | trace_state
theorem c_laws_toHeap (a0 : List (List L)) (a1 : List (List L)) (a2 : List (List L)) (a3 : Int) (a4 : List (List L)) (a5 : List (List L)) (a6 : List (List L)) (a7 : List (List L)) (a8 : List (List L)) (a9 : List (List L)) (a10 : List (List L)) (a11 : List (List L)) (a12 : Int) (a13 : List (List L)) (a14 : Int) (a15 : Int) (a16 : Int) (a17 : Int) (a18 : Bool) (a19 : Int) (a20 : Int) (a21 : List (List L)) (a22 : Int) (a23 : Int) (hp : Rw [.sl [tI]] a0 ∧ Rw [tB] a1 ∧ Rw [tI, tI] a2 ∧ Rw [tI] a4 ∧ Rw [tI, tI] a5 ∧ Rw [tI, tI, tI] a6 ∧ Rw [tI, tI, tI] a7 ∧ Rw [tI, tI, tI, tI] a8 ∧ Rw [.sl [.sl [tI]]] a9 ∧ Rw [.sl [tI, tI]] a10 ∧ Rw [.sl [tI]] a11 ∧ Rw [tI, tI, tI] a13 ∧ Rw [tI] a21 ∧ cntRs [a0, a1, a2, a4, a5, a6, a7, a8, a9, a10, a11, a13, a21] ≤ 1048576) : Ctr Try.prog 10 [.agg [.s 1 a0, .s 1 a1, .s 2 a2, .v (.int .i64 a3), .s 1 a4, .s 2 a5, .s 3 a6, .s 3 a7, .s 4 a8, .s 1 a9, .s 1 a10, .s 1 a11, .v (.int .i64 a12), .s 3 a13, .v (.int .i64 a14), .v (.int .i64 a15), .v (.int .i64 a16), .v (.int .i64 a17), .v (.bool a18), .v (.int .i64 a19), .v (.int .i64 a20), .s 1 a21, .v (.int .i64 a22), .v (.int .i64 a23)]] [.agg [.s 1 a0, .s 1 a1, .s 2 a2, .v (.int .i64 a3), .s 1 a4, .s 2 a5, .s 3 a6, .s 3 a7, .s 4 a8, .s 1 a9, .s 1 a10, .s 1 a11, .v (.int .i64 a12), .s 3 a13, .v (.int .i64 a14), .v (.int .i64 a15), .v (.int .i64 a16), .v (.int .i64 a17), .v (.bool a18), .v (.int .i64 a19), .v (.int .i64 a20), .s 1 a21, .v (.int .i64 a22), .v (.int .i64 a23)]] := by
  obtain ⟨w0, w1, w2, w3, w4, w5, w6, w7, w8, w9, w10, w11, w12, hlim⟩ := hp
  simp only [cntRs, Nat.add_zero] at hlim
  refine ctr_of (ctF := LHeap.ct) (mtF := LHeap.mt) (ptF := LHeap.pt) (F0 := LHeap.F0) tabOk LHeap.ct_ok LHeap.mt_ok LHeap.pt_ok mixed 56 _ [76] [.cell 2 76] Try.func10 rfl rfl rfl rfl rfl ?_
  intro O r F hO hr hF
  cbv
  repeat' first | refine And.intro ?_ ?_ | (refine caseB_intro (fun hb => ?_) (fun hb => ?_) <;> cbv)
  all_goals ((try subst hos); subst hO hr hF; (try simp only [stdO, SS, sub_all, ad_zero] at *); (try simp only [ncast] at *); (try simp only [Int.ofNat_eq_natCast] at *))
  all_goals (try simp only [LHeap.F0] at *)
  all_goals first
    | trivial
    | exact rfl
    | exact ⟨trivial, trivial⟩
    | exact ⟨rfl, rfl⟩
    | (refine ⟨by assumption, ?_⟩; (try simp only [cntRs, Nat.add_zero]); omega)
    | (refine ⟨by assumption, by assumption, ?_⟩; (try simp only [cntRs, Nat.add_zero]); omega)
    | (refine ⟨by assumption, by assumption, by assumption, ?_⟩; (try simp only [cntRs, Nat.add_zero]); omega)
    | (refine ⟨by assumption, by assumption, by assumption, by assumption, ?_⟩; (try simp only [cntRs, Nat.add_zero]); omega)
    | (refine ⟨by assumption, by assumption, by assumption, by assumption, by assumption, ?_⟩; (try simp only [cntRs, Nat.add_zero]); omega)
    | (refine ⟨by assumption, by assumption, by assumption, by assumption, by assumption, by assumption, ?_⟩; (try simp only [cntRs, Nat.add_zero]); omega)
    | (refine ⟨by assumption, by assumption, by assumption, by assumption, by assumption, by assumption, by assumption, ?_⟩; (try simp only [cntRs, Nat.add_zero]); omega)
    | (refine ⟨by assumption, by assumption, by assumption, by assumption, by assumption, by assumption, by assumption, by assumption, ?_⟩; (try simp only [cntRs, Nat.add_zero]); omega)
    | (refine ⟨by assumption, by assumption, by assumption, by assumption, by assumption, by assumption, by assumption, by assumption, by assumption, ?_⟩; (try simp only [cntRs, Nat.add_zero]); omega)
    | (refine ⟨by assumption, by assumption, by assumption, by assumption, by assumption, by assumption, by assumption, by assumption, by assumption, by assumption, ?_⟩; (try simp only [cntRs, Nat.add_zero]); omega)
    | (refine ⟨by assumption, by assumption, by assumption, by assumption, by assumption, by assumption, by assumption, by assumption, by assumption, by assumption, by assumption, ?_⟩; (try simp only [cntRs, Nat.add_zero]); omega)
    | (refine ⟨by assumption, by assumption, by assumption, by assumption, by assumption, by assumption, by assumption, by assumption, by assumption, by assumption, by assumption, by assumption, ?_⟩; (try simp only [cntRs, Nat.add_zero]); omega)
    | (refine ⟨by assumption, by assumption, by assumption, by assumption, by assumption, by assumption, by assumption, by assumption, by assumption, by assumption, by assumption, by assumption, by assumption, ?_⟩; (try simp only [cntRs, Nat.add_zero]); omega)
    | ((try simp only [cntRs, Nat.add_zero]); omega)
    | trace_state
theorem c_laws_eqHeap (a0 : List (List L)) (a1 : List (List L)) (a2 : List (List L)) (a3 : Int) (a4 : List (List L)) (a5 : List (List L)) (a6 : List (List L)) (a7 : List (List L)) (a8 : List (List L)) (a9 : List (List L)) (a10 : List (List L)) (a11 : List (List L)) (a12 : Int) (a13 : List (List L)) (a14 : Int) (a15 : Int) (a16 : Int) (a17 : Int) (a18 : Bool) (a19 : Int) (a20 : Int) (a21 : List (List L)) (a22 : Int) (a23 : Int) (d : DV) (hp : d = .agg [.s 1 a0, .s 1 a1, .s 2 a2, .v (.int .i64 a3), .s 1 a4, .s 2 a5, .s 3 a6, .s 3 a7, .s 4 a8, .s 1 a9, .s 1 a10, .s 1 a11, .v (.int .i64 a12), .s 3 a13, .v (.int .i64 a14), .v (.int .i64 a15), .v (.int .i64 a16), .v (.int .i64 a17), .v (.bool a18), .v (.int .i64 a19), .v (.int .i64 a20), .s 1 a21, .v (.int .i64 a22), .v (.int .i64 a23)] ∧ Rw [.sl [tI]] a0 ∧ Rw [tB] a1 ∧ Rw [tI, tI] a2 ∧ Rw [tI] a4 ∧ Rw [tI, tI] a5 ∧ Rw [tI, tI, tI] a6 ∧ Rw [tI, tI, tI] a7 ∧ Rw [tI, tI, tI, tI] a8 ∧ Rw [.sl [.sl [tI]]] a9 ∧ Rw [.sl [tI, tI]] a10 ∧ Rw [.sl [tI]] a11 ∧ Rw [tI, tI, tI] a13 ∧ Rw [tI] a21 ∧ cntRs [a0, a1, a2, a4, a5, a6, a7, a8, a9, a10, a11, a13, a21] ≤ 1099511627776) : Ctr Try.prog 12 [.agg [.s 1 a0, .s 1 a1, .s 2 a2, .v (.int .i64 a3), .s 1 a4, .s 2 a5, .s 3 a6, .s 3 a7, .s 4 a8, .s 1 a9, .s 1 a10, .s 1 a11, .v (.int .i64 a12), .s 3 a13, .v (.int .i64 a14), .v (.int .i64 a15), .v (.int .i64 a16), .v (.int .i64 a17), .v (.bool a18), .v (.int .i64 a19), .v (.int .i64 a20), .s 1 a21, .v (.int .i64 a22), .v (.int .i64 a23)], d] [.one (.v (.bool true))] := by
  obtain ⟨rfl, w0, w1, w2, w3, w4, w5, w6, w7, w8, w9, w10, w11, w12, hlim⟩ := hp
  simp only [cntRs, Nat.add_zero] at hlim
  refine ctr_of (ctF := LHeap.ct) (mtF := LHeap.mt) (ptF := LHeap.pt) (F0 := LHeap.F0) tabOk LHeap.ct_ok LHeap.mt_ok LHeap.pt_ok mixed 84 _ [4] [.tmp 4] Try.func12 rfl rfl rfl rfl rfl ?_
  intro O r F hO hr hF
  cbv
  repeat' first | refine And.intro ?_ ?_ | (refine caseB_intro (fun hb => ?_) (fun hb => ?_) <;> cbv)
  all_goals ((try subst hos); subst hO hr hF; (try simp only [stdO, SS, sub_all, ad_zero] at *); (try simp only [ncast] at *); (try simp only [Int.ofNat_eq_natCast] at *))
  all_goals (try simp only [LHeap.F0] at *)
  all_goals first
    | trivial
    | exact rfl
    | exact absurd rfl hb
    | exact absurd rfl (by assumption)
    | (refine ⟨trivial, by assumption, ?_⟩; (try simp only [cntRs, Nat.add_zero]); omega)
    | (refine ⟨trivial, by assumption, by assumption, ?_⟩; (try simp only [cntRs, Nat.add_zero]); omega)
    | (refine ⟨trivial, by assumption, by assumption, by assumption, ?_⟩; (try simp only [cntRs, Nat.add_zero]); omega)
    | (refine ⟨trivial, by assumption, by assumption, by assumption, by assumption, ?_⟩; (try simp only [cntRs, Nat.add_zero]); omega)
    | (refine ⟨trivial, by assumption, by assumption, by assumption, by assumption, by assumption, ?_⟩; (try simp only [cntRs, Nat.add_zero]); omega)
    | (refine ⟨trivial, by assumption, by assumption, by assumption, by assumption, by assumption, by assumption, ?_⟩; (try simp only [cntRs, Nat.add_zero]); omega)
    | (refine ⟨trivial, by assumption, by assumption, by assumption, by assumption, by assumption, by assumption, by assumption, ?_⟩; (try simp only [cntRs, Nat.add_zero]); omega)
    | (refine ⟨trivial, by assumption, by assumption, by assumption, by assumption, by assumption, by assumption, by assumption, by assumption, ?_⟩; (try simp only [cntRs, Nat.add_zero]); omega)
    | (refine ⟨trivial, by assumption, by assumption, by assumption, by assumption, by assumption, by assumption, by assumption, by assumption, by assumption, ?_⟩; (try simp only [cntRs, Nat.add_zero]); omega)
    | (refine ⟨trivial, by assumption, by assumption, by assumption, by assumption, by assumption, by assumption, by assumption, by assumption, by assumption, by assumption, ?_⟩; (try simp only [cntRs, Nat.add_zero]); omega)
    | (refine ⟨trivial, by assumption, by assumption, by assumption, by assumption, by assumption, by assumption, by assumption, by assumption, by assumption, by assumption, by assumption, ?_⟩; (try simp only [cntRs, Nat.add_zero]); omega)
    | (refine ⟨trivial, by assumption, by assumption, by assumption, by assumption, by assumption, by assumption, by assumption, by assumption, by assumption, by assumption, by assumption, by assumption, ?_⟩; (try simp only [cntRs, Nat.add_zero]); omega)
    | (refine ⟨trivial, by assumption, by assumption, by assumption, by assumption, by assumption, by assumption, by assumption, by assumption, by assumption, by assumption, by assumption, by assumption, by assumption, ?_⟩; (try simp only [cntRs, Nat.add_zero]); omega)
    | (refine ⟨trivial, ?_⟩; (try simp only [cntRs, Nat.add_zero]); omega)
    | trace_state
end Go.V
