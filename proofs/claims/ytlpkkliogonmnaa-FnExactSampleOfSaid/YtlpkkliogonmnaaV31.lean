/-
  The value-level condition generator, part 31: rows that are filled, folded and compared.
-/
import Derived.Test.YtlpkkliogonmnaaV30
set_option linter.all false

namespace Go.V

theorem add64 {a b : Int} (h : -9223372036854775808 ≤ a + b ∧ a + b ≤ 9223372036854775807) : arI .add .i64 a b = a + b := IntWalk.i64_in _ h
theorem sub64 {a b : Int} (h : -9223372036854775808 ≤ a - b ∧ a - b ≤ 9223372036854775807) : arI .sub .i64 a b = a - b := IntWalk.i64_in _ h
theorem inc64 {i : Int} {n : Nat} (h0 : 0 ≤ i) (h1 : i < n) (hn : n ≤ 4611686018427387904) : arI .add .i64 i 1 = i + 1 := add64 (by omega)

theorem getD_take_succ {α : Type} {es : List α} {d : α} {i : Nat} (hi : i < es.length) : es.take (i + 1) = es.take i ++ [es.getD i d] := by
  rw [List.take_succ_eq_append_getElem hi, List.getD_eq_getElem?_getD, List.getElem?_eq_getElem hi]; rfl

theorem foldl_take_succ {α β : Type} {f : β → α → β} {a : β} {es : List α} {d : α} {i : Nat} (hi : i < es.length) : (es.take (i + 1)).foldl f a = f ((es.take i).foldl f a) (es.getD i d) := by
  rw [getD_take_succ (d := d) hi, List.foldl_append]; rfl

/-- A row of zeros, filled up to the i-th. -/
def fillR (es : List Rec) (z : Rec) (i : Nat) : List Rec := es.take i ++ List.replicate (es.length - i) z
theorem fillR_zero {es : List Rec} {z : Rec} : fillR es z 0 = List.replicate es.length z := by simp [fillR]
theorem fillR_all {es : List Rec} {z : Rec} : fillR es z es.length = es := by simp [fillR]
theorem fillR_length {es : List Rec} {z : Rec} {i : Nat} (hi : i ≤ es.length) : (fillR es z i).length = es.length := by simp [fillR]; omega
theorem fillR_set {es : List Rec} {z : Rec} {i : Nat} (hi : i < es.length) : (fillR es z i).set i (es.getD i []) = fillR es z (i + 1) := by
  unfold fillR
  rw [getD_take_succ (d := []) hi, List.set_append_right _ _ (by simp; omega)]
  have : (es.take i).length = i := by simp; omega
  rw [this, Nat.sub_self]
  rw [show es.length - i = (es.length - (i + 1)) + 1 from by omega, List.replicate_succ, List.set_cons_zero]
  simp
theorem fillR_getD {es : List Rec} {z : Rec} {i : Nat} (hi : i < es.length) : (fillR es z i).getD i [] = z := by
  unfold fillR
  have : (es.take i).length = i := by simp; omega
  rw [List.getD_eq_getElem?_getD, List.getElem?_append_right (by omega), this, Nat.sub_self, List.getElem?_replicate]
  rw [if_pos (by omega)]; rfl

/-- A whole element written. -/
theorem upI_one {sz : Nat} {es : List Rec} {n : Nat} {new : Rec} (h : (es.getD n []).length = new.length) : upI (.s sz es) [(n, 0)] new = es.set n new := by
  simp only [upI, setR, rowOf, List.take_zero, List.nil_append, Nat.zero_add]
  rw [List.drop_of_length_le (by omega), List.append_nil]

theorem getR_some {sz : Nat} {es : List Rec} {n o m : Nat} (hn : n < es.length) (hl : o + m ≤ (es.getD n []).length) : ∃ rec o', getR (.s sz es) [(n, o)] = some (rec, o') ∧ o' + m ≤ rec.length := by
  refine ⟨es.getD n [], o, ?_, hl⟩
  rw [getR_one, List.getD_eq_getElem?_getD, List.getElem?_eq_getElem hn]; rfl

theorem etaE_whole {z : Rec} {es : List Rec} {i : Int} (hr : Wf z es) (h0 : 0 ≤ i) (h1 : i < es.length) : etaE stdO es i 0 z = es.getD i.toNat [] := (row_ro hr h0 h1).2.2.symm

theorem c_eql_t {a b : Int} : (cmpI .eql a b = true) ↔ a = b := by simp [cmpI]
theorem c_eql_f {a b : Int} : (cmpI .eql a b = false) ↔ a ≠ b := by simp [cmpI]
theorem c_neq_t {a b : Int} : (cmpI .neq a b = true) ↔ a ≠ b := by simp [cmpI]
theorem c_neq_f {a b : Int} : (cmpI .neq a b = false) ↔ a = b := by simp [cmpI]
theorem c_lss_t {a b : Int} : (cmpI .lss a b = true) ↔ a < b := by simp [cmpI]
theorem c_lss_f {a b : Int} : (cmpI .lss a b = false) ↔ b ≤ a := by simp [cmpI]
theorem c_leq_t {a b : Int} : (cmpI .leq a b = true) ↔ a ≤ b := by simp [cmpI]
theorem c_leq_f {a b : Int} : (cmpI .leq a b = false) ↔ b < a := by simp [cmpI]
theorem c_gtr_t {a b : Int} : (cmpI .gtr a b = true) ↔ b < a := by simp [cmpI]
theorem c_gtr_f {a b : Int} : (cmpI .gtr a b = false) ↔ a ≤ b := by simp [cmpI]
theorem c_geq_t {a b : Int} : (cmpI .geq a b = true) ↔ b ≤ a := by simp [cmpI]
theorem c_geq_f {a b : Int} : (cmpI .geq a b = false) ↔ a < b := by simp [cmpI]
theorem bn_t {b : Bool} : (bnI b = true) ↔ b = false := by cases b <;> simp [bnI]
theorem bn_f {b : Bool} : (bnI b = false) ↔ b = true := by cases b <;> simp [bnI]
theorem sel_t {a b : Bool} : selI true a b = a := rfl
theorem sel_f {a b : Bool} : selI false a b = b := rfl
theorem bq_eql_t {a b : Bool} : (bqI .eql a b = true) ↔ a = b := by simp [bqI]
theorem bq_eql_f {a b : Bool} : (bqI .eql a b = false) ↔ a ≠ b := by simp [bqI]
theorem bq_neq_t {a b : Bool} : (bqI .neq a b = true) ↔ a ≠ b := by simp [bqI]
theorem bq_neq_f {a b : Bool} : (bqI .neq a b = false) ↔ a = b := by simp [bqI]
theorem zi_eq {n : Nat} : ziI n = (n : Int) := rfl
theorem ln_eq {es : List Rec} : lnI es = es.length := rfl
theorem pr_eq {f : Unit → Prop} : prI f = f () := rfl
theorem ad_zero {i : Int} : adI 0 i = i.toNat := Nat.zero_add _

theorem mk_ok {n b : Nat} (h : n * b ≤ 70368744177664) (hn : n ≤ 70368744177664) : 0 ≤ ziI n ∧ ziI n ≤ ziI n ∧ ziI n * (b : Int) ≤ 70368744177664 ∧ ziI n ≤ 70368744177664 := by
  unfold ziI
  refine ⟨by omega, by omega, ?_, by omega⟩
  rw [← Int.natCast_mul]; omega

theorem sub_all {es : List Rec} : subI es 0 es.length = es := by simp [subI]
theorem sub_ln {es : List Rec} : subI es 0 (lnI es) = es := sub_all

end Go.V
