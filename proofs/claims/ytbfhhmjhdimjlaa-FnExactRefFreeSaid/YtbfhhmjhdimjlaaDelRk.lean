/-
  Contracts of functions, by evaluation of conditions on their code.
-/
import Derived.Test.YtbfhhmjhdimjlaaS8
import Derived.Test.YtbfhhmjhdimjlaaW1

set_option linter.all false
namespace Go.V
open Go Go.Proofs
set_option maxRecDepth 1000000
set_option maxHeartbeats 8000000
open Go.Shelf Go.RowKit Go.Lib in
theorem del_eq_RefObj (base : Option Addr) (len cap i : Nat) (hc : len ≤ cap) (hm : cap ≤ 9223372036854775807) (hi : i ≤ len) (w : World) (hb : base = none → cap = 0) :
    Calls Try.prog 49 #[.slice base len cap, .int .i64 i, .int .i64 i] w fun e w' => e = .returned (.slice base len cap) ∧ w' = w := by
  cases base with
  | none =>
    obtain rfl := hb rfl
    obtain rfl : len = 0 := by omega
    obtain rfl : i = 0 := by omega
    go_enter Try.func49, Try.ntmps49
    go_wp2
    all_goals (go_ret; exact ⟨rfl, rfl⟩)
  | some a =>
    obtain ⟨b, off, sp⟩ := a
    go_enter Try.func49, Try.ntmps49
    go_wp2
    all_goals (go_ret; exact ⟨rfl, rfl⟩)
open Go.Shelf Go.RowKit Go.Lib in
theorem del_lt_RefObj (w : World) (es : List (List L)) (b off cap i j : Nat) (S : List Nat) (v1 v2 v3 : List Value) (F : DelF w 2 es b off cap i j S v1 v2 v3) (hlt : i < j) :
    Calls Try.prog 49 #[.slice (some ⟨b, off, none⟩) es.length cap, .int .i64 i, .int .i64 j] w fun e w' => e = .returned (.slice (some ⟨b, off, none⟩) (i + (es.length - j)) cap) ∧
      ∃ zs, zs.length = (j - i) * 2 ∧ w' = (w.drew.setCells b (off + i * 2) v3).setCells b (off + (i + (es.length - j)) * 2) zs := by
  obtain ⟨A, hA, hsrc⟩ : ∃ A : Addr, (if cap = j then some (⟨b, off, none⟩ : Addr) else some ⟨b, off + j * 2, none⟩) = some A ∧ Hid (∀ t u, v3[t]? = some u → w.drew.cell? (A.add t) = some u) := F.src
  have hcap := F.hcap; have hm : cap ≤ 9223372036854775807 := F.hm; have hij := F.hij; have hj := F.hj
  have s1 : Hid (v3.length = (es.length - j) * 2) := F.l3
  have s2 : Hid (∀ u ∈ v3, u.oneCell' = true) := F.one
  have s3 : Hid (∀ t, t < v3.length → (w.drew.cell? ⟨b, off + i * 2 + t, none⟩).isSome = true ∧ w.drew.frozen? ⟨b, off + i * 2 + t, none⟩ = false) := by
    intro t ht
    rw [F.l3] at ht
    rw [Nat.add_assoc]
    exact F.is (by omega)
  obtain ⟨zs, hlz, hcl⟩ := F.clear (P := Try.prog) hlt (t := 32) (e := 43) [Value.int IntKind.i64 0, Value.slice none 0 0] Try.underlying32 Try.zeroValue43 rfl (by intro u hu; simp at hu; rcases hu with rfl | rfl <;> rfl) rfl
  have hW2 : Hid (∃ zs', zs'.length = (j - i) * 2 ∧ (w.drew.setCells b (off + i * 2) v3).setCells b (off + (i + (es.length - j)) * 2) zs = (w.drew.setCells b (off + i * 2) v3).setCells b (off + (i + (es.length - j)) * 2) zs') := ⟨zs, hlz, rfl⟩
  obtain ⟨W1, hW1⟩ : ∃ W1, W1 = w.drew.setCells b (off + i * 2) v3 := ⟨_, rfl⟩
  rw [← hW1] at hcl
  have hW : Hid (W1 = w.drew.setCells b (off + i * 2) v3) := hW1
  have mixed : Try.prog.follows Departure.mixedOrders = true := mixed
  have hic : i ≤ cap := by omega
  have hjc : j ≤ cap := by omega
  clear hW1 F hlz
  go_enter Try.func49, Try.ntmps49
  go_wp2_with fail
  go_region_law_o (refine step_append_room rfl (.tmp 22) (.tmp 25) 32 rfl 43 _ 2 Try.underlying32 rfl rfl b off i cap (by simp [Act.eval, Act.put]) A (es.length - j) (cap - j) v3 (by simp [Act.eval, Act.put]) s1.out hsrc.out s2.out (by omega) s3.out ?_; rw [← hW.out])
  go_wp2
  go_ret
  rw [hW.out]
  exact ⟨rfl, hW2⟩

theorem c_slices_Delete_loop_example_g00978_impl_RefObj_loop_example_g00978_impl_RefObj (es : List (List L)) (i j : Int) (hp : 0 ≤ i ∧ i ≤ j ∧ j ≤ es.length) : OCtr Try.prog 49 [.one (.s 2 es), .one (.v (.int .i64 i)), .one (.v (.int .i64 j))] [.one (.s 2 (delL es i j))] := by
  exact octr_del del_eq_RefObj del_lt_RefObj hp

end Go.V
