/-
  Drawn sizes, in plain words.
-/
import Derived.Test.YtbfhhmjhdimjlaaH16

set_option linter.all false
namespace Go.V

def dsF (cs : List (List L)) : Nat → Int → Int → Int → List (List L) → List (List L)
  | 0, _, _, _, out => out
  | f + 1, k, i, h, out => if k < 1 + wX cs i h 12 then dsF cs f (k + 1) (wI cs (wI cs i 12) 30) (wH (wH h 12) 30) (out ++ [[.v (.int .i64 (1 + wX cs (wI cs i 12) (wH h 12) 30))]]) else out
def dsz (cs : List (List L)) : List (List L) := dsF cs 13 0 0 (l01h cs) []
theorem ds_yes {cs out : List (List L)} {k i h : Int} (h0 : 0 ≤ k) (h1 : k ≤ 12) (q : k < 1 + wX cs i h 12) :
    dsF cs (13 - k).toNat k i h out = dsF cs (13 - (k + 1)).toNat (k + 1) (wI cs (wI cs i 12) 30) (wH (wH h 12) 30) (out ++ [[.v (.int .i64 (1 + wX cs (wI cs i 12) (wH h 12) 30))]]) := by
  rw [show (13 - k).toNat = (13 - (k + 1)).toNat + 1 by omega, dsF, if_pos q]
theorem ds_no {cs out : List (List L)} {k i h : Int} (h1 : k ≤ 12) (q : ¬ k < 1 + wX cs i h 12) : dsF cs (13 - k).toNat k i h out = out := by
  rw [show (13 - k).toNat = (12 - k).toNat + 1 by omega, dsF, if_neg q]
/-- Sizes from 1 to 30. -/
def sz30 (out : List (List L)) : Prop := ∀ j : Nat, j < out.length → ∃ x : Int, 1 ≤ x ∧ x ≤ 30 ∧ out.getD j [] = [.v (.int .i64 x)]
theorem sz30_app {out : List (List L)} {x : Int} (h : sz30 out) (h1 : 1 ≤ x) (h2 : x ≤ 30) : sz30 (out ++ [[.v (.int .i64 x)]]) := by
  intro j hj
  by_cases c : j < out.length
  · obtain ⟨y, q1, q2, q3⟩ := h j c
    refine ⟨y, q1, q2, ?_⟩
    rw [List.getD_eq_getElem?_getD, List.getElem?_append_left c, ← List.getD_eq_getElem?_getD]; exact q3
  · refine ⟨x, h1, h2, ?_⟩
    have e : j = out.length := by simp at hj; omega
    subst e
    rw [List.getD_eq_getElem?_getD, List.getElem?_append_right (Nat.le_refl _), Nat.sub_self]; rfl
theorem ds_ok {cs : List (List L)} : ∀ (f : Nat) (k i h : Int) (out : List (List L)), sz30 out → sz30 (dsF cs f k i h out) ∧ (dsF cs f k i h out).length ≤ out.length + f
  | 0, k, i, h, out, ho => ⟨ho, Nat.le_refl _⟩
  | f + 1, k, i, h, out, ho => by
    unfold dsF
    split
    · have x := wX_ok (cs := cs) (i := wI cs i 12) (h := wH h 12) (n := 30) (by omega)
      have ih := ds_ok (cs := cs) f (k + 1) (wI cs (wI cs i 12) 30) (wH (wH h 12) 30) (out ++ [[.v (.int .i64 (1 + wX cs (wI cs i 12) (wH h 12) 30))]]) (sz30_app ho (by omega) (by omega))
      refine ⟨ih.1, ?_⟩
      have := ih.2
      rw [List.length_append] at this
      simp at this
      omega
    · exact ⟨ho, by omega⟩
theorem dsz_ok {cs : List (List L)} : sz30 (dsz cs) ∧ (dsz cs).length ≤ 13 := by
  have := ds_ok (cs := cs) 13 0 0 (l01h cs) [] (fun j hj => by simp at hj)
  exact ⟨this.1, Nat.le_trans this.2 (by simp)⟩
theorem sz30_gi {out : List (List L)} (h : sz30 out) {i : Int} (h0 : 0 ≤ i) (h1 : i < out.length) : 1 ≤ giI out i 0 ∧ giI out i 0 ≤ 30 := by
  obtain ⟨x, q1, q2, q3⟩ := h i.toNat (by omega)
  have e : giI out i 0 = x := by unfold giI; rw [q3]; rfl
  omega
theorem dsz_sz {cs : List (List L)} : szOk (dsz cs) := by
  refine ⟨by have := (dsz_ok (cs := cs)).2; omega, fun i h0 h1 => ?_⟩
  have := sz30_gi (dsz_ok (cs := cs)).1 h0 h1
  omega
theorem sz30_rw {out : List (List L)} (h : sz30 out) (hl : out.length ≤ 1000) : Rw [tI] out := by
  refine ⟨by unfold maxLen; omega, fun e he => ?_⟩
  obtain ⟨j, hj⟩ := List.getElem?_of_mem he
  have hlt : j < out.length := (List.getElem?_eq_some_iff.1 hj).1
  obtain ⟨x, q1, q2, q3⟩ := h j hlt
  rw [List.getD_eq_getElem?_getD, hj] at q3
  have q3 : e = [.v (.int .i64 x)] := q3
  rw [q3]
  have hh : IntKind.has .i64 x := by show -9223372036854775808 ≤ x ∧ x ≤ (9223372036854775807 : Int); omega
  exact ⟨⟨rfl, hh⟩, trivial⟩
theorem dsz_rw {cs : List (List L)} : Rw [tI] (dsz cs) := sz30_rw (dsz_ok (cs := cs)).1 (by have := (dsz_ok (cs := cs)).2; omega)
theorem smp_rw {sz : List (List L)} {ev st : Int} (h : szOk sz) (he : 1 ≤ ev) (he2 : ev ≤ 1000) (h0 : 0 ≤ st) (h1 : st < ev) : Rw [tI, tI] (smp sz ev st) ∧ (smp sz ev st).length ≤ sz.length := by
  obtain ⟨l1, l2⟩ := sm_at h he h0 h1 (Nat.le_refl sz.length)
  refine ⟨⟨by unfold maxLen; have := h.1; show (smS sz ev st sz.length).1.length ≤ _; omega, fun e hm => ?_⟩, l1⟩
  obtain ⟨j, hj⟩ := List.getElem?_of_mem hm
  have hlt : j < (smS sz ev st sz.length).1.length := (List.getElem?_eq_some_iff.1 hj).1
  obtain ⟨i, k, a1, a2, a3, a4⟩ := l2 j hlt
  have hj' : (smS sz ev st sz.length).1[j]? = some e := hj
  rw [List.getD_eq_getElem?_getD, hj'] at a4
  have a4 : e = [.v (.int .i64 (giI sz i 0)), .v (.int .i64 (k * ev))] := a4
  have q := h.2 i (by omega) (by omega)
  rw [a4]
  have z : 0 ≤ k * ev := Int.mul_nonneg (by omega) (by omega)
  have hh : IntKind.has .i64 (giI sz i 0) := by show -9223372036854775808 ≤ _ ∧ _ ≤ (9223372036854775807 : Int); omega
  have hh2 : IntKind.has .i64 (k * ev) := by show -9223372036854775808 ≤ _ ∧ _ ≤ (9223372036854775807 : Int); omega
  exact ⟨⟨rfl, hh⟩, ⟨rfl, hh2⟩, trivial⟩
end Go.V
