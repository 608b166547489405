/-
  What the program's functions on frames, tables and forks compute, in plain words.
-/import Derived.Test.YticfhgfgobafbaaGreatVE
set_option linter.all false
namespace Go.V
theorem ihas {n : Int} (h : IntKind.has .i64 n) : -9223372036854775808 <= n /\ n <= 9223372036854775807 := h
theorem up64 {i : Int} (h0 : 0 <= i) (h1 : i < 9223372036854775807) : arI .add .i64 i 1 = i + 1 := add64 (by omega)
def inR (x a b : Int) : Bool := decide (a <= x) && decide (x <= b)
theorem inR_t {x a b : Int} : inR x a b = true ↔ a <= x /\ x <= b := by simp [inR]
theorem inR_f {x a b : Int} : inR x a b = false ↔ x < a \/ b < x := by
 cases h : inR x a b
 ·simp only [true_iff]; unfold inR at h; simp only [Bool.and_eq_false_iff, decide_eq_false_iff_not] at h; omega
 ·rw [inR_t] at h; constructor
  ·intro q; cases q
  ·omega
def allI (p : Int -> Bool) (n : Nat) : Bool := (List.range n).all fun j => p (j : Int)
def upto (p : Int -> Bool) (i : Int) : Prop := ∀ j : Int, 0 <= j -> j < i -> p j = true
theorem upto_z {p : Int -> Bool} : upto p 0 := fun j h0 h1 => absurd h1 (by omega)
theorem upto_s {p : Int -> Bool} {i : Int} (h : upto p i) (hp : p i = true) : upto p (i + 1) := fun j h0 h1 => by
 by_cases q : j = i
 ·subst q; exact hp
 ·exact h j h0 (by omega)
theorem allI_t {p : Int -> Bool} {n : Nat} : allI p n = true ↔ upto p n := by
 simp only [allI, List.all_eq_true, List.mem_range]
 exact ⟨fun h j h0 h1 => by have := h j.toNat (by omega); rwa [Int.toNat_of_nonneg h0] at this, fun h x hx => h x (by omega) (by omega)⟩
theorem allI_of {p : Int -> Bool} {n : Nat} {i : Int} (h : upto p i) (hi : (n : Int) <= i) : allI p n = true := allI_t.2 fun j h0 h1 => h j h0 (by omega)
theorem allI_f {p : Int -> Bool} {n : Nat} {i : Int} (h0 : 0 <= i) (h : i < n) (hp : p i = false) : allI p n = false := by
 cases q : allI p n
 ·rfl
 ·rw [allI_t.1 q i h0 h] at hp; cases hp
theorem b_iff {a b : Bool} (h : a = true ↔ b = true) : a = b := by cases a <;> cases b <;> simp_all
theorem db_eq {a b : Bool} (h : a = b) : [DV.one (.v (.bool a))] = [DV.one (.v (.bool b))] := by rw [h]
def pgN (es : List (List L)) (f : Int) : Nat -> List (List L)
 | 0 => []
 | n + 1 => if giI es n 0 ≠ 0 /\ giI es n 1 = f then pgN es f n ++ [[.v (.int .i64 n)]] else pgN es f n
def pagesOn (es : List (List L)) (f : Int) : List (List L) := pgN es f es.length
theorem pgN_len {es : List (List L)} {f : Int} : ∀ {n : Nat}, (pgN es f n).length <= n
 | 0 => Nat.zero_le _
 | n + 1 => by
   have := pgN_len (es := es) (f := f) (n := n)
   unfold pgN; split
   ·rw [List.length_append]; simp; omega
   ·omega
theorem pgN_yes {es : List (List L)} {f : Int} {n : Nat} (h0 : giI es n 0 ≠ 0) (h1 : giI es n 1 = f) : pgN es f (n + 1) = pgN es f n ++ [[.v (.int .i64 n)]] := by rw [pgN, if_pos ⟨h0, h1⟩]
theorem pgN_no {es : List (List L)} {f : Int} {n : Nat} (h : giI es n 0 = 0 \/ giI es n 1 ≠ f) : pgN es f (n + 1) = pgN es f n := by rw [pgN, if_neg (by rintro ⟨a, b⟩; rcases h with q | q; exact a q; exact q b)]
theorem pgI_yes {es : List (List L)} {f i : Int} (hi : 0 <= i) (h0 : giI es i 0 ≠ 0) (h1 : giI es i 1 = f) : pgN es f (i + 1).toNat = pgN es f i.toNat ++ [[.v (.int .i64 i)]] := by
 have e : ((i.toNat : Nat) : Int) = i := Int.toNat_of_nonneg hi
 rw [show (i + 1).toNat = i.toNat + 1 from by omega, pgN_yes (by rw [e]; exact h0) (by rw [e]; exact h1), e]
theorem pgI_no {es : List (List L)} {f i : Int} (hi : 0 <= i) (h : giI es i 0 = 0 \/ giI es i 1 ≠ f) : pgN es f (i + 1).toNat = pgN es f i.toNat := by
 have e : ((i.toNat : Nat) : Int) = i := Int.toNat_of_nonneg hi
 rw [show (i + 1).toNat = i.toNat + 1 from by omega, pgN_no (by rw [e]; exact h)]
theorem row_eq {k : Nat} {a b : List (List L)} (h : a = b) : [DV.one (.s k a)] = [DV.one (.s k b)] := by rw [h]
end Go.V