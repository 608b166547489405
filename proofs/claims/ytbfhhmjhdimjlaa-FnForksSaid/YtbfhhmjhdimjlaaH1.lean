/-
  What the program's functions on frames, tables and forks compute, in plain words.
-/
import Derived.Test.YtbfhhmjhdimjlaaVE
set_option linter.all false
namespace Go.V
theorem up64 {i : Int} (h0 : 0 <= i) (h1 : i < 9223372036854775807) : arI .add .i64 i 1 = i + 1 := add64 (by omega)
def inR (x a b : Int) : Bool := decide (a <= x) && decide (x <= b)
theorem inR_t {x a b : Int} : inR x a b = true ↔ a <= x /\ x <= b := by simp [inR]
theorem inR_f {x a b : Int} : inR x a b = false ↔ x < a \/ b < x := by
 cases h : inR x a b
 ·simp only [true_iff]; unfold inR at h; simp only [Bool.and_eq_false_iff, decide_eq_false_iff_not] at h; omega
 ·rw [inR_t] at h; constructor
  ·intro q; cases q
  ·omega
def allI (p : Int -> Bool) (n : Nat) : Bool := (List.range n).all fun j => p (j : Int)
def upto (p : Int -> Bool) (i : Int) : Prop := ∀ j : Int, 0 <= j -> j < i -> p j = true
theorem upto_z {p : Int -> Bool} : upto p 0 := fun j h0 h1 => absurd h1 (by omega)
theorem upto_s {p : Int -> Bool} {i : Int} (h : upto p i) (hp : p i = true) : upto p (i + 1) := fun j h0 h1 => by
 by_cases q : j = i
 ·subst q; exact hp
 ·exact h j h0 (by omega)
theorem allI_t {p : Int -> Bool} {n : Nat} : allI p n = true ↔ upto p n := by
 simp only [allI, List.all_eq_true, List.mem_range]
 exact ⟨fun h j h0 h1 => by have := h j.toNat (by omega); rwa [Int.toNat_of_nonneg h0] at this, fun h x hx => h x (by omega) (by omega)⟩
theorem allI_of {p : Int -> Bool} {n : Nat} {i : Int} (h : upto p i) (hi : (n : Int) <= i) : allI p n = true := allI_t.2 fun j h0 h1 => h j h0 (by omega)
theorem allI_f {p : Int -> Bool} {n : Nat} {i : Int} (h0 : 0 <= i) (h : i < n) (hp : p i = false) : allI p n = false := by
 cases q : allI p n
 ·rfl
 ·rw [allI_t.1 q i h0 h] at hp; cases hp
theorem b_iff {a b : Bool} (h : a = true ↔ b = true) : a = b := by cases a <;> cases b <;> simp_all
theorem db_eq {a b : Bool} (h : a = b) : [DV.one (.v (.bool a))] = [DV.one (.v (.bool b))] := by rw [h]
def cellOk (cs us : List (List L)) (i k : Int) : Bool := inR (giI (gsI cs i 0) k 0) 0 999 && (gbI us i 0 || decide (giI (gsI cs i 0) k 0 = 0))
def frameOk (cs us : List (List L)) (i : Int) : Bool := decide ((gsI cs i 0).length = 16) && allI (cellOk cs us i) 16
def framesOk (cs us : List (List L)) : Bool := inR cs.length 1 32 && decide (us.length = cs.length) && allI (frameOk cs us) cs.length
def entOk (es : List (List L)) (fr i : Int) : Bool := inR (giI es i 0) 0 2 && decide (giI es i 0 = 0 -> giI es i 1 = 0) && decide (0 < giI es i 0 -> 0 <= giI es i 1 /\ giI es i 1 < fr)
def tableOk (es : List (List L)) (fr : Int) : Bool := allI (entOk es fr) es.length && inR es.length 1 32
def pgN (es : List (List L)) (f : Int) : Nat -> List (List L)
 | 0 => []
 | n + 1 => if giI es n 0 ≠ 0 /\ giI es n 1 = f then pgN es f n ++ [[.v (.int .i64 n)]] else pgN es f n
def pagesOn (es : List (List L)) (f : Int) : List (List L) := pgN es f es.length
theorem pgN_len {es : List (List L)} {f : Int} : ∀ {n : Nat}, (pgN es f n).length <= n
 | 0 => Nat.zero_le _
 | n + 1 => by
   have := pgN_len (es := es) (f := f) (n := n)
   unfold pgN; split
   ·rw [List.length_append]; simp; omega
   ·omega
theorem pgN_yes {es : List (List L)} {f : Int} {n : Nat} (h0 : giI es n 0 ≠ 0) (h1 : giI es n 1 = f) : pgN es f (n + 1) = pgN es f n ++ [[.v (.int .i64 n)]] := by rw [pgN, if_pos ⟨h0, h1⟩]
theorem pgN_no {es : List (List L)} {f : Int} {n : Nat} (h : giI es n 0 = 0 \/ giI es n 1 ≠ f) : pgN es f (n + 1) = pgN es f n := by rw [pgN, if_neg (by rintro ⟨a, b⟩; rcases h with q | q; exact a q; exact q b)]
theorem pgI_yes {es : List (List L)} {f i : Int} (hi : 0 <= i) (h0 : giI es i 0 ≠ 0) (h1 : giI es i 1 = f) : pgN es f (i + 1).toNat = pgN es f i.toNat ++ [[.v (.int .i64 i)]] := by
 have e : ((i.toNat : Nat) : Int) = i := Int.toNat_of_nonneg hi
 rw [show (i + 1).toNat = i.toNat + 1 from by omega, pgN_yes (by rw [e]; exact h0) (by rw [e]; exact h1), e]
theorem pgI_no {es : List (List L)} {f i : Int} (hi : 0 <= i) (h : giI es i 0 = 0 \/ giI es i 1 ≠ f) : pgN es f (i + 1).toNat = pgN es f i.toNat := by
 have e : ((i.toNat : Nat) : Int) = i := Int.toNat_of_nonneg hi
 rw [show (i + 1).toNat = i.toNat + 1 from by omega, pgN_no (by rw [e]; exact h)]
theorem pages_len {es : List (List L)} {f : Int} : (pagesOn es f).length <= es.length := pgN_len
def mapsB (es : List (List L)) (f : Int) : Bool := decide (0 < (pagesOn es f).length)
theorem mapsB_t {es : List (List L)} {f : Int} : mapsB es f = true ↔ 0 < (pagesOn es f).length := by simp [mapsB]
def fitOk (us a b : List (List L)) (i : Int) : Bool := gbI us i 0 == (mapsB a i || mapsB b i)
def cowOk (cs us ts : List (List L)) : Bool :=
 framesOk cs us && decide (ts.length = 2) && tableOk (gsI ts 0 0) cs.length && tableOk (gsI ts 1 0) cs.length && decide ((gsI ts 0 0).length = (gsI ts 1 0).length) && allI (fitOk us (gsI ts 0 0) (gsI ts 1 0)) cs.length
theorem fr_no1 {cs us : List (List L)} (h : inR cs.length 1 32 = false) : framesOk cs us = false := by unfold framesOk; rw [h]; rfl
theorem fr_no2 {cs us : List (List L)} (h : us.length ≠ cs.length) : framesOk cs us = false := by unfold framesOk; rw [decide_eq_false h]; simp
theorem fr_no3 {cs us : List (List L)} {i : Int} (h0 : 0 <= i) (h1 : i < cs.length) (h : (gsI cs i 0).length ≠ 16) : framesOk cs us = false := by
 unfold framesOk; rw [allI_f h0 h1 (by unfold frameOk; rw [decide_eq_false h]; rfl)]; simp
theorem fr_no4 {cs us : List (List L)} {i k : Int} (h0 : 0 <= i) (h1 : i < cs.length) (k0 : 0 <= k) (k1 : k < 16) (h : inR (giI (gsI cs i 0) k 0) 0 999 = false \/ gbI us i 0 = false /\ giI (gsI cs i 0) k 0 ≠ 0) : framesOk cs us = false := by
 unfold framesOk; rw [allI_f h0 h1 (by unfold frameOk; rw [allI_f k0 (by simpa using k1) (by unfold cellOk; rcases h with q | ⟨q, q'⟩; rw [q]; rfl; rw [q, decide_eq_false q']; simp)]; simp)]; simp
theorem fr_yes {cs us : List (List L)} {i : Int} (h1 : inR cs.length 1 32 = true) (h2 : us.length = cs.length) (h : upto (frameOk cs us) i) (hi : (cs.length : Int) <= i) : framesOk cs us = true := by
 unfold framesOk; rw [h1, decide_eq_true h2, allI_of h hi]; rfl
theorem fr_in {cs us : List (List L)} {i k : Int} (hl : (gsI cs i 0).length = 16) (h : upto (cellOk cs us i) k) (hk : 16 <= k) : frameOk cs us i = true := by
 unfold frameOk; rw [decide_eq_true hl, allI_of h (by simpa using hk)]; rfl
theorem ce_in {cs us : List (List L)} {i k : Int} (h : inR (giI (gsI cs i 0) k 0) 0 999 = true) (h' : gbI us i 0 = true \/ giI (gsI cs i 0) k 0 = 0) : cellOk cs us i k = true := by
 unfold cellOk; rw [h]; rcases h' with q | q
 ·rw [q]; rfl
 ·rw [decide_eq_true q]; simp
theorem row_eq {k : Nat} {a b : List (List L)} (h : a = b) : [DV.one (.s k a)] = [DV.one (.s k b)] := by rw [h]
theorem tb_no {es : List (List L)} {n i : Int} (h0 : 0 <= i) (h1 : i < es.length) (h : ¬ (0 <= giI es i 0 /\ giI es i 0 <= 2 /\ (giI es i 0 = 0 -> giI es i 1 = 0) /\ (0 < giI es i 0 -> 0 <= giI es i 1 /\ giI es i 1 < n))) : tableOk es n = false := by
 unfold tableOk; rw [allI_f h0 h1]; rfl
 cases q : entOk es n i
 ·rfl
 ·refine absurd ?_ h
  unfold entOk at q; simp only [Bool.and_eq_true, decide_eq_true_eq, inR_t] at q
  exact ⟨q.1.1.1, q.1.1.2, q.1.2, q.2⟩
theorem tb_in {es : List (List L)} {n i : Int} (h : 0 <= giI es i 0 /\ giI es i 0 <= 2 /\ (giI es i 0 = 0 -> giI es i 1 = 0) /\ (0 < giI es i 0 -> 0 <= giI es i 1 /\ giI es i 1 < n)) : entOk es n i = true := by
 unfold entOk; simp only [Bool.and_eq_true, decide_eq_true_eq, inR_t]
 exact ⟨⟨⟨h.1, h.2.1⟩, h.2.2.1⟩, h.2.2.2⟩
theorem tb_yes {es : List (List L)} {n i : Int} (h : upto (entOk es n) i) (hi : (es.length : Int) <= i) : tableOk es n = inR es.length 1 32 := by unfold tableOk; rw [allI_of h hi]; rfl
theorem tb_len {es : List (List L)} {n : Int} (h : tableOk es n = true) : 1 <= es.length /\ es.length <= 32 := by
 unfold tableOk at h; simp only [Bool.and_eq_true, inR_t] at h; omega
theorem tb_at {es : List (List L)} {n i : Int} (h : tableOk es n = true) (h0 : 0 <= i) (h1 : i < es.length) : 0 <= giI es i 0 /\ giI es i 0 <= 2 /\ (giI es i 0 = 0 -> giI es i 1 = 0) /\ (0 < giI es i 0 -> 0 <= giI es i 1 /\ giI es i 1 < n) := by
 unfold tableOk at h; simp only [Bool.and_eq_true] at h
 have q := allI_t.1 h.1 i h0 h1
 unfold entOk at q; simp only [Bool.and_eq_true, decide_eq_true_eq, inR_t] at q
 exact ⟨q.1.1.1, q.1.1.2, q.1.2, q.2⟩
theorem fr_len {cs us : List (List L)} (h : framesOk cs us = true) : us.length = cs.length /\ 1 <= cs.length /\ cs.length <= 32 := by
 unfold framesOk at h; simp only [Bool.and_eq_true, decide_eq_true_eq, inR_t] at h; omega
theorem fr_at {cs us : List (List L)} {i : Int} (h : framesOk cs us = true) (h0 : 0 <= i) (h1 : i < cs.length) : (gsI cs i 0).length = 16 := by
 unfold framesOk at h; simp only [Bool.and_eq_true, decide_eq_true_eq, inR_t] at h
 have q := allI_t.1 h.2 i h0 h1
 unfold frameOk at q; simp only [Bool.and_eq_true, decide_eq_true_eq] at q; exact q.1
theorem co_no {cs us ts : List (List L)} (h : ¬ (framesOk cs us = true /\ ts.length = 2 /\ tableOk (gsI ts 0 0) cs.length = true /\ tableOk (gsI ts 1 0) cs.length = true /\ (gsI ts 0 0).length = (gsI ts 1 0).length)) : cowOk cs us ts = false := by
 cases q : cowOk cs us ts
 ·rfl
 ·refine absurd ?_ h
  unfold cowOk at q; simp only [Bool.and_eq_true, decide_eq_true_eq] at q
  exact ⟨q.1.1.1.1.1, q.1.1.1.1.2, q.1.1.1.2, q.1.1.2, q.1.2⟩
theorem co_no2 {cs us ts : List (List L)} {i : Int} (hf : framesOk cs us = true) (ht : ts.length = 2) (h0 : 0 <= i) (h1 : i < 2) (h : tableOk (gsI ts i 0) us.length = false) : cowOk cs us ts = false := by
 rw [(fr_len hf).1] at h
 refine co_no ?_
 rcases (show i = 0 \/ i = 1 by omega) with rfl | rfl
 ·rintro ⟨_, _, q, _, _⟩; rw [q] at h; cases h
 ·rintro ⟨_, _, _, q, _⟩; rw [q] at h; cases h
theorem co_no3 {cs us ts : List (List L)} {i : Int} (h0 : 0 <= i) (h1 : i < cs.length) (h : gbI us i 0 ≠ (mapsB (gsI ts 0 0) i || mapsB (gsI ts 1 0) i)) : cowOk cs us ts = false := by
 unfold cowOk; rw [allI_f h0 h1 (by unfold fitOk; simpa using h)]; simp
theorem co_in {us a b : List (List L)} {i : Int} (h : gbI us i 0 = (mapsB a i || mapsB b i)) : fitOk us a b i = true := by unfold fitOk; simpa using h
theorem co_yes {cs us ts : List (List L)} {i : Int} (h : framesOk cs us = true) (h1 : ts.length = 2) (h2 : tableOk (gsI ts 0 0) cs.length = true) (h3 : tableOk (gsI ts 1 0) cs.length = true) (h4 : (gsI ts 0 0).length = (gsI ts 1 0).length) (hu : upto (fitOk us (gsI ts 0 0) (gsI ts 1 0)) i) (hi : (cs.length : Int) <= i) : cowOk cs us ts = true := by
 unfold cowOk; rw [h, decide_eq_true h1, h2, h3, decide_eq_true h4, allI_of hu hi]; rfl
def tbsOk (ts : List (List L)) (n i : Int) : Bool := tableOk (gsI ts i 0) n
theorem co_in2 {ts : List (List L)} {n i : Int} (h : tableOk (gsI ts i 0) n = true) : tbsOk ts n i = true := h
theorem co_yes2 {cs us ts : List (List L)} {i i' : Int} (h : framesOk cs us = true) (h1 : ts.length = 2) (h2 : upto (tbsOk ts us.length) i') (hi' : 2 <= i') (h4 : (gsI ts 0 0).length = (gsI ts 1 0).length) (hu : upto (fitOk us (gsI ts 0 0) (gsI ts 1 0)) i) (hi : (cs.length : Int) <= i) : cowOk cs us ts = true := by
 rw [(fr_len h).1] at h2
 exact co_yes h h1 (h2 0 (by omega) (by omega)) (h2 1 (by omega) (by omega)) h4 hu hi
theorem co_ok {cs us ts : List (List L)} (q : cowOk cs us ts = true) : framesOk cs us = true /\ ts.length = 2 /\ tableOk (gsI ts 0 0) cs.length = true /\ tableOk (gsI ts 1 0) cs.length = true /\ (gsI ts 0 0).length = (gsI ts 1 0).length /\ ∀ i : Int, 0 <= i -> i < cs.length -> gbI us i 0 = (mapsB (gsI ts 0 0) i || mapsB (gsI ts 1 0) i) := by
 unfold cowOk at q; simp only [Bool.and_eq_true, decide_eq_true_eq] at q
 refine ⟨q.1.1.1.1.1, q.1.1.1.1.2, q.1.1.1.2, q.1.1.2, q.1.2, fun i h0 h1 => ?_⟩
 have := allI_t.1 q.2 i h0 h1
 unfold fitOk at this; simpa using this
end Go.V