/-
  Plain facts about rows, pages, slots and heaps.
-/import Derived.Test.YticfhgfgobafbaaGreatVE
set_option linter.all false
namespace Go.V
theorem ihas {n : Int} (h : IntKind.has .i64 n) : -9223372036854775808 <= n /\ n <= 9223372036854775807 := h
theorem up64 {i : Int} (h0 : 0 <= i) (h1 : i < 9223372036854775807) : arI .add .i64 i 1 = i + 1 := add64 (by omega)
def inR (x a b : Int) : Bool := decide (a <= x) && decide (x <= b)
theorem inR_t {x a b : Int} : inR x a b = true ↔ a <= x /\ x <= b := by simp [inR]
theorem inR_f {x a b : Int} : inR x a b = false ↔ x < a \/ b < x := by
 cases h : inR x a b
 ·simp only [true_iff]; unfold inR at h; simp only [Bool.and_eq_false_iff, decide_eq_false_iff_not] at h; omega
 ·rw [inR_t] at h; constructor
  ·intro q; cases q
  ·omega
def allI (p : Int -> Bool) (n : Nat) : Bool := (List.range n).all fun j => p (j : Int)
def upto (p : Int -> Bool) (i : Int) : Prop := ∀ j : Int, 0 <= j -> j < i -> p j = true
theorem upto_z {p : Int -> Bool} : upto p 0 := fun j h0 h1 => absurd h1 (by omega)
theorem upto_s {p : Int -> Bool} {i : Int} (h : upto p i) (hp : p i = true) : upto p (i + 1) := fun j h0 h1 => by
 by_cases q : j = i
 ·subst q; exact hp
 ·exact h j h0 (by omega)
theorem allI_t {p : Int -> Bool} {n : Nat} : allI p n = true ↔ upto p n := by
 simp only [allI, List.all_eq_true, List.mem_range]
 exact ⟨fun h j h0 h1 => by have := h j.toNat (by omega); rwa [Int.toNat_of_nonneg h0] at this, fun h x hx => h x (by omega) (by omega)⟩
theorem allI_of {p : Int -> Bool} {n : Nat} {i : Int} (h : upto p i) (hi : (n : Int) <= i) : allI p n = true := allI_t.2 fun j h0 h1 => h j h0 (by omega)
theorem allI_f {p : Int -> Bool} {n : Nat} {i : Int} (h0 : 0 <= i) (h : i < n) (hp : p i = false) : allI p n = false := by
 cases q : allI p n
 ·rfl
 ·rw [allI_t.1 q i h0 h] at hp; cases hp
theorem b_iff {a b : Bool} (h : a = true ↔ b = true) : a = b := by cases a <;> cases b <;> simp_all
theorem db_eq {a b : Bool} (h : a = b) : [DV.one (.v (.bool a))] = [DV.one (.v (.bool b))] := by rw [h]
def cellOk (cs us : List (List L)) (i k : Int) : Bool := inR (giI (gsI cs i 0) k 0) 0 999 && (gbI us i 0 || decide (giI (gsI cs i 0) k 0 = 0))
def frameOk (cs us : List (List L)) (i : Int) : Bool := decide ((gsI cs i 0).length = 16) && allI (cellOk cs us i) 16
def framesOk (cs us : List (List L)) : Bool := inR cs.length 1 32 && decide (us.length = cs.length) && allI (frameOk cs us) cs.length
def entOk (es : List (List L)) (fr i : Int) : Bool := inR (giI es i 0) 0 2 && decide (giI es i 0 = 0 -> giI es i 1 = 0) && decide (0 < giI es i 0 -> 0 <= giI es i 1 /\ giI es i 1 < fr)
def tableOk (es : List (List L)) (fr : Int) : Bool := allI (entOk es fr) es.length && inR es.length 1 32
def pgN (es : List (List L)) (f : Int) : Nat -> List (List L)
 | 0 => []
 | n + 1 => if giI es n 0 ≠ 0 /\ giI es n 1 = f then pgN es f n ++ [[.v (.int .i64 n)]] else pgN es f n
def pagesOn (es : List (List L)) (f : Int) : List (List L) := pgN es f es.length
theorem pgN_len {es : List (List L)} {f : Int} : ∀ {n : Nat}, (pgN es f n).length <= n
 | 0 => Nat.zero_le _
 | n + 1 => by
   have := pgN_len (es := es) (f := f) (n := n)
   unfold pgN; split
   ·rw [List.length_append]; simp; omega
   ·omega
theorem pgN_yes {es : List (List L)} {f : Int} {n : Nat} (h0 : giI es n 0 ≠ 0) (h1 : giI es n 1 = f) : pgN es f (n + 1) = pgN es f n ++ [[.v (.int .i64 n)]] := by rw [pgN, if_pos ⟨h0, h1⟩]
theorem pgN_no {es : List (List L)} {f : Int} {n : Nat} (h : giI es n 0 = 0 \/ giI es n 1 ≠ f) : pgN es f (n + 1) = pgN es f n := by rw [pgN, if_neg (by rintro ⟨a, b⟩; rcases h with q | q; exact a q; exact q b)]
theorem pgI_yes {es : List (List L)} {f i : Int} (hi : 0 <= i) (h0 : giI es i 0 ≠ 0) (h1 : giI es i 1 = f) : pgN es f (i + 1).toNat = pgN es f i.toNat ++ [[.v (.int .i64 i)]] := by
 have e : ((i.toNat : Nat) : Int) = i := Int.toNat_of_nonneg hi
 rw [show (i + 1).toNat = i.toNat + 1 from by omega, pgN_yes (by rw [e]; exact h0) (by rw [e]; exact h1), e]
theorem pgI_no {es : List (List L)} {f i : Int} (hi : 0 <= i) (h : giI es i 0 = 0 \/ giI es i 1 ≠ f) : pgN es f (i + 1).toNat = pgN es f i.toNat := by
 have e : ((i.toNat : Nat) : Int) = i := Int.toNat_of_nonneg hi
 rw [show (i + 1).toNat = i.toNat + 1 from by omega, pgN_no (by rw [e]; exact h)]
theorem pages_len {es : List (List L)} {f : Int} : (pagesOn es f).length <= es.length := pgN_len
def mapsB (es : List (List L)) (f : Int) : Bool := decide (0 < (pagesOn es f).length)
theorem mapsB_t {es : List (List L)} {f : Int} : mapsB es f = true ↔ 0 < (pagesOn es f).length := by simp [mapsB]
theorem fr_no1 {cs us : List (List L)} (h : inR cs.length 1 32 = false) : framesOk cs us = false := by unfold framesOk; rw [h]; rfl
theorem fr_no2 {cs us : List (List L)} (h : us.length ≠ cs.length) : framesOk cs us = false := by unfold framesOk; rw [decide_eq_false h]; simp
theorem fr_no3 {cs us : List (List L)} {i : Int} (h0 : 0 <= i) (h1 : i < cs.length) (h : (gsI cs i 0).length ≠ 16) : framesOk cs us = false := by
 unfold framesOk; rw [allI_f h0 h1 (by unfold frameOk; rw [decide_eq_false h]; rfl)]; simp
theorem fr_no4 {cs us : List (List L)} {i k : Int} (h0 : 0 <= i) (h1 : i < cs.length) (k0 : 0 <= k) (k1 : k < 16) (h : inR (giI (gsI cs i 0) k 0) 0 999 = false \/ gbI us i 0 = false /\ giI (gsI cs i 0) k 0 ≠ 0) : framesOk cs us = false := by
 unfold framesOk; rw [allI_f h0 h1 (by unfold frameOk; rw [allI_f k0 (by simpa using k1) (by unfold cellOk; rcases h with q | ⟨q, q'⟩; rw [q]; rfl; rw [q, decide_eq_false q']; simp)]; simp)]; simp
theorem fr_yes {cs us : List (List L)} {i : Int} (h1 : inR cs.length 1 32 = true) (h2 : us.length = cs.length) (h : upto (frameOk cs us) i) (hi : (cs.length : Int) <= i) : framesOk cs us = true := by
 unfold framesOk; rw [h1, decide_eq_true h2, allI_of h hi]; rfl
theorem fr_in {cs us : List (List L)} {i k : Int} (hl : (gsI cs i 0).length = 16) (h : upto (cellOk cs us i) k) (hk : 16 <= k) : frameOk cs us i = true := by
 unfold frameOk; rw [decide_eq_true hl, allI_of h (by simpa using hk)]; rfl
theorem ce_in {cs us : List (List L)} {i k : Int} (h : inR (giI (gsI cs i 0) k 0) 0 999 = true) (h' : gbI us i 0 = true \/ giI (gsI cs i 0) k 0 = 0) : cellOk cs us i k = true := by
 unfold cellOk; rw [h]; rcases h' with q | q
 ·rw [q]; rfl
 ·rw [decide_eq_true q]; simp
theorem row_eq {k : Nat} {a b : List (List L)} (h : a = b) : [DV.one (.s k a)] = [DV.one (.s k b)] := by rw [h]
theorem tb_no {es : List (List L)} {n i : Int} (h0 : 0 <= i) (h1 : i < es.length) (h : ¬ (0 <= giI es i 0 /\ giI es i 0 <= 2 /\ (giI es i 0 = 0 -> giI es i 1 = 0) /\ (0 < giI es i 0 -> 0 <= giI es i 1 /\ giI es i 1 < n))) : tableOk es n = false := by
 unfold tableOk; rw [allI_f h0 h1]; rfl
 cases q : entOk es n i
 ·rfl
 ·refine absurd ?_ h
  unfold entOk at q; simp only [Bool.and_eq_true, decide_eq_true_eq, inR_t] at q
  exact ⟨q.1.1.1, q.1.1.2, q.1.2, q.2⟩
theorem tb_in {es : List (List L)} {n i : Int} (h : 0 <= giI es i 0 /\ giI es i 0 <= 2 /\ (giI es i 0 = 0 -> giI es i 1 = 0) /\ (0 < giI es i 0 -> 0 <= giI es i 1 /\ giI es i 1 < n)) : entOk es n i = true := by
 unfold entOk; simp only [Bool.and_eq_true, decide_eq_true_eq, inR_t]
 exact ⟨⟨⟨h.1, h.2.1⟩, h.2.2.1⟩, h.2.2.2⟩
theorem tb_yes {es : List (List L)} {n i : Int} (h : upto (entOk es n) i) (hi : (es.length : Int) <= i) : tableOk es n = inR es.length 1 32 := by unfold tableOk; rw [allI_of h hi]; rfl
theorem tb_len {es : List (List L)} {n : Int} (h : tableOk es n = true) : 1 <= es.length /\ es.length <= 32 := by
 unfold tableOk at h; simp only [Bool.and_eq_true, inR_t] at h; omega
theorem fr_len {cs us : List (List L)} (h : framesOk cs us = true) : us.length = cs.length /\ 1 <= cs.length /\ cs.length <= 32 := by
 unfold framesOk at h; simp only [Bool.and_eq_true, decide_eq_true_eq, inR_t] at h; omega
end Go.V
namespace Go.V
theorem quo64 {a n : Int} (h0 : 0 <= a) (h1 : a <= 9223372036854775807) (hn : 0 < n) : arI .quo .i64 a n = a / n := by
 show IntKind.wrap .i64 (a.tdiv n) = _
 rw [Int.tdiv_eq_ediv_of_nonneg h0]
 have h2 : 0 <= a / n := Int.ediv_nonneg h0 (by omega)
 have h3 : a / n <= a := Int.ediv_le_self _ h0
 exact IntWalk.i64_in _ (by omega)
theorem rem64 {a n : Int} (h0 : 0 <= a) : arI .rem .i64 a n = a % n := Int.tmod_eq_emod_of_nonneg h0
theorem len_pos {a : List (List L)} {f : Int} : cmpI .gtr (pagesOn a f).length 0 = mapsB a f := b_iff (by rw [mapsB_t]; simp only [SS]; omega)
theorem ag_eq {a b a' b' : Int} (h : a = a') (h' : b = b') : [DV.agg [.v (.int .i64 a), .v (.int .i64 b)]] = [DV.agg [.v (.int .i64 a'), .v (.int .i64 b')]] := by rw [h, h']
theorem dd_eq {a b a' b' : Int} (h : a = a') (h' : b = b') : [DV.one (.v (.int .i64 a)), DV.one (.v (.int .i64 b))] = [DV.one (.v (.int .i64 a')), DV.one (.v (.int .i64 b'))] := by rw [h, h']
theorem di_eq {a b : Int} (h : a = b) : [DV.one (.v (.int .i64 a))] = [DV.one (.v (.int .i64 b))] := by rw [h]
def peM (es : List (List L)) (p : Int) : Int := if 0 <= p /\ p < es.length then giI es p 0 else 0
def peF (es : List (List L)) (p : Int) : Int := if 0 <= p /\ p < es.length then giI es p 1 else 0
theorem pe_yes {es : List (List L)} {p : Int} (h : 0 <= p /\ p < es.length) : peM es p = giI es p 0 /\ peF es p = giI es p 1 := by unfold peM peF; rw [if_pos h, if_pos h]; exact ⟨rfl, rfl⟩
theorem pe_no {es : List (List L)} {p : Int} (h : ¬ (0 <= p /\ p < es.length)) : peM es p = 0 /\ peF es p = 0 := by unfold peM peF; rw [if_neg h, if_neg h]; exact ⟨rfl, rfl⟩
end Go.V
namespace Go.V
theorem len_cnt {es : List (List L)} : es.length <= cntE es := Nat.le_add_right _ _
def machIn (us es : List (List L)) (i : Int) : Bool := gbI us i 0 == mapsB es i
def machOk (cs us es : List (List L)) : Bool := framesOk cs us && tableOk es cs.length && allI (machIn us es) cs.length
theorem mc_no {cs us es : List (List L)} (h : framesOk cs us = false \/ tableOk es cs.length = false) : machOk cs us es = false := by
 unfold machOk; rcases h with h | h <;> rw [h] <;> simp
theorem mc_no2 {cs us es : List (List L)} (hf : framesOk cs us = true) (h : tableOk es us.length = false) : machOk cs us es = false := by
 rw [(fr_len hf).1] at h; exact mc_no (.inr h)
theorem mc_no3 {cs us es : List (List L)} {i : Int} (h0 : 0 <= i) (h1 : i < cs.length) (h : gbI us i 0 ≠ mapsB es i) : machOk cs us es = false := by
 unfold machOk; rw [allI_f h0 h1 (by unfold machIn; simpa using h)]; simp
theorem mc_in {us es : List (List L)} {i : Int} (h : gbI us i 0 = mapsB es i) : machIn us es i = true := by unfold machIn; simpa using h
theorem mc_yes {cs us es : List (List L)} {i : Int} (h : framesOk cs us = true) (h2 : tableOk es us.length = true) (hu : upto (machIn us es) i) (hi : (us.length : Int) <= i) : machOk cs us es = true := by
 rw [(fr_len h).1] at h2 hi
 unfold machOk; rw [h, h2, allI_of hu hi]; rfl
theorem cnt_mem : ∀ {rs : List (List (List L))} {r : List (List L)} {n : Nat}, cntRs rs <= n -> r ∈ rs -> cntE r <= n
 | a :: rs, r, n, h, hr => by
   simp only [cntRs] at h
   rcases List.mem_cons.1 hr with rfl | q
   ·omega
   ·exact cnt_mem (rs := rs) (by omega) q
end Go.V
namespace Go.V
end Go.V
namespace Go.V
def clsSz (k : Int) : Int := if k = 0 then 1 else if k = 1 then 2 else if k = 2 then 4 else if k = 3 then 8 else 0
def clsOf (s : Int) : Int := if s < 1 then -1 else if s <= 1 then 0 else if s <= 2 then 1 else if s <= 4 then 2 else if s <= 8 then 3 else -1
theorem cs_no {k : Int} (h : inR k 0 3 = false) : clsSz k = 0 := by rw [inR_f] at h; unfold clsSz; repeat' split <;> omega
theorem cs_sh {k : Int} (h : inR k 0 3 = true) : shI .shl .i64 1 k = clsSz k := by
 rw [inR_t] at h
 rcases (show k = 0 \/ k = 1 \/ k = 2 \/ k = 3 by omega) with rfl | rfl | rfl | rfl <;> decide
theorem cs_wr {k : Int} (h : inR k 0 3 = true) : wrI .u64 k = k := by
 rw [inR_t] at h
 rcases (show k = 0 \/ k = 1 \/ k = 2 \/ k = 3 by omega) with rfl | rfl | rfl | rfl <;> decide
theorem cs_up {k s : Int} (h0 : 0 <= k /\ k <= 3) (h : clsSz k < s) (hs : 1 <= s /\ s <= 8) : k + 1 <= 3 := by
 rcases (show k = 0 \/ k = 1 \/ k = 2 \/ k = 3 by omega) with rfl | rfl | rfl | rfl <;> simp [clsSz] at h <;> omega
theorem cl_no {s : Int} (h : s < 1 \/ 8 < s) : clsOf s = -1 := by unfold clsOf; repeat' split <;> omega
theorem cl_yes {k s : Int} (h0 : 0 <= k /\ k <= 3) (h : s <= clsSz k) (hs : 1 <= s /\ s <= 8) (hp : k = 0 \/ clsSz (k - 1) < s) : clsOf s = k := by
 rcases (show k = 0 \/ k = 1 \/ k = 2 \/ k = 3 by omega) with rfl | rfl | rfl | rfl <;> simp [clsSz] at h hp <;> unfold clsOf <;> repeat' split <;> omega
end Go.V
namespace Go.V
theorem pi_row {l : List (List L)} {i : Int} (h0 : 0 <= i) : piI (.s 1 l) [(i.toNat, 0)] = giI l i 0 := by
 rw [pi_one]; unfold giI; rw [Int.toNat_natCast]
end Go.V
namespace Go.V
theorem pgN_mem {es : List (List L)} {f : Int} : ∀ {n : Nat} {e : (List L)}, e ∈ pgN es f n -> ∃ k : Nat, k < n /\ e = [.v (.int .i64 k)]
 | 0, e, h => by cases h
 | n + 1, e, h => by
   unfold pgN at h; split at h
   ·rcases List.mem_append.1 h with q | q
    ·obtain ⟨k, hk, e⟩ := pgN_mem q; exact ⟨k, by omega, e⟩
    ·rw [List.mem_singleton] at q; exact ⟨n, by omega, q⟩
   ·obtain ⟨k, hk, e⟩ := pgN_mem h; exact ⟨k, by omega, e⟩
theorem pages_rw {es : List (List L)} {f : Int} (h : es.length <= 1099511627776) : Rw [tI] (pagesOn es f) := by
 have hl := pages_len (es := es) (f := f)
 refine ⟨by simp [maxLen]; omega, fun e he => ?_⟩
 obtain ⟨k, hk, rfl⟩ := pgN_mem he
 exact ⟨⟨rfl, (show -9223372036854775808 <= (k : Int) /\ (k : Int) <= 9223372036854775807 by omega)⟩, trivial⟩
end Go.V
namespace Go.V
def firstI (p : Int -> Bool) (n : Nat) : Int := match (List.range n).find? (fun j : Nat => p (j : Int)) with
 | some j => (j : Int)
 | none => -1
def notB (p : Int -> Bool) (j : Int) : Bool := !p j
theorem notB_f {p : Int -> Bool} {i : Int} (h : p i = false) : notB p i = true := by unfold notB; rw [h]; rfl
theorem first_at {p : Int -> Bool} {n : Nat} {i : Int} (h : upto (notB p) i) (h0 : 0 <= i) (h1 : i < n) (h2 : p i = true) : firstI p n = i := by
 have e : ((i.toNat : Nat) : Int) = i := Int.toNat_of_nonneg h0
 have : (List.range n).find? (fun j : Nat => p (j : Int)) = some i.toNat := by
  rw [List.find?_range_eq_some]
  refine ⟨by rw [e]; exact h2, List.mem_range.2 (by omega), fun j hj => ?_⟩
  exact h j (by omega) (by omega)
 unfold firstI; rw [this]; exact e
theorem first_no {p : Int -> Bool} {n : Nat} {i : Int} (h : upto (notB p) i) (h1 : (n : Int) <= i) : firstI p n = -1 := by
 have : (List.range n).find? (fun j : Nat => p (j : Int)) = none := by
  rw [List.find?_range_eq_none]
  intro j hj
  exact h j (by omega) (by omega)
 unfold firstI; rw [this]
theorem first_bd {p : Int -> Bool} {n : Nat} : firstI p n = -1 \/ 0 <= firstI p n /\ firstI p n < n := by
 unfold firstI
 split
 ·rename_i j h
  rw [List.find?_range_eq_some] at h
  have := List.mem_range.1 h.2.1
  omega
 ·exact .inl rfl
def eqB (a b : Int) : Bool := decide (a = b)
theorem eqB_t {a b : Int} (h : a = b) : eqB a b = true := decide_eq_true h
theorem eqB_f {a b : Int} (h : a ≠ b) : eqB a b = false := decide_eq_false h
end Go.V
namespace Go.V
def isOb (os : List (List L)) (a j : Int) : Bool := eqB (giI os j 1) a
def obI (os : List (List L)) (a : Int) : Int := firstI (isOb os a) os.length
def isSp (ss : List (List L)) (p j : Int) : Bool := eqB (giI ss j 0) p
def spI (ss : List (List L)) (p : Int) : Int := firstI (isSp ss p) ss.length
end Go.V
namespace Go.V
def fpg (es : List (List L)) (p : Int) : List (List L) := if peM es p = 0 then [] else pagesOn es (peF es p)
theorem fpg_no {es : List (List L)} {p : Int} (h : peM es p = 0) : fpg es p = [] := by unfold fpg; rw [if_pos h]
theorem fpg_yes {es : List (List L)} {p : Int} (h : peM es p ≠ 0) : fpg es p = pagesOn es (peF es p) := by unfold fpg; rw [if_neg h]
theorem fpg_rw {es : List (List L)} {p : Int} (h : es.length <= 1099511627776) : Rw [tI] (fpg es p) /\ (fpg es p).length <= 1099511627776 := by
 unfold fpg; split
 ·exact ⟨Rw.nil, by simp⟩
 ·exact ⟨pages_rw h, Nat.le_trans pages_len h⟩
def isX (l : List (List L)) (x j : Int) : Bool := eqB x (giI l j 0)
def idxI (l : List (List L)) (x : Int) : Int := firstI (isX l x) l.length
def hasB (l : List (List L)) (x : Int) : Bool := decide (0 <= idxI l x)
theorem has_t {l : List (List L)} {x : Int} : hasB l x = true ↔ ∃ k : Nat, k < l.length /\ giI l k 0 = x := by
 unfold hasB idxI
 rw [decide_eq_true_eq]
 constructor
 ·intro h
  unfold firstI at h
  split at h
  ·rename_i j hj
   rw [List.find?_range_eq_some] at hj
   refine ⟨j, List.mem_range.1 hj.2.1, ?_⟩
   have := hj.1
   unfold isX eqB at this
   exact (of_decide_eq_true this).symm
  ·omega
 ·rintro ⟨k, hk, e⟩
  rcases first_bd (p := isX l x) (n := l.length) with q | q
  ·exfalso
   unfold firstI at q
   split at q
   ·omega
   ·rename_i hn
    rw [List.find?_range_eq_none] at hn
    have := hn k hk
    unfold isX eqB at this
    rw [e] at this; simp at this
  ·exact q.1
end Go.V
namespace Go.V
def slB (b i : Int) : Bool := decide (0 <= b) && inR i 0 15
def hsB (b i : Int) : Bool := slB b i && decide (arI .and .i64 (shI .shr .i64 b i) 1 = 1)
theorem sl_t {b i : Int} : slB b i = true ↔ 0 <= b /\ 0 <= i /\ i <= 15 := by simp [slB, inR]
theorem hs_no {b i : Int} (h : slB b i = false) : hsB b i = false := by unfold hsB; rw [h]; rfl
theorem hs_yes {b i : Int} (h : slB b i = true) (q : arI .and .i64 (shI .shr .i64 b i) 1 = 1) : hsB b i = true := by unfold hsB; rw [h, decide_eq_true q]; rfl
theorem hs_not {b i : Int} (q : arI .and .i64 (shI .shr .i64 b i) 1 ≠ 1) : hsB b i = false := by unfold hsB; rw [decide_eq_false q]; simp
theorem wr_small {i : Int} (h0 : 0 <= i) (h1 : i <= 15) : wrI .u64 i = i := by
 show IntKind.wrap .u64 i = i
 simp only [IntKind.wrap, IntKind.bits, IntKind.signed, Bool.false_and]
 rw [if_neg (by simp)]; omega
end Go.V
namespace Go.V
def nonN (rs : List (List L)) (i : Int) : Bool := decide (0 <= giI rs i 0)
def refOk (rs : List (List L)) : Bool := allI (nonN rs) rs.length && decide (rs.length <= 40)
def kerOk (cs us es : List (List L)) (c : Int) (rs : List (List L)) : Bool := machOk cs us es && inR c 0 100000 && refOk rs
theorem ref_in {rs : List (List L)} {i : Int} (h : 0 <= giI rs i 0) : nonN rs i = true := decide_eq_true h
theorem ref_no {cs us es rs : List (List L)} {c i : Int} (h0 : 0 <= i) (h1 : i < rs.length) (h : giI rs i 0 < 0) : kerOk cs us es c rs = false := by
 unfold kerOk refOk; rw [allI_f h0 h1 (by unfold nonN; exact decide_eq_false (by omega))]; simp
theorem ref_yes {rs : List (List L)} {i : Int} (h : upto (nonN rs) i) (hi : (rs.length : Int) <= i) (hl : (rs.length : Int) <= 40) : refOk rs = true := by
 unfold refOk; rw [allI_of h hi, decide_eq_true (by omega)]; rfl
theorem ref_no2 {rs : List (List L)} (hl : ¬ (rs.length : Int) <= 40) : refOk rs = false := by
 unfold refOk; rw [decide_eq_false (by omega)]; simp
theorem ker_yes {cs us es rs : List (List L)} {c : Int} (h1 : machOk cs us es = true) (h2 : inR c 0 100000 = true) (h3 : refOk rs = true) : kerOk cs us es c rs = true := by unfold kerOk; rw [h1, h2, h3]; rfl
theorem ker_no1 {cs us es rs : List (List L)} {c : Int} (h1 : machOk cs us es = false) : kerOk cs us es c rs = false := by unfold kerOk; rw [h1]; rfl
theorem ker_no2 {cs us es rs : List (List L)} {c : Int} (h1 : inR c 0 100000 = false) : kerOk cs us es c rs = false := by unfold kerOk; rw [h1]; simp
theorem ker_no3 {cs us es rs : List (List L)} {c : Int} (h1 : refOk rs = false) : kerOk cs us es c rs = false := by unfold kerOk; rw [h1]; simp
end Go.V
namespace Go.V
def slN (k : Int) : Int := if inR k 0 3 = true then 16 / clsSz k else 0
theorem cls4 {k : Int} (h : inR k 0 3 = true) : k = 0 \/ k = 1 \/ k = 2 \/ k = 3 := by have := inR_t.1 h; omega
theorem cls_b {k : Int} (h : inR k 0 3 = true) : 1 <= clsSz k /\ clsSz k <= 8 /\ 2 <= slN k /\ slN k <= 16 /\ slN k * clsSz k = 16 := by
 rcases cls4 h with rfl | rfl | rfl | rfl <;> decide
theorem slN_impl {k : Int} (h : inR k 0 3 = true) : arI .quo .i64 16 (clsSz k) = slN k := by
 rcases cls4 h with rfl | rfl | rfl | rfl <;> decide
theorem slN_spec {k : Int} (h : inR k 0 3 = true) : shI .shr .i64 16 (wrI .u64 k) = slN k := by
 rcases cls4 h with rfl | rfl | rfl | rfl <;> decide
theorem slN_no {k : Int} (h : inR k 0 3 = false) : slN k = 0 := by unfold slN; rw [h]; rfl
def bmOk (n b : Int) : Bool := inR n 1 16 && inR b 0 (2 ^ n.toNat - 1)
theorem shl16 {n : Int} (h : inR n 1 16 = true) : arI .sub .i64 (shI .shl .i64 1 n) 1 = 2 ^ n.toNat - 1 /\ arI .sub .i64 (shI .shl .i64 1 (wrI .u64 n)) 1 = 2 ^ n.toNat - 1 /\ 0 <= wrI .u64 n := by
 have q := inR_t.1 h
 have : n = 1 \/ n = 2 \/ n = 3 \/ n = 4 \/ n = 5 \/ n = 6 \/ n = 7 \/ n = 8 \/ n = 9 \/ n = 10 \/ n = 11 \/ n = 12 \/ n = 13 \/ n = 14 \/ n = 15 \/ n = 16 := by omega
 rcases this with rfl | rfl | rfl | rfl | rfl | rfl | rfl | rfl | rfl | rfl | rfl | rfl | rfl | rfl | rfl | rfl <;> decide
theorem bm_no {n b : Int} (h : inR n 1 16 = false) : bmOk n b = false := by unfold bmOk; rw [h]; rfl
theorem bm_yes {n b : Int} (h : inR n 1 16 = true) : bmOk n b = inR b 0 (2 ^ n.toNat - 1) := by unfold bmOk; rw [h]; rfl
def spOk (p k b : Int) : Bool := inR p 0 31 && bmOk (slN k) b
theorem bm_cls {k b : Int} (h : inR k 0 3 = false) : bmOk (slN k) b = false := by rw [slN_no h]; rfl
theorem sp_no1 {p k b : Int} (h : inR p 0 31 = false) : spOk p k b = false := by unfold spOk; rw [h]; rfl
theorem sp_no2 {p k b : Int} (h : inR k 0 3 = false) : spOk p k b = false := by unfold spOk; rw [bm_cls h, Bool.and_false]
theorem sp_yes {p k b : Int} (h : inR p 0 31 = true) : spOk p k b = bmOk (slN k) b := by unfold spOk; rw [h]; rfl
theorem sp_t {p k b : Int} (h : spOk p k b = true) : 0 <= p /\ p <= 31 /\ inR k 0 3 = true /\ bmOk (slN k) b = true := by
 unfold spOk at h; simp only [Bool.and_eq_true, inR_t] at h
 refine ⟨h.1.1, h.1.2, ?_, h.2⟩
 cases q : inR k 0 3
 ·rw [bm_cls q] at h; exact absurd h.2 (by decide)
 ·rfl
def pfN (s : Int) : Int := if inR s 9 1000 = true then (s + 15) / 16 else 0
theorem pf_yes {s : Int} (h : inR s 9 1000 = true) : arI .quo .i64 (arI .sub .i64 (arI .add .i64 s 16) 1) 16 = pfN s := by
 have q := inR_t.1 h
 have e1 : arI .add .i64 s 16 = s + 16 := add64 (by omega)
 have e2 : arI .sub .i64 (s + 16) 1 = s + 16 - 1 := sub64 (by omega)
 unfold pfN; rw [if_pos h, e1, e2, quo64 (by omega) (by omega) (by omega), show s + 16 - 1 = s + 15 from by omega]
theorem pf_no {s : Int} (h : inR s 9 1000 = false) : pfN s = 0 := by unfold pfN; rw [h]; rfl
theorem pf_b {s : Int} (h : inR s 9 1000 = true) : 1 <= pfN s /\ pfN s <= 63 /\ s <= pfN s * 16 := by
 have q := inR_t.1 h
 unfold pfN; rw [if_pos h]; omega
theorem pf_pos {s : Int} : 0 < pfN s ↔ inR s 9 1000 = true := by
 constructor
 ·intro h
  cases q : inR s 9 1000
  ·rw [pf_no q] at h; omega
  ·rfl
 ·intro h; have := pf_b h; omega
def lgOk (p n s : Int) : Bool := inR s 9 1000 && (decide (n = pfN s) && inR p 0 (32 - n))
theorem lg_no1 {p n s : Int} (h : inR s 9 1000 = false) : lgOk p n s = false := by unfold lgOk; rw [h]; rfl
theorem lg_no2 {p n s : Int} (h : n ≠ pfN s) : lgOk p n s = false := by unfold lgOk; rw [decide_eq_false h]; simp
theorem lg_yes {p n s : Int} (h : inR s 9 1000 = true) (h2 : n = pfN s) : lgOk p n s = inR p 0 (32 - n) := by unfold lgOk; rw [h, decide_eq_true h2]; rfl
theorem lg_t {p n s : Int} (h : lgOk p n s = true) : inR s 9 1000 = true /\ n = pfN s /\ 0 <= p /\ p <= 32 - n := by
 unfold lgOk at h; simp only [Bool.and_eq_true, decide_eq_true_eq, inR_t] at h
 exact ⟨inR_t.2 h.1, h.2.1, h.2.2⟩
def saB (p k b a : Int) : Bool := spOk p k b && inR a (p * 16) (p * 16 + 15)
def saS (p k b a : Int) : Int := if saB p k b a = true then (a - p * 16) / clsSz k else -1
def saO (p k b a : Int) : Int := if saB p k b a = true then (a - p * 16) % clsSz k else -1
theorem sa_no {p k b a : Int} (h : saB p k b a = false) : saS p k b a = -1 /\ saO p k b a = -1 := by unfold saS saO; rw [h]; exact ⟨rfl, rfl⟩
theorem sa_yes {p k b a : Int} (h : saB p k b a = true) : saS p k b a = (a - p * 16) / clsSz k /\ saO p k b a = (a - p * 16) % clsSz k := by unfold saS saO; rw [if_pos h, if_pos h]; exact ⟨rfl, rfl⟩
theorem sa_t {p k b a : Int} : saB p k b a = true ↔ spOk p k b = true /\ p * 16 <= a /\ a <= p * 16 + 15 := by unfold saB; rw [Bool.and_eq_true, inR_t]
def aaB (p k b s : Int) : Bool := spOk p k b && inR s 0 (slN k - 1)
def aaI (p k b s : Int) : Int := if aaB p k b s = true then p * 16 + s * clsSz k else -1
def lhB (p n s a : Int) : Bool := lgOk p n s && inR a (p * 16) (p * 16 + s - 1)
def loI (p n s a : Int) : Int := if lhB p n s a = true then a - p * 16 else -1
theorem lh_no1 {p n s a : Int} (h : lgOk p n s = false) : lhB p n s a = false := by unfold lhB; rw [h]; rfl
theorem lh_yes {p n s a : Int} (h : lgOk p n s = true) : lhB p n s a = inR a (p * 16) (p * 16 + s - 1) := by unfold lhB; rw [h]; rfl
theorem lo_no {p n s a : Int} (h : lhB p n s a = false) : loI p n s a = -1 := by unfold loI; rw [h]; rfl
theorem lo_yes {p n s a : Int} (h : lhB p n s a = true) : loI p n s a = a - p * 16 := by unfold loI; rw [if_pos h]
theorem mulI64 {a b : Int} (h : -9223372036854775808 <= a * b /\ a * b <= 9223372036854775807) : arI .mul .i64 a b = a * b := IntWalk.i64_in _ h
theorem pg16 {p : Int} (h : 0 <= p /\ p <= 31) : arI .mul .i64 p 16 = p * 16 /\ arI .sub .i64 (arI .add .i64 (p * 16) 16) 1 = p * 16 + 15 := by
 have e1 : arI .mul .i64 p 16 = p * 16 := mulI64 (by omega)
 have e2 : arI .add .i64 (p * 16) 16 = p * 16 + 16 := add64 (by omega)
 have e3 : arI .sub .i64 (p * 16 + 16) 1 = p * 16 + 16 - 1 := sub64 (by omega)
 rw [e1, e2, e3]; omega
theorem sa_impl {p k b a : Int} (h : spOk p k b = true) (h1 : inR a (p * 16) (p * 16 + 15) = true) : saS p k b a = arI .quo .i64 (arI .sub .i64 a (p * 16)) (clsSz k) /\ saO p k b a = arI .rem .i64 (arI .sub .i64 a (p * 16)) (clsSz k) := by
 have t := sp_t h
 have q := inR_t.1 h1
 have c := cls_b t.2.2.1
 have y := sa_yes (sa_t.2 ⟨h, q⟩)
 have e : arI .sub .i64 a (p * 16) = a - p * 16 := sub64 (by omega)
 rw [y.1, y.2, e, quo64 (by omega) (by omega) (by omega), rem64 (by omega)]; exact ⟨rfl, rfl⟩
theorem sa_f1 {p k b a : Int} (h : spOk p k b = false) : saB p k b a = false := by unfold saB; rw [h]; rfl
theorem sa_f2 {p k b a : Int} (h : inR a (p * 16) (p * 16 + 15) = false) : saB p k b a = false := by unfold saB; rw [h, Bool.and_false]
theorem sa_spec {p k b a : Int} (h : spOk p k b = true) (h0 : ¬ a < 0) (h1 : arI .quo .i64 a 16 = p) (ha : a <= 9223372036854775807) : saS p k b a = arI .quo .i64 (arI .rem .i64 a 16) (clsSz k) /\ saO p k b a = arI .rem .i64 (arI .rem .i64 a 16) (clsSz k) := by
 have t := sp_t h
 have c := cls_b t.2.2.1
 rw [quo64 (by omega) ha (by omega)] at h1
 have e : arI .rem .i64 a 16 = a % 16 := rem64 (by omega)
 have y := sa_yes (sa_t.2 ⟨h, show p * 16 <= a /\ a <= p * 16 + 15 by omega⟩)
 rw [y.1, y.2, e, quo64 (by omega) (by omega) (by omega), rem64 (by omega), show a - p * 16 = a % 16 by omega]; exact ⟨rfl, rfl⟩
theorem sa_f3 {p k b a : Int} (h0 : a < 0 \/ arI .quo .i64 a 16 ≠ p) (ha : a <= 9223372036854775807) : saB p k b a = false := by
 cases q : saB p k b a
 ·rfl
 ·obtain ⟨h, h1⟩ := sa_t.1 q
  have t := sp_t h
  rcases h0 with h0 | h0
  ·omega
  ·rw [quo64 (by omega) ha (by omega)] at h0; omega
theorem aa_yes {p k b s : Int} (h : spOk p k b = true) (h1 : inR s 0 (slN k - 1) = true) : arI .add .i64 (arI .mul .i64 p 16) (arI .mul .i64 s (clsSz k)) = aaI p k b s := by
 have t := sp_t h
 have c := cls_b t.2.2.1
 have q := inR_t.1 h1
 have m1 : 0 <= s * clsSz k := Int.mul_nonneg q.1 (by omega)
 have m2 : s * clsSz k <= (slN k - 1) * clsSz k := Int.mul_le_mul_of_nonneg_right q.2 (by omega)
 have m3 : (slN k - 1) * clsSz k = 16 - clsSz k := by rw [Int.sub_mul, c.2.2.2.2, Int.one_mul]
 have e : arI .mul .i64 s (clsSz k) = s * clsSz k := mulI64 (by omega)
 rw [(pg16 ⟨t.1, t.2.1⟩).1, e]
 unfold aaI aaB; rw [h, h1]
 exact add64 (by omega)
theorem aa_no {p k b s : Int} (h : spOk p k b = false \/ inR s 0 (slN k - 1) = false) : aaI p k b s = -1 := by
 unfold aaI aaB
 rcases h with h | h
 ·rw [h]; rfl
 ·rw [h, Bool.and_false]; rfl
theorem lh_ar {p n s : Int} (h : lgOk p n s = true) : arI .mul .i64 p 16 = p * 16 /\ arI .add .i64 (arI .mul .i64 p 16) s = p * 16 + s /\ arI .sub .i64 (arI .add .i64 (arI .mul .i64 p 16) s) 1 = p * 16 + s - 1 := by
 have t := lg_t h
 have b := pf_b t.1
 have q := inR_t.1 t.1
 have e1 : arI .mul .i64 p 16 = p * 16 := mulI64 (by omega)
 have e2 : arI .add .i64 (p * 16) s = p * 16 + s := add64 (by omega)
 have e3 : arI .sub .i64 (p * 16 + s) 1 = p * 16 + s - 1 := sub64 (by omega)
 rw [e1, e2, e3]; exact ⟨rfl, rfl, rfl⟩
theorem lh_t {p n s a : Int} : lhB p n s a = true ↔ lgOk p n s = true /\ p * 16 <= a /\ a <= p * 16 + s - 1 := by unfold lhB; rw [Bool.and_eq_true, inR_t]
theorem lo_ar {p n s a : Int} (h : lhB p n s a = true) : arI .sub .i64 a (arI .mul .i64 p 16) = loI p n s a := by
 obtain ⟨h1, h2, h3⟩ := lh_t.1 h
 have t := lg_t h1
 have b := pf_b t.1
 have q := inR_t.1 t.1
 rw [(lh_ar h1).1, lo_yes h]
 exact sub64 (by omega)
end Go.V
namespace Go.V
def rwL (l : List Int) : List (List L) := l.map fun x => [.v (.int .i64 x)]
theorem rwL_len {l : List Int} : (rwL l).length = l.length := by unfold rwL; rw [List.length_map]
theorem rwL_app {a b : List Int} : rwL (a ++ b) = rwL a ++ rwL b := by unfold rwL; rw [List.map_append]
theorem rwL_gi {l : List Int} {k : Nat} (h : k < l.length) : giI (rwL l) k 0 = l[k] := by
 have e : (rwL l).getD k [] = [.v (.int .i64 l[k])] := by
  unfold rwL; rw [List.getD_eq_getElem?_getD, List.getElem?_map, List.getElem?_eq_getElem h]; rfl
 unfold giI
 rw [Int.toNat_natCast, e]; rfl
theorem has_rwL {l : List Int} {x : Int} : hasB (rwL l) x = true ↔ x ∈ l := by
 rw [has_t]
 constructor
 ·rintro ⟨k, hk, e⟩
  rw [rwL_len] at hk
  rw [rwL_gi hk] at e
  rw [<- e]; exact List.getElem_mem hk
 ·intro h
  obtain ⟨k, hk, e⟩ := List.getElem_of_mem h
  exact ⟨k, by rw [rwL_len]; exact hk, by rw [rwL_gi hk]; exact e⟩
theorem has_rwF {l : List Int} {x : Int} (h : hasB (rwL l) x = false) : x ∉ l := fun m => by rw [has_rwL.2 m] at h; cases h
theorem rwL_rw {l : List Int} (h : ∀ x ∈ l, -9223372036854775808 <= x /\ x <= 9223372036854775807) (hl : l.length <= 70368744177664) : Rw [tI] (rwL l) := by
 refine ⟨by rw [rwL_len]; unfold maxLen; omega, fun e he => ?_⟩
 obtain ⟨x, hx, rfl⟩ := List.mem_map.1 he
 have q := h x hx
 exact ⟨⟨rfl, by show -9223372036854775808 <= x /\ x <= (9223372036854775807 : Int); exact q⟩, trivial⟩
theorem has_no {l : List (List L)} {x i : Int} (h : upto (notB (isX l x)) i) (hi : (l.length : Int) <= i) : hasB l x = false := by
 unfold hasB idxI; rw [first_no h hi]; rfl
def spA (sp : List (List L)) (i : Int) : Bool := spOk (giI sp i 0) (giI sp i 1) (giI sp i 2)
def lgA (lg : List (List L)) (i : Int) : Bool := lgOk (giI lg i 0) (giI lg i 1) (giI lg i 2)
def spP (sp : List (List L)) : Nat -> List Int
 | 0 => []
 | n + 1 => spP sp n ++ [giI sp n 0]
def ptP (p : Int) : Nat -> List Int
 | 0 => []
 | n + 1 => ptP p n ++ [p + n]
def lgP (lg : List (List L)) : Nat -> List Int
 | 0 => []
 | n + 1 => lgP lg n ++ ptP (giI lg n 0) (giI lg n 1).toNat
def pgL (sp lg : List (List L)) : List Int := spP sp sp.length ++ lgP lg lg.length
def layOk (sp lg : List (List L)) : Bool := (allI (spA sp) sp.length && allI (lgA lg) lg.length) && decide (pgL sp lg).Nodup
theorem spP_up {sp : List (List L)} {i : Int} (h : 0 <= i) : spP sp (i + 1).toNat = spP sp i.toNat ++ [giI sp i 0] := by
 rw [show (i + 1).toNat = i.toNat + 1 from by omega, spP, Int.toNat_of_nonneg h]
theorem lgP_up {lg : List (List L)} {i : Int} (h : 0 <= i) : lgP lg (i + 1).toNat = lgP lg i.toNat ++ ptP (giI lg i 0) (giI lg i 1).toNat := by
 rw [show (i + 1).toNat = i.toNat + 1 from by omega, lgP, Int.toNat_of_nonneg h]
theorem ptP_up {p i : Int} (h : 0 <= i) : ptP p (i + 1).toNat = ptP p i.toNat ++ [p + i] := by
 rw [show (i + 1).toNat = i.toNat + 1 from by omega, ptP, Int.toNat_of_nonneg h]
theorem spP_len {sp : List (List L)} : ∀ {n : Nat}, (spP sp n).length = n
 | 0 => rfl
 | n + 1 => by rw [spP, List.length_append, spP_len]; rfl
theorem ptP_len {p : Int} : ∀ {n : Nat}, (ptP p n).length = n
 | 0 => rfl
 | n + 1 => by rw [ptP, List.length_append, ptP_len]; rfl
theorem spP_pre {sp : List (List L)} : ∀ (m n : Nat), n <= m -> ∃ r, spP sp m = spP sp n ++ r
 | 0, n, h => ⟨[], by rw [show n = 0 by omega]; rfl⟩
 | m + 1, n, h => by
   by_cases c : n = m + 1
   ·subst c; exact ⟨[], by simp⟩
   ·obtain ⟨r, e⟩ := spP_pre (sp := sp) m n (by omega)
    exact ⟨r ++ [giI sp m 0], by rw [spP, e, List.append_assoc]⟩
theorem ptP_pre {p : Int} : ∀ (m n : Nat), n <= m -> ∃ r, ptP p m = ptP p n ++ r
 | 0, n, h => ⟨[], by rw [show n = 0 by omega]; rfl⟩
 | m + 1, n, h => by
   by_cases c : n = m + 1
   ·subst c; exact ⟨[], by simp⟩
   ·obtain ⟨r, e⟩ := ptP_pre (p := p) m n (by omega)
    exact ⟨r ++ [p + m], by rw [ptP, e, List.append_assoc]⟩
theorem lgP_pre {lg : List (List L)} : ∀ (m n : Nat), n <= m -> ∃ r, lgP lg m = lgP lg n ++ r
 | 0, n, h => ⟨[], by rw [show n = 0 by omega]; rfl⟩
 | m + 1, n, h => by
   by_cases c : n = m + 1
   ·subst c; exact ⟨[], by simp⟩
   ·obtain ⟨r, e⟩ := lgP_pre (lg := lg) m n (by omega)
    exact ⟨r ++ ptP (giI lg m 0) (giI lg m 1).toNat, by rw [lgP, e, List.append_assoc]⟩
theorem dup {a b l : List Int} {x : Int} (h : l = a ++ x :: b) (hm : x ∈ a) : ¬ l.Nodup := by
 rw [h, List.nodup_append]
 rintro ⟨_, _, q⟩
 exact q x hm x (by simp) rfl
theorem nd_snoc {a : List Int} {x : Int} (h : a.Nodup) (hx : x ∉ a) : (a ++ [x]).Nodup := by
 rw [List.nodup_append]
 exact ⟨h, by simp, fun y hy z hz e => by simp at hz; subst hz; subst e; exact hx hy⟩
theorem lay_no1 {sp lg : List (List L)} {i : Int} (h0 : 0 <= i) (h1 : i < sp.length) (h : spOk (giI sp i 0) (giI sp i 1) (giI sp i 2) = false) : layOk sp lg = false := by
 unfold layOk; rw [allI_f h0 h1 h]; rfl
theorem lay_no2 {sp lg : List (List L)} {i : Int} (h0 : 0 <= i) (h1 : i < lg.length) (h : lgOk (giI lg i 0) (giI lg i 1) (giI lg i 2) = false) : layOk sp lg = false := by
 unfold layOk; rw [allI_f (p := lgA lg) h0 h1 h, Bool.and_false]; rfl
theorem lay_no3 {sp lg : List (List L)} {i : Int} (h0 : 0 <= i) (h1 : i < sp.length) (h : giI sp i 0 ∈ spP sp i.toNat) : layOk sp lg = false := by
 obtain ⟨r, e⟩ := spP_pre (sp := sp) sp.length (i + 1).toNat (by omega)
 rw [spP_up h0, List.append_assoc] at e
 have : ¬ (pgL sp lg).Nodup := dup (a := spP sp i.toNat) (b := r ++ lgP lg lg.length) (x := giI sp i 0) (by unfold pgL; rw [e, List.append_assoc]; rfl) h
 unfold layOk; rw [decide_eq_false this, Bool.and_false]
theorem lay_no4 {sp lg : List (List L)} {i k : Int} (h0 : 0 <= i) (h1 : i < lg.length) (k0 : 0 <= k) (k1 : k < giI lg i 1) (h : giI lg i 0 + k ∈ spP sp sp.length ++ lgP lg i.toNat ++ ptP (giI lg i 0) k.toNat) : layOk sp lg = false := by
 obtain ⟨r, e⟩ := lgP_pre (lg := lg) lg.length (i + 1).toNat (by omega)
 obtain ⟨r2, e2⟩ := ptP_pre (p := giI lg i 0) (giI lg i 1).toNat (k + 1).toNat (by omega)
 rw [lgP_up h0, e2, ptP_up k0] at e
 have : ¬ (pgL sp lg).Nodup := dup (a := spP sp sp.length ++ lgP lg i.toNat ++ ptP (giI lg i 0) k.toNat) (b := r2 ++ r) (x := giI lg i 0 + k) (by unfold pgL; rw [e]; simp only [List.append_assoc]; rfl) h
 unfold layOk; rw [decide_eq_false this, Bool.and_false]
theorem lay_yes {sp lg : List (List L)} {i j : Int} (h : upto (spA sp) i) (hi : (sp.length : Int) <= i) (h2 : upto (lgA lg) j) (hj : (lg.length : Int) <= j) (hn : (pgL sp lg).Nodup) : layOk sp lg = true := by
 unfold layOk; rw [allI_of h hi, allI_of h2 hj, decide_eq_true hn]; rfl
theorem lay_t {sp lg : List (List L)} (h : layOk sp lg = true) : (∀ i : Int, 0 <= i -> i < sp.length -> spOk (giI sp i 0) (giI sp i 1) (giI sp i 2) = true) /\ (∀ i : Int, 0 <= i -> i < lg.length -> lgOk (giI lg i 0) (giI lg i 1) (giI lg i 2) = true) /\ (pgL sp lg).Nodup := by
 unfold layOk at h
 simp only [Bool.and_eq_true, decide_eq_true_eq] at h
 exact ⟨allI_t.1 h.1.1, allI_t.1 h.1.2, h.2⟩
def WfB (es : List (List L)) : Prop := ∀ e ∈ es, ∃ (k : Int) (b : Bool), e = [.v (.int .i64 k), .v (.bool b)]
theorem mfind_cons {k : Int} {b : Bool} {es : List (List L)} {n : Int} : mfind ([.v (.int .i64 k), .v (.bool b)] :: es) n = if k = n then some (0, .bool b) else (mfind es n).map fun p => (p.1 + 1, p.2) := rfl
theorem mgb_cons {k : Int} {b : Bool} {es : List (List L)} {n : Int} : mgbI ([.v (.int .i64 k), .v (.bool b)] :: es) n = if k = n then b else mgbI es n := by
 unfold mgbI
 rw [mfind_cons]
 by_cases c : k = n
 ·rw [if_pos c, if_pos c]
 ·rw [if_neg c, if_neg c]
  cases mfind es n with
  | none => rfl
  | some p => obtain ⟨j, v⟩ := p; cases v <;> rfl
theorem mu_cons {k : Int} {b x : Bool} {es : List (List L)} {n : Int} : muI ([.v (.int .i64 k), .v (.bool b)] :: es) n (.v (.bool x)) = if k = n then [.v (.int .i64 n), .v (.bool x)] :: es else [.v (.int .i64 k), .v (.bool b)] :: muI es n (.v (.bool x)) := by
 unfold muI
 rw [mfind_cons]
 by_cases c : k = n
 ·rw [if_pos c, if_pos c]; rfl
 ·rw [if_neg c, if_neg c]
  cases mfind es n with
  | none => rfl
  | some p => rfl
theorem mub {x : Bool} {n : Int} : ∀ {es : List (List L)}, WfB es -> WfB (muI es n (.v (.bool x))) /\ ∀ m, mgbI (muI es n (.v (.bool x))) m = if m = n then x else mgbI es m
 | [], _ => by
   refine ⟨fun e he => ?_, fun m => ?_⟩
   ·have : e = [.v (.int .i64 n), .v (.bool x)] := by simpa [muI, mfind] using he
    exact ⟨n, x, this⟩
   ·show mgbI [[.v (.int .i64 n), .v (.bool x)]] m = _
    rw [mgb_cons]
    by_cases c : m = n
    ·rw [if_pos c.symm, if_pos c]
    ·rw [if_neg (fun e => c e.symm), if_neg c]
 | e :: es, h => by
   obtain ⟨k, b, rfl⟩ := h e (by simp)
   have h' : WfB es := fun e he => h e (by simp [he])
   obtain ⟨a1, a2⟩ := mub (x := x) (n := n) h'
   rw [mu_cons]
   by_cases c : k = n
   ·rw [if_pos c]
    refine ⟨fun e he => ?_, fun m => ?_⟩
    ·rcases List.mem_cons.1 he with rfl | he
     ·exact ⟨n, x, rfl⟩
     ·exact h' e he
    ·rw [mgb_cons, mgb_cons]
     by_cases d : m = n
     ·rw [if_pos d.symm, if_pos d]
     ·rw [if_neg (fun e => d e.symm), if_neg d, if_neg (fun e => d (by rw [<- e, c]))]
   ·rw [if_neg c]
    refine ⟨fun e he => ?_, fun m => ?_⟩
    ·rcases List.mem_cons.1 he with rfl | he
     ·exact ⟨k, b, rfl⟩
     ·exact a1 e he
    ·rw [mgb_cons, mgb_cons, a2 m]
     by_cases d : k = m
     ·rw [if_pos d, if_pos d, if_neg (fun e => c (d.trans e))]
     ·rw [if_neg d, if_neg d]
def muT (es : List (List L)) (n : Int) : List (List L) := muI es n (.v (.bool true))
structure SeenB (es : List (List L)) (l : List Int) : Prop where
 wf : WfB es
 at_ : ∀ m, mgbI es m = true ↔ m ∈ l
theorem seen_0 : SeenB [] [] := ⟨(fun e he => by cases he), fun m => by simp [mgbI, mfind]⟩
theorem seen_up {es : List (List L)} {l : List Int} {n : Int} (h : SeenB es l) : SeenB (muI es n (.v (.bool true))) (l ++ [n]) := by
 have q := mub (x := true) (n := n) h.wf
 refine ⟨q.1, fun m => ?_⟩
 rw [q.2 m]
 by_cases c : m = n
 ·rw [if_pos c]; simp [c]
 ·rw [if_neg c, h.at_ m]; simp [c]
def one (x : Int) : List (List L) := [[.v (.int .i64 x)]]
structure LsP (sp : List (List L)) (i : Int) (o : List (List L)) : Prop where
 e : o = rwL (spP sp i.toNat)
 nd : (spP sp i.toNat).Nodup
 ok : upto (spA sp) i
 b : ∀ x ∈ spP sp i.toNat, 0 <= x /\ x <= 64
structure LlP (sp lg : List (List L)) (j : Int) (o : List (List L)) : Prop where
 e : o = rwL (spP sp sp.length ++ lgP lg j.toNat)
 nd : (spP sp sp.length ++ lgP lg j.toNat).Nodup
 oks : upto (spA sp) sp.length
 ok : upto (lgA lg) j
 b : ∀ x ∈ spP sp sp.length ++ lgP lg j.toNat, 0 <= x /\ x <= 64
 l : (lgP lg j.toNat).length <= 64 * j.toNat
structure LkP (sp lg : List (List L)) (j k : Int) (o : List (List L)) : Prop where
 e : o = rwL (spP sp sp.length ++ lgP lg j.toNat ++ ptP (giI lg j 0) k.toNat)
 nd : (spP sp sp.length ++ lgP lg j.toNat ++ ptP (giI lg j 0) k.toNat).Nodup
 oks : upto (spA sp) sp.length
 ok : upto (lgA lg) j
 b : ∀ x ∈ spP sp sp.length ++ lgP lg j.toNat ++ ptP (giI lg j 0) k.toNat, 0 <= x /\ x <= 64
 l : (lgP lg j.toNat).length <= 64 * j.toNat
theorem bnd_rw {l : List Int} (h : ∀ x ∈ l, 0 <= x /\ x <= 64) (hl : l.length <= 70368744177664) : Rw [tI] (rwL l) := rwL_rw (fun x hx => by have := h x hx; omega) hl
theorem bnd_snoc {l : List Int} {x : Int} (h : ∀ x ∈ l, 0 <= x /\ x <= 64) (hx : 0 <= x /\ x <= 64) : ∀ y ∈ l ++ [x], 0 <= y /\ y <= 64 := by
 intro y hy
 rcases List.mem_append.1 hy with q | q
 ·exact h y q
 ·simp at q; rw [q]; exact hx
theorem ls_0 {sp : List (List L)} : LsP sp 0 [] := ⟨rfl, List.nodup_nil, upto_z, fun x hx => by cases hx⟩
theorem ls_len {sp o : List (List L)} {i : Int} (h : LsP sp i o) : o.length = i.toNat := by rw [h.e, rwL_len, spP_len]
theorem ls_rw {sp o : List (List L)} {i : Int} (h : LsP sp i o) (hi : i <= 1073741824) : Rw [tI] o := by
 have l := ls_len h
 have e := h.e
 rw [e, rwL_len] at l
 rw [e]; exact bnd_rw h.b (by omega)
theorem ls_dup {sp lg o : List (List L)} {i : Int} (h : LsP sp i o) (h0 : 0 <= i) (h1 : i < sp.length) (hh : hasB o (giI sp i 0) = true) : layOk sp lg = false := by
 rw [h.e, has_rwL] at hh
 exact lay_no3 h0 h1 hh
theorem ls_up {sp o : List (List L)} {i : Int} (h : LsP sp i o) (h0 : 0 <= i) (hs : spOk (giI sp i 0) (giI sp i 1) (giI sp i 2) = true) (hh : hasB o (giI sp i 0) = false) : LsP sp (i + 1) (o ++ [[.v (.int .i64 (giI sp i 0))]]) := by
 have t := sp_t hs
 have e := h.e
 rw [e] at hh
 have hm := has_rwF hh
 exact ⟨by rw [spP_up h0, rwL_app, e]; rfl, by rw [spP_up h0]; exact nd_snoc h.nd hm, upto_s h.ok hs, by rw [spP_up h0]; exact bnd_snoc h.b (by omega)⟩
theorem ls_end {sp lg o : List (List L)} {i : Int} (h : LsP sp i o) (h1 : i <= sp.length) (h2 : (sp.length : Int) <= i) : LlP sp lg 0 o := by
 have e : i.toNat = sp.length := by omega
 have ei : i = sp.length := by omega
 have q1 := h.e; have q2 := h.nd; have q3 := h.ok; have q4 := h.b
 rw [e] at q1 q2 q4
 rw [ei] at q3
 exact ⟨by rw [q1]; simp [lgP], by simpa [lgP] using q2, q3, upto_z, by simpa [lgP] using q4, by simp [lgP]⟩
theorem lk_0 {sp lg o : List (List L)} {j : Int} (h : LlP sp lg j o) : LkP sp lg j 0 o := by
 refine ⟨by rw [h.e]; simp [ptP], by simpa [ptP] using h.nd, h.oks, h.ok, by simpa [ptP] using h.b, h.l⟩
theorem lk_len {sp lg o : List (List L)} {j k : Int} (h : LkP sp lg j k o) : o.length <= sp.length + 64 * j.toNat + k.toNat := by
 have l := h.l
 rw [h.e, rwL_len, List.length_append, List.length_append, spP_len, ptP_len]; omega
theorem lk_rw {sp lg o : List (List L)} {j k : Int} (h : LkP sp lg j k o) (h1 : sp.length <= 1073741824) (h2 : j <= 1073741824) (h3 : k <= 64) : Rw [tI] o := by
 have l := lk_len h
 have e := h.e
 rw [e, rwL_len] at l
 rw [e]; exact bnd_rw h.b (by omega)
theorem lk_dup {sp lg o : List (List L)} {j k : Int} (h : LkP sp lg j k o) (h0 : 0 <= j) (h1 : j < lg.length) (k0 : 0 <= k) (k1 : k < giI lg j 1) (hh : hasB o (giI lg j 0 + k) = true) : layOk sp lg = false := by
 rw [h.e, has_rwL] at hh
 exact lay_no4 h0 h1 k0 k1 hh
theorem lg_p {p n s k : Int} (h : lgOk p n s = true) (k0 : 0 <= k) (k1 : k < n) : 0 <= p /\ p + k <= 32 /\ arI .add .i64 p k = p + k /\ 1 <= n /\ n <= 32 := by
 have t := lg_t h
 have b := pf_b t.1
 have e : arI .add .i64 p k = p + k := add64 (by omega)
 exact ⟨by omega, by omega, e, by omega, by omega⟩
theorem lk_up {sp lg o : List (List L)} {j k : Int} (h : LkP sp lg j k o) (k0 : 0 <= k) (hx : 0 <= giI lg j 0 + k /\ giI lg j 0 + k <= 64) (hh : hasB o (giI lg j 0 + k) = false) : LkP sp lg j (k + 1) (o ++ [[.v (.int .i64 (giI lg j 0 + k))]]) := by
 have e := h.e
 rw [e] at hh
 have hm := has_rwF hh
 have q : ∀ A : List Int, A ++ ptP (giI lg j 0) (k + 1).toNat = A ++ ptP (giI lg j 0) k.toNat ++ [giI lg j 0 + k] := fun A => by rw [ptP_up k0, List.append_assoc]
 exact ⟨by rw [q, rwL_app, e]; rfl, by rw [q]; exact nd_snoc h.nd hm, h.oks, h.ok, by rw [q]; exact bnd_snoc h.b hx, h.l⟩
theorem lk_end {sp lg o : List (List L)} {j k : Int} (h : LkP sp lg j k o) (j0 : 0 <= j) (hl : lgOk (giI lg j 0) (giI lg j 1) (giI lg j 2) = true) (k0 : 0 <= k) (k1 : k <= giI lg j 1) (k2 : giI lg j 1 <= k) : LlP sp lg (j + 1) o := by
 have t := lg_t hl
 have b := pf_b t.1
 have ek : k.toNat = (giI lg j 1).toNat := by omega
 have q1 := h.e; have q2 := h.nd; have q4 := h.b; have q5 := h.l
 rw [ek, List.append_assoc, <- lgP_up j0] at q1 q2 q4
 refine ⟨q1, q2, h.oks, upto_s h.ok hl, q4, ?_⟩
 rw [lgP_up j0, List.length_append, ptP_len]; omega
theorem ll_end {sp lg o : List (List L)} {j : Int} (h : LlP sp lg j o) (j1 : j <= lg.length) (j2 : (lg.length : Int) <= j) : layOk sp lg = true := by
 have e : j.toNat = lg.length := by omega
 have q := h.nd
 rw [e] at q
 exact lay_yes h.oks (Int.le_refl _) h.ok j2 q
end Go.V
namespace Go.V
structure IsP (sp : List (List L)) (i : Int) (es : List (List L)) : Prop where
 s : SeenB es (spP sp i.toNat)
 nd : (spP sp i.toNat).Nodup
 ok : upto (spA sp) i
structure IlP (sp lg : List (List L)) (j : Int) (es : List (List L)) : Prop where
 s : SeenB es (spP sp sp.length ++ lgP lg j.toNat)
 nd : (spP sp sp.length ++ lgP lg j.toNat).Nodup
 oks : upto (spA sp) sp.length
 ok : upto (lgA lg) j
structure IkP (sp lg : List (List L)) (j k : Int) (es : List (List L)) : Prop where
 s : SeenB es (spP sp sp.length ++ lgP lg j.toNat ++ ptP (giI lg j 0) k.toNat)
 nd : (spP sp sp.length ++ lgP lg j.toNat ++ ptP (giI lg j 0) k.toNat).Nodup
 oks : upto (spA sp) sp.length
 ok : upto (lgA lg) j
theorem seen_f {es : List (List L)} {l : List Int} {n : Int} (h : SeenB es l) (e : mgbI es n = false) : n ∉ l := fun m => by rw [(h.at_ n).2 m] at e; cases e
theorem is_0 {sp : List (List L)} : IsP sp 0 [] := ⟨seen_0, List.nodup_nil, upto_z⟩
theorem is_dup {sp lg es : List (List L)} {i : Int} (h : IsP sp i es) (h0 : 0 <= i) (h1 : i < sp.length) (hh : mgbI es (giI sp i 0) = true) : layOk sp lg = false :=
 lay_no3 h0 h1 ((h.s.at_ _).1 hh)
theorem is_up {sp es : List (List L)} {i : Int} (h : IsP sp i es) (h0 : 0 <= i) (hs : spOk (giI sp i 0) (giI sp i 1) (giI sp i 2) = true) (hh : mgbI es (giI sp i 0) = false) : IsP sp (i + 1) (muT es (giI sp i 0)) :=
 ⟨by rw [spP_up h0]; exact seen_up h.s, by rw [spP_up h0]; exact nd_snoc h.nd (seen_f h.s hh), upto_s h.ok hs⟩
theorem is_end {sp lg es : List (List L)} {i : Int} (h : IsP sp i es) (h1 : i <= sp.length) (h2 : (sp.length : Int) <= i) : IlP sp lg 0 es := by
 have e : i.toNat = sp.length := by omega
 have ei : i = sp.length := by omega
 have q1 := h.s; have q2 := h.nd; have q3 := h.ok
 rw [e] at q1 q2
 rw [ei] at q3
 exact ⟨by simpa [lgP] using q1, by simpa [lgP] using q2, q3, upto_z⟩
theorem ik_0 {sp lg es : List (List L)} {j : Int} (h : IlP sp lg j es) : IkP sp lg j 0 es :=
 ⟨by simpa [ptP] using h.s, by simpa [ptP] using h.nd, h.oks, h.ok⟩
theorem ik_dup {sp lg es : List (List L)} {j k : Int} (h : IkP sp lg j k es) (h0 : 0 <= j) (h1 : j < lg.length) (k0 : 0 <= k) (k1 : k < giI lg j 1) (hh : mgbI es (giI lg j 0 + k) = true) : layOk sp lg = false :=
 lay_no4 h0 h1 k0 k1 ((h.s.at_ _).1 hh)
theorem ik_up {sp lg es : List (List L)} {j k : Int} (h : IkP sp lg j k es) (k0 : 0 <= k) (hh : mgbI es (giI lg j 0 + k) = false) : IkP sp lg j (k + 1) (muT es (giI lg j 0 + k)) := by
 have q : ∀ A : List Int, A ++ ptP (giI lg j 0) (k + 1).toNat = A ++ ptP (giI lg j 0) k.toNat ++ [giI lg j 0 + k] := fun A => by rw [ptP_up k0, List.append_assoc]
 exact ⟨by rw [q]; exact seen_up h.s, by rw [q]; exact nd_snoc h.nd (seen_f h.s hh), h.oks, h.ok⟩
theorem ik_end {sp lg es : List (List L)} {j k : Int} (h : IkP sp lg j k es) (j0 : 0 <= j) (hl : lgOk (giI lg j 0) (giI lg j 1) (giI lg j 2) = true) (k1 : k <= giI lg j 1) (k2 : giI lg j 1 <= k) : IlP sp lg (j + 1) es := by
 have ek : k.toNat = (giI lg j 1).toNat := by omega
 have q1 := h.s; have q2 := h.nd
 rw [ek, List.append_assoc, <- lgP_up j0] at q1 q2
 exact ⟨q1, q2, h.oks, upto_s h.ok hl⟩
theorem il_end {sp lg es : List (List L)} {j : Int} (h : IlP sp lg j es) (j1 : j <= lg.length) (j2 : (lg.length : Int) <= j) : layOk sp lg = true := by
 have e : j.toNat = lg.length := by omega
 have q := h.nd
 rw [e] at q
 exact lay_yes h.oks (Int.le_refl _) h.ok j2 q
theorem nb_f {b : Bool} (h : (!b) = false) : b = true := by cases b <;> simp_all
theorem nb_t {b : Bool} (h : (!b) = true) : b = false := by cases b <;> simp_all
end Go.V
namespace Go.V
def sAt (sp : List (List L)) (a i : Int) : Bool := decide (0 <= saS (giI sp i 0) (giI sp i 1) (giI sp i 2) a)
def lAt (lg : List (List L)) (a i : Int) : Bool := lhB (giI lg i 0) (giI lg i 1) (giI lg i 2) a
def fsI (sp : List (List L)) (a : Int) : Int := firstI (sAt sp a) sp.length
def flI (lg : List (List L)) (a : Int) : Int := firstI (lAt lg a) lg.length
def slA (sp : List (List L)) (a i : Int) : Int := saS (giI sp i 0) (giI sp i 1) (giI sp i 2) a
def soA (sp : List (List L)) (a i : Int) : Int := saO (giI sp i 0) (giI sp i 1) (giI sp i 2) a
def loA (lg : List (List L)) (a i : Int) : Int := loI (giI lg i 0) (giI lg i 1) (giI lg i 2) a
def dnK (sp lg : List (List L)) (a : Int) : Int := if 0 <= fsI sp a then (if hsB (giI sp (fsI sp a) 2) (slA sp a (fsI sp a)) then 1 else 2) else if 0 <= flI lg a then 3 else 0
def dnI (sp lg : List (List L)) (a : Int) : Int := if 0 <= fsI sp a then fsI sp a else if 0 <= flI lg a then flI lg a else 0
def dnS (sp : List (List L)) (a : Int) : Int := if 0 <= fsI sp a then slA sp a (fsI sp a) else 0
def dnO (sp lg : List (List L)) (a : Int) : Int := if 0 <= fsI sp a then soA sp a (fsI sp a) else if 0 <= flI lg a then loA lg a (flI lg a) else 0
def dzK (sp lg : List (List L)) (a : Int) : Int := if layOk sp lg then dnK sp lg a else 0
def dzI (sp lg : List (List L)) (a : Int) : Int := if layOk sp lg then dnI sp lg a else 0
def dzS (sp lg : List (List L)) (a : Int) : Int := if layOk sp lg then dnS sp a else 0
def dzO (sp lg : List (List L)) (a : Int) : Int := if layOk sp lg then dnO sp lg a else 0
theorem s_no {sp : List (List L)} {a i : Int} (h : upto (notB (sAt sp a)) i) (hs : saS (giI sp i 0) (giI sp i 1) (giI sp i 2) a < 0) : upto (notB (sAt sp a)) (i + 1) :=
 upto_s h (by unfold notB sAt; rw [decide_eq_false (by omega)]; rfl)
theorem l_no {lg : List (List L)} {a i : Int} (h : upto (notB (lAt lg a)) i) (hs : lhB (giI lg i 0) (giI lg i 1) (giI lg i 2) a = false) : upto (notB (lAt lg a)) (i + 1) :=
 upto_s h (by unfold notB lAt; rw [hs]; rfl)
theorem fs_at {sp : List (List L)} {a i : Int} (h : upto (notB (sAt sp a)) i) (h0 : 0 <= i) (h1 : i < sp.length) (hs : 0 <= saS (giI sp i 0) (giI sp i 1) (giI sp i 2) a) : fsI sp a = i :=
 first_at h h0 h1 (decide_eq_true hs)
theorem fs_no {sp : List (List L)} {a i : Int} (h : upto (notB (sAt sp a)) i) (h1 : (sp.length : Int) <= i) : fsI sp a = -1 := first_no h h1
theorem fl_at {lg : List (List L)} {a i : Int} (h : upto (notB (lAt lg a)) i) (h0 : 0 <= i) (h1 : i < lg.length) (hs : lhB (giI lg i 0) (giI lg i 1) (giI lg i 2) a = true) : flI lg a = i :=
 first_at h h0 h1 hs
theorem fl_no {lg : List (List L)} {a i : Int} (h : upto (notB (lAt lg a)) i) (h1 : (lg.length : Int) <= i) : flI lg a = -1 := first_no h h1
def owL (k i s o : Int) : List DV := [DV.agg [.v (.int .i64 k), .v (.int .i64 i), .v (.int .i64 s), .v (.int .i64 o)]]
def dnL (sp lg : List (List L)) (a : Int) : List DV := owL (dnK sp lg a) (dnI sp lg a) (dnS sp a) (dnO sp lg a)
def dzL (sp lg : List (List L)) (a : Int) : List DV := owL (dzK sp lg a) (dzI sp lg a) (dzS sp lg a) (dzO sp lg a)
theorem ow1 {sp lg : List (List L)} {a i : Int} (h : upto (notB (sAt sp a)) i) (h0 : 0 <= i) (h1 : i < sp.length) (hs : 0 <= saS (giI sp i 0) (giI sp i 1) (giI sp i 2) a) (hh : hsB (giI sp i 2) (saS (giI sp i 0) (giI sp i 1) (giI sp i 2) a) = true) :
 owL 1 i (saS (giI sp i 0) (giI sp i 1) (giI sp i 2) a) (saO (giI sp i 0) (giI sp i 1) (giI sp i 2) a) = dnL sp lg a := by
 have e := fs_at h h0 h1 hs
 unfold dnL dnK dnI dnS dnO slA soA
 rw [e, if_pos h0, if_pos h0, if_pos h0, if_pos h0, hh]; rfl
theorem ow2 {sp lg : List (List L)} {a i : Int} (h : upto (notB (sAt sp a)) i) (h0 : 0 <= i) (h1 : i < sp.length) (hs : 0 <= saS (giI sp i 0) (giI sp i 1) (giI sp i 2) a) (hh : hsB (giI sp i 2) (saS (giI sp i 0) (giI sp i 1) (giI sp i 2) a) = false) :
 owL 2 i (saS (giI sp i 0) (giI sp i 1) (giI sp i 2) a) (saO (giI sp i 0) (giI sp i 1) (giI sp i 2) a) = dnL sp lg a := by
 have e := fs_at h h0 h1 hs
 unfold dnL dnK dnI dnS dnO slA soA
 rw [e, if_pos h0, if_pos h0, if_pos h0, if_pos h0, hh]; rfl
theorem ow3 {sp lg : List (List L)} {a i j : Int} (h : upto (notB (sAt sp a)) i) (h1 : (sp.length : Int) <= i) (g : upto (notB (lAt lg a)) j) (j0 : 0 <= j) (j1 : j < lg.length) (hh : lhB (giI lg j 0) (giI lg j 1) (giI lg j 2) a = true) :
 owL 3 j 0 (loI (giI lg j 0) (giI lg j 1) (giI lg j 2) a) = dnL sp lg a := by
 have e := fs_no h h1
 have f := fl_at g j0 j1 hh
 have n : ¬ (0 : Int) <= -1 := by omega
 unfold dnL dnK dnI dnS dnO loA
 rw [e, f, if_neg n, if_neg n, if_neg n, if_neg n, if_pos j0, if_pos j0, if_pos j0]
theorem ow4 {sp lg : List (List L)} {a i j : Int} (h : upto (notB (sAt sp a)) i) (h1 : (sp.length : Int) <= i) (g : upto (notB (lAt lg a)) j) (j1 : (lg.length : Int) <= j) :
 owL 0 0 0 0 = dnL sp lg a := by
 have e := fs_no h h1
 have f := fl_no g j1
 have n : ¬ (0 : Int) <= -1 := by omega
 unfold dnL dnK dnI dnS dnO
 rw [e, f, if_neg n, if_neg n, if_neg n, if_neg n, if_neg n, if_neg n, if_neg n]
theorem dz_t {sp lg : List (List L)} {a : Int} (h : layOk sp lg = true) : dnL sp lg a = dzL sp lg a := by
 unfold dzL dnL dzK dzI dzS dzO
 rw [if_pos h, if_pos h, if_pos h, if_pos h]
theorem dz_f {sp lg : List (List L)} {a : Int} (h : layOk sp lg = false) : owL 0 0 0 0 = dzL sp lg a := by
 have n : ¬ layOk sp lg = true := by rw [h]; decide
 unfold dzL dzK dzI dzS dzO
 rw [if_neg n, if_neg n, if_neg n, if_neg n]
end Go.V
namespace Go.V
def lvB (sp lg : List (List L)) (a : Int) : Bool := decide (dzO sp lg a = 0) && (decide (dzK sp lg a = 1) || decide (dzK sp lg a = 3))
def laN (sp lg : List (List L)) : Nat -> List (List L)
 | 0 => []
 | n + 1 => laN sp lg n ++ (if lvB sp lg n then [[.v (.int .i64 n)]] else [])
def laL (sp lg : List (List L)) : List (List L) := if layOk sp lg then laN sp lg 512 else []
structure LaP (sp lg : List (List L)) (i : Int) (o : List (List L)) : Prop where
 e : o = laN sp lg i.toNat
 l : o.length <= i.toNat
 y : 0 < i -> layOk sp lg = true
theorem la_0 {sp lg : List (List L)} : LaP sp lg 0 [] := ⟨rfl, Nat.le_refl _, fun h => absurd h (by omega)⟩
theorem laN_up {sp lg : List (List L)} {i : Int} (h : 0 <= i) : laN sp lg (i + 1).toNat = laN sp lg i.toNat ++ (if lvB sp lg i then [[.v (.int .i64 i)]] else []) := by
 rw [show (i + 1).toNat = i.toNat + 1 from by omega, laN, Int.toNat_of_nonneg h]
theorem la_yes {sp lg o : List (List L)} {i : Int} (h : LaP sp lg i o) (h0 : 0 <= i) (hl : layOk sp lg = true) (hv : lvB sp lg i = true) : LaP sp lg (i + 1) (o ++ [[.v (.int .i64 i)]]) := by
 have e := h.e; have l := h.l
 refine ⟨by rw [laN_up h0, if_pos hv, <- e], ?_, fun _ => hl⟩
 rw [List.length_append, List.length_cons, List.length_nil]; omega
theorem la_no {sp lg o : List (List L)} {i : Int} (h : LaP sp lg i o) (h0 : 0 <= i) (hl : layOk sp lg = true) (hv : lvB sp lg i = false) : LaP sp lg (i + 1) o := by
 have e := h.e; have l := h.l
 refine ⟨by rw [laN_up h0, hv, <- e]; simp, ?_, fun _ => hl⟩
 omega
theorem la_end {sp lg o : List (List L)} {i : Int} (h : LaP sp lg i o) (h1 : i <= 512) (h2 : 512 <= i) : o = laL sp lg := by
 have e : i = 512 := by omega
 subst e
 unfold laL; rw [if_pos (h.y (by omega))]; exact h.e
theorem la_bad {sp lg o : List (List L)} {i : Int} (h : LaP sp lg i o) (h0 : 0 <= i) (hl : layOk sp lg = false) : o = laL sp lg := by
 have z : i = 0 := by
  by_cases c : 0 < i
  ·have := h.y c; rw [hl] at this; cases this
  ·omega
 subst z
 unfold laL; rw [hl]; exact h.e
theorem lv_t1 {sp lg : List (List L)} {a : Int} (h : dzO sp lg a = 0) (k : dzK sp lg a = 1) : lvB sp lg a = true := by unfold lvB; rw [h, k]; rfl
theorem lv_t3 {sp lg : List (List L)} {a : Int} (h : dzO sp lg a = 0) (k : dzK sp lg a = 3) : lvB sp lg a = true := by unfold lvB; rw [h, k]; rfl
theorem lv_f1 {sp lg : List (List L)} {a : Int} (h : dzO sp lg a ≠ 0) : lvB sp lg a = false := by unfold lvB; rw [decide_eq_false h]; rfl
theorem lv_f2 {sp lg : List (List L)} {a : Int} (h : dzK sp lg a ≠ 1) (k : dzK sp lg a ≠ 3) : lvB sp lg a = false := by unfold lvB; rw [decide_eq_false h, decide_eq_false k, Bool.or_false, Bool.and_false]
theorem rw1_eq {a b : List (List L)} (h : a = b) : [DV.one (.s 1 a)] = [DV.one (.s 1 b)] := by rw [h]
end Go.V