/-
  Slots, spans, large objects, in plain words.
-/import Derived.Test.YticfhgfgobafbaaGreatH12
set_option linter.all false
namespace Go.V
def slN (k : Int) : Int := if inR k 0 3 = true then 16 / clsSz k else 0
theorem cls4 {k : Int} (h : inR k 0 3 = true) : k = 0 \/ k = 1 \/ k = 2 \/ k = 3 := by have := inR_t.1 h; omega
theorem cls_b {k : Int} (h : inR k 0 3 = true) : 1 <= clsSz k /\ clsSz k <= 8 /\ 2 <= slN k /\ slN k <= 16 /\ slN k * clsSz k = 16 := by
 rcases cls4 h with rfl | rfl | rfl | rfl <;> decide
theorem slN_impl {k : Int} (h : inR k 0 3 = true) : arI .quo .i64 16 (clsSz k) = slN k := by
 rcases cls4 h with rfl | rfl | rfl | rfl <;> decide
theorem slN_spec {k : Int} (h : inR k 0 3 = true) : shI .shr .i64 16 (wrI .u64 k) = slN k := by
 rcases cls4 h with rfl | rfl | rfl | rfl <;> decide
theorem slN_no {k : Int} (h : inR k 0 3 = false) : slN k = 0 := by unfold slN; rw [h]; rfl
def bmOk (n b : Int) : Bool := inR n 1 16 && inR b 0 (2 ^ n.toNat - 1)
theorem shl16 {n : Int} (h : inR n 1 16 = true) : arI .sub .i64 (shI .shl .i64 1 n) 1 = 2 ^ n.toNat - 1 /\ arI .sub .i64 (shI .shl .i64 1 (wrI .u64 n)) 1 = 2 ^ n.toNat - 1 /\ 0 <= wrI .u64 n := by
 have q := inR_t.1 h
 have : n = 1 \/ n = 2 \/ n = 3 \/ n = 4 \/ n = 5 \/ n = 6 \/ n = 7 \/ n = 8 \/ n = 9 \/ n = 10 \/ n = 11 \/ n = 12 \/ n = 13 \/ n = 14 \/ n = 15 \/ n = 16 := by omega
 rcases this with rfl | rfl | rfl | rfl | rfl | rfl | rfl | rfl | rfl | rfl | rfl | rfl | rfl | rfl | rfl | rfl <;> decide
theorem bm_no {n b : Int} (h : inR n 1 16 = false) : bmOk n b = false := by unfold bmOk; rw [h]; rfl
theorem bm_yes {n b : Int} (h : inR n 1 16 = true) : bmOk n b = inR b 0 (2 ^ n.toNat - 1) := by unfold bmOk; rw [h]; rfl
def spOk (p k b : Int) : Bool := inR p 0 31 && bmOk (slN k) b
theorem bm_cls {k b : Int} (h : inR k 0 3 = false) : bmOk (slN k) b = false := by rw [slN_no h]; rfl
theorem sp_no1 {p k b : Int} (h : inR p 0 31 = false) : spOk p k b = false := by unfold spOk; rw [h]; rfl
theorem sp_no2 {p k b : Int} (h : inR k 0 3 = false) : spOk p k b = false := by unfold spOk; rw [bm_cls h, Bool.and_false]
theorem sp_yes {p k b : Int} (h : inR p 0 31 = true) : spOk p k b = bmOk (slN k) b := by unfold spOk; rw [h]; rfl
theorem sp_t {p k b : Int} (h : spOk p k b = true) : 0 <= p /\ p <= 31 /\ inR k 0 3 = true /\ bmOk (slN k) b = true := by
 unfold spOk at h; simp only [Bool.and_eq_true, inR_t] at h
 refine ⟨h.1.1, h.1.2, ?_, h.2⟩
 cases q : inR k 0 3
 ·rw [bm_cls q] at h; exact absurd h.2 (by decide)
 ·rfl
def pfN (s : Int) : Int := if inR s 9 1000 = true then (s + 15) / 16 else 0
theorem pf_yes {s : Int} (h : inR s 9 1000 = true) : arI .quo .i64 (arI .sub .i64 (arI .add .i64 s 16) 1) 16 = pfN s := by
 have q := inR_t.1 h
 have e1 : arI .add .i64 s 16 = s + 16 := add64 (by omega)
 have e2 : arI .sub .i64 (s + 16) 1 = s + 16 - 1 := sub64 (by omega)
 unfold pfN; rw [if_pos h, e1, e2, quo64 (by omega) (by omega) (by omega), show s + 16 - 1 = s + 15 from by omega]
theorem pf_no {s : Int} (h : inR s 9 1000 = false) : pfN s = 0 := by unfold pfN; rw [h]; rfl
theorem pf_b {s : Int} (h : inR s 9 1000 = true) : 1 <= pfN s /\ pfN s <= 63 /\ s <= pfN s * 16 := by
 have q := inR_t.1 h
 unfold pfN; rw [if_pos h]; omega
theorem pf_pos {s : Int} : 0 < pfN s ↔ inR s 9 1000 = true := by
 constructor
 ·intro h
  cases q : inR s 9 1000
  ·rw [pf_no q] at h; omega
  ·rfl
 ·intro h; have := pf_b h; omega
def lgOk (p n s : Int) : Bool := inR s 9 1000 && (decide (n = pfN s) && inR p 0 (32 - n))
theorem lg_no1 {p n s : Int} (h : inR s 9 1000 = false) : lgOk p n s = false := by unfold lgOk; rw [h]; rfl
theorem lg_no2 {p n s : Int} (h : n ≠ pfN s) : lgOk p n s = false := by unfold lgOk; rw [decide_eq_false h]; simp
theorem lg_yes {p n s : Int} (h : inR s 9 1000 = true) (h2 : n = pfN s) : lgOk p n s = inR p 0 (32 - n) := by unfold lgOk; rw [h, decide_eq_true h2]; rfl
theorem lg_t {p n s : Int} (h : lgOk p n s = true) : inR s 9 1000 = true /\ n = pfN s /\ 0 <= p /\ p <= 32 - n := by
 unfold lgOk at h; simp only [Bool.and_eq_true, decide_eq_true_eq, inR_t] at h
 exact ⟨inR_t.2 h.1, h.2.1, h.2.2⟩
def saB (p k b a : Int) : Bool := spOk p k b && inR a (p * 16) (p * 16 + 15)
def saS (p k b a : Int) : Int := if saB p k b a = true then (a - p * 16) / clsSz k else -1
def saO (p k b a : Int) : Int := if saB p k b a = true then (a - p * 16) % clsSz k else -1
theorem sa_no {p k b a : Int} (h : saB p k b a = false) : saS p k b a = -1 /\ saO p k b a = -1 := by unfold saS saO; rw [h]; exact ⟨rfl, rfl⟩
theorem sa_yes {p k b a : Int} (h : saB p k b a = true) : saS p k b a = (a - p * 16) / clsSz k /\ saO p k b a = (a - p * 16) % clsSz k := by unfold saS saO; rw [if_pos h, if_pos h]; exact ⟨rfl, rfl⟩
theorem sa_t {p k b a : Int} : saB p k b a = true ↔ spOk p k b = true /\ p * 16 <= a /\ a <= p * 16 + 15 := by unfold saB; rw [Bool.and_eq_true, inR_t]
def aaB (p k b s : Int) : Bool := spOk p k b && inR s 0 (slN k - 1)
def aaI (p k b s : Int) : Int := if aaB p k b s = true then p * 16 + s * clsSz k else -1
def lhB (p n s a : Int) : Bool := lgOk p n s && inR a (p * 16) (p * 16 + s - 1)
def loI (p n s a : Int) : Int := if lhB p n s a = true then a - p * 16 else -1
theorem lh_no1 {p n s a : Int} (h : lgOk p n s = false) : lhB p n s a = false := by unfold lhB; rw [h]; rfl
theorem lh_yes {p n s a : Int} (h : lgOk p n s = true) : lhB p n s a = inR a (p * 16) (p * 16 + s - 1) := by unfold lhB; rw [h]; rfl
theorem lo_no {p n s a : Int} (h : lhB p n s a = false) : loI p n s a = -1 := by unfold loI; rw [h]; rfl
theorem lo_yes {p n s a : Int} (h : lhB p n s a = true) : loI p n s a = a - p * 16 := by unfold loI; rw [if_pos h]
theorem mulI64 {a b : Int} (h : -9223372036854775808 <= a * b /\ a * b <= 9223372036854775807) : arI .mul .i64 a b = a * b := IntWalk.i64_in _ h
theorem pg16 {p : Int} (h : 0 <= p /\ p <= 31) : arI .mul .i64 p 16 = p * 16 /\ arI .sub .i64 (arI .add .i64 (p * 16) 16) 1 = p * 16 + 15 := by
 have e1 : arI .mul .i64 p 16 = p * 16 := mulI64 (by omega)
 have e2 : arI .add .i64 (p * 16) 16 = p * 16 + 16 := add64 (by omega)
 have e3 : arI .sub .i64 (p * 16 + 16) 1 = p * 16 + 16 - 1 := sub64 (by omega)
 rw [e1, e2, e3]; omega
theorem sa_impl {p k b a : Int} (h : spOk p k b = true) (h1 : inR a (p * 16) (p * 16 + 15) = true) : saS p k b a = arI .quo .i64 (arI .sub .i64 a (p * 16)) (clsSz k) /\ saO p k b a = arI .rem .i64 (arI .sub .i64 a (p * 16)) (clsSz k) := by
 have t := sp_t h
 have q := inR_t.1 h1
 have c := cls_b t.2.2.1
 have y := sa_yes (sa_t.2 ⟨h, q⟩)
 have e : arI .sub .i64 a (p * 16) = a - p * 16 := sub64 (by omega)
 rw [y.1, y.2, e, quo64 (by omega) (by omega) (by omega), rem64 (by omega)]; exact ⟨rfl, rfl⟩
theorem sa_f1 {p k b a : Int} (h : spOk p k b = false) : saB p k b a = false := by unfold saB; rw [h]; rfl
theorem sa_f2 {p k b a : Int} (h : inR a (p * 16) (p * 16 + 15) = false) : saB p k b a = false := by unfold saB; rw [h, Bool.and_false]
theorem sa_spec {p k b a : Int} (h : spOk p k b = true) (h0 : ¬ a < 0) (h1 : arI .quo .i64 a 16 = p) (ha : a <= 9223372036854775807) : saS p k b a = arI .quo .i64 (arI .rem .i64 a 16) (clsSz k) /\ saO p k b a = arI .rem .i64 (arI .rem .i64 a 16) (clsSz k) := by
 have t := sp_t h
 have c := cls_b t.2.2.1
 rw [quo64 (by omega) ha (by omega)] at h1
 have e : arI .rem .i64 a 16 = a % 16 := rem64 (by omega)
 have y := sa_yes (sa_t.2 ⟨h, show p * 16 <= a /\ a <= p * 16 + 15 by omega⟩)
 rw [y.1, y.2, e, quo64 (by omega) (by omega) (by omega), rem64 (by omega), show a - p * 16 = a % 16 by omega]; exact ⟨rfl, rfl⟩
theorem sa_f3 {p k b a : Int} (h0 : a < 0 \/ arI .quo .i64 a 16 ≠ p) (ha : a <= 9223372036854775807) : saB p k b a = false := by
 cases q : saB p k b a
 ·rfl
 ·obtain ⟨h, h1⟩ := sa_t.1 q
  have t := sp_t h
  rcases h0 with h0 | h0
  ·omega
  ·rw [quo64 (by omega) ha (by omega)] at h0; omega
theorem aa_yes {p k b s : Int} (h : spOk p k b = true) (h1 : inR s 0 (slN k - 1) = true) : arI .add .i64 (arI .mul .i64 p 16) (arI .mul .i64 s (clsSz k)) = aaI p k b s := by
 have t := sp_t h
 have c := cls_b t.2.2.1
 have q := inR_t.1 h1
 have m1 : 0 <= s * clsSz k := Int.mul_nonneg q.1 (by omega)
 have m2 : s * clsSz k <= (slN k - 1) * clsSz k := Int.mul_le_mul_of_nonneg_right q.2 (by omega)
 have m3 : (slN k - 1) * clsSz k = 16 - clsSz k := by rw [Int.sub_mul, c.2.2.2.2, Int.one_mul]
 have e : arI .mul .i64 s (clsSz k) = s * clsSz k := mulI64 (by omega)
 rw [(pg16 ⟨t.1, t.2.1⟩).1, e]
 unfold aaI aaB; rw [h, h1]
 exact add64 (by omega)
theorem aa_no {p k b s : Int} (h : spOk p k b = false \/ inR s 0 (slN k - 1) = false) : aaI p k b s = -1 := by
 unfold aaI aaB
 rcases h with h | h
 ·rw [h]; rfl
 ·rw [h, Bool.and_false]; rfl
theorem lh_ar {p n s : Int} (h : lgOk p n s = true) : arI .mul .i64 p 16 = p * 16 /\ arI .add .i64 (arI .mul .i64 p 16) s = p * 16 + s /\ arI .sub .i64 (arI .add .i64 (arI .mul .i64 p 16) s) 1 = p * 16 + s - 1 := by
 have t := lg_t h
 have b := pf_b t.1
 have q := inR_t.1 t.1
 have e1 : arI .mul .i64 p 16 = p * 16 := mulI64 (by omega)
 have e2 : arI .add .i64 (p * 16) s = p * 16 + s := add64 (by omega)
 have e3 : arI .sub .i64 (p * 16 + s) 1 = p * 16 + s - 1 := sub64 (by omega)
 rw [e1, e2, e3]; exact ⟨rfl, rfl, rfl⟩
theorem lh_t {p n s a : Int} : lhB p n s a = true ↔ lgOk p n s = true /\ p * 16 <= a /\ a <= p * 16 + s - 1 := by unfold lhB; rw [Bool.and_eq_true, inR_t]
theorem lo_ar {p n s a : Int} (h : lhB p n s a = true) : arI .sub .i64 a (arI .mul .i64 p 16) = loI p n s a := by
 obtain ⟨h1, h2, h3⟩ := lh_t.1 h
 have t := lg_t h1
 have b := pf_b t.1
 have q := inR_t.1 t.1
 rw [(lh_ar h1).1, lo_yes h]
 exact sub64 (by omega)
end Go.V