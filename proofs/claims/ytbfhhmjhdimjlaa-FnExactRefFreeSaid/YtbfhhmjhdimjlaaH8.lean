/-
  What the functions of the reference heap compute, in plain words.
-/
import Derived.Test.YtbfhhmjhdimjlaaH7

set_option linter.all false
namespace Go.V

/-- The first place with a property, or -1. -/
def firstI (p : Int → Bool) (n : Nat) : Int := match (List.range n).find? (fun j : Nat => p (j : Int)) with
  | some j => (j : Int)
  | none => -1
def notB (p : Int → Bool) (j : Int) : Bool := !p j
theorem notB_f {p : Int → Bool} {i : Int} (h : p i = false) : notB p i = true := by unfold notB; rw [h]; rfl
theorem first_at {p : Int → Bool} {n : Nat} {i : Int} (h : upto (notB p) i) (h0 : 0 ≤ i) (h1 : i < n) (h2 : p i = true) : firstI p n = i := by
  have e : ((i.toNat : Nat) : Int) = i := Int.toNat_of_nonneg h0
  have : (List.range n).find? (fun j : Nat => p (j : Int)) = some i.toNat := by
    rw [List.find?_range_eq_some]
    refine ⟨by rw [e]; exact h2, List.mem_range.2 (by omega), fun j hj => ?_⟩
    exact h j (by omega) (by omega)
  unfold firstI; rw [this]; exact e
theorem first_no {p : Int → Bool} {n : Nat} {i : Int} (h : upto (notB p) i) (h1 : (n : Int) ≤ i) : firstI p n = -1 := by
  have : (List.range n).find? (fun j : Nat => p (j : Int)) = none := by
    rw [List.find?_range_eq_none]
    intro j hj
    exact h j (by omega) (by omega)
  unfold firstI; rw [this]
theorem first_bd {p : Int → Bool} {n : Nat} : firstI p n = -1 ∨ 0 ≤ firstI p n ∧ firstI p n < n := by
  unfold firstI
  split
  · rename_i j h
    rw [List.find?_range_eq_some] at h
    have := List.mem_range.1 h.2.1
    omega
  · exact .inl rfl

abbrev tO : List Ty := [tI, .sl [tI]]
def eqB (a b : Int) : Bool := decide (a = b)
theorem eqB_t {a b : Int} (h : a = b) : eqB a b = true := decide_eq_true h
theorem eqB_f {a b : Int} (h : a ≠ b) : eqB a b = false := decide_eq_false h
def isId (os : List (List L)) (id : Int) (j : Int) : Bool := eqB (giI os j 0) id
def rfI (os : List (List L)) (id : Int) : Int := firstI (isId os id) os.length
theorem obj_row {os : List (List L)} {i : Int} (h : Rw tO os) (h0 : 0 ≤ i) (h1 : i < os.length) : os.getD i.toNat [] = [.v (.int .i64 (giI os i 0)), .s 1 (gsI os i 1)] := h.eta h0 h1
theorem obj_at {os : List (List L)} {i : Int} (h : Rw tO os) (h0 : 0 ≤ i) (h1 : i < os.length) : os[i.toNat]? = some [.v (.int .i64 (giI os i 0)), .s 1 (gsI os i 1)] := by
  have e := obj_row h h0 h1
  rw [List.getD_eq_getElem?_getD, List.getElem?_eq_getElem (by omega)] at e
  rw [List.getElem?_eq_getElem (by omega)]; simpa using e
theorem obj_sub {os : List (List L)} {i : Int} (h : Rw tO os) (h0 : 0 ≤ i) (h1 : i < os.length) : Rw [tI] (gsI os i 1) := Rw.sub (fs := tO) h (by omega) rfl
theorem obj_has {os : List (List L)} {i : Int} (h : Rw tO os) (h0 : 0 ≤ i) (h1 : i < os.length) : -9223372036854775808 ≤ giI os i 0 ∧ giI os i 0 ≤ 9223372036854775807 := by
  have e := h.at (n := i.toNat) (by omega)
  rw [obj_row h h0 h1] at e
  exact e.1.2
theorem take_obj {os : List (List L)} {i : Int} (h : Rw tO os) (h0 : 0 ≤ i) (h1 : i < os.length) : os.take (i + 1).toNat = os.take i.toNat ++ [[.v (.int .i64 (giI os i 0)), .s 1 (gsI os i 1)]] := by
  rw [show (i + 1).toNat = i.toNat + 1 from by omega, getD_take_succ (d := []) (show i.toNat < os.length by omega), obj_row h h0 h1]
theorem obj_cnt {os : List (List L)} {i : Int} (h : Rw tO os) (h0 : 0 ≤ i) (h1 : i < os.length) : cntE (gsI os i 1) + os.length ≤ cntE os := by
  have e := obj_row h h0 h1
  have h2 := cntE_at (es := os) (n := i.toNat) (by omega)
  have h3 := cntEs_take_le (es := os) (n := i.toNat + 1)
  rw [e] at h2
  have h4 : cntR [.v (.int .i64 (giI os i 0)), .s 1 (gsI os i 1)] = cntE (gsI os i 1) := by simp only [cntR, cntL, cntE]; omega
  rw [h4] at h2
  show _ ≤ os.length + cntEs os
  omega
/-! ### A new object -/
def raN (n sz : Int) : Int := if inR sz 1 1000 = true then arI .add .i64 n 1 else n
def raR (n sz : Int) : Int := if inR sz 1 1000 = true then n else 0
def raO (n : Int) (os : List (List L)) (sz : Int) : List (List L) := if inR sz 1 1000 = true then os ++ [[.v (.int .i64 n), .s 1 (List.replicate sz.toNat [.v (.int .i64 0)])]] else os
theorem ra_no {n sz : Int} {os : List (List L)} (h : inR sz 1 1000 = false) : raN n sz = n ∧ raO n os sz = os ∧ raR n sz = 0 := by unfold raN raO raR; rw [h]; exact ⟨rfl, rfl, rfl⟩
theorem ra_yes {n sz : Int} {os : List (List L)} (h : inR sz 1 1000 = true) : raN n sz = arI .add .i64 n 1 ∧ raO n os sz = os ++ [[.v (.int .i64 n), .s 1 (List.replicate sz.toNat [.v (.int .i64 0)])]] ∧ raR n sz = n := by unfold raN raO raR; rw [h]; exact ⟨rfl, rfl, rfl⟩
theorem ra_eq {n n' r r' : Int} {o o' : List (List L)} (h1 : n = n') (h2 : o = o') (h3 : r = r') : [DV.agg [.v (.int .i64 n), .s 2 o], DV.one (.v (.int .i64 r))] = [DV.agg [.v (.int .i64 n'), .s 2 o'], DV.one (.v (.int .i64 r'))] := by rw [h1, h2, h3]
theorem rb_eq {n n' : Int} {r r' : Bool} {o o' : List (List L)} (h1 : n = n') (h2 : o = o') (h3 : r = r') : [DV.agg [.v (.int .i64 n), .s 2 o], DV.one (.v (.bool r))] = [DV.agg [.v (.int .i64 n'), .s 2 o'], DV.one (.v (.bool r'))] := by rw [h1, h2, h3]
theorem rc_eq {n n' : Int} {o o' : List (List L)} (h1 : n = n') (h2 : o = o') : [DV.agg [.v (.int .i64 n), .s 2 o]] = [DV.agg [.v (.int .i64 n'), .s 2 o']] := by rw [h1, h2]
/-! ### A store -/
def stO (os : List (List L)) (i k v : Int) : List (List L) := os.set i.toNat [.v (.int .i64 (giI os i 0)), .s 1 ((gsI os i 1).set k.toNat [.v (.int .i64 v)])]
def rsB (os : List (List L)) (id at_ v : Int) : Bool := decide (0 ≤ rfI os id) && inR at_ 0 ((gsI os (rfI os id) 1).length - 1) && inR v 0 999
def rsO (os : List (List L)) (id at_ v : Int) : List (List L) := if rsB os id at_ v = true then stO os (rfI os id) at_ v else os
theorem rs_no {os : List (List L)} {id at_ v : Int} (h : ¬ (0 ≤ rfI os id ∧ inR at_ 0 ((gsI os (rfI os id) 1).length - 1) = true ∧ inR v 0 999 = true)) : rsO os id at_ v = os ∧ rsB os id at_ v = false := by
  have : rsB os id at_ v = false := by
    cases q : rsB os id at_ v
    · rfl
    · unfold rsB at q; simp only [Bool.and_eq_true, decide_eq_true_eq] at q; exact absurd ⟨q.1.1, q.1.2, q.2⟩ h
  unfold rsO; rw [this]; exact ⟨rfl, rfl⟩
theorem rs_yes {os : List (List L)} {id at_ v : Int} (h0 : 0 ≤ rfI os id) (h1 : inR at_ 0 ((gsI os (rfI os id) 1).length - 1) = true) (h2 : inR v 0 999 = true) : rsO os id at_ v = stO os (rfI os id) at_ v ∧ rsB os id at_ v = true := by
  have : rsB os id at_ v = true := by unfold rsB; rw [decide_eq_true h0, h1, h2]; rfl
  unfold rsO; rw [this]; exact ⟨rfl, rfl⟩
theorem rf_bd {os : List (List L)} {id : Int} : rfI os id = -1 ∨ 0 ≤ rfI os id ∧ rfI os id < os.length := first_bd
theorem getO {os : List (List L)} {i : Int} (h : Rw tO os) (h0 : 0 ≤ i) (h1 : i < os.length) : getR (.s 2 os) [(i.toNat, 1)] = some ([.v (.int .i64 (giI os i 0)), .s 1 (gsI os i 1)], 1) := by
  show (os[i.toNat]?).map (·, 1) = _
  rw [obj_at h h0 h1]; rfl
theorem getS_o {os : List (List L)} {i : Int} (h : Rw tO os) (h0 : 0 ≤ i) (h1 : i < os.length) : getS (.s 2 os) [(i.toNat, 1)] = some (1, gsI os i 1) := by
  unfold getS; rw [getO h h0 h1]; rfl
theorem ps_o {os : List (List L)} {i : Int} {j : Nat} : psI (.s 2 os) [(i.toNat, j)] = gsI os i j := psI_one
theorem get_o {os : List (List L)} {i : Int} (h : Rw tO os) (h0 : 0 ≤ i) (h1 : i < os.length) : ∃ rec o, getR (.s 2 os) [(i.toNat, 1)] = some (rec, o) ∧ o + [L.s 1 []].length ≤ rec.length ∧ List.take [L.s 1 []].length (List.drop o rec) = etaP stdO (.s 2 os) [(i.toNat, 1)] 0 [L.s 1 []] := by
  refine ⟨_, _, getO h h0 h1, Nat.le_refl _, ?_⟩
  show [L.s 1 (gsI os i 1)] = [L.s 1 (psI (.s 2 os) [(i.toNat, 1)])]
  rw [ps_o]
theorem getR_o {os : List (List L)} {i k : Int} (h : Rw tO os) (h0 : 0 ≤ i) (h1 : i < os.length) (k0 : 0 ≤ k) (k1 : k < (gsI os i 1).length) : ∃ rec o', getR (.s 2 os) [(i.toNat, 1), (k.toNat, 0)] = some (rec, o') ∧ o' + 1 ≤ rec.length := by
  have hr := obj_sub h h0 h1
  refine ⟨(gsI os i 1).getD k.toNat [], 0, ?_, by rw [hr.wid (by omega)]; exact Nat.le_refl _⟩
  show (match os[i.toNat]? with
    | some rec => match rec[1]? with
      | some l => getR l [(k.toNat, 0)]
      | none => none
    | none => none) = _
  rw [obj_at h h0 h1]
  show (((gsI os i 1)[k.toNat]?).map (·, 0)) = _
  rw [List.getD_eq_getElem?_getD, List.getElem?_eq_getElem (by omega)]; rfl
theorem up_o {os : List (List L)} {i k v : Int} (h : Rw tO os) (h0 : 0 ≤ i) (h1 : i < os.length) (k0 : 0 ≤ k) (k1 : k < (gsI os i 1).length) : upI (.s 2 os) [(i.toNat, 1), (k.toNat, 0)] [.v (.int .i64 v)] = stO os i k v := by
  have hr := obj_sub h h0 h1
  have hw : ((gsI os i 1).getD k.toNat []).length = 1 := hr.wid (n := k.toNat) (by omega)
  show os.set i.toNat ((os.getD i.toNat []).set 1 (setR ((os.getD i.toNat []).getD 1 .g) [(k.toNat, 0)] [.v (.int .i64 v)])) = _
  rw [obj_row h h0 h1]
  show os.set i.toNat [.v (.int .i64 (giI os i 0)), .s 1 ((gsI os i 1).set k.toNat (((gsI os i 1).getD k.toNat []).take 0 ++ [.v (.int .i64 v)] ++ ((gsI os i 1).getD k.toNat []).drop (0 + 1)))] = _
  rw [List.take_zero, List.drop_of_length_le (by omega)]; rfl
theorem cnt1 {a : List (List L)} : cntRs [a] = cntE a := cntRs_one
theorem ra_wf {n sz : Int} {os : List (List L)} (hn : -9223372036854775808 ≤ n ∧ n ≤ 9223372036854775807) (h : Rw tO os) (hc : cntRs [os] ≤ 1048576) : Rw tO (raO n os sz) ∧ cntRs [raO n os sz] ≤ 1099511627776 := by
  rw [cnt1] at hc ⊢
  have hl := len_cnt (es := os)
  unfold raO; split
  · rename_i q
    have hz := inR_t.1 q
    have hp : Rw [tI] (List.replicate sz.toNat [.v (.int .i64 0)]) := Rw.replicate (show confR [tI] [.v (.int .i64 0)] from ⟨⟨rfl, by unfold IntKind.has; decide⟩, trivial⟩) (by simp [maxLen]; omega)
    have e := hp.cnt rfl
    refine ⟨h.append (Rw.one (show confR tO [.v (.int .i64 n), .s 1 _] from ⟨⟨rfl, hn⟩, ⟨rfl, hp⟩, trivial⟩)) (by simp [maxLen]; omega), ?_⟩
    unfold cntE at hc e ⊢
    rw [List.length_replicate] at e
    rw [List.length_append, cntEs_append]
    simp only [cntEs, cntR, cntL, List.length_cons, List.length_nil, List.length_replicate]
    omega
  · exact ⟨h, by omega⟩
theorem rs_wf {os : List (List L)} {id at_ v : Int} (h : Rw tO os) (hc : cntRs [os] ≤ 1048576) : Rw tO (rsO os id at_ v) ∧ cntRs [rsO os id at_ v] ≤ 1099511627776 := by
  rw [cnt1] at hc ⊢
  unfold rsO; split
  · rename_i q
    unfold rsB at q; simp only [Bool.and_eq_true, decide_eq_true_eq, inR_t] at q
    have hb := rf_bd (os := os) (id := id)
    have hr := obj_sub h (i := rfI os id) (by omega) (by omega)
    have hs : Rw [tI] ((gsI os (rfI os id) 1).set at_.toNat [.v (.int .i64 v)]) := hr.set (show confR [tI] [.v (.int .i64 v)] from ⟨⟨rfl, (show -9223372036854775808 ≤ v ∧ v ≤ 9223372036854775807 by omega)⟩, trivial⟩) _
    have e1 := hr.cnt rfl
    have e2 := hs.cnt rfl
    rw [List.length_set] at e2
    have e3 := obj_cnt h (i := rfI os id) (by omega) (by omega)
    have h2 := cntE_set (es := os) (n := (rfI os id).toNat) (e := [.v (.int .i64 (giI os (rfI os id) 0)), .s 1 ((gsI os (rfI os id) 1).set at_.toNat [.v (.int .i64 v)])])
    have h4 : cntR [.v (.int .i64 (giI os (rfI os id) 0)), .s 1 ((gsI os (rfI os id) 1).set at_.toNat [.v (.int .i64 v)])] = cntE ((gsI os (rfI os id) 1).set at_.toNat [.v (.int .i64 v)]) := by simp only [cntR, cntL, cntE]; omega
    refine ⟨h.set (show confR tO [.v (.int .i64 _), .s 1 _] from ⟨⟨rfl, obj_has h (by omega) (by omega)⟩, ⟨rfl, hs⟩, trivial⟩) _, ?_⟩
    unfold stO; omega
  · exact ⟨h, by omega⟩
end Go.V
