/-
  The value-level condition generator, part 23: regions whose order is drawn.
-/
import Derived.Test.YtlpkkliogonmnaaV22
set_option linter.all false

namespace Go.V

def WK.hits : WK → Loc → Bool
  | .reg d, .reg d' => d.beq d'
  | .leaf r j, .leaf r' j' => r.beq r' && j.beq j'
  | .root r, .leaf r' _ => r.beq r'
  | .root r, .meta_ r' => r.beq r'
  | _, _ => false
def WK.clash : WK → WK → Bool
  | .reg d, .reg d' => d.beq d'
  | .leaf r j, .leaf r' j' => r.beq r' && j.beq j'
  | .root r, .leaf r' _ => r.beq r'
  | .leaf r _, .root r' => r.beq r'
  | .root r, .root r' => r.beq r'
  | _, _ => false

theorem clash_of {k k' : WK} {l : Loc} (h : k.hits l = true) (h' : k'.hits l = true) : k.clash k' = true := by
  cases k <;> cases k' <;> cases l <;> simp_all [WK.hits, WK.clash]

theorem app_other {g : Gm} {x : W} {l : Loc} (h : (keyOf x).hits l = false) : x.app g l = g l := by
  cases x <;> cases l <;> simp only [keyOf, WK.hits, W.app] at h ⊢ <;> first
    | rfl
    | (rw [if_neg]; intro e; cases e; simp at h)
    | (rw [if_neg]; intro e; subst e; simp at h)
theorem app_hit {g g' : Gm} {x : W} {l : Loc} (h : (keyOf x).hits l = true) : x.app g l = x.app g' l := by
  cases x <;> cases l <;> simp_all [keyOf, WK.hits, W.app]

def touches (ws : List W) (l : Loc) : Bool := ws.any fun x => (keyOf x).hits l

theorem apps_other {l : Loc} : ∀ {ws : List W} {g : Gm}, touches ws l = false → apps g ws l = g l
  | [], _, _ => rfl
  | x :: ws, g, h => by
    simp only [touches, List.any_cons, Bool.or_eq_false_iff] at h
    simp only [apps]
    rw [apps_other (ws := ws) h.2, app_other h.1]
theorem apps_at {l : Loc} : ∀ {ws : List W} {g g' : Gm}, g l = g' l → apps g ws l = apps g' ws l
  | [], _, _, h => h
  | x :: ws, g, g', h => by
    simp only [apps]
    refine apps_at (ws := ws) ?_
    cases hx : (keyOf x).hits l with
    | true => exact app_hit hx
    | false => rw [app_other hx, app_other hx, h]
theorem apps_hit {l : Loc} : ∀ {ws : List W} {g g' : Gm}, touches ws l = true → apps g ws l = apps g' ws l
  | [], _, _, h => by simp [touches] at h
  | x :: ws, g, g', h => by
    simp only [touches, List.any_cons, Bool.or_eq_true] at h
    simp only [apps]
    cases hx : (keyOf x).hits l with
    | true => exact apps_at (app_hit hx)
    | false =>
      rw [hx] at h
      exact apps_hit (h.resolve_left (by simp))

/-- The writes of the listed, in text order. -/
def sel (wsOf : Nat → List W) (p : Nat → Bool) (m : Nat) : List W := ((List.range m).filter p).flatMap wsOf

theorem apps_flat (wsOf : Nat → List W) (l : Loc) : ∀ (is : List Nat) (g : Gm), apps g (is.flatMap wsOf) l = apps g ((is.filter fun i => touches (wsOf i) l).flatMap wsOf) l
  | [], g => rfl
  | i :: is, g => by
    simp only [List.flatMap_cons, List.filter_cons, apps_append]
    cases h : touches (wsOf i) l with
    | true => simp only [if_true, List.flatMap_cons, apps_append]; exact apps_flat wsOf l is _
    | false =>
      simp only [Bool.false_eq_true, if_false]
      rw [← apps_flat wsOf l is g]
      exact apps_at (apps_other h)

theorem sel_congr {wsOf : Nat → List W} {p q : Nat → Bool} {m : Nat} {l : Loc} {g : Gm} (h : ∀ i, i < m → touches (wsOf i) l = true → p i = q i) : apps g (sel wsOf p m) l = apps g (sel wsOf q m) l := by
  unfold sel
  rw [apps_flat, apps_flat wsOf l ((List.range m).filter q)]
  have e : ((List.range m).filter p).filter (fun i => touches (wsOf i) l) = ((List.range m).filter q).filter (fun i => touches (wsOf i) l) := by
    rw [List.filter_filter, List.filter_filter]
    refine List.filter_congr ?_
    intro i hi
    rw [List.mem_range] at hi
    cases ht : touches (wsOf i) l with
    | true => simp [h i hi ht]
    | false => simp
  rw [e]

theorem sel_last {wsOf : Nat → List W} {q : Nat → Bool} {m j : Nat} {l : Loc} {g g' : Gm} (hj : j < m) (hq : q j = true) (ht : touches (wsOf j) l = true) (h : ∀ i, j < i → i < m → touches (wsOf i) l = true → q i = false) :
    apps g (sel wsOf q m) l = apps g' (wsOf j) l := by
  have e : apps g (sel wsOf q m) l = apps g (sel wsOf (fun i => q i && decide (i ≤ j)) m) l := by
    refine sel_congr ?_
    intro i hi hti
    rcases Nat.lt_or_ge j i with c | c
    · rw [h i c hi hti]; rfl
    · simp [c]
  rw [e]
  have hs : (List.range m).filter (fun i => q i && decide (i ≤ j)) = ((List.range j).filter q) ++ [j] := by
    have : List.range m = List.range j ++ [j] ++ (List.range (m - (j + 1))).map (fun x => (j + 1) + x) := by
      have e1 : List.range (j + 1 + (m - (j + 1))) = List.range (j + 1) ++ (List.range (m - (j + 1))).map (fun x => (j + 1) + x) := List.range_add
      rw [show j + 1 + (m - (j + 1)) = m from by omega] at e1
      rw [e1, List.range_succ]
    rw [this, List.filter_append, List.filter_append]
    have e2 : (List.map (fun x => j + 1 + x) (List.range (m - (j + 1)))).filter (fun i => q i && decide (i ≤ j)) = [] := by
      rw [List.filter_eq_nil_iff]
      intro a ha
      obtain ⟨x, _, rfl⟩ := List.mem_map.1 ha
      simp; intro _; omega
    have e3 : (List.range j).filter (fun i => q i && decide (i ≤ j)) = (List.range j).filter q := by
      refine List.filter_congr ?_
      intro i hi
      rw [List.mem_range] at hi
      simp [Nat.le_of_lt hi]
    rw [e2, e3]
    simp [hq]
  unfold sel
  rw [hs, List.flatMap_append, apps_append]
  simp only [List.flatMap_cons, List.flatMap_nil, List.append_nil]
  exact apps_hit ht

/-! ### The check -/

def predsOf (o : Oper) : List Nat := o.after.toList.filterMap fun e => if Region.binds .any e then some e.on else none
def maskOf (ms : List Nat) : List Nat → Nat
  | [] => 0
  | p :: ps => (1 <<< p) ||| (ms.getD p 0 ||| maskOf ms ps)
def masks : List (List Nat) → List Nat → List Nat
  | [], acc => acc
  | ds :: rest, acc => masks rest (acc ++ [maskOf acc ds])

def pairBad (x y : List Loc × List WK) : Bool :=
  x.2.any fun k => y.1.any (fun l => k.hits l) || y.2.any (fun k' => k.clash k') 
def pairBad' (x y : List Loc × List WK) : Bool := y.2.any fun k => x.1.any fun l => k.hits l

def okRow (mask : Nat) (y : List Loc × List WK) : Nat → Tr → Bool
  | _, [] => true
  | i, x :: xs => (mask.testBit i || !(pairBad x y || pairBad' x y)) && okRow mask y (i + 1) xs
/-- 'xs': those ahead, in text order. -/
def okRows : List Nat → Tr → Tr → Bool
  | m :: ms, xs, y :: ys => okRow m y 0 xs && okRows ms (xs ++ [y]) ys
  | [], _, [] => true
  | _, _, _ => false
def okBack : Nat → List (List Nat) → Bool
  | _, [] => true
  | i, ds :: rest => ds.all (fun p => p.blt i) && okBack (i + 1) rest
def okOrder (ops : Array Oper) (tr : Tr) : Bool :=
  let ps := ops.toList.map predsOf
  okBack 0 ps && okRows (masks ps []) [] tr

end Go.V
