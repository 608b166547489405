/-
  A condition generator for functions on trees of data, part 5 of 5: values in memory, contracts, soundness.
-/
import Derived.Test.YtniaaknbbceigaaGreatVD
set_option linter.all false
/-
 Rows of well-formed records; cells of rows that are written.
-/
namespace Go.V
abbrev Rw (fs : List Ty) (es : List (List L)) : Prop := es.length <= maxLen /\ ∀ e ∈ es, bS fs e
abbrev tI : Ty := .int .i64
abbrev tB : Ty := .bool
mutual
def zL : Ty -> L
 | .int k => .v (.int k 0)
 | .bool => .v (.bool false)
 | .str => .v (.string .empty)
 | .sl fs => .s fs.length []
def zR : List Ty -> (List L)
 | [] => []
 | t :: ts => zL t :: zR ts
end
theorem uq : ∀ {fs : List Ty} {e : (List L)}, bS fs e -> fv (zR fs) e = true
 | [], [], _ => rfl
 | [], _ :: _, h => h.elim
 | _ :: _, [], h => h.elim
 | t :: ts, l :: ls, h => by
   obtain ⟨h1, h2⟩ := h;simp only [zR, fv, Bool.and_eq_true];refine ⟨?_, uq h2⟩;cases t with
   | int k => cases l with
     | v x => cases x with
       | int k' n => simp only [cD] at h1; simp [zL, jB, h1.1]
       | _ => simp [cD] at h1
     | _ => simp [cD] at h1
   | bool => cases l with
     | v x => cases x with
       | bool b => rfl
       | _ => simp [cD] at h1
     | _ => simp [cD] at h1
   | str => cases l with
     | v x => cases x with
       | string b => rfl
       | _ => simp [cD] at h1
     | _ => simp [cD] at h1
   | sl fs => cases l with
     | s sz es => simp only [cD] at h1; simp [zL, jB, h1.1]
     | _ => simp [cD] at h1
theorem Rw.wf {fs : List Ty} {es : List (List L)} (h : Rw fs es) : Wf (zR fs) es := fun e he => uq (h.2 e he)
theorem Rw.at {fs : List Ty} {es : List (List L)} (h : Rw fs es) {n : Nat} (hn : n < es.length) : bS fs (es.getD n []) := by
 refine h.2 _ ?_;rw [List.getD_eq_getElem?_getD, List.getElem?_eq_getElem hn]; exact List.getElem_mem _
theorem Rw.eta {fs : List Ty} {es : List (List L)} (h : Rw fs es) {i : Int} (h0 : 0 <= i) (h1 : i < es.length) : es.getD i.toNat [] = fu ah es i 0 (zR fs) := (aH h.wf h0 h1).symm
theorem ru : ∀ {fs : List Ty} {e : (List L)} {j : Nat} {gs : List Ty}, bS fs e -> fs[j]? = some (.sl gs) -> ∃ es', e[j]? = some (.s gs.length es') /\ Rw gs es'
 | [], _, j, gs, _, h => by simp at h
 | _ :: _, [], j, gs, h, _ => h.elim
 | t :: ts, l :: ls, 0, gs, h, e => by
   simp at e; subst e;have h1 := h.1;cases l with
   | s sz es => simp only [cD] at h1; exact ⟨es, by simp [h1.1], h1.2⟩
   | _ => simp [cD] at h1
 | t :: ts, l :: ls, j + 1, gs, h, e => by
   simp at e;obtain ⟨es', h1, h2⟩ := ru h.2 e;exact ⟨es', by simpa using h1, h2⟩
theorem Rw.sub {fs : List Ty} {es : List (List L)} (h : Rw fs es) {i : Int} (hn : i.toNat < es.length) {j : Nat} {gs : List Ty} (hj : fs[j]? = some (.sl gs)) : Rw gs (ay es i j) := by
 obtain ⟨es', h1, h2⟩ := ru (h.at hn) hj;unfold ay;rw [List.getD_eq_getElem?_getD (l := es.getD i.toNat []), h1];exact h2
theorem Rw.nil {fs : List Ty} : Rw fs [] := ⟨Nat.zero_le _, by simp⟩
theorem Rw.take {fs : List Ty} {es : List (List L)} (h : Rw fs es) (n : Nat) : Rw fs (es.take n) := ⟨by rw [List.length_take]; exact Nat.le_trans (Nat.min_le_right _ _) h.1, fun e he => h.2 e (List.mem_of_mem_take he)⟩
theorem Rw.drop {fs : List Ty} {es : List (List L)} (h : Rw fs es) (n : Nat) : Rw fs (es.drop n) := ⟨by rw [List.length_drop]; exact Nat.le_trans (Nat.sub_le _ _) h.1, fun e he => h.2 e (List.mem_of_mem_drop he)⟩
theorem Rw.append {fs : List Ty} {a b : List (List L)} (ha : Rw fs a) (hb : Rw fs b) (hl : a.length + b.length <= maxLen) : Rw fs (a ++ b) := ⟨by simpa using hl, fun e he => by rcases List.mem_append.1 he with q | q; exact ha.2 e q; exact hb.2 e q⟩
theorem Rw.one {fs : List Ty} {e : (List L)} (h : bS fs e) : Rw fs [e] := ⟨by simp [maxLen], by simpa using h⟩
theorem Rw.set {fs : List Ty} {es : List (List L)} (h : Rw fs es) {e : (List L)} (he : bS fs e) (n : Nat) : Rw fs (es.set n e) := ⟨by simpa using h.1, fun x hx => by rcases List.mem_or_eq_of_mem_set hx with q | q; exact h.2 x q; rw [q]; exact he⟩
theorem Rw.replicate {fs : List Ty} {e : (List L)} (h : bS fs e) {n : Nat} (hn : n <= maxLen) : Rw fs (List.replicate n e) := ⟨by simpa using hn, fun x hx => by rw [List.eq_of_mem_replicate hx]; exact h⟩
def lJ : Ty -> Bool
 | .sl _ => false
 | _ => true
theorem pq {t : Ty} {l : L} (h : cD t l) (hs : lJ t = true) : ∃ x, l = .v x := by
 cases t with
 | sl fs => cases hs
 | int k => cases l with
   | v x => exact ⟨x, rfl⟩
   | _ => simp [cD] at h
 | bool => cases l with
   | v x => exact ⟨x, rfl⟩
   | _ => simp [cD] at h
 | str => cases l with
   | v x => exact ⟨x, rfl⟩
   | _ => simp [cD] at h
theorem rG : ∀ {fs : List Ty} {e : (List L)}, fs.all lJ = true -> bS fs e -> cN e = 0
 | [], [], _, _ => rfl
 | [], _ :: _, _, h => h.elim
 | _ :: _, [], _, h => h.elim
 | t :: ts, l :: ls, hs, h => by
   simp only [List.all_cons, Bool.and_eq_true] at hs;obtain ⟨x, rfl⟩ := pq h.1 hs.1;simp only [cN, dA]; rw [rG hs.2 h.2]
theorem uv {fs : List Ty} (hs : fs.all lJ = true) : ∀ {es : List (List L)}, (∀ e ∈ es, bS fs e) -> aS es = 0
 | [], _ => rfl
 | e :: es, h => by simp only [aS]; rw [rG hs (h e (by simp)), uv hs (fun x hx => h x (by simp [hx]))]
theorem Rw.cnt {fs : List Ty} {es : List (List L)} (h : Rw fs es) (hs : fs.all lJ = true) : ao es = es.length := by unfold ao; rw [uv hs h.2]; rfl
theorem Rw.scal {fs : List Ty} {es : List (List L)} (h : Rw fs es) (hs : fs.all lJ = true) : bY es := by
 have key : ∀ {fs : List Ty} {e : (List L)}, fs.all lJ = true -> bS fs e -> gq e := by
  intro fs
  induction fs with
  | nil => intro e _ h; cases e with
    | nil => trivial
    | cons _ _ => exact h.elim
  | cons t ts ih =>
    intro e hs h;cases e with
    | nil => exact h.elim
    | cons l ls =>
      simp only [List.all_cons, Bool.and_eq_true] at hs;obtain ⟨x, rfl⟩ := pq h.1 hs.1;exact (ih hs.2 h.2 : gq ls)
 have : ∀ {es : List (List L)}, (∀ e ∈ es, bS fs e) -> bY es := by
  intro es
  induction es with
  | nil => intro _; trivial
  | cons e es ih => intro h; exact ⟨key hs (h e (by simp)), ih (fun x hx => h x (by simp [hx]))⟩
 exact this h.2
theorem bF {es : List (List L)} {n : Nat} (hn : n < es.length) : aS (es.take (n + 1)) = aS (es.take n) + cN (es.getD n []) := by
 rw [eJ (d := []) hn, db]; simp [aS]
theorem av {es : List (List L)} {n : Nat} : aS (es.take n) <= aS es := by
 conv => rhs; rw [<- List.take_append_drop n es, db]
 omega
end Go.V
/-
 Marks are few; what the laws ask of rows.
-/
namespace Go.V
theorem wB {rs : List (List (List L))} (h : ag rs <= 1048576) : ¬ aY rs 1048576 < 0 := by rw [er]; omega
theorem tz {es : List (List L)} {k : Int} : yH (Gp es k) 0 es.length = Gp es k := by
 rw [<- v9 (es := es) (k := k), sa]
end Go.V