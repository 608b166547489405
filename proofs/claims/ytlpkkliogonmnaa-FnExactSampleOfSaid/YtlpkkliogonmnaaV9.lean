/-
  The value-level condition generator, part 9: leaves that move; new variables in memory.
-/
import Derived.Test.YtlpkkliogonmnaaV8
set_option linter.all false

namespace Go.V

inductive Tk (g : Gm) (G : Gh) (w : World) : L → Option Nat → List (Nat × Nat) → Value → List Nat → Prop
  | plain (l : L) (v : Value) (h : RdL w l v []) : Tk g G w l none [] v []
  | moved (r j : Nat) (h : Hv) (l : L) (h1 : g (.leaf r j) = some (.h h)) (h2 : h.c = .own l) : Tk g G w l h.org [(r, j)] (G.val r j) (G.fp r j)

inductive Tks (g : Gm) (G : Gh) (w : World) : List (L × Option Nat) → List (Nat × Nat) → List Value → List (List Nat) → Prop
  | nil : Tks g G w [] [] [] []
  | cons {l og src v S ls srcs vs Ss} (h : Tk g G w l og src v S) (hs : Tks g G w ls srcs vs Ss) : Tks g G w ((l, og) :: ls) (src ++ srcs) (v :: vs) (S :: Ss)

inductive Pk (g : Gm) (G : Gh) (w : World) : H → Option Nat → List (Nat × Nat) → Value → List Nat → Prop
  | own {l og src v S} (h : Tk g G w l og src v S) : Pk g G w (.own l) og src v S
  | ro (l : L) (v : Value) (S' : List Nat) (h : RdL w l v S') (h2 : ∀ b ∈ S', G.ow b = some .ro) : Pk g G w (.ro l) none [] v []

inductive Pks (g : Gm) (G : Gh) (w : World) : List (H × Option Nat) → List (Nat × Nat) → List Value → List (List Nat) → Prop
  | nil : Pks g G w [] [] [] []
  | cons {c og src v S ls srcs vs Ss} (h : Pk g G w c og src v S) (hs : Pks g G w ls srcs vs Ss) : Pks g G w ((c, og) :: ls) (src ++ srcs) (v :: vs) (S :: Ss)

section
variable {P : Program} {o : Oper} {cx : Cx} {G : Gh} {g : Gm} {a : Act} {w : World}

theorem take1_sound (hS : SimG cx G g a w) {α : Type} {slot : Option Nat} {x : A} {v : Value} (hx : AOk (gl g) G w x v) {k : L → Option Nat → List (Nat × Nat) → Rd α} {ls : List Loc} {out : α}
    (h : (take1 slot x k).Runs g ls out) : ∃ l og src S ls', Tk g G w l og src v S ∧ (k l og src).Runs g ls' out := by
  unfold take1 at h
  split at h
  · rename_i y
    have hv : v = y := hx
    subst hv
    split at h
    · rename_i hs
      exact ⟨_, _, _, [], ls, .plain _ _ (by simp [RdL, hs]), h⟩
    · simp [Rd.Runs] at h
  · have hv : v = .slice none 0 0 := hx
    subst hv
    exact ⟨_, _, _, [], ls, .plain _ _ (by simp only [RdL]; exact ⟨none, 0, 0, rfl, rfl, Nat.le_refl _, Nat.zero_le _, .inl (by simp)⟩), h⟩
  · rename_i r j ver lo m sz
    obtain ⟨hv, ls2, q1, q2, h⟩ := rdH_sound h
    split at h
    · rename_i sz' es hc
      split at h
      · rename_i hb
        simp only [Bool.and_eq_true, beq_iff_eq] at hb
        simp only [Rd.Runs] at h
        obtain ⟨⟨h0, h1⟩, h⟩ := h
        obtain ⟨h2, f1, f2, f3⟩ := hx
        rw [q1] at f1; cases f1
        obtain ⟨f4, base, len, cap, base', cap', g1, g2, g3, g4, g5, g6⟩ := f3 hb.1 sz' es hc
        have hok := hS.hok q1
        have : m = len := by
          simp only [HOk, hc, RdL] at hok
          obtain ⟨⟨b0, n0, c0, r1, r2, _⟩, _⟩ := hok
          rw [g1] at r1; cases r1; omega
        have e := g5 h0 this
        refine ⟨_, _, _, G.fp r j, ls2, ?_, h⟩
        rw [e]
        exact .moved r j hv _ q2 hc
      · simp [Rd.Runs] at h
    · simp [Rd.Runs] at h
  · simp [Rd.Runs] at h

theorem takeAll_sound (hS : SimG cx G g a w) {α : Type} : ∀ (slots : List (Option Nat)) (as : List A) (vs : List Value), AOks (gl g) G w as vs → ∀ (k : List (L × Option Nat) → List (Nat × Nat) → Rd α) (ls : List Loc) (out : α),
    (takeAll slots as k).Runs g ls out → ∃ lts srcs Ss ls', Tks g G w lts srcs vs Ss ∧ lts.length = slots.length ∧ (k lts srcs).Runs g ls' out
  | [], [], vs, hx, k, ls, out, h => by
    simp only [AOks] at hx; subst hx
    exact ⟨[], [], [], ls, .nil, rfl, by simpa [takeAll] using h⟩
  | [], _ :: _, vs, hx, k, ls, out, h => by simp [takeAll, Rd.Runs] at h
  | _ :: _, [], vs, hx, k, ls, out, h => by simp [takeAll, Rd.Runs] at h
  | sl :: sls, x :: as, vs, hx, k, ls, out, h => by
    obtain ⟨v, vs', rfl, h1, h2⟩ := hx
    simp only [takeAll] at h
    obtain ⟨l, og, src, S, ls2, t1, h⟩ := take1_sound hS h1 h
    obtain ⟨lts, srcs, Ss, ls3, t2, t4, h⟩ := takeAll_sound hS sls as vs' h2 _ _ _ h
    exact ⟨_, _, _, ls3, .cons t1 t2, by simp [t4], h⟩

theorem put1_sound (hS : SimG cx G g a w) {α : Type} {slot : Option Nat} {x : A} {v : Value} (hx : AOk (gl g) G w x v) {k : H → Option Nat → List (Nat × Nat) → Rd α} {ls : List Loc} {out : α}
    (h : (put1 slot x k).Runs g ls out) : ∃ c og src S ls', Pk g G w c og src v S ∧ (k c og src).Runs g ls' out := by
  unfold put1 at h
  split at h
  · rename_i sz' es sz
    split at h
    · obtain ⟨S, h1, h2⟩ := hx
      exact ⟨_, _, _, [], ls, .ro _ _ S h1 h2, h⟩
    · simp [Rd.Runs] at h
  · obtain ⟨l, og, src, S, ls', t, h⟩ := take1_sound hS hx h
    exact ⟨_, _, _, S, ls', .own t, h⟩

theorem putAll_sound (hS : SimG cx G g a w) {α : Type} : ∀ (slots : List (Option Nat)) (as : List A) (vs : List Value), AOks (gl g) G w as vs → ∀ (k : List (H × Option Nat) → List (Nat × Nat) → Rd α) (ls : List Loc) (out : α),
    (putAll slots as k).Runs g ls out → ∃ lts srcs Ss ls', Pks g G w lts srcs vs Ss ∧ lts.length = slots.length ∧ (k lts srcs).Runs g ls' out
  | [], [], vs, hx, k, ls, out, h => by
    simp only [AOks] at hx; subst hx
    exact ⟨[], [], [], ls, .nil, rfl, by simpa [putAll] using h⟩
  | [], _ :: _, vs, hx, k, ls, out, h => by simp [putAll, Rd.Runs] at h
  | _ :: _, [], vs, hx, k, ls, out, h => by simp [putAll, Rd.Runs] at h
  | sl :: sls, x :: as, vs, hx, k, ls, out, h => by
    obtain ⟨v, vs', rfl, h1, h2⟩ := hx
    simp only [putAll] at h
    obtain ⟨c, og, src, S, ls2, t1, h⟩ := put1_sound hS h1 h
    obtain ⟨lts, srcs, Ss, ls3, t2, t4, h⟩ := putAll_sound hS sls as vs' h2 _ _ _ h
    exact ⟨_, _, _, ls3, .cons t1 t2, by simp [t4], h⟩

/-- What was taken: it reads, it is free of the rest. -/
theorem Tk.facts (hS : SimG cx G g a w) {l : L} {og : Option Nat} {src : List (Nat × Nat)} {v : Value} {S : List Nat} (h : Tk g G w l og src v S) :
    RdL w l v S ∧ S.Nodup ∧ ∀ b ∈ S, Unf w b ∧ ∃ r j, (r, j) ∈ src ∧ G.ow b = some (.leaf r j) := by
  cases h with
  | plain l v h => exact ⟨h, List.nodup_nil, fun b hb => by cases hb⟩
  | moved r j h l h1 h2 =>
    have := hS.hok (gl_some.2 h1)
    simp only [HOk, h2] at this
    exact ⟨this.1, this.2.1, fun b hb => ⟨(this.2.2 b hb).2, r, j, by simp, (this.2.2 b hb).1⟩⟩

theorem Pk.org (hS : SimG cx G g a w) {c : H} {og : Option Nat} {src : List (Nat × Nat)} {v : Value} {S : List Nat} (h : Pk g G w c og src v S) : OrgOk cx c og v := by
  cases h with
  | own t =>
    cases t with
    | plain l v h => exact OrgOk.none
    | moved r j h l h1 h2 => have := hS.anc r j h (gl_some.2 h1); rw [h2] at this; exact this
  | ro l v S' h h2 => exact OrgOk.none
theorem Pks.orgs (hS : SimG cx G g a w) {ls : List (H × Option Nat)} {srcs : List (Nat × Nat)} {vs : List Value} {Ss : List (List Nat)} (h : Pks g G w ls srcs vs Ss) : OrgsOk cx ls vs := by
  induction h with
  | nil => trivial
  | cons h hs ih => exact ⟨h.org hS, ih⟩
theorem Pk.facts (hS : SimG cx G g a w) {c : H} {og : Option Nat} {src : List (Nat × Nat)} {v : Value} {S : List Nat} (h : Pk g G w c og src v S) :
    S.Nodup ∧ ∀ b ∈ S, Unf w b ∧ ∃ r j, (r, j) ∈ src ∧ G.ow b = some (.leaf r j) := by
  cases h with
  | own t => exact (t.facts hS).2
  | ro l v S' h h2 => exact ⟨List.nodup_nil, fun b hb => by cases hb⟩

theorem RdL.one {l : L} {v : Value} {S : List Nat} (h : RdL w l v S) : v.oneCell' = true := by
  cases l with
  | v y => simp only [RdL] at h; obtain ⟨rfl, h2, _⟩ := h; cases v <;> simp_all [scal, Value.oneCell']
  | g => simp only [RdL] at h; exact h.1
  | s sz es => simp only [RdL] at h; obtain ⟨_, _, _, rfl, _⟩ := h; rfl

theorem Pk.one (hS : SimG cx G g a w) {c : H} {og : Option Nat} {src : List (Nat × Nat)} {v : Value} {S : List Nat} (h : Pk g G w c og src v S) : v.oneCell' = true := by
  cases h with
  | own t => exact RdL.one (t.facts hS).1
  | ro l v S' h h2 => exact RdL.one h

theorem distinctP_append {xs ys : List (Nat × Nat)} (h : distinctP (xs ++ ys) = true) : distinctP xs = true ∧ distinctP ys = true ∧ ∀ p, p ∈ xs → p ∉ ys := by
  induction xs with
  | nil => exact ⟨rfl, by simpa using h, fun p hp => by cases hp⟩
  | cons x xs ih =>
    simp only [List.cons_append, distinctP, Bool.and_eq_true, Bool.not_eq_true', List.contains_eq_mem, List.mem_append, decide_eq_false_iff_not, not_or] at h ⊢
    obtain ⟨⟨h1, h2⟩, h3⟩ := h
    obtain ⟨i1, i2, i3⟩ := ih h3
    exact ⟨⟨h1, i1⟩, i2, fun p hp => by rcases List.mem_cons.1 hp with rfl | hp; exact h2; exact i3 p hp⟩

theorem Pks.length {ls : List (H × Option Nat)} {srcs : List (Nat × Nat)} {vs : List Value} {Ss : List (List Nat)} (h : Pks g G w ls srcs vs Ss) : vs.length = ls.length ∧ Ss.length = ls.length := by
  induction h with
  | nil => exact ⟨rfl, rfl⟩
  | cons _ _ ih => simp [ih.1, ih.2]

/-- One of those that were taken. -/
theorem Pks.nth {ls : List (H × Option Nat)} {srcs : List (Nat × Nat)} {vs : List Value} {Ss : List (List Nat)} (h : Pks g G w ls srcs vs Ss) : ∀ (i : Nat) (c : H) (og : Option Nat), ls[i]? = some (c, og) →
    ∃ src v S, Pk g G w c og src v S ∧ vs[i]? = some v ∧ Ss[i]? = some S ∧ ∀ p ∈ src, p ∈ srcs := by
  induction h with
  | nil => intro i c og e; simp at e
  | cons hk hs ih =>
    intro i c og e
    cases i with
    | zero => simp at e; obtain ⟨rfl, rfl⟩ := e; exact ⟨_, _, _, hk, rfl, rfl, fun p hp => by simp [hp]⟩
    | succ i =>
      simp at e
      obtain ⟨src, v, S, k1, k2, k3, k4⟩ := ih i c og e
      exact ⟨src, v, S, k1, by simpa using k2, by simpa using k3, fun p hp => by simp [k4 p hp]⟩

theorem Pks.tok (hS : SimG cx G g a w) {ls : List (H × Option Nat)} {srcs : List (Nat × Nat)} {vs : List Value} {Ss : List (List Nat)} (h : Pks g G w ls srcs vs Ss) : ∀ i, ∀ b ∈ Ss.getD i [], ∃ r j, (r, j) ∈ srcs ∧ G.ow b = some (.leaf r j) := by
  induction h with
  | nil => intro i b hb; simp at hb
  | cons hk hs ih =>
    intro i b hb
    cases i with
    | zero =>
      obtain ⟨_, r, j, h1, h2⟩ := (hk.facts hS).2 b (by simpa using hb)
      exact ⟨r, j, by simp [h1], h2⟩
    | succ i =>
      obtain ⟨r, j, h1, h2⟩ := ih i b (by simpa using hb)
      exact ⟨r, j, by simp [h1], h2⟩

theorem Pks.disj (hS : SimG cx G g a w) {ls : List (H × Option Nat)} {srcs : List (Nat × Nat)} {vs : List Value} {Ss : List (List Nat)} (h : Pks g G w ls srcs vs Ss) (hd : distinctP srcs = true) :
    ∀ i j, i ≠ j → ∀ b ∈ Ss.getD i [], b ∉ Ss.getD j [] := by
  induction h with
  | nil => intro i j _ b hb; simp at hb
  | cons hk hs ih =>
    obtain ⟨d1, d2, d3⟩ := distinctP_append hd
    have cross : ∀ (k : Nat) (b : Nat), b ∈ ‹List Nat› → b ∈ (‹List (List Nat)› : List (List Nat)).getD k [] → False := by
      intro k b hb hb2
      obtain ⟨_, r, j, h1, h2⟩ := (hk.facts hS).2 b hb
      obtain ⟨r', j', h3, h4⟩ := hs.tok hS k b hb2
      rw [h2] at h4; cases h4
      exact d3 _ h1 h3
    intro i j hij b hb hb2
    cases i with
    | zero =>
      cases j with
      | zero => exact hij rfl
      | succ j => exact cross j b (by simpa using hb) (by simpa using hb2)
    | succ i =>
      cases j with
      | zero => exact cross i b (by simpa using hb2) (by simpa using hb)
      | succ j => exact ih d2 i j (by omega) b (by simpa using hb) (by simpa using hb2)

theorem apps_append (g : Gm) : ∀ (xs ys : List W), apps g (xs ++ ys) = apps (apps g xs) ys
  | [], _ => rfl
  | x :: xs, ys => apps_append (x.app g) xs ys

/-- The leaves that were taken out are gone; all else is as it was. -/
theorem gones_sound {α : Type} : ∀ (srcs : List (Nat × Nat)) (g0 : Gm), SimG cx G g0 a w → (∀ r j, (r, j) ∈ srcs → g0 (.leaf r j) = g (.leaf r j)) → distinctP srcs = true →
    ∀ (k : List W → Rd α) (ls : List Loc) (out : α), (gones srcs k).Runs g ls out →
    ∃ w1 ls', SimG cx G (apps g0 w1) a w ∧ (k w1).Runs g ls' out ∧ (∀ r j, (r, j) ∈ srcs → ∃ h, apps g0 w1 (.leaf r j) = some (.h h) ∧ h.c = .gone) ∧
      (∀ l, (∀ r j, l = .leaf r j → (r, j) ∉ srcs) → apps g0 w1 l = g0 l)
  | [], g0, hS, _, _, k, ls, out, h => ⟨[], ls, hS, by simpa [gones] using h, fun r j hm => by simp at hm, fun _ _ => rfl⟩
  | (r, j) :: xs, g0, hS, hag, hd, k, ls, out, h => by
    simp only [gones] at h
    obtain ⟨hv, ls2, _, q, h⟩ := rdH_sound h
    simp only [distinctP, Bool.and_eq_true, Bool.not_eq_true', List.contains_eq_mem, decide_eq_false_iff_not] at hd
    have q0 : g0 (.leaf r j) = some (.h hv) := by rw [hag r j (by simp), q]
    have hS1 := hS.gone q0 none
    have hag1 : ∀ r' j', (r', j') ∈ xs → (W.leaf r j ⟨hv.ver + 1, hv.iv, none, .gone⟩).app g0 (.leaf r' j') = g (.leaf r' j') := by
      intro r' j' hm
      have : ¬ (r' = r ∧ j' = j) := by rintro ⟨rfl, rfl⟩; exact hd.1 hm
      simp only [W.app]
      rw [if_neg (by intro e; cases e; exact this ⟨rfl, rfl⟩)]
      exact hag r' j' (by simp [hm])
    obtain ⟨w1, ls3, h1, h2, h3, h4⟩ := gones_sound xs _ hS1 hag1 hd.2 _ _ _ h
    refine ⟨.leaf r j ⟨hv.ver + 1, hv.iv, none, .gone⟩ :: w1, ls3, h1, h2, ?_, ?_⟩
    · intro r' j' hm
      rcases List.mem_cons.1 hm with e | hm
      · cases e
        refine ⟨⟨hv.ver + 1, hv.iv, none, .gone⟩, ?_, rfl⟩
        simp only [apps]
        rw [h4 _ (fun r' j' e => by cases e; exact hd.1)]
        simp [W.app]
      · exact h3 r' j' hm
    · intro l hl
      simp only [apps]
      rw [h4 l (fun r' j' e hm => hl r' j' e (by simp [hm]))]
      cases l with
      | leaf r' j' =>
        have : ¬ (r' = r ∧ j' = j) := by rintro ⟨rfl, rfl⟩; exact hl r' j' rfl (by simp)
        simp only [W.app]
        rw [if_neg (by intro e; cases e; exact this ⟨rfl, rfl⟩)]
      | _ => simp [W.app]

end

end Go.V
