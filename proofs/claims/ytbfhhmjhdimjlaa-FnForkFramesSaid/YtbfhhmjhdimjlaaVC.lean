/-
  A condition generator for functions on trees of data, part 3 of 4: values in memory, contracts, soundness.
-/
import Derived.Test.YtbfhhmjhdimjlaaVB

set_option linter.all false

/-
  The value-level condition generator, part 39: a call that writes through pointers is sound.
-/
namespace Go.V

theorem rngOk_at : ∀ {pts : List PtA}, rngOk pts = true → ∀ (i i' : Nat) (p p' : PtA), i < i' → pts[i]? = some p → pts[i']? = some p' → offPt p p' = true
  | [], _, i, i', p, p', _, h, _ => by simp at h
  | q :: ps, h, i, i', p, p', hi, h1, h2 => by
    simp only [rngOk, Bool.and_eq_true, List.all_eq_true] at h
    cases i with
    | zero =>
      simp at h1; subst h1
      cases i' with
      | zero => omega
      | succ i' => simp at h2; exact h.1 p' (List.mem_of_getElem? h2)
    | succ i =>
      cases i' with
      | zero => omega
      | succ i' => simp at h1 h2; exact rngOk_at h.2 i i' p p' (by omega) h1 h2
theorem offPt_iff {p q : PtA} : offPt p q = true ↔ p.1 ≠ q.1 ∨ p.2.1 + p.2.2.length ≤ q.2.1 ∨ q.2.1 + q.2.2.length ≤ p.2.1 := by
  have hb : ∀ a b : Nat, a.beq b = true ↔ a = b := fun a b => ⟨Nat.eq_of_beq_eq_true, fun e => by subst e; exact Nat.beq_refl a⟩
  have hl : ∀ a b : Nat, a.ble b = true ↔ a ≤ b := fun a b => ⟨Nat.le_of_ble_eq_true, Nat.ble_eq_true_of_le⟩
  unfold offPt
  simp only [Bool.or_eq_true, Bool.not_eq_true', hl]
  rw [Bool.eq_false_iff, Ne, hb]
  simp [or_assoc]
theorem inPt_iff {s : Nat × Nat} {p : PtA} : inPt s p = true ↔ s.1 = p.1 ∧ p.2.1 ≤ s.2 ∧ s.2 < p.2.1 + p.2.2.length := by
  have hb : ∀ a b : Nat, a.beq b = true ↔ a = b := fun a b => ⟨Nat.eq_of_beq_eq_true, fun e => by subst e; exact Nat.beq_refl a⟩
  have hl : ∀ a b : Nat, a.ble b = true ↔ a ≤ b := fun a b => ⟨Nat.le_of_ble_eq_true, Nat.ble_eq_true_of_le⟩
  unfold inPt
  simp only [Bool.and_eq_true, hb, hl]
  constructor
  · rintro ⟨h1, h2, h3⟩; exact ⟨h1, h2, by omega⟩
  · rintro ⟨h1, h2, h3⟩; exact ⟨h1, h2, by omega⟩
theorem rngOk_ne {pts : List PtA} (h : rngOk pts = true) {i i' : Nat} {p p' : PtA} (hi : i ≠ i') (h1 : pts[i]? = some p) (h2 : pts[i']? = some p') : p.1 ≠ p'.1 ∨ p.2.1 + p.2.2.length ≤ p'.2.1 ∨ p'.2.1 + p'.2.2.length ≤ p.2.1 := by
  rcases Nat.lt_or_ge i i' with c | c
  · exact offPt_iff.1 (rngOk_at h i i' p p' c h1 h2)
  · have := offPt_iff.1 (rngOk_at h i' i p' p (by omega) h2 h1)
    rcases this with q | q | q
    · exact .inl (Ne.symm q)
    · exact .inr (.inr q)
    · exact .inr (.inl q)

section
variable {P : Program} {o : Oper} {cx : Cx} {G : Gh} {g : Gm} {a : Act} {w : World}

def PtOk (G : Gh) (g : Gm) (p : PtA) : Prop :=
  (∃ b off, G.loc p.1 = some (b, off)) ∧ 0 < p.2.2.length ∧ ∀ (i : Nat) c, p.2.2[i]? = some c → c ≠ .gone ∧ ∃ hv, g (.leaf p.1 (p.2.1 + i)) = some (.h hv) ∧ hv.c = c
inductive PTk (G : Gh) (g : Gm) (w : World) : List DV → List (Nat × Nat) → List PtA → List Value → Prop where
  | nil : PTk G g w [] [] [] []
  | dat {d v S src ds srcs pts vs} (hd : ∀ hs, d ≠ .mp hs) (h : RdArg w d v S) (ht : ∀ b ∈ S, G.ow b = some .ro ∨ ∃ r j, (r, j) ∈ src ∧ G.ow b = some (.leaf r j)) (hs : PTk G g w ds srcs pts vs) : PTk G g w (d :: ds) (src ++ srcs) pts (v :: vs)
  | ptr {p : PtA} {b off ds srcs pts vs} (h : PtOk G g p) (h0 : G.loc p.1 = some (b, off)) (hs : PTk G g w ds srcs pts vs) : PTk G g w (.mp p.2.2 :: ds) srcs (p :: pts) (.pointer (some ⟨b, off + p.2.1, none⟩) :: vs)

theorem leafHs_sound {α : Type} {r : Nat} : ∀ (m j : Nat) (k : List H → Rd α) (ls : List Loc) (out : α), (leafHs r j m k).Runs g ls out →
    ∃ hs ls', hs.length = m ∧ (∀ (i : Nat) c, hs[i]? = some c → c ≠ .gone ∧ ∃ hv, g (.leaf r (j + i)) = some (.h hv) ∧ hv.c = c) ∧ (k hs).Runs g ls' out
  | 0, j, k, ls, out, h => ⟨[], ls, rfl, (fun i c e => by simp at e), h⟩
  | m + 1, j, k, ls, out, h => by
    obtain ⟨hv, ls2, _, q2, hk⟩ := rdH_sound (k := fun h => match h.c with
      | .own l => leafHs r (j + 1) m fun hs => k (.own l :: hs)
      | .ro l => leafHs r (j + 1) m fun hs => k (.ro l :: hs)
      | .gone => .fail) h
    have fin : ∀ c, c ≠ .gone → hv.c = c → (leafHs r (j + 1) m fun hs => k (c :: hs)).Runs g ls2 out → ∃ hs ls', hs.length = m + 1 ∧ (∀ (i : Nat) c, hs[i]? = some c → c ≠ .gone ∧ ∃ hv, g (.leaf r (j + i)) = some (.h hv) ∧ hv.c = c) ∧ (k hs).Runs g ls' out := by
      intro c hc e hk
      obtain ⟨hs, ls3, e1, e2, e3⟩ := leafHs_sound m (j + 1) _ _ _ hk
      refine ⟨c :: hs, ls3, by simp [e1], fun i c' e' => ?_, e3⟩
      cases i with
      | zero => simp at e'; subst e'; exact ⟨hc, hv, q2, e⟩
      | succ i =>
        simp at e'
        have := e2 i c' e'
        rw [show j + (i + 1) = j + 1 + i from by omega]; exact this
    cases hc : hv.c with
    | own l => simp only [hc] at hk; exact fin _ (by simp) hc hk
    | ro l => simp only [hc] at hk; exact fin _ (by simp) hc hk
    | gone => simp [hc, Rd.Runs] at hk

theorem pArg_sound (hS : SimG cx G g a w) {isP : TypeId → Bool} {t : TypeId} {x : Operand} {α : Type} {k : DV → List (Nat × Nat) → List PtA → Rd α} {ls : List Loc} {out : α} (h : (pArg argLs (tyI P) (ppI P) isP t x k).Runs g ls out) :
    ∃ d src pt ls', (∀ ds srcs pts vs, PTk G g w ds srcs pts vs → PTk G g w (d :: ds) (src ++ srcs) (pt ++ pts) (a.eval x :: vs)) ∧ (k d src pt).Runs g ls' out := by
  unfold pArg at h
  cases hti : tyI P t with
  | none =>
    simp only [hti] at h
    split at h
    case isFalse => exact h.elim
    obtain ⟨x0, ls1, hx, h⟩ := ev1_sound hS h
    cases x0 with
    | pt r j =>
      simp only at h
      split at h
      · rename_i ti _
        split at h
        · rename_i hpos
          obtain ⟨hs, ls2, e1, e2, h⟩ := leafHs_sound _ _ _ _ _ h
          obtain ⟨b, off, h0, h1⟩ := hx
          refine ⟨.mp hs, [], [(r, j, hs)], ls2, fun ds srcs pts vs hp => ?_, h⟩
          have := PTk.ptr (p := (r, j, hs)) (b := b) (off := off) ⟨⟨b, off, h0⟩, by rw [← e1] at hpos; exact hpos, e2⟩ h0 hp
          rw [h1]; exact this
        · exact h.elim
      · exact h.elim
    | _ => exact h.elim
  | some ti =>
    simp only [hti] at h
    obtain ⟨r, ls1, hr, h⟩ := ev_sound hS h
    cases r with
    | one x0 =>
      simp only [ROk] at hr
      simp only at h
      split at h
      · simp [Rd.Runs] at h
      · obtain ⟨l, S, ls2, k1, t1, h⟩ := argLs_tok hS _ [x0] [a.eval x] (by simp [AOks, hr]) _ _ _ h
        split at h
        · rename_i l0
          simp only [RdRec] at k1
          obtain ⟨v, vs', S1, S2, e1, k2, ⟨e2, e3⟩, e4⟩ := k1
          cases e1
          refine ⟨.one l0, srcA x0, [], ls2, fun ds srcs pts vs hp => PTk.dat (S := S1) (fun hs => by simp) k2 (fun b hb => ?_) hp, h⟩
          simpa using t1 b (by rw [e4]; simp [hb])
        · simp [Rd.Runs] at h
    | agg as =>
      simp only [ROk] at hr
      obtain ⟨vs, e, hr⟩ := hr
      simp only at h
      split at h
      · obtain ⟨l, S, ls2, k1, t1, h⟩ := argLs_tok hS _ as vs hr _ _ _ h
        exact ⟨.agg l, as.flatMap srcA, [], ls2, fun ds srcs pts vs' hp => PTk.dat (S := S) (fun hs => by simp) ⟨vs, e, k1⟩ t1 hp, h⟩
      · simp [Rd.Runs] at h
    | tup rs => simp [Rd.Runs] at h
theorem pArgs_sound (hS : SimG cx G g a w) {isP : TypeId → Bool} {α : Type} : ∀ (ts : List TypeId) (xs : List Operand) (k : List DV → List (Nat × Nat) → List PtA → Rd α) (ls : List Loc) (out : α), (pArgs argLs (tyI P) (ppI P) isP ts xs k).Runs g ls out →
    ∃ ds srcs pts ls', PTk G g w ds srcs pts (xs.map a.eval) ∧ (k ds srcs pts).Runs g ls' out
  | [], [], k, ls, out, h => ⟨[], [], [], ls, .nil, h⟩
  | [], _ :: _, k, ls, out, h => h.elim
  | _ :: _, [], k, ls, out, h => h.elim
  | t :: ts, x :: xs, k, ls, out, h => by
    simp only [pArgs] at h
    obtain ⟨d, src, pt, ls2, k1, h⟩ := pArg_sound hS h
    obtain ⟨ds, srcs, pts, ls3, k2, h⟩ := pArgs_sound hS ts xs _ _ _ h
    exact ⟨_, _, _, ls3, k1 _ _ _ _ k2, h⟩

open Classical in
/-- What a pointer argument is. -/
noncomputable def paOf (G : Gh) (w : World) (p : PtA) : PArg where
  b := ((G.loc p.1).getD (0, 0)).1
  off := ((G.loc p.1).getD (0, 0)).2 + p.2.1
  hs := p.2.2
  val := fun i => G.val p.1 (p.2.1 + i)
  fp := fun i => match p.2.2[i]? with
    | some (.own _) => G.fp p.1 (p.2.1 + i)
    | some (.ro l) => if h : ∃ S, RdL w l (G.val p.1 (p.2.1 + i)) S ∧ ∀ b ∈ S, G.ow b = some .ro then h.choose else []
    | _ => []
theorem PTk.mem {ds : List DV} {srcs : List (Nat × Nat)} {pts : List PtA} {vs : List Value} (h : PTk G g w ds srcs pts vs) : ∀ p ∈ pts, PtOk G g p := by
  induction h with
  | nil => intro p hp; cases hp
  | dat _ _ _ _ ih => exact ih
  | ptr h _ _ ih =>
    intro p hp
    rcases List.mem_cons.1 hp with rfl | hp
    · exact h
    · exact ih p hp
theorem PTk.args {ok : Nat → Prop} {ds : List DV} {srcs : List (Nat × Nat)} {pts : List PtA} {vs : List Value} (h : PTk G g w ds srcs pts vs) (hok : ∀ b, (G.ow b = some .ro ∨ ∃ r j, (r, j) ∈ srcs ∧ G.ow b = some (.leaf r j)) → ok b) : PArgs w ok ds vs (pts.map (paOf G w)) := by
  induction h with
  | nil => exact ⟨rfl, rfl⟩
  | @dat d v S src ds srcs pts vs hd h ht hs ih =>
    have h1 : PArgs w ok ds vs (pts.map (paOf G w)) := ih (fun b hb => hok b (by
      rcases hb with q | ⟨r, j, q1, q2⟩
      · exact .inl q
      · exact .inr ⟨r, j, by simp [q1], q2⟩))
    have h2 : ∀ b ∈ S, ok b := fun b hb => hok b (by
      rcases ht b hb with q | ⟨r, j, q1, q2⟩
      · exact .inl q
      · exact .inr ⟨r, j, by simp [q1], q2⟩)
    cases d with
    | mp hs => exact absurd rfl (hd hs)
    | one l => exact ⟨v, vs, S, rfl, h, h2, h1⟩
    | agg l => exact ⟨v, vs, S, rfl, h, h2, h1⟩
    | ptr l => exact ⟨v, vs, S, rfl, h, h2, h1⟩
    | fn f l => exact ⟨v, vs, S, rfl, h, h2, h1⟩
  | @ptr p b off ds srcs pts vs h h0 hs ih =>
    refine ⟨paOf G w p, _, vs, ?_, rfl, rfl, ih hok⟩
    simp [paOf, h0]

theorem paOf_own (hS : SimG cx G g a w) {p : PtA} (hp : PtOk G g p) {i : Nat} {l : L} (h : p.2.2[i]? = some (.own l)) :
    (paOf G w p).fp i = G.fp p.1 (p.2.1 + i) ∧ RdL w l (G.val p.1 (p.2.1 + i)) (G.fp p.1 (p.2.1 + i)) ∧ (G.fp p.1 (p.2.1 + i)).Nodup ∧ ∀ b ∈ G.fp p.1 (p.2.1 + i), G.ow b = some (.leaf p.1 (p.2.1 + i)) ∧ Unf w b := by
  obtain ⟨_, hv, e1, e2⟩ := hp.2.2 i _ h
  have := hS.hok (gl_some.2 e1)
  simp only [HOk, e2] at this
  exact ⟨by simp [paOf, h], this⟩
theorem paOf_ro (hS : SimG cx G g a w) {p : PtA} (hp : PtOk G g p) {i : Nat} {l : L} (h : p.2.2[i]? = some (.ro l)) :
    RdL w l (G.val p.1 (p.2.1 + i)) ((paOf G w p).fp i) ∧ ∀ b ∈ (paOf G w p).fp i, G.ow b = some .ro := by
  obtain ⟨_, hv, e1, e2⟩ := hp.2.2 i _ h
  have hx := hS.hok (gl_some.2 e1)
  simp only [HOk, e2] at hx
  have : (paOf G w p).fp i = hx.choose := by simp only [paOf, h]; rw [dif_pos hx]
  rw [this]
  exact hx.choose_spec
theorem OwnB_tok (hS : SimG cx G g a w) {pts : List PtA} (hp : ∀ p ∈ pts, PtOk G g p) {b : Nat} (h : OwnB (pts.map (paOf G w)) b) :
    ∃ p ∈ pts, ∃ (i : Nat) (l : L), p.2.2[i]? = some (.own l) ∧ b ∈ G.fp p.1 (p.2.1 + i) ∧ G.ow b = some (.leaf p.1 (p.2.1 + i)) := by
  obtain ⟨q, hq, i, l, h1, h2⟩ := h
  obtain ⟨p, hpm, rfl⟩ := List.mem_map.1 hq
  obtain ⟨e1, e2, e3, e4⟩ := paOf_own hS (hp p hpm) h1
  rw [e1] at h2
  exact ⟨p, hpm, i, l, h1, h2, (e4 b h2).1⟩
theorem PtrB_tok (hS : SimG cx G g a w) {pts : List PtA} (hp : ∀ p ∈ pts, PtOk G g p) {b : Nat} (h : PtrB (pts.map (paOf G w)) b) :
    ∃ p ∈ pts, ∃ off, G.loc p.1 = some (b, off) ∧ G.ow b = some (.box (G.lead p.1)) := by
  obtain ⟨q, hq, rfl⟩ := h
  obtain ⟨p, hpm, rfl⟩ := List.mem_map.1 hq
  obtain ⟨⟨b, off, h0⟩, _⟩ := hp p hpm
  obtain ⟨k, hk⟩ := hS.noloc _ _ h0
  obtain ⟨b', off', cur, ty, f1, f2, _⟩ := hS.boxes _ k hk
  rw [h0] at f1; cases f1
  exact ⟨p, hpm, off, by simp [paOf, h0], by simpa [paOf, h0] using f2⟩

theorem ppre (hS : SimG cx G g a w) {ds : List DV} {srcs : List (Nat × Nat)} {pts : List PtA} {vs : List Value} (h : PTk G g w ds srcs pts vs) (hr : rngOk pts = true) (hs : ∀ s ∈ srcs, ∀ p ∈ pts, inPt s p = false) :
    PPre w ds vs (pts.map (paOf G w)) := by
  have hp := h.mem
  have lt : ∀ p ∈ pts, ∀ i : Nat, i < p.2.2.length → ∃ hv, g (.leaf p.1 (p.2.1 + i)) = some (.h hv) := by
    intro p hpm i hi
    obtain ⟨_, hv, e, _⟩ := (hp p hpm).2.2 i _ (List.getElem?_eq_getElem hi)
    exact ⟨hv, e⟩
  have noBoth : ∀ b, (G.ow b = some .ro ∨ ∃ r j, (r, j) ∈ srcs ∧ G.ow b = some (.leaf r j)) → ¬ OwnB (pts.map (paOf G w)) b ∧ ¬ PtrB (pts.map (paOf G w)) b := by
    intro b hb
    refine ⟨fun ho => ?_, fun ho => ?_⟩
    · obtain ⟨p, hpm, i, l, h1, h2, h3⟩ := OwnB_tok hS hp ho
      rcases hb with q | ⟨r, j, q1, q2⟩
      · rw [q] at h3; cases h3
      · rw [q2] at h3; cases h3
        have := hs _ q1 p hpm
        rw [Bool.eq_false_iff] at this
        exact this (inPt_iff.2 ⟨rfl, by omega, by have := (List.getElem?_eq_some_iff.1 h1).1; simp only; omega⟩)
    · obtain ⟨p, hpm, off, h1, h2⟩ := PtrB_tok hS hp ho
      rcases hb with q | ⟨r, j, q1, q2⟩
      · rw [q] at h2; cases h2
      · rw [q2] at h2; cases h2
  refine ⟨h.args noBoth, ?_, ?_, ?_, ?_, ?_, ?_, ?_⟩
  · intro q hq
    obtain ⟨p, hpm, rfl⟩ := List.mem_map.1 hq
    obtain ⟨⟨b, off, h0⟩, hpos, _⟩ := hp p hpm
    obtain ⟨k, hk⟩ := hS.noloc _ _ h0
    obtain ⟨b', off', cur, ty, f1, f2, f3, f4, f5⟩ := hS.boxes _ k hk
    rw [h0] at f1; cases f1
    have hlt : ∀ i, i < p.2.2.length → p.2.1 + i < k := by
      intro i hi
      obtain ⟨hv, e⟩ := lt p hpm i hi
      obtain ⟨_, k', bx, _, e2, e3, _⟩ := hS.leaf _ _ _ e
      rw [hk] at e2; cases e2; exact e3
    refine ⟨cur, ty, by simpa [paOf, h0] using f3, ?_, fun j hj => ?_⟩
    · have := hlt (p.2.2.length - 1) (by omega)
      simp only [paOf, h0, Option.getD_some]; omega
    · have := f5 _ (hlt j hj)
      simp only [paOf, h0, Option.getD_some]
      rw [show off + p.2.1 + j = off + (p.2.1 + j) from by omega]; exact this
  · intro q hq j l hl
    obtain ⟨p, hpm, rfl⟩ := List.mem_map.1 hq
    obtain ⟨e1, e2, e3, e4⟩ := paOf_own hS (hp p hpm) hl
    rw [e1]; exact ⟨e2, e3, fun b hb => (e4 b hb).2⟩
  · intro q hq j l hl
    obtain ⟨p, hpm, rfl⟩ := List.mem_map.1 hq
    obtain ⟨e1, e2⟩ := paOf_ro hS (hp p hpm) hl
    exact ⟨e1, fun b hb => noBoth b (.inl (e2 b hb))⟩
  · intro q hq j hj
    obtain ⟨p, hpm, rfl⟩ := List.mem_map.1 hq
    exact ((hp p hpm).2.2 j _ hj).1 rfl
  · intro i j i' j' q q' l l' h1 h2 h3 h4 hne b hb hb'
    rw [List.getElem?_map, Option.map_eq_some_iff] at h1 h2
    obtain ⟨p, m1, rfl⟩ := h1
    obtain ⟨p', m2, rfl⟩ := h2
    obtain ⟨e1, _, _, e4⟩ := paOf_own hS (hp p (List.mem_of_getElem? m1)) h3
    obtain ⟨e1', _, _, e4'⟩ := paOf_own hS (hp p' (List.mem_of_getElem? m2)) h4
    rw [e1] at hb; rw [e1'] at hb'
    have t1 := (e4 b hb).1
    have t2 := (e4' b hb').1
    rw [t1] at t2
    simp only [Option.some.injEq, Tok.leaf.injEq] at t2
    have l1 := (List.getElem?_eq_some_iff.1 h3).1
    have l2 := (List.getElem?_eq_some_iff.1 h4).1
    simp only [paOf] at l1 l2
    by_cases c : i = i'
    · subst c
      rw [m1] at m2; cases m2
      exact hne (by rw [show j = j' from by omega])
    · rcases rngOk_ne hr c m1 m2 with k | k | k <;> omega
  · intro i i' q q' hne h1 h2 hb
    rw [List.getElem?_map, Option.map_eq_some_iff] at h1 h2
    obtain ⟨p, m1, rfl⟩ := h1
    obtain ⟨p', m2, rfl⟩ := h2
    obtain ⟨⟨b, off, h0⟩, hpos, _⟩ := hp p (List.mem_of_getElem? m1)
    obtain ⟨⟨b', off', h0'⟩, hpos', _⟩ := hp p' (List.mem_of_getElem? m2)
    simp only [paOf, h0, h0', Option.getD_some] at hb ⊢
    subst hb
    obtain ⟨k, hk⟩ := hS.noloc _ _ h0
    obtain ⟨k', hk'⟩ := hS.noloc _ _ h0'
    have hlt : ∀ (p : PtA) (k : Nat), p ∈ pts → 0 < p.2.2.length → g (.meta_ p.1) = some (.m k true) → p.2.1 + p.2.2.length ≤ k := by
      intro p k hpm hpos hk
      obtain ⟨hv, e⟩ := lt p hpm (p.2.2.length - 1) (by omega)
      obtain ⟨_, k', bx, _, e2, e3, _⟩ := hS.leaf _ _ _ e
      rw [hk] at e2; cases e2; omega
    have l1 := hlt p k (List.mem_of_getElem? m1) hpos hk
    have l2 := hlt p' k' (List.mem_of_getElem? m2) hpos' hk'
    by_cases c : p.1 = p'.1
    · rw [c, h0'] at h0; cases h0
      rcases rngOk_ne hr hne m1 m2 with q | q | q
      · exact absurd c q
      · left; omega
      · right; omega
    · rcases hS.sep _ _ k k' b off off' c hk hk' h0 h0' with q | q
      · left; omega
      · right; omega
  · intro b hb ho
    obtain ⟨p, hpm, i, l, h1, h2, h3⟩ := OwnB_tok hS hp ho
    obtain ⟨p', hpm', off, h4, h5⟩ := PtrB_tok hS hp hb
    rw [h3] at h5; cases h5
end
end Go.V

/-
  The value-level condition generator, part 40: a call that writes through pointers is sound.
-/
namespace Go.V

theorem apps_leaves : ∀ (ws : List W) (g : Gm), (∀ x ∈ ws, ∃ r j h, x = W.leaf r j h) → (∀ e, apps g ws (.reg e) = g (.reg e)) ∧ (∀ r, apps g ws (.meta_ r) = g (.meta_ r)) ∧
    ∀ r j, (∃ h, W.leaf r j h ∈ ws ∧ apps g ws (.leaf r j) = some (.h h)) ∨ ((∀ h, W.leaf r j h ∉ ws) ∧ apps g ws (.leaf r j) = g (.leaf r j))
  | [], g, _ => ⟨fun _ => rfl, fun _ => rfl, fun r j => .inr ⟨by simp, rfl⟩⟩
  | x :: ws, g, h => by
    obtain ⟨r0, j0, h0, rfl⟩ := h x (by simp)
    obtain ⟨a1, a2, a3⟩ := apps_leaves ws ((W.leaf r0 j0 h0).app g) (fun y hy => h y (by simp [hy]))
    simp only [apps]
    refine ⟨fun e => by rw [a1]; simp [W.app], fun r => by rw [a2]; simp [W.app], fun r j => ?_⟩
    rcases a3 r j with ⟨h1, q1, q2⟩ | ⟨q1, q2⟩
    · exact .inl ⟨h1, by simp [q1], q2⟩
    · by_cases c : r = r0 ∧ j = j0
      · obtain ⟨rfl, rfl⟩ := c
        exact .inl ⟨h0, by simp, by rw [q2]; simp [W.app]⟩
      · refine .inr ⟨fun h' hm => ?_, by rw [q2]; simp [W.app]; intro e1 e2; exact absurd ⟨e1, e2⟩ c⟩
        rcases List.mem_cons.1 hm with e | e
        · cases e; exact c ⟨rfl, rfl⟩
        · exact q1 h' e

section
variable {P : Program} {o : Oper} {cx : Cx} {G : Gh} {g : Gm} {a : Act} {w : World}

theorem upd1_sound {α : Type} {r : Nat} : ∀ (hs os : List H) (j : Nat) (k : List W → Rd α) (ls : List Loc) (out : α), (upd1 r j hs os k).Runs g ls out →
    ∃ ws ls', (k ws).Runs g ls' out ∧ os.length = hs.length ∧ (∀ i : Nat, os[i]? ≠ some .gone) ∧
      (∀ x ∈ ws, ∃ i l hv, os[i]? = some (.own l) ∧ g (.leaf r (j + i)) = some (.h hv) ∧ x = W.leaf r (j + i) ⟨hv.ver + 1, hv.iv + 1, none, .own l⟩) ∧
      (∀ (i : Nat) l, os[i]? = some (.own l) → ∃ hv, g (.leaf r (j + i)) = some (.h hv) ∧ W.leaf r (j + i) ⟨hv.ver + 1, hv.iv + 1, none, .own l⟩ ∈ ws)
  | [], [], j, k, ls, out, h => ⟨[], ls, h, rfl, by simp, by simp, by simp⟩
  | [], _ :: _, j, k, ls, out, h => h.elim
  | _ :: _, [], j, k, ls, out, h => h.elim
  | h0 :: hs, o0 :: os, j, k, ls, out, h => by
    cases o0 with
    | gone => exact h.elim
    | ro l0 =>
      cases h0 with
      | ro l1 =>
        obtain ⟨ws, ls', e1, e2, e3, e4, e5⟩ := upd1_sound hs os (j + 1) k ls out h
        refine ⟨ws, ls', e1, by simp [e2], fun i => ?_, fun x hx => ?_, fun i l hi => ?_⟩
        · cases i with
          | zero => simp
          | succ i => simpa using e3 i
        · obtain ⟨i, l, hv, q1, q2, q3⟩ := e4 x hx
          exact ⟨i + 1, l, hv, by simpa using q1, by rw [show j + (i + 1) = j + 1 + i from by omega]; exact q2, by rw [show j + (i + 1) = j + 1 + i from by omega]; exact q3⟩
        · cases i with
          | zero => simp at hi
          | succ i =>
            rw [show j + (i + 1) = j + 1 + i from by omega]
            exact e5 i l (by simpa using hi)
      | own l1 => exact h.elim
      | gone => exact h.elim
    | own l0 =>
      obtain ⟨hv, ls2, _, q2, hk⟩ := rdH_sound (k := fun hv => upd1 r (j + 1) hs os fun ws => k (.leaf r j ⟨hv.ver + 1, hv.iv + 1, none, .own l0⟩ :: ws)) h
      obtain ⟨ws, ls', e1, e2, e3, e4, e5⟩ := upd1_sound hs os (j + 1) _ _ _ hk
      refine ⟨_, ls', e1, by simp [e2], fun i => ?_, fun x hx => ?_, fun i l hi => ?_⟩
      · cases i with
        | zero => simp
        | succ i => simpa using e3 i
      · rcases List.mem_cons.1 hx with rfl | hx
        · exact ⟨0, l0, hv, by simp, q2, rfl⟩
        · obtain ⟨i, l, hv, q1, q2, q3⟩ := e4 x hx
          exact ⟨i + 1, l, hv, by simpa using q1, by rw [show j + (i + 1) = j + 1 + i from by omega]; exact q2, by rw [show j + (i + 1) = j + 1 + i from by omega]; exact q3⟩
      · cases i with
        | zero => simp at hi; subst hi; exact ⟨hv, q2, by simp⟩
        | succ i =>
          rw [show j + (i + 1) = j + 1 + i from by omega]
          obtain ⟨hv', p1, p2⟩ := e5 i l (by simpa using hi)
          exact ⟨hv', p1, by simp [p2]⟩

theorem updP_sound {α : Type} : ∀ (pts : List PtA) (outs : List (List H)) (k : List W → Rd α) (ls : List Loc) (out : α), (updP pts outs k).Runs g ls out →
    ∃ ws ls', (k ws).Runs g ls' out ∧ outs.length = pts.length ∧
      (∀ x ∈ ws, ∃ (n : Nat) (p : PtA) (os : List H) (i : Nat) (l : L) (hv : Hv), pts[n]? = some p ∧ outs[n]? = some os ∧ os[i]? = some (.own l) ∧ g (.leaf p.1 (p.2.1 + i)) = some (.h hv) ∧ x = W.leaf p.1 (p.2.1 + i) ⟨hv.ver + 1, hv.iv + 1, none, .own l⟩) ∧
      (∀ (n : Nat) p os, pts[n]? = some p → outs[n]? = some os → ∀ (i : Nat) l, os[i]? = some (.own l) → ∃ hv, g (.leaf p.1 (p.2.1 + i)) = some (.h hv) ∧ W.leaf p.1 (p.2.1 + i) ⟨hv.ver + 1, hv.iv + 1, none, .own l⟩ ∈ ws)
  | [], [], k, ls, out, h => ⟨[], ls, h, rfl, by simp, by simp⟩
  | [], _ :: _, k, ls, out, h => h.elim
  | _ :: _, [], k, ls, out, h => h.elim
  | p :: pts, os :: oss, k, ls, out, h => by
    obtain ⟨w1, ls1, h1, _, _, e4, e5⟩ := upd1_sound _ _ _ _ _ _ h
    obtain ⟨w2, ls2, h2, e6, e7, e8⟩ := updP_sound pts oss _ _ _ h1
    refine ⟨_, ls2, h2, by simp [e6], fun x hx => ?_, fun n p' os' hn ho i l hi => ?_⟩
    · rcases List.mem_append.1 hx with hx | hx
      · obtain ⟨i, l, hv, q1, q2, q3⟩ := e4 x hx
        exact ⟨0, p, os, i, l, hv, by simp, by simp, q1, q2, q3⟩
      · obtain ⟨n, p', os', i, l, hv, q0, q1, q2⟩ := e7 x hx
        exact ⟨n + 1, p', os', i, l, hv, by simpa using q0, by simpa using q1, q2⟩
    · cases n with
      | zero =>
        simp at hn ho; subst hn ho
        obtain ⟨hv, q1, q2⟩ := e5 i l hi
        exact ⟨hv, q1, by simp [q2]⟩
      | succ n =>
        simp at hn ho
        obtain ⟨hv, q1, q2⟩ := e8 n p' os' hn ho i l hi
        exact ⟨hv, q1, by simp [q2]⟩

/-- What the call makes of a leaf. -/
def Upd (g : Gm) (pts : List PtA) (ps' : List PArg) (r j : Nat) (x : Hv × Value × List Nat) : Prop :=
  ∃ (n : Nat) (p : PtA) (q : PArg) (i : Nat) (l : L) (hv : Hv), pts[n]? = some p ∧ ps'[n]? = some q ∧ r = p.1 ∧ j = p.2.1 + i ∧ i < p.2.2.length ∧ q.hs[i]? = some (.own l) ∧ g (.leaf r j) = some (.h hv) ∧ x = (⟨hv.ver + 1, hv.iv + 1, none, .own l⟩, q.val i, q.fp i)
theorem Upd.same {pts : List PtA} (hr : rngOk pts = true) {ps' : List PArg} {r j : Nat} {n n' : Nat} {p p' : PtA} {i i' : Nat} (h1 : pts[n]? = some p) (h2 : pts[n']? = some p') (e1 : r = p.1) (e2 : r = p'.1) (e3 : j = p.2.1 + i) (e4 : j = p'.2.1 + i') (l1 : i < p.2.2.length) (l2 : i' < p'.2.2.length) : n = n' ∧ p = p' ∧ i = i' := by
  by_cases c : n = n'
  · subst c
    rw [h1] at h2; cases h2
    exact ⟨rfl, rfl, by omega⟩
  · rcases rngOk_ne hr c h1 h2 with q | q | q
    · exact absurd (e1.symm.trans e2) q
    · omega
    · omega
theorem Upd.unique {pts : List PtA} (hr : rngOk pts = true) {ps' : List PArg} {r j : Nat} {x y : Hv × Value × List Nat} (h1 : Upd g pts ps' r j x) (h2 : Upd g pts ps' r j y) : x = y := by
  obtain ⟨n, p, q, i, l, hv, a1, a2, a3, a4, a5, a6, a7, rfl⟩ := h1
  obtain ⟨n', p', q', i', l', hv', b1, b2, b3, b4, b5, b6, b7, rfl⟩ := h2
  obtain ⟨rfl, rfl, rfl⟩ := Upd.same hr (ps' := ps') a1 b1 a3 b3 a4 b4 a5 b5
  rw [a2] at b2; cases b2
  rw [a6] at b6; cases b6
  rw [a7] at b7; cases b7
  rfl
open Classical in
noncomputable def uP (g : Gm) (pts : List PtA) (ps' : List PArg) : UpP := fun r j => if h : ∃ x, Upd g pts ps' r j x then some h.choose else none
theorem uP_some {pts : List PtA} (hr : rngOk pts = true) {ps' : List PArg} {r j : Nat} {x : Hv × Value × List Nat} : uP g pts ps' r j = some x ↔ Upd g pts ps' r j x := by
  unfold uP
  constructor
  · intro e
    split at e
    · rename_i h; cases e; exact h.choose_spec
    · cases e
  · intro h
    rw [dif_pos ⟨x, h⟩]
    exact congrArg some (Upd.unique hr (Exists.choose_spec (⟨x, h⟩ : ∃ x, Upd g pts ps' r j x)) h)

variable {ls : List Loc} {ws : List W} {K : Act → World → Prop} {Q : Exit → Act → World → Prop}

/-- What comes behind the arguments. -/
def tailP (pr : (Unit → Prop) → Prop) (n : Nat) (d : Option Tmp) (ds : List DV) (srcs : List (Nat × Nat)) (pts : List PtA) (mk : PK) (rw : Nat → List DV → List W) : Rd Out :=
  match mk ds with
  | some (pre, outs, res) => if rngOk pts && srcs.all (fun s => pts.all fun p => !inPt s p) then .req (pr pre) (updP pts outs fun ws => match d with
      | some _ => fresh n d fun d => .ret (.ws (ws ++ rw d res))
      | none => .ret (.ws ws)) else .fail
  | none => .fail
theorem tailP_sound {f : FuncId} {ds : List DV} {srcs : List (Nat × Nat)} {pts : List PtA} {vs : List Value} (hS : SimG cx G g a w) (hargs : PTk G g w ds srcs pts vs) (hex : (execOp a.eval o).run P w = .ok (.enter f vs.toArray) w) {mk : PK}
    (hc : ∀ ds pre outs res, mk ds = some (pre, outs, res) → pre () → PCtr P f ds outs res) (h : (tailP prS cx.n o.dst ds srcs pts mk resWs).Runs g ls (.ws ws))
    (hk : ∀ a' w', Sim cx (apps g ws) a' w' → K a' w') : o.wp P a w K Q := by
  unfold tailP at h
  split at h
  case h_2 => exact h.elim
  rename_i pre outs res hmk
  split at h
  case isFalse => exact h.elim
  rename_i hcond
  simp only [Bool.and_eq_true] at hcond
  obtain ⟨hrng, hsrc⟩ := hcond
  have hsrc' : ∀ s ∈ srcs, ∀ p ∈ pts, inPt s p = false := by
    intro s hs p hp
    have := List.all_eq_true.1 (List.all_eq_true.1 hsrc s hs) p hp
    simpa using this
  obtain ⟨hpre, h⟩ := h
  obtain ⟨w1, ls2, h, hol, u1, u2⟩ := updP_sound _ _ _ _ _ h
  have hp := hargs.mem
  unfold Oper.wp
  rw [hex]
  simp only [Oper.upon]
  have hcall := hc ds pre outs res hmk hpre w vs _ (ppre hS hargs hrng hsrc')
  refine hcall.mono ?_
  rintro e w' ⟨v, Sr, ps', rfl, hres, hpost⟩
  -- pointers by their places
  have plen : ps'.length = pts.length := by rw [hpost.len, List.length_map]
  have at_ : ∀ (n : Nat) p, pts[n]? = some p → ∃ q, ps'[n]? = some q ∧ q.b = (paOf G w p).b ∧ q.off = (paOf G w p).off ∧ outs[n]? = some q.hs ∧ q.hs.length = p.2.2.length := by
    intro n p hn
    have hlt : n < ps'.length := by rw [plen]; exact (List.getElem?_eq_some_iff.1 hn).1
    have := hpost.same n (paOf G w p) ps'[n] (by rw [List.getElem?_map, hn]; rfl) (List.getElem?_eq_getElem hlt)
    exact ⟨ps'[n], List.getElem?_eq_getElem hlt, this⟩
  have uS := fun {r j x} => uP_some (g := g) hrng (ps' := ps') (r := r) (j := j) (x := x)
  have hl1 : ∀ x ∈ w1, ∃ r j h, x = W.leaf r j h := by
    intro x hx
    obtain ⟨n, p, os, i, l, hv, _, _, _, _, rfl⟩ := u1 x hx
    exact ⟨_, _, _, rfl⟩
  obtain ⟨a1, a2, a3⟩ := apps_leaves w1 g hl1
  have a4 : ∀ r j, apps g w1 (.leaf r j) = match uP g pts ps' r j with
      | some x => some (.h x.1)
      | none => g (.leaf r j) := by
    intro r j
    rcases a3 r j with ⟨h0, q1, q2⟩ | ⟨q1, q2⟩
    · obtain ⟨n, p, os, i, l, hv, z1, z2, z3, z4, z5⟩ := u1 _ q1
      cases z5
      obtain ⟨q, y1, y2, y3, y4, y5⟩ := at_ n p z1
      rw [z2] at y4; cases y4
      have hx : uP g pts ps' p.1 (p.2.1 + i) = some (⟨hv.ver + 1, hv.iv + 1, none, .own l⟩, q.val i, q.fp i) := uS.2 ⟨n, p, q, i, l, hv, z1, y1, rfl, rfl, by rw [← y5]; exact (List.getElem?_eq_some_iff.1 z3).1, z3, z4, rfl⟩
      rw [q2, hx]
    · cases hx : uP g pts ps' r j with
      | none => exact q2
      | some x =>
        exfalso
        obtain ⟨n, p, q, i, l, hv, z1, z2, z3, z4, z5, z6, z7, z8⟩ := uS.1 hx
        obtain ⟨q', y1, y2, y3, y4, y5⟩ := at_ n p z1
        rw [z2] at y1; cases y1
        obtain ⟨hv', m1, m2⟩ := u2 n p q.hs z1 y4 i l z6
        subst z3 z4
        exact q1 _ m2
  obtain ⟨vs, lv, hlv, hv⟩ : ∃ vs lv, LvOk w' res vs lv Sr ∧ ((∃ dv, res = [dv] ∧ vs = [v]) ∨ v = .tuple vs.toArray ∧ ∀ dv, res ≠ [dv]) := by
    cases res with
    | nil => obtain ⟨vs, e, h2⟩ := hres; obtain ⟨lv, k⟩ := RdDVs.lv h2; exact ⟨vs, lv, k, .inr ⟨e, fun dv e => by cases e⟩⟩
    | cons d1 rest =>
      cases rest with
      | nil =>
        have h2 : RdDVs w' [d1] [v] Sr := by simp only [RdDVs]; exact ⟨v, [], Sr, [], rfl, hres, ⟨rfl, rfl⟩, by simp⟩
        obtain ⟨lv, k⟩ := RdDVs.lv h2
        exact ⟨[v], lv, k, .inl ⟨d1, rfl, rfl⟩⟩
      | cons d2 rest => obtain ⟨vs, e, h2⟩ := hres; obtain ⟨lv, k⟩ := RdDVs.lv h2; exact ⟨vs, lv, k, .inr ⟨e, fun dv e => by cases e⟩⟩
  have hrec := hlv.rec_
  obtain ⟨Ss, s1, s2, s3⟩ := hrec.items
  have hnd : Ss.flatten.Nodup := by rw [s1]; exact hpost.res.1
  have own_tok : ∀ b, OwnB (pts.map (paOf G w)) b → ∃ r j x h l, uP g pts ps' r j = some x ∧ g (.leaf r j) = some (.h h) ∧ h.c = .own l ∧ b ∈ G.fp r j := by
    intro b hb
    obtain ⟨p, hpm, i, l, h1, h2, h3⟩ := OwnB_tok hS hp hb
    obtain ⟨_, hv, e1, e2⟩ := (hp p hpm).2.2 i _ h1
    obtain ⟨n, hn⟩ := List.getElem?_of_mem hpm
    obtain ⟨q, y1, y2, y3, y4, y5⟩ := at_ n p hn
    have hi : i < p.2.2.length := (List.getElem?_eq_some_iff.1 h1).1
    have hq : i < q.hs.length := by omega
    cases hc : q.hs[i] with
    | gone => exact absurd (by rw [List.getElem?_eq_getElem hq, hc]) (hpost.gone q (List.mem_of_getElem? y1) i)
    | ro l' =>
      exfalso
      have := hpost.ro n (paOf G w p) q i l' (by rw [List.getElem?_map, hn]; rfl) y1 (by rw [List.getElem?_eq_getElem hq, hc])
      simp only [paOf] at this
      rw [h1] at this; cases this.1
    | own l' =>
      exact ⟨p.1, p.2.1 + i, _, hv, l, uS.2 ⟨n, p, q, i, l', hv, hn, y1, rfl, rfl, hi, by rw [List.getElem?_eq_getElem hq, hc], e1, rfl⟩, e1, e2, h2⟩
  have cellSame : ∀ b cur cur' ty ty', w.heap[b]? = some (.cells cur ty (0, 0)) → w'.heap[b]? = some (.cells cur' ty' (0, 0)) → (∀ i, (∀ p ∈ pts.map (paOf G w), p.b = b → i < p.off ∨ p.off + p.hs.length ≤ i) → cur'[i]? = cur[i]?) →
      ∀ i0, (∀ (n : Nat) (p : PtA) (q : PArg) (i : Nat) (l : L), pts[n]? = some p → ps'[n]? = some q → (paOf G w p).b = b → q.hs[i]? = some (.own l) → i0 ≠ (paOf G w p).off + i) → cur'[i0]? = cur[i0]? := by
    intro b cur cur' ty ty' k1 k2 k4 i0 hi0
    by_cases c : ∃ (n : Nat) (p : PtA), pts[n]? = some p ∧ (paOf G w p).b = b ∧ (paOf G w p).off ≤ i0 ∧ i0 < (paOf G w p).off + p.2.2.length
    · obtain ⟨n, p, hn, hb, c1, c2⟩ := c
      obtain ⟨q, y1, y2, y3, y4, y5⟩ := at_ n p hn
      have hq : i0 - (paOf G w p).off < q.hs.length := by omega
      have hpa : paOf G w p ∈ pts.map (paOf G w) := List.mem_map.2 ⟨p, List.mem_of_getElem? hn, rfl⟩
      cases hc : q.hs[i0 - (paOf G w p).off] with
      | gone => exact absurd (by rw [List.getElem?_eq_getElem hq, hc]) (hpost.gone q (List.mem_of_getElem? y1) _)
      | own l => exact absurd (show i0 = (paOf G w p).off + (i0 - (paOf G w p).off) by omega) (hi0 n p q _ l hn y1 hb (by rw [List.getElem?_eq_getElem hq, hc]))
      | ro l =>
        have hr := hpost.ro n (paOf G w p) q _ l (by rw [List.getElem?_map, hn]; rfl) y1 (by rw [List.getElem?_eq_getElem hq, hc])
        obtain ⟨cur2, ty2, m1, m2⟩ := hpost.cell q (List.mem_of_getElem? y1)
        obtain ⟨cur3, ty3, m3, _, m4⟩ := (ppre hS hargs hrng hsrc').cell _ hpa
        rw [y2, hb, k2] at m1; cases m1
        rw [hb, k1] at m3; cases m3
        have e1 := m2 _ hq
        have e2 := m4 (i0 - (paOf G w p).off) (by show _ < p.2.2.length; omega)
        rw [y3, show (paOf G w p).off + (i0 - (paOf G w p).off) = i0 from by omega] at e1
        rw [show (paOf G w p).off + (i0 - (paOf G w p).off) = i0 from by omega] at e2
        rw [e1, e2, hr.2]
    · refine k4 i0 (fun q hq hb => ?_)
      obtain ⟨p, hpm, rfl⟩ := List.mem_map.1 hq
      obtain ⟨n, hn⟩ := List.getElem?_of_mem hpm
      rcases Nat.lt_or_ge i0 (paOf G w p).off with d | d
      · exact .inl d
      · refine .inr (Nat.le_of_not_lt fun d2 => c ⟨n, p, hn, hb, d, d2⟩)
  have main : ∀ (nr : Option Nat) (hs : List Hv) (g' : Gm), (∀ d, nr = some d → g (.meta_ d) = none ∧ hs = (res.flatMap dvLeaves).map fun l => (⟨0, 0, none, .own l⟩ : Hv)) → (nr = none → hs = []) →
      (∀ e, g' (.reg e) = g (.reg e)) → (∀ r, g' (.meta_ r) = if nr = some r then some (.m hs.length false) else g (.meta_ r)) →
      (∀ r j, g' (.leaf r j) = if nr = some r then (hs[j]?).map .h else match uP g pts ps' r j with
        | some x => some (.h x.1)
        | none => g (.leaf r j)) → ∃ G', SimG cx G' g' a w' ∧ (∀ d, nr = some d → ∀ j, G'.val d j = lv.getD j undef) := by
    intro nr hs g' hdn hnr hgr hgm hgl
    have hlen : hs.length ≤ Ss.length := by
      cases e : nr with
      | none => rw [hnr e]; simp
      | some d => rw [(hdn d e).2, List.length_map, s2]; exact Nat.le_refl _
    have tokNF : ∀ j, ∀ b ∈ Ss.getD j [], b ∈ Sr := fun j b hb => by rw [← s1]; exact flatten_getD hb
    refine hS.callP (uP g pts ps') nr (fun d e => (hdn d e).1) hs hnr w' g' hgr hgm hgl hpost.frame.os hpost.frame.tape hpost.frame.output hpost.frame.size ?_ ?_ ?_ ?_ (fun j => lv.getD j undef) (fun j => Ss.getD j []) ?_ ?_ ?_ ?_ ?_
    · intro b hb h1 h2
      refine Classical.byContradiction fun hne => ?_
      refine hne (hpost.frame.block b hb ⟨fun ho => ?_, fun ho => ?_⟩)
      · obtain ⟨r, j, x, h0, l, q1, q2, q3, q4⟩ := own_tok b ho
        exact h1 r j x h0 l q1 q2 q3 q4
      · obtain ⟨p, hpm, off, q1, q2⟩ := PtrB_tok hS hp ho
        obtain ⟨n, hn⟩ := List.getElem?_of_mem hpm
        obtain ⟨q, y1, y2, y3, y4, y5⟩ := at_ n p hn
        -- some leaf is written, or none is: then the block is as it was
        by_cases c : ∃ (n : Nat) (p : PtA) (q : PArg) (i : Nat) (l : L), pts[n]? = some p ∧ ps'[n]? = some q ∧ (paOf G w p).b = b ∧ q.hs[i]? = some (.own l)
        · obtain ⟨n, p, q, i, l, c1, c2, c3, c4⟩ := c
          have hpm := List.mem_of_getElem? c1
          obtain ⟨⟨b', off', h0⟩, _⟩ := hp p hpm
          have hb' : b' = b := by simpa [paOf, h0] using c3
          subst hb'
          obtain ⟨q', y1, y2, y3, y4, y5⟩ := at_ n p c1
          rw [c2] at y1; cases y1
          have hi : i < p.2.2.length := by rw [← y5]; exact (List.getElem?_eq_some_iff.1 c4).1
          obtain ⟨_, hv, e1, e2⟩ := (hp p hpm).2.2 i _ (List.getElem?_eq_getElem hi)
          exact h2 p.1 (p.2.1 + i) _ off' (uS.2 ⟨n, p, q, i, l, hv, c1, c2, rfl, rfl, hi, c4, e1, rfl⟩) h0
        · exfalso
          obtain ⟨cur, cur', ty, k1, k2, k3, k4⟩ := hpost.blk b ho
          refine hne ?_
          rw [k1, k2]
          have : cur' = cur := Array.ext_getElem? fun i => cellSame b cur cur' ty ty k1 k2 k4 i (fun n p q i l z1 z2 z3 z4 => absurd ⟨n, p, q, i, l, z1, z2, z3, z4⟩ c)
          rw [this]
    · intro r j x hx
      obtain ⟨n, p, q, i, l, hv, z1, z2, z3, z4, z5, z6, z7, rfl⟩ := uS.1 hx
      obtain ⟨m1, m2⟩ := hpost.own q (List.mem_of_getElem? z2) i l z6
      exact ⟨hv, l, z7, Nat.lt_succ_self _, Nat.le_succ _, rfl, rfl, m1, m2⟩
    · intro r j x hx
      obtain ⟨n, p, q, i, l, hv, z1, z2, z3, z4, z5, z6, z7, rfl⟩ := uS.1 hx
      obtain ⟨⟨b, off, h0⟩, _⟩ := hp p (List.mem_of_getElem? z1)
      exact ⟨_, by rw [z3]; exact h0⟩
    · intro b r j x off hx hl
      obtain ⟨n, p, q, i, l, hv, z1, z2, z3, z4, z5, z6, z7, rfl⟩ := uS.1 hx
      subst z3 z4
      have hPt : PtrB (pts.map (paOf G w)) b := ⟨paOf G w p, List.mem_map.2 ⟨p, List.mem_of_getElem? z1, rfl⟩, by simp [paOf, hl]⟩
      obtain ⟨cur, cur', ty, k1, k2, k3, k4⟩ := hpost.blk b hPt
      refine ⟨cur, cur', ty, k1, k2, k3, ?_, ?_⟩
      · intro r' j' x' off' hx' hl'
        obtain ⟨n', p', q', i', l', hv', z1', z2', rfl, rfl, z5', z6', z7', rfl⟩ := uS.1 hx'
        obtain ⟨q'', y1, y2, y3, y4, y5⟩ := at_ n' p' z1'
        rw [z2'] at y1; cases y1
        obtain ⟨cur2, ty2, m1, m2⟩ := hpost.cell q' (List.mem_of_getElem? z2')
        have hb : q'.b = b := by rw [y2]; simp [paOf, hl']
        have hoff : q'.off = off' + p'.2.1 := by rw [y3]; simp [paOf, hl']
        rw [hb, k2] at m1; cases m1
        have := m2 i' (by omega)
        rw [hoff] at this
        rw [show off' + (p'.2.1 + i') = off' + p'.2.1 + i' from by omega]; exact this
      · intro i0 hi0
        refine cellSame b cur cur' ty ty k1 k2 k4 i0 (fun n p q i l z1 z2 z3 z4 => ?_)
        obtain ⟨q', y1, y2, y3, y4, y5⟩ := at_ n p z1
        rw [z2] at y1; cases y1
        have hi : i < p.2.2.length := by rw [← y5]; exact (List.getElem?_eq_some_iff.1 z4).1
        have hpm := List.mem_of_getElem? z1
        obtain ⟨⟨b', off', h0⟩, _⟩ := hp p hpm
        have hb' : b' = b := by simpa [paOf, h0] using z3
        subst hb'
        obtain ⟨_, hv, e1, e2⟩ := (hp p hpm).2.2 i _ (List.getElem?_eq_getElem hi)
        have := hi0 p.1 (p.2.1 + i) _ off' (uS.2 ⟨n, p, q, i, l, hv, z1, z2, rfl, rfl, hi, z4, e1, rfl⟩) h0
        simp only [paOf, h0, Option.getD_some]
        omega
    · intro j h hj
      cases e : nr with
      | none => rw [hnr e] at hj; simp at hj
      | some d =>
        rw [(hdn d e).2, List.getElem?_map, Option.map_eq_some_iff] at hj
        obtain ⟨l, e1, rfl⟩ := hj
        obtain ⟨u, q1, q2⟩ := s3 j l e1
        exact ⟨l, rfl, by simpa [List.getD, q1] using q2, nodup_getD hnd j⟩
    · intro b hb
      have hb' : b ∈ Sr ∨ OwnB ps' b := by
        rcases hb with ⟨j, _, hbj⟩ | ⟨r, j, x, hx, hbx⟩
        · exact .inl (tokNF j b hbj)
        · obtain ⟨n, p, q, i, l, hv, z1, z2, z3, z4, z5, z6, z7, rfl⟩ := uS.1 hx
          exact .inr ⟨q, List.mem_of_getElem? z2, i, l, z6, hbx⟩
      obtain ⟨k1, k2⟩ := hpost.tok b hb'
      refine ⟨k1, ?_⟩
      rcases k2 with k2 | k2
      · exact .inl k2
      · exact .inr (own_tok b k2)
    · exact fun i j _ _ hij => flatten_disj hnd i j hij
    · intro i r j x _ hx b hb hbx
      obtain ⟨n, p, q, i', l, hv, z1, z2, z3, z4, z5, z6, z7, rfl⟩ := uS.1 hx
      exact hpost.res.2 b (tokNF i b hb) ⟨q, List.mem_of_getElem? z2, i', l, z6, hbx⟩
    · intro r j x r2 j2 x2 hx hx2 hne b hb
      obtain ⟨n, p, q, i, l, hv, z1, z2, rfl, rfl, z5, z6, z7, rfl⟩ := uS.1 hx
      obtain ⟨n', p', q', i', l', hv', z1', z2', rfl, rfl, z5', z6', z7', rfl⟩ := uS.1 hx2
      refine hpost.disj n i n' i' q q' l l' z2 z2' z6 z6' (fun e => ?_) b hb
      cases e
      rw [z1] at z1'; cases z1'
      exact hne rfl
  cases hd : o.dst with
  | none =>
    simp only [hd, Rd.Runs, Out.ws.injEq] at h
    obtain ⟨_, rfl⟩ := h
    obtain ⟨G', k1, _⟩ := main none [] (apps g ws) (fun d e => by cases e) (fun _ => rfl) a1 (fun r => by rw [a2]; simp) (fun r j => by rw [a4]; simp)
    refine hk _ _ ⟨G', ?_⟩
    simpa [Act.put] using k1
  | some d0 =>
    simp only [hd] at h
    obtain ⟨d, ls3, hd', hlt, hm, h⟩ := fresh_sound h
    cases hd'
    simp only [Rd.Runs, Out.ws.injEq] at h
    obtain ⟨_, rfl⟩ := h
    refine hk _ _ ?_
    rw [apps_append]
    simp only [resWs, apps]
    obtain ⟨G', k1, k2⟩ := main (some d0) ((res.flatMap dvLeaves).map fun l => ⟨0, 0, none, .own l⟩) ((W.root d0 false ((res.flatMap dvLeaves).map fun l => ⟨0, 0, none, .own l⟩)).app (apps g w1)) (fun d e => by cases e; exact ⟨hm, rfl⟩) (fun e => by cases e)
      (fun e => by simp only [W.app]; exact a1 e)
      (fun r => by
        simp only [W.app, Option.some.injEq, eq_comm (a := d0)]
        split
        · rfl
        · exact a2 r)
      (fun r j => by
        simp only [W.app, Option.some.injEq, eq_comm (a := d0)]
        split
        · rfl
        · exact a4 r j)
    refine ⟨G', k1.put hlt ?_⟩
    have hgl : ∀ i l, (res.flatMap dvLeaves)[i]? = some l → gl ((W.root d0 false ((res.flatMap dvLeaves).map fun l => ⟨0, 0, none, .own l⟩)).app (apps g w1)) d0 (0 + i) = some ⟨0, 0, none, .own l⟩ := by
      intro i l e
      simp [gl, W.app, e]
    have hval : ∀ i u, lv[i]? = some u → G'.val d0 (0 + i) = u := by
      intro i u e
      rw [k2 d0 rfl, Nat.zero_add]
      simp [List.getD, e]
    have hall := resRs_ok (G := G') res 0 vs lv Sr hlv (fun i l e => ⟨none, hgl i l e⟩) hval
    rcases hv with ⟨dv, rfl, rfl⟩ | ⟨rfl, hne⟩
    · simp only [resAll]
      simp only [resRs, ROks] at hall
      obtain ⟨v', vs', e, h1, _⟩ := hall
      cases e; exact h1
    · have : resAll d0 res = .tup (resRs d0 0 res) := by
        unfold resAll
        split
        · exact absurd rfl (hne _)
        · rfl
      rw [this]
      simp only [ROk]
      exact ⟨vs, rfl, hall⟩

theorem vCallP_sound {f : FuncId} {ts : Array TypeId} {args : Array Operand} (ho : o.op = .call { callee := .value (.func f), args := args, argTypes := ts }) (hS : SimG cx G g a w) {isP : TypeId → Bool} {mk : PK}
    (hc : ∀ ds pre outs res, mk ds = some (pre, outs, res) → pre () → PCtr P f ds outs res)
    (h : (vCallP prS argLs (tyI P) (ppI P) isP cx.n o.dst (hasBody P f) ts args mk resWs).Runs g ls (.ws ws))
    (hk : ∀ a' w', Sim cx (apps g ws) a' w' → K a' w') : o.wp P a w K Q := by
  unfold vCallP at h
  split at h
  case isFalse => exact h.elim
  rename_i hbody
  obtain ⟨ds, srcs, pts, ls1, hargs, h⟩ := pArgs_sound hS _ _ _ _ _ h
  have hex : (execOp a.eval o).run P w = .ok (.enter f (args.toList.map a.eval).toArray) w := by
    have harr : (args.toList.map a.eval).toArray = args.map a.eval := by rw [← Array.toList_map, Array.toArray_toList]
    rw [harr]
    unfold execOp
    simp only [ho, resolve, Act.eval, Deferred.ofValue, Sem.run_bind, Sem.run_pure, Result.andThen_ok, invoke, Array.empty_append, Array.append_empty]
    exact callFunc_run hbody _
  exact tailP_sound hS hargs hex hc h hk

/-! ### Function values whose captured variables are written -/
def capHs {α : Type} : List Cap → (List DV → List PtA → Rd α) → Rd α
  | [], k => k [] []
  | .pt r j :: cs, k => .get (.meta_ r) fun
    | some (.m n true) => if j < n then leafHs r j (n - j) fun hs => capHs cs fun ds pts => k (.mp hs :: ds) ((r, j, hs) :: pts) else .fail
    | _ => .fail
  | .rp rec j :: cs, k => if j < rec.length then capHs cs fun ds pts => k (.ptr (rec.drop j) :: ds) pts else .fail
def vCallFP (pr : (Unit → Prop) → Prop) (al : ∀ {β : Type}, List (Option Nat) → List A → (List L → Rd β) → Rd β) (ty pty : TypeId → Option TI) (isP : TypeId → Bool) (n : Nat) (d : Option Tmp) (body : FuncId → Bool) (t : Tmp) (ts : Array TypeId) (args : Array Operand) (pt : FuncId → Option PK) (rw : Nat → List DV → List W) : Rd Out :=
  ev1 (.tmp t) fun
    | .fn f caps => match pt f with
      | some mk => if body f then pArgs al ty pty isP ts.toList args.toList fun ds srcs pts => capHs caps fun ds2 pts2 => tailP pr n d (ds ++ ds2) srcs (pts ++ pts2) mk rw else .fail
      | none => .fail
    | _ => .fail

theorem PTk.append {ds es : List DV} {srcs src2 : List (Nat × Nat)} {pts pts2 : List PtA} {vs us : List Value} (h : PTk G g w ds srcs pts vs) (k : PTk G g w es src2 pts2 us) : PTk G g w (ds ++ es) (srcs ++ src2) (pts ++ pts2) (vs ++ us) := by
  induction h with
  | nil => exact k
  | dat hd h ht hs ih => rw [List.append_assoc]; exact PTk.dat hd h ht ih
  | ptr h h0 hs ih => exact PTk.ptr h h0 ih

theorem capHs_sound (hS : SimG cx G g a w) {α : Type} : ∀ (cs : List Cap) (ps : List Value) (k : List DV → List PtA → Rd α) (ls : List Loc) (out : α), CapsOk G w cs ps → (capHs cs k).Runs g ls out →
    ∃ ds pts ls', PTk G g w ds [] pts ps ∧ (k ds pts).Runs g ls' out
  | [], ps, k, ls, out, hc, h => by simp only [CapsOk] at hc; subst hc; exact ⟨[], [], ls, .nil, h⟩
  | .pt r j :: cs, ps, k, ls, out, hc, h => by
    obtain ⟨v, vs', rfl, ⟨b, off, h0, rfl⟩, hc⟩ := hc
    obtain ⟨ls1, _, h⟩ := h
    simp only at h
    split at h
    · split at h
      · rename_i hlt
        obtain ⟨hs, ls2, e1, e2, h⟩ := leafHs_sound _ _ _ _ _ h
        obtain ⟨ds, pts, ls3, k1, k2⟩ := capHs_sound hS cs vs' _ _ _ hc h
        refine ⟨_, _, ls3, PTk.ptr (p := (r, j, hs)) (b := b) (off := off) ⟨⟨b, off, h0⟩, ?_, e2⟩ h0 k1, k2⟩
        show 0 < hs.length
        omega
      · exact h.elim
    · exact h.elim
  | .rp rec j :: cs, ps, k, ls, out, hc, h => by
    obtain ⟨v, vs', rfl, ⟨b, off, cur, ty, fz, S, rfl, q1, q2, q3, q4, q5⟩, hc⟩ := hc
    simp only [capHs] at h
    split at h
    · rename_i hlt
      obtain ⟨ds, pts, ls3, k1, k2⟩ := capHs_sound hS cs vs' _ _ _ hc h
      obtain ⟨S1, r1, r2⟩ := q4.sub j (rec.length - j)
      have hd : (rec.drop j).take (rec.length - j) = rec.drop j := List.take_of_length_le (by simp)
      rw [hd] at r1
      have e : (cur.toList.drop (off + j)).take (rec.drop j).length = (((cur.toList.drop off).take rec.length).drop j).take (rec.length - j) := by
        rw [List.drop_take, List.take_take, List.drop_drop, List.length_drop, Nat.min_self]
      have hrd : RdArg w (.ptr (rec.drop j)) (.pointer (some ⟨b, off + j, none⟩)) (b :: S1) := ⟨b, off + j, cur, ty, fz, S1, rfl, q1, by simp; omega, by rw [e]; exact r1, rfl⟩
      refine ⟨_, _, ls3, PTk.dat (src := []) (S := b :: S1) (fun hs => by simp) hrd (fun c hcb => ?_) k1, k2⟩
      rcases List.mem_cons.1 hcb with rfl | hcb
      · exact .inl q2
      · exact .inl (q5 c (r2 c hcb))
    · exact h.elim

theorem vCallFP_sound {t : Tmp} {ts : Array TypeId} {args : Array Operand} (ho : o.op = .call { callee := .value (.tmp t), args := args, argTypes := ts }) (hS : SimG cx G g a w) {isP : TypeId → Bool} {pt : FuncId → Option PK}
    (hc : ∀ f mk, pt f = some mk → ∀ ds pre outs res, mk ds = some (pre, outs, res) → pre () → PCtr P f ds outs res)
    (h : (vCallFP prS argLs (tyI P) (ppI P) isP cx.n o.dst (hasBody P) t ts args pt resWs).Runs g ls (.ws ws))
    (hk : ∀ a' w', Sim cx (apps g ws) a' w' → K a' w') : o.wp P a w K Q := by
  obtain ⟨x0, ls1, hx, h⟩ := ev1_sound hS h
  cases x0 with
  | fn f caps =>
    obtain ⟨ps, e, hcap⟩ := hx
    simp only at h
    split at h
    case h_2 => exact h.elim
    rename_i mk hmk
    split at h
    case isFalse => exact h.elim
    rename_i hbody
    obtain ⟨ds, srcs, pts, ls2, hargs, h⟩ := pArgs_sound hS _ _ _ _ _ h
    obtain ⟨ds2, pts2, ls3, hcaps, h⟩ := capHs_sound hS _ _ _ _ _ hcap h
    have hall := hargs.append hcaps
    rw [List.append_nil] at hall
    have hex : (execOp a.eval o).run P w = .ok (.enter f (args.toList.map a.eval ++ ps).toArray) w := by
      have harr : (args.toList.map a.eval ++ ps).toArray = args.map a.eval ++ ps.toArray := by rw [← List.append_toArray, ← Array.toList_map, Array.toArray_toList]
      rw [harr]
      unfold execOp
      simp only [ho, resolve, e, Deferred.ofValue, Sem.run_bind, Sem.run_pure, Result.andThen_ok, invoke, Array.empty_append]
      exact callFunc_run hbody _
    exact tailP_sound hS hall hex (hc f mk hmk) h hk
  | _ => exact h.elim

end
end Go.V

/-
  The value-level condition generator, part 44: calls of functions that return a pointer to a new variable.
-/
namespace Go.V

/-- What a new variable's cells hold: data of its own without memory, or data that came with the arguments. -/
def NCell (X : Nat → Prop) (w : World) : H → Value → Prop
  | .own l, v => RdL w l v []
  | .ro l, v => ∃ S, RdL w l v S ∧ ∀ c ∈ S, X c
  | .gone, _ => True
/-- THE CONTRACT of a function that only reads its arguments and returns a pointer to a new variable. -/
def NCtr (P : Program) (f : FuncId) (ds : List DV) (hs : List H) : Prop :=
  ∀ (X : Nat → Prop) (w : World) (vs : List Value), RdArgs X w ds vs →
    Calls P f vs.toArray w fun e w' => ∃ b off cur ty, ∃ val : Nat → Value, e = .returned (.pointer (some ⟨b, off, none⟩)) ∧ w.heap.size ≤ b ∧ w'.heap[b]? = some (.cells cur ty (0, 0)) ∧ off + hs.length ≤ cur.size ∧
      (∀ j, j < hs.length → cur[off + j]? = some (val j)) ∧ (∀ j h, hs[j]? = some h → NCell X w' h (val j)) ∧ Same (fun _ => True) w w'
abbrev NK := List DV → Option ((Unit → Prop) × List H)

def nArgs {α : Type} : List Operand → (List DV → Rd α) → Rd α
  | [], k => k []
  | x :: xs, k => ev1 x fun
    | .v y => if scal y then nArgs xs fun ds => k (.one (.v y) :: ds) else .fail
    | .ro sz es => nArgs xs fun ds => k (.one (.s sz es) :: ds)
    | _ => .fail
def vCallN (pr : (Unit → Prop) → Prop) (n : Nat) (d : Option Tmp) (body : Bool) (args : Array Operand) (mk : NK) : Rd Out :=
  if body then nArgs args.toList fun ds => match mk ds with
    | some (pre, hs) => .req (pr pre) (fresh n d fun d => .ret (.ws [.root d true (hs.map fun h => ⟨0, 0, none, h⟩), .reg d (.one (.pt d 0))]))
    | none => .fail
  else .fail

section
variable {P : Program} {o : Oper} {cx : Cx} {G : Gh} {g : Gm} {a : Act} {w : World} {ls : List Loc} {ws : List W} {K : Act → World → Prop} {Q : Exit → Act → World → Prop}

theorem nArgs_sound (hS : SimG cx G g a w) {α : Type} : ∀ (xs : List Operand) (k : List DV → Rd α) (ls : List Loc) (out : α), (nArgs xs k).Runs g ls out →
    ∃ ds ls', RdArgs (fun b => G.ow b = some .ro) w ds (xs.map a.eval) ∧ (k ds).Runs g ls' out
  | [], k, ls, out, h => ⟨[], ls, rfl, h⟩
  | x :: xs, k, ls, out, h => by
    obtain ⟨x0, ls1, hx, h⟩ := ev1_sound hS h
    cases x0 with
    | v y =>
      simp only at h
      split at h
      · rename_i hy
        obtain ⟨ds, ls2, h1, h2⟩ := nArgs_sound hS xs _ _ _ h
        have hx' : a.eval x = y := hx
        have hr : RdArg w (.one (.v y)) (a.eval x) [] := ⟨hx', hy, rfl⟩
        have hh : RdArgs (fun b => G.ow b = some .ro) w (.one (.v y) :: ds) (a.eval x :: xs.map a.eval) := ⟨_, _, [], rfl, hr, by simp, h1⟩
        exact ⟨_, ls2, hh, h2⟩
      · exact h.elim
    | ro sz es =>
      obtain ⟨ds, ls2, h1, h2⟩ := nArgs_sound hS xs _ _ _ h
      obtain ⟨S, q1, q2⟩ := hx
      have hh : RdArgs (fun b => G.ow b = some .ro) w (.one (.s sz es) :: ds) (a.eval x :: xs.map a.eval) := ⟨_, _, S, rfl, q1, q2, h1⟩
      exact ⟨_, ls2, hh, h2⟩
    | _ => exact h.elim

theorem vCallN_sound {f : FuncId} {ts : Array TypeId} {args : Array Operand} (ho : o.op = .call { callee := .value (.func f), args := args, argTypes := ts }) (hS : SimG cx G g a w) {mk : NK}
    (hmk : ∀ ds pre hs, mk ds = some (pre, hs) → pre () → NCtr P f ds hs) (h : (vCallN prS cx.n o.dst (hasBody P f) args mk).Runs g ls (.ws ws))
    (hk : ∀ a' w', Sim cx (apps g ws) a' w' → K a' w') : o.wp P a w K Q := by
  unfold vCallN at h
  split at h
  · rename_i hbody
    obtain ⟨ds, ls1, hargs, h⟩ := nArgs_sound hS _ _ _ _ h
    split at h
    case h_2 => exact h.elim
    rename_i pre hs he
    obtain ⟨hpre, h⟩ := h
    obtain ⟨d, ls2, hd, hlt, hm, h⟩ := fresh_sound h
    simp only [Rd.Runs, Out.ws.injEq] at h
    obtain ⟨_, rfl⟩ := h
    have hex : (execOp a.eval o).run P w = .ok (.enter f (args.map a.eval)) w := by
      unfold execOp
      simp only [ho, resolve, Act.eval, Deferred.ofValue, Sem.run_bind, Sem.run_pure, Result.andThen_ok, invoke, Array.empty_append, Array.append_empty]
      exact callFunc_run hbody _
    unfold Oper.wp
    rw [hex]
    simp only [Oper.upon]
    have hcall := hmk ds pre hs he hpre _ w (args.toList.map a.eval) hargs
    have harr : (args.toList.map a.eval).toArray = args.map a.eval := by rw [← Array.toList_map, Array.toArray_toList]
    rw [harr] at hcall
    refine hcall.mono ?_
    rintro e w' ⟨b, off, cur, ty, val, rfl, hb, hheap, hlen, hcell, hn, hsame⟩
    rw [hd]
    refine hk _ _ ?_
    obtain ⟨G', k1, k2, k3, _⟩ := hS.newRoot hm true (hs.map fun h => ⟨0, 0, none, h⟩) w' hsame val (fun _ => [])
      (by
        intro j h hj
        simp only [List.getElem?_map, Option.map_eq_some_iff] at hj
        obtain ⟨h0, e1, rfl⟩ := hj
        have := hn j h0 e1
        cases h0 with
        | own l => simp only [New]; exact ⟨this, List.nodup_nil, by simp⟩
        | ro l => simp only [New]; obtain ⟨S, q1, q2⟩ := this; exact ⟨trivial, S, q1, q2⟩
        | gone => simp only [New])
      (by
        intro j h hj
        simp only [List.getElem?_map, Option.map_eq_some_iff] at hj
        obtain ⟨h0, e1, rfl⟩ := hj
        exact OrgOk.none)
      (fun i j _ _ _ b hb => by cases hb) b off
      (fun _ => ⟨hb, ⟨cur, ty, hheap, by simpa using hlen, fun j hj => hcell j (by simpa using hj)⟩, fun j _ hb => by cases hb⟩)
    simp only [apps]
    exact ⟨G', k1.put hlt (by simp only [ROk]; exact ⟨b, off, k3 rfl, rfl⟩)⟩
  · exact h.elim

end
end Go.V

/-
  The value-level condition generator, part 45: maps of integers: what each operation does.
-/
namespace Go.V
open Go.MapKept

/-- The first entry of a key. -/
def mfind : List (List L) → Int → Option (Nat × Value)
  | [], _ => none
  | [.v (.int _ k), .v x] :: l, n => if k = n then some (0, x) else (mfind l n).map fun p => (p.1 + 1, p.2)
  | _ :: _, _ => none
def mgbI (es : List (List L)) (n : Int) : Bool := match mfind es n with
  | some (_, .bool b) => b
  | _ => false
def mgiI (es : List (List L)) (n : Int) : Int := match mfind es n with
  | some (_, .int _ i) => i
  | _ => 0
def muI (es : List (List L)) (n : Int) (l : L) : List (List L) := match mfind es n with
  | some (j, _) => es.set j [.v (.int .i64 n), l]
  | none => es ++ [[.v (.int .i64 n), l]]
def mzero : Bool → Value
  | true => .bool false
  | false => .int .i64 0
/-- Of a map's type: are its keys integers; is an element a truth value (true), an integer (false)? -/
def mpI (P : Program) (t : TypeId) : Option Bool := match P.underlying t with
  | some (.map kt et) => match P.underlying kt, P.info? et with
    | some (.int .i64), some i => match i.zero with
      | some (.bool false) => some true
      | some (.int .i64 0) => some false
      | _ => none
    | _, _ => none
  | _ => none

section
variable {P : Program} {w : World}
theorem mpI_spec {t : TypeId} {kb : Bool} (h : mpI P t = some kb) : ∃ kt et, P.underlying t = some (.map kt et) ∧ P.underlying kt = some (.int .i64) ∧ (zeroValue et).run P w = .ok (mzero kb) w := by
  unfold mpI at h
  split at h
  · rename_i kt et hm
    split at h
    · rename_i i hk hi
      split at h
      · rename_i hz; cases h; exact ⟨kt, et, hm, hk, by simp [zeroValue, typeInfo, hi, hz, mzero]⟩
      · rename_i hz; cases h; exact ⟨kt, et, hm, hk, by simp [zeroValue, typeInfo, hi, hz, mzero]⟩
      · cases h
    · cases h
  · cases h

theorem MpRd.find {kb : Bool} {n : Int} : ∀ {l : List MapEntry} {es : List (List L)} (i : Nat), MpRd kb l es → Instr.findNow (.int .i64) (.int .i64 n) l i = some ((mfind es n).map fun p => (i + p.1, p.2))
  | [], es, i, h => by simp only [MpRd] at h; subst h; rfl
  | e :: l, es, i, h => by
    obtain ⟨k, r, rfl, hk, hm, h⟩ := h
    have ih := MpRd.find (n := n) (i + 1) h
    simp only [Instr.findNow, hk, Instr.sameNow, if_true, mfind]
    by_cases c : k = n
    · subst c; simp
    · have : (n == k) = false := by simpa using fun e => c e.symm
      simp only [this, if_neg c, ih, Option.map_map]
      congr 2
      funext p
      simp only [Function.comp_apply]
      congr 1; omega
theorem MpRd.keys {kb : Bool} : ∀ {l : List MapEntry} {es : List (List L)}, MpRd kb l es → ∀ x ∈ l, IsKey (.int .i64) x.key ∧ mkd kb x.val = true
  | [], es, h, x, hx => by cases hx
  | e :: l, es, h, x, hx => by
    obtain ⟨k, r, rfl, hk, hm, h⟩ := h
    rcases List.mem_cons.1 hx with rfl | hx
    · rw [hk]; exact ⟨rfl, hm⟩
    · exact MpRd.keys h x hx
theorem MpRd.at {kb : Bool} {n : Int} : ∀ {l : List MapEntry} {es : List (List L)}, MpRd kb l es → ∀ j x, mfind es n = some (j, x) → ∃ e, l[j]? = some e ∧ e.key = .int .i64 n ∧ e.val = x
  | [], es, h, j, x, hf => by simp only [MpRd] at h; subst h; cases hf
  | e :: l, es, h, j, x, hf => by
    obtain ⟨k, r, rfl, hk, hm, h⟩ := h
    simp only [mfind] at hf
    split at hf
    · rename_i c; subst c; cases hf; exact ⟨e, rfl, hk, rfl⟩
    · simp only [Option.map_eq_some_iff] at hf
      obtain ⟨⟨j', x'⟩, hf, e2⟩ := hf
      cases e2
      obtain ⟨e', q1, q2⟩ := MpRd.at h j' x' hf
      exact ⟨e', by simpa using q1, q2⟩
theorem MpRd.none {kb : Bool} {n : Int} : ∀ {l : List MapEntry} {es : List (List L)}, MpRd kb l es → mfind es n = Option.none → ∀ x ∈ l, x.key ≠ .int .i64 n
  | [], es, h, hf, x, hx => by cases hx
  | e :: l, es, h, hf, x, hx => by
    obtain ⟨k, r, rfl, hk, hm, h⟩ := h
    simp only [mfind] at hf
    split at hf
    · cases hf
    · rename_i c
      simp only [Option.map_eq_none_iff] at hf
      rcases List.mem_cons.1 hx with rfl | hx
      · rw [hk]; intro q; cases q; exact c rfl
      · exact MpRd.none h hf x hx
theorem MpRd.push {kb : Bool} {e : MapEntry} {n : Int} (he : e.key = .int .i64 n) (hv : mkd kb e.val = true) : ∀ {l : List MapEntry} {es : List (List L)}, MpRd kb l es → MpRd kb (l ++ [e]) (es ++ [[.v (.int .i64 n), .v e.val]])
  | [], es, h => by simp only [MpRd] at h; subst h; exact ⟨n, [], rfl, he, hv, rfl⟩
  | e0 :: l, es, h => by
    obtain ⟨k, r, rfl, hk, hm, h⟩ := h
    exact ⟨k, _, rfl, hk, hm, MpRd.push he hv h⟩
theorem MpRd.set {kb : Bool} {e : MapEntry} {n : Int} (he : e.key = .int .i64 n) (hv : mkd kb e.val = true) : ∀ {l : List MapEntry} {es : List (List L)} (j : Nat), MpRd kb l es → MpRd kb (l.set j e) (es.set j [.v (.int .i64 n), .v e.val])
  | [], es, j, h => by simp only [MpRd] at h; subst h; simp [MpRd]
  | e0 :: l, es, j, h => by
    obtain ⟨k, r, rfl, hk, hm, h⟩ := h
    cases j with
    | zero => exact ⟨n, r, rfl, he, hv, h⟩
    | succ j => exact ⟨k, _, rfl, hk, hm, MpRd.set he hv j h⟩
theorem MpRd.kind {kb : Bool} {n : Int} {l : List MapEntry} {es : List (List L)} (h : MpRd kb l es) : (match mfind es n with | some (_, x) => x | Option.none => mzero kb) = (if kb then .bool (mgbI es n) else .int .i64 (mgiI es n)) := by
  unfold mgbI mgiI
  cases hf : mfind es n with
  | none => cases kb <;> rfl
  | some p =>
    obtain ⟨j, x⟩ := p
    obtain ⟨e, q1, q2, q3⟩ := h.at j x hf
    have hk := (h.keys e (List.mem_of_getElem? q1)).2
    rw [q3] at hk
    cases kb <;> cases x <;> simp_all [mkd]
    rename_i k i
    cases k <;> simp_all [mkd]

theorem lookup_run {t : TypeId} {kb : Bool} (ht : mpI P t = some kb) {b : Nat} {ents : Array MapEntry} {clock : Nat} (hb : w.heap[b]? = some (.map ents clock)) {es : List (List L)} (hr : MpRd kb ents.toList es) (n : Int) :
    (Instr.lookup t (.map (some b)) (.int .i64 n) false).run P w = .ok (if kb then .bool (mgbI es n) else .int .i64 (mgiI es n)) w := by
  obtain ⟨kt, et, hm, hk, hz⟩ := mpI_spec (w := w) ht
  have hf := MpRd.find (n := n) 0 hr
  rw [← hr.kind]
  cases hmf : mfind es n with
  | none =>
    rw [hmf] at hf
    simp [Instr.lookup, run_underlying hm, MapKept.run_getObj_map hb, MapKept.run_checkKey hk (k := .int .i64 n) rfl, MapKept.run_findKey hk hf, hz, Result.andThen]
  | some p =>
    rw [hmf] at hf
    simp [Instr.lookup, run_underlying hm, MapKept.run_getObj_map hb, MapKept.run_checkKey hk (k := .int .i64 n) rfl, MapKept.run_findKey hk hf, Result.andThen]

theorem update_run {t : TypeId} {kb : Bool} (ht : mpI P t = some kb) {b : Nat} {ents : Array MapEntry} {clock : Nat} (hb : w.heap[b]? = some (.map ents clock)) (hs : Stamped ents clock) {es : List (List L)} (hr : MpRd kb ents.toList es) (n : Int) {x : Value} (hx : mkd kb x = true) :
    ∃ ents' clock', (Instr.mapUpdate t (.map (some b)) (.int .i64 n) x).run P w = .ok () { w with heap := w.heap.setIfInBounds b (.map ents' clock') } ∧ Stamped ents' clock' ∧ MpRd kb ents'.toList (muI es n (.v x)) := by
  obtain ⟨kt, et, hm, hk, _⟩ := mpI_spec (w := w) ht
  have hf := MpRd.find (n := n) 0 hr
  unfold muI
  cases hmf : mfind es n with
  | none =>
    rw [hmf] at hf
    refine ⟨ents.push { key := .int .i64 n, val := x, born := clock }, clock + 1, ?_, stamped_push hs (hr.none hmf), ?_⟩
    · simp [Instr.mapUpdate, run_underlying hm, MapKept.run_getObj_map hb, MapKept.run_checkKey hk (k := .int .i64 n) rfl, MapKept.run_findKey hk hf, MapKept.run_setObj_map _ hb, Result.andThen]
    · simpa using hr.push (e := { key := .int .i64 n, val := x, born := clock }) rfl hx
  | some p =>
    obtain ⟨j, y⟩ := p
    rw [hmf] at hf
    obtain ⟨e, q1, q2, q3⟩ := hr.at j y hmf
    have hj : ents[j]? = some e := by simpa using q1
    have hlt : j < ents.size := (Array.getElem?_eq_some_iff.1 hj).1
    refine ⟨ents.modify j fun e => { e with key := .int .i64 n, val := x }, clock, ?_, ?_, ?_⟩
    · simp [Instr.mapUpdate, run_underlying hm, MapKept.run_getObj_map hb, MapKept.run_checkKey hk (k := .int .i64 n) rfl, MapKept.run_findKey hk hf, hj, q2, MapKept.run_keyThatStays (d := .int .i64) (k := .int .i64 n) rfl, MapKept.run_setObj_map _ hb, Result.andThen]
    · exact stamped_modify hs _ _ (fun _ _ => rfl) (fun e' _ he' => by rw [hj] at he'; cases he'; exact q2.symm)
    · have : (ents.modify j fun e => { e with key := .int .i64 n, val := x }).toList = ents.toList.set j { e with key := .int .i64 n, val := x } := by
        apply List.ext_getElem?
        intro i
        simp only [Array.getElem?_toList, Array.getElem?_modify, List.getElem?_set]
        by_cases c : j = i
        · subst c
          have := (Array.getElem?_eq_some_iff.1 hj).2
          simp [hlt, this]
        · simp [c]
      rw [this]
      exact hr.set (e := { e with key := .int .i64 n, val := x }) rfl hx j
end
end Go.V

/-
  The value-level condition generator, part 46: maps: the conditions of their operations, and that they are sound.
-/
namespace Go.V
open Go.MapKept

def vMakeMap (mp : TypeId → Option Bool) (n : Nat) (d : Option Tmp) (t : TypeId) (res : Option Operand) : Rd Out :=
  match res with
  | some _ => .fail
  | none => match mp t with
    | none => .fail
    | some kb => fresh n d fun d => .ret (.ws [.root d false [⟨0, 0, none, .own (.m kb [])⟩], .reg d (.one (.mv d 0 0))])
def vLookup (mgb : List (List L) → Int → Bool) (mgi : List (List L) → Int → Int) (mp : TypeId → Option Bool) (n : Nat) (d : Option Tmp) (t : TypeId) (x i : Operand) (ok : Bool) : Rd Out :=
  match ok with
  | true => .fail
  | false => match mp t with
    | none => .fail
    | some kb => ev1 x fun
      | .mv r j ver => evInt i fun k m => if k == .i64 then rdH r j fun h => match h.c with
        | .own (.m kb' es) => if h.ver == ver && kb' == kb then toReg n d (.one (.v (match kb with
            | true => .bool (mgb es m)
            | false => .int .i64 (mgi es m)))) else .fail
        | _ => .fail else .fail
      | _ => .fail
def vMapUpd (mu : List (List L) → Int → L → List (List L)) (mp : TypeId → Option Bool) (t : TypeId) (m k v : Operand) : Rd Out :=
  match mp t with
  | none => .fail
  | some kb => ev1 m fun
    | .mv r j ver => evInt k fun kd i => if kd == .i64 then ev1 v fun
      | .v x => if mkd kb x then rdH r j fun h => match h.c with
        | .own (.m kb' es) => if h.ver == ver && kb' == kb then .ret (.ws [.leaf r j ⟨h.ver, h.iv + 1, h.org, .own (.m kb (mu es i (.v x)))⟩]) else .fail
        | _ => .fail else .fail
      | _ => .fail else .fail
    | _ => .fail

section
variable {P : Program} {o : Oper} {cx : Cx} {G : Gh} {g : Gm} {a : Act} {w : World} {ls : List Loc} {ws : List W} {K : Act → World → Prop} {Q : Exit → Act → World → Prop}

theorem vMakeMap_sound {t : TypeId} {res : Option Operand} (ho : o.op = .makeMap t res) (hS : SimG cx G g a w) (h : (vMakeMap (mpI P) cx.n o.dst t res).Runs g ls (.ws ws))
    (hk : ∀ a' w', Sim cx (apps g ws) a' w' → K a' w') : o.wp P a w K Q := by
  unfold vMakeMap at h
  split at h
  · exact h.elim
  · split at h
    · exact h.elim
    · rename_i kb hmp
      obtain ⟨d, ls2, hd, hlt, hm, h⟩ := fresh_sound h
      simp only [Rd.Runs, Out.ws.injEq] at h
      obtain ⟨_, rfl⟩ := h
      have hnew := heap_alloc_new w (.map #[] 0)
      obtain ⟨G', k1, k2, _⟩ := hS.newRoot hm false [⟨0, 0, none, .own (.m kb [])⟩] (w.alloc (.map #[] 0)) (same_alloc w _) (fun _ => .map (some w.heap.size)) (fun _ => [w.heap.size])
        (by
          intro j hv hj
          cases j with
          | succ j => simp at hj
          | zero =>
            simp at hj; subst hj
            simp only [New]
            refine ⟨⟨w.heap.size, #[], 0, rfl, hnew, stamped_empty 0, rfl, rfl⟩, by simp, fun b hb => ?_⟩
            simp only [List.mem_cons, List.not_mem_nil, or_false] at hb
            subst hb
            exact ⟨.inr ⟨_, _, hnew⟩, .inl (Nat.le_refl _)⟩)
        (by
          intro j hv hj
          cases j with
          | succ j => simp at hj
          | zero => simp at hj; subst hj; exact OrgOk.none)
        (fun i j hi hj hij => by simp at hi hj; omega) 0 0 (by simp)
      refine wp_value (v := .map (some w.heap.size)) (w' := w.alloc (.map #[] 0)) ?_ (hk _ _ ?_)
      · unfold execOp
        simp [ho, Instr.makeMap, Result.andThen]
      · simp only [apps]
        rw [hd]
        refine ⟨G', k1.put hlt ?_⟩
        simp only [ROk, AOk]
        exact ⟨⟨0, 0, none, .own (.m kb [])⟩, by simp [gl, W.app], Nat.le_refl _, fun _ kb' es' _ => (k2 0).symm⟩

theorem vLookup_sound {t : TypeId} {x i : Operand} {ok : Bool} (ho : o.op = .lookup t x i ok) (hS : SimG cx G g a w) (h : (vLookup mgbI mgiI (mpI P) cx.n o.dst t x i ok).Runs g ls (.ws ws))
    (hk : ∀ a' w', Sim cx (apps g ws) a' w' → K a' w') : o.wp P a w K Q := by
  unfold vLookup at h
  split at h
  · exact h.elim
  · split at h
    · exact h.elim
    · rename_i kb hmp
      obtain ⟨x0, ls1, hx, h⟩ := ev1_sound hS h
      cases x0 with
      | mv r j ver =>
        obtain ⟨kd, n, ls2, hi, h⟩ := evInt_sound hS h
        split at h
        case isFalse => exact h.elim
        rename_i hkd
        simp only [beq_iff_eq] at hkd
        subst hkd
        obtain ⟨hv, ls3, q1, q2, h⟩ := rdH_sound h
        split at h
        case h_2 => exact h.elim
        rename_i kb' es hc
        split at h
        case isFalse => exact h.elim
        rename_i hb
        simp only [Bool.and_eq_true, beq_iff_eq] at hb
        obtain ⟨hb, rfl⟩ := hb
        obtain ⟨h2, f1, f2, f3⟩ := hx
        rw [q1] at f1; cases f1
        have e := f3 hb _ _ hc
        have hok := hS.hok q1
        simp only [HOk, hc, RdL] at hok
        obtain ⟨⟨b, ents, clock, g1, g2, g3, g4, g5⟩, _⟩ := hok
        refine toReg_sound hS h (v := if kb' then .bool (mgbI es n) else .int .i64 (mgiI es n)) (by cases kb' <;> simp [ROk, AOk]) ?_ hk
        unfold execOp
        simp [ho, e, g1, hi, lookup_run hmp g2 g4 n]
      | _ => exact h.elim

theorem vMapUpd_sound {t : TypeId} {m k v : Operand} (ho : o.op = .mapUpdate t m k v) (hdst : o.dst = none) (hS : SimG cx G g a w) (h : (vMapUpd muI (mpI P) t m k v).Runs g ls (.ws ws))
    (hk : ∀ a' w', Sim cx (apps g ws) a' w' → K a' w') : o.wp P a w K Q := by
  unfold vMapUpd at h
  split at h
  · exact h.elim
  · rename_i kb hmp
    obtain ⟨x0, ls1, hx, h⟩ := ev1_sound hS h
    cases x0 with
    | mv r j ver =>
      obtain ⟨kd, n, ls2, hi, h⟩ := evInt_sound hS h
      split at h
      case isFalse => exact h.elim
      rename_i hkd
      simp only [beq_iff_eq] at hkd
      subst hkd
      obtain ⟨y, ls3, hy, h⟩ := ev1_sound hS h
      cases y with
      | v y =>
        simp only at h
        split at h
        case isFalse => exact h.elim
        rename_i hmk
        obtain ⟨hv, ls4, q1, q2, h⟩ := rdH_sound h
        split at h
        case h_2 => exact h.elim
        rename_i kb' es hc
        split at h
        case isFalse => exact h.elim
        rename_i hb
        simp only [Bool.and_eq_true, beq_iff_eq] at hb
        obtain ⟨hb, rfl⟩ := hb
        simp only [Rd.Runs, Out.ws.injEq] at h
        obtain ⟨_, rfl⟩ := h
        obtain ⟨h2, f1, f2, f3⟩ := hx
        rw [q1] at f1; cases f1
        have e := f3 hb _ _ hc
        have hok := hS.hok q1
        simp only [HOk, hc, RdL] at hok
        obtain ⟨⟨b, ents, clock, g1, g2, g3, g4, g5⟩, hnd, htok⟩ := hok
        have hy : a.eval v = y := hy
        obtain ⟨ents', clock', u1, u2, u3⟩ := update_run hmp g2 g3 g4 n hmk
        have hset := MapKept.heap_set (o' := Obj.map ents' clock') g2
        have hbb : b ∈ G.fp r j := by rw [g5]; simp
        have hob := (htok b hbb).1
        obtain ⟨G', k1, _⟩ := hS.upd q2 ⟨hv.ver, hv.iv + 1, hv.org, .own (.m kb' (muI es n (.v y)))⟩ (G.val r j) (G.fp r j) { w with heap := w.heap.setIfInBounds b (.map ents' clock') }
          (.inr ⟨rfl, Nat.lt_succ_self _, rfl, .inr ⟨kb', es, _, hc, rfl⟩⟩) rfl rfl rfl (by simp)
          (fun c _ _ h3 => hset.2 c (fun e => h3 _ hc (e ▸ hbb)))
          (fun c off hl => by
            obtain ⟨kk, hk2⟩ := hS.noloc r _ hl
            obtain ⟨b', off', cur, ty, m1, m2, m3, m4, m5⟩ := hS.boxes r kk hk2
            rw [hl] at m1; cases m1
            have hne : c ≠ b := by intro e; subst e; rw [hob] at m2; cases m2
            refine ⟨cur, cur, ty, m3, by rw [hset.2 c hne]; exact m3, rfl, fun hlt => ?_, fun _ _ => rfl⟩
            obtain ⟨_, k3, bx, _, e3, e4, _⟩ := hS.leaf r j _ q2
            rw [hk2] at e3; cases e3
            exact m5 j e4)
          (fun l _ c hcb => by
            rw [g5] at hcb
            simp only [List.mem_cons, List.not_mem_nil, or_false] at hcb
            subst hcb
            exact .inr ⟨_, _, hset.1⟩)
          (by
            refine ⟨⟨b, ents', clock', g1, hset.1, u2, u3, g5⟩, hnd, fun c hcb => ⟨?_, .inr ⟨_, hc, hcb⟩⟩⟩
            rw [g5] at hcb
            simp only [List.mem_cons, List.not_mem_nil, or_false] at hcb
            subst hcb
            exact .inr ⟨_, _, hset.1⟩)
          (by
            intro i hi' _
            exact hS.anc r j hv q1 i hi' ⟨_, .inl hc⟩)
        refine wp_skip_op hdst (w' := { w with heap := w.heap.setIfInBounds b (.map ents' clock') }) ?_ (hk _ _ ?_)
        · unfold execOp
          simp [ho, e, g1, hi, hy, u1]
        · simp only [apps]
          exact ⟨G', k1⟩
      | _ => exact h.elim
    | _ => exact h.elim
end
end Go.V

/-
  The value-level condition generator, part 47: slices of nested rows; a nested row that is stored into its own place.
-/
namespace Go.V

section
variable {P : Program} {o : Oper} {cx : Cx} {G : Gh} {g : Gm} {a : Act} {w : World} {ls : List Loc} {ws : List W} {K : Act → World → Prop} {Q : Exit → Act → World → Prop}

theorem setR_row {sz : Nat} {es : List (List L)} {p : List (Nat × Nat)} {new : (List L)} {y : (List L) × Nat} (h : getR (.s sz es) p = some y) : setR (.s sz es) p new = .s sz (rowOf (setR (.s sz es) p new)) := by
  match p with
  | [] => simp [getR] at h
  | [(i, j)] => rfl
  | (i, j) :: q :: p => rfl

/-- Leaves deep in a tree are replaced by others whose memory was theirs. -/
theorem SimG.storeAt (hS : SimG cx G g a w) {r j : Nat} {h0 : Hv} {l : L} (q3 : g (.leaf r j) = some (.h h0)) (hc : h0.c = .own l) {p : List (Nat × Nat)} {b o0 : Nat} (g1 : TAddr w l (G.val r j) p b o0) {rec : (List L)} {jj : Nat} (hg : getR l p = some (rec, jj))
    (ls0 : (List L)) (vs : List Value) (S2 : List Nat) (hlen : jj + ls0.length ≤ rec.length) (hvl : ls0.length = vs.length) (hone : ∀ u ∈ vs, u.oneCell' = true) (hrd2 : RdRec w ls0 vs S2) (hnd2 : S2.Nodup)
    (hsub : ∀ (cur : Array Value) (ty : TypeId) (fz : Nat × Nat) (Sy : List Nat), w.heap[b]? = some (.cells cur ty fz) → RdRec w ((rec.drop jj).take vs.length) ((cur.toList.drop o0).take vs.length) Sy → ∀ c ∈ S2, c ∈ Sy) :
    ∃ w', (storeCells ⟨b, o0, none⟩ vs 0).run P w = .ok () w' ∧ Sim cx ((W.leaf r j ⟨h0.ver, h0.iv + 1, h0.org, .own (setR l p ls0)⟩).app g) a w' := by
  have hok := hS.hok (gl_some.2 q3)
  simp only [HOk, hc] at hok
  obtain ⟨cur, ty, fz, base, Sa, S1, Sb, m1, m2, m3, m4, m5, m6, m7⟩ := focus p l _ _ b o0 rec jj hok.1 hok.2.1 g1 hg
  have hbS : b ∈ G.fp r j := by rw [m2]; simp [m3]
  obtain ⟨how, hunf⟩ := hok.2.2 b hbS
  have hfz := hunf.cells m1
  subst hfz
  -- the new row
  let cur' := (cur.toList.take o0 ++ vs ++ cur.toList.drop (o0 + vs.length)).toArray
  let w' := w.setRow b cur'
  have hsz : cur'.size = cur.size := by
    simp only [cur', List.size_toArray, List.length_append, List.length_take, List.length_drop, Array.length_toList]
    rw [m4]; omega
  have hst : (storeCells ⟨b, o0, none⟩ vs 0).run P w = .ok () w' := by
    have := run_storeCells_at P b o0 ty vs 0 cur w m1 (by omega) (hone)
    simpa [w', cur'] using this
  have hoth : ∀ b', b' ≠ b → w'.heap[b']? = w.heap[b']? := fun b' hb' => setRow_other w b b' _ hb'
  have hnew0 : w'.heap[b]? = some (.cells cur' ty (0, 0)) := setRow_heap w b cur _ ty _ m1
  have hcell : ∀ i, cur'[i]? = if o0 ≤ i ∧ i < o0 + vs.length then vs[i - o0]? else cur[i]? := by
    intro i
    simp only [cur', List.getElem?_toArray]
    have l1 : (cur.toList.take o0).length = o0 := by simp only [List.length_take, Array.length_toList]; omega
    rcases Nat.lt_or_ge i o0 with hi | hi
    · rw [if_neg (by omega), List.append_assoc, List.getElem?_append_left (by omega), List.getElem?_take, if_pos hi]; simp
    · rcases Nat.lt_or_ge i (o0 + vs.length) with hi2 | hi2
      · rw [if_pos ⟨hi, hi2⟩, List.append_assoc, List.getElem?_append_right (by omega), l1, List.getElem?_append_left (by omega)]
      · rw [if_neg (by omega), List.append_assoc, List.getElem?_append_right (by omega), l1, List.getElem?_append_right (by omega), List.getElem?_drop]
        have : o0 + vs.length + (i - o0 - vs.length) = i := by omega
        rw [this]; simp
  -- the record's parts
  have hndb : b ∉ S1 ∧ b ∉ Sb := by
    have hn := hok.2.1
    rw [m2] at hn
    rw [List.nodup_append] at hn
    obtain ⟨n1, n2, n3⟩ := hn
    rw [List.nodup_append] at n1
    exact ⟨fun hb => n1.2.2 b m3 b hb rfl, fun hb => n3 b (by simp [m3]) b hb rfl⟩
  have hlen' : jj + vs.length ≤ rec.length := by omega
  have m6' : RdRec w (rec.take jj ++ ((rec.drop jj).take vs.length ++ (rec.drop jj).drop vs.length)) ((cur.toList.drop base).take rec.length) S1 := by
    rw [List.take_append_drop, List.take_append_drop]; exact m6
  obtain ⟨Sx, Sr, rfl, x1, x2⟩ := RdRec.split m6'
  obtain ⟨Sy, Sz, rfl, x3, x4⟩ := RdRec.split x2
  have lj : (rec.take jj).length = jj := by simp only [List.length_take]; omega
  have ly : ((rec.drop jj).take vs.length).length = vs.length := by simp only [List.length_take, List.length_drop]; omega
  have ey : (((cur.toList.drop base).take rec.length).drop (rec.take jj).length).take ((rec.drop jj).take vs.length).length = (cur.toList.drop o0).take vs.length := by
    rw [lj, ly, List.drop_take, List.take_take, List.drop_drop, m4]
    congr 1; omega
  have hS2 : ∀ c ∈ S2, c ∈ Sy := hsub cur ty (0, 0) Sy m1 (by rw [← ey]; exact x3)
  have hnb : ∀ c ∈ S2, c ≠ b := by
    rintro c hc0 rfl
    exact hndb.1 (by simp [hS2 c hc0])
  have rd1 : RdRec w' (rec.take jj) (((cur'.toList.drop base).take rec.length).take jj) Sx := by
    have := RdRec.keep (w' := w') _ _ _ x1 (fun c hc0 => hoth c (by rintro rfl; exact hndb.1 (by simp [hc0])))
    rw [lj] at this
    have e : (((cur'.toList.drop base).take rec.length).take jj) = (((cur.toList.drop base).take rec.length).take jj) := by
      apply List.ext_getElem?
      intro i
      simp only [List.getElem?_take, List.getElem?_drop, Array.getElem?_toList]
      by_cases ci : i < jj
      · have hci := hcell (base + i)
        rw [if_neg (by omega)] at hci
        rw [hci]
      · simp [ci]
    rw [e]; simpa using this
  have rd2 : RdRec w' ls0 vs S2 := RdRec.keep _ _ _ hrd2 (fun c hc0 => hoth c (hnb c hc0))
  have rd3 : RdRec w' ((rec.drop jj).drop vs.length) (((cur'.toList.drop base).take rec.length).drop (jj + vs.length)) Sz := by
    have := RdRec.keep (w' := w') _ _ _ x4 (fun c hc0 => hoth c (by rintro rfl; exact hndb.1 (by simp [hc0])))
    rw [lj, ly] at this
    have e : (((cur'.toList.drop base).take rec.length).drop (jj + vs.length)) = (((cur.toList.drop base).take rec.length).drop (jj + vs.length)) := by
      apply List.ext_getElem?
      intro i
      simp only [List.getElem?_take, List.getElem?_drop, Array.getElem?_toList]
      by_cases ci : jj + vs.length + i < rec.length
      · have hci := hcell (base + (jj + vs.length + i))
        rw [if_neg (by omega)] at hci
        rw [hci]
      · simp [ci]
    rw [e, ← List.drop_drop]; exact this
  have hmid : (cur'.toList.drop base).take rec.length = ((cur'.toList.drop base).take rec.length).take jj ++ (vs ++ ((cur'.toList.drop base).take rec.length).drop (jj + vs.length)) := by
    have e3 : ((cur'.toList.drop base).take rec.length).drop jj = vs ++ ((cur'.toList.drop base).take rec.length).drop (jj + vs.length) := by
      rw [← List.drop_drop]
      conv => lhs; rw [← List.take_append_drop vs.length (((cur'.toList.drop base).take rec.length).drop jj)]
      congr 1
      apply List.ext_getElem?
      intro i
      simp only [List.getElem?_take, List.getElem?_drop, Array.getElem?_toList]
      by_cases ci : i < vs.length
      · have hci := hcell (base + (jj + i))
        rw [if_pos (by omega)] at hci
        rw [if_pos ci, if_pos (by omega), hci]
        congr 1; omega
      · rw [if_neg ci, List.getElem?_eq_none (by omega)]
    rw [← e3, List.take_append_drop]
  have rdall : RdRec w' (rec.take jj ++ ls0 ++ rec.drop (jj + ls0.length)) ((cur'.toList.drop base).take rec.length) (Sx ++ (S2 ++ Sz)) := by
    rw [hmid, List.append_assoc, hvl, ← List.drop_drop]
    exact rd1.append (rd2.append rd3)
  have hrd := m7 w' cur' _ _ hnew0 hsz (by
      intro i hi
      rw [hcell, if_neg (by omega)]) (by
      simp only [List.length_append, List.length_take, List.length_drop, hvl]; omega) rdall
    (fun c hc0 hcb => hoth c hcb)
  rw [← setR_eq p l rec jj _ hg] at hrd
  have hS' : (Sa ++ (Sx ++ (S2 ++ Sz)) ++ Sb).Nodup := by
    have hn := hok.2.1
    rw [m2] at hn
    have e4 : Sa ++ (Sx ++ (S2 ++ Sz)) ++ Sb = (Sa ++ Sx) ++ S2 ++ (Sz ++ Sb) := by simp
    have e5 : Sa ++ (Sx ++ (Sy ++ Sz)) ++ Sb = (Sa ++ Sx) ++ Sy ++ (Sz ++ Sb) := by simp
    rw [e4]
    rw [e5] at hn
    refine nodup_swap hn hnd2 (fun c hc0 hcA => ?_) (fun c hc0 hcB => ?_)
    · exact (nd_mid hn).2 c (hS2 c hc0) |>.1 hcA
    · exact (nd_mid hn).2 c (hS2 c hc0) |>.2 hcB
  have hlsz : ∃ sz es, l = .s sz es := by
    cases l with
    | s sz es => exact ⟨sz, es, rfl⟩
    | v y => cases p <;> simp [getR] at hg
    | g => cases p <;> simp [getR] at hg
    | m _ _ => cases p <;> simp [getR] at hg
  obtain ⟨sz, es, hls⟩ := hlsz
  obtain ⟨es', hes1, hes2⟩ := putRec_s l p (rec.take jj ++ ls0 ++ rec.drop (jj + ls0.length)) sz es hls
  rw [← setR_eq p l rec jj _ hg] at hes1
  obtain ⟨G', s1, _⟩ := hS.upd q3 ⟨h0.ver, h0.iv + 1, h0.org, .own (setR l p ls0)⟩ (G.val r j) (Sa ++ (Sx ++ (S2 ++ Sz)) ++ Sb) w'
    (.inr ⟨rfl, Nat.lt_succ_self _, rfl, .inl ⟨sz, es, es', by rw [hc, hls], by simp only [hes1], hes2⟩⟩) rfl rfl rfl (by simp [w'])
    (fun b' _ _ h2 => hoth b' (by rintro rfl; exact h2 l hc hbS))
    (by
      intro b1 off1 hl1
      obtain ⟨mm, hm⟩ := hS.noloc r _ hl1
      obtain ⟨b2, off2, c2, t2, u1, u2, u3, u4, u5⟩ := hS.boxes r mm hm
      rw [hl1] at u1; cases u1
      have hne : b1 ≠ b := by rintro rfl; rw [how] at u2; cases u2
      obtain ⟨_, mm', bx, _, p2, p3, _⟩ := hS.leaf r j _ q3
      rw [hm] at p2; cases p2
      exact ⟨c2, c2, t2, u3, by rw [hoth b1 hne]; exact u3, rfl, fun _ => u5 j p3, fun _ _ => rfl⟩)
    (by
      intro l' hc' b1 hb1
      by_cases hb : b1 = b
      · subst hb; exact .inl ⟨cur', ty, hnew0⟩
      · exact (hok.2.2 b1 hb1).2.keep (hoth b1 hb))
    (by
      simp only
      refine ⟨hrd, hS', fun b1 hb1 => ?_⟩
      have q : b1 ∈ G.fp r j := by
        rw [m2]
        simp only [List.mem_append] at hb1 ⊢
        rcases hb1 with (q | q | q | q) | q
        · exact .inl (.inl q)
        · exact .inl (.inr (.inl q))
        · exact .inl (.inr (.inr (.inl (hS2 b1 q))))
        · exact .inl (.inr (.inr (.inr q)))
        · exact .inr q
      refine ⟨?_, .inr ⟨l, hc, q⟩⟩
      by_cases hb : b1 = b
      · subst hb; exact .inl ⟨cur', ty, hnew0⟩
      · exact (hok.2.2 b1 q).2.keep (hoth b1 hb))
    (fun i e1 _ => hS.anc r j h0 (gl_some.2 q3) i e1 ⟨l, .inl hc⟩)
  exact ⟨w', hst, G', s1⟩

theorem ViewOf.part {hv : Value} {sz lo0 m : Nat} {base' : Option Addr} {cap' : Nat} (hw : ViewOf hv sz lo0 m (.slice base' m cap')) {es : List (List L)} {S : List Nat} (hr : RdL w (.s sz es) hv S) (hlm : lo0 + m ≤ es.length) {l hh : Int} (h0 : 0 ≤ l) (h1 : l ≤ hh) (h2 : hh ≤ m) :
    ViewOf hv sz (lo0 + l.toNat) (hh.toNat - l.toNat) (.slice (if cap' = l.toNat then base' else base'.map (·.add (l.toNat * sz))) (hh.toNat - l.toNat) (cap' - l.toNat)) := by
  obtain ⟨base, len, cap, base'', cap'', g1, g2, g3, g4, g5, g6⟩ := hw
  cases g2
  have hcm : (cap' - l.toNat) * sz + l.toNat * sz = cap' * sz := by rw [← Nat.add_mul]; congr 1; omega
  refine ⟨base, len, cap, _, _, g1, rfl, by omega, by omega, ?_, ?_⟩
  · intro e1 e2
    have e3 : l.toNat = 0 := by omega
    have e4 : lo0 = 0 := by omega
    have e5 : m = len := by
      simp only [RdL] at hr
      obtain ⟨b0, n0, c0, r1, r2, _⟩ := hr
      rw [g1] at r1; cases r1; omega
    have := g5 e4 e5
    rw [← this]
    have e6 : hh.toNat = m := by omega
    rw [e3, e6]
    have : (if cap' = 0 then base' else base'.map (·.add (0 * sz))) = base' := by
      split
      · rfl
      · cases base' <;> simp [Addr.add]
    simp only [this, Nat.sub_zero]
  · rcases g6 with ⟨r1, r3⟩ | ⟨b, off, off', r1, r2, r3, r4⟩
    · exact .inl ⟨r1, by omega⟩
    · subst r1 r2
      by_cases c : cap' = l.toNat
      · rw [if_pos c]
        exact .inr ⟨b, off, off', rfl, rfl, by rw [c]; simp; rw [c] at r3; omega, fun hp => by omega⟩
      · rw [if_neg c]
        refine .inr ⟨b, off, off' + l.toNat * sz, rfl, by simp [add_lit], by omega, fun hp => ?_⟩
        have := r4 (by omega)
        rw [this, Nat.add_mul]; omega

theorem ViewOf.rd {v : Value} {sz lo m : Nat} {es : List (List L)} {hv : Value} {S : List Nat} (hr : RdL w (.s sz es) hv S) (hlo : lo + m ≤ es.length) (hw : ViewOf hv sz lo m v) : ∃ S1, RdL w (.s sz ((es.drop lo).take m)) v S1 ∧ ∀ b ∈ S1, b ∈ S := by
  obtain ⟨base, len, cap, base', cap', g1, g2, g3, g4, g5, g6⟩ := hw
  have hr0 := hr
  simp only [RdL] at hr
  obtain ⟨base0, len0, cap0, q1, q2, q3, q4, q5⟩ := hr
  rw [g1] at q1; cases q1
  have hlen : ((es.drop lo).take m).length = m := by simp only [List.length_take, List.length_drop]; omega
  rcases q5 with ⟨e1, e3⟩ | ⟨b, off, cur, ty, fz, S', f1, f2, f3, f4, f5⟩
  · refine ⟨[], ?_, fun b hb => by cases hb⟩
    simp only [RdL]
    exact ⟨base', m, cap', g2, hlen.symm, g3, by omega, .inl ⟨by omega, trivial⟩⟩
  · rcases g6 with ⟨r1, r3⟩ | ⟨b1, off1, off', r1, r2, r3, r4⟩
    · refine ⟨[], ?_, fun b hb => by cases hb⟩
      simp only [RdL]
      exact ⟨base', m, cap', g2, hlen.symm, g3, by omega, .inl ⟨r3, trivial⟩⟩
    rw [r1] at f1; cases f1
    obtain ⟨S1, k1, k2⟩ := f4.sub lo m
    by_cases hm : 0 < m
    · have ho := r4 hm
      refine ⟨b :: S1, ?_, fun c hc => by rw [f5]; rcases List.mem_cons.1 hc with rfl | hc; exact .head _; exact .tail _ (k2 c hc)⟩
      simp only [RdL]
      refine ⟨base', m, cap', g2, hlen.symm, g3, by omega, .inr ⟨b, off', cur, ty, fz, S1, r2, f2, by omega, ?_, rfl⟩⟩
      have hl2 : m * sz + lo * sz ≤ len * sz := by rw [← Nat.add_mul]; exact Nat.mul_le_mul_right _ (by omega)
      have : (cur.toList.drop off').take (m * sz) = (((cur.toList.drop off).take (len * sz)).drop (lo * sz)).take (((es.drop lo).take m).length * sz) := by
        apply List.ext_getElem?
        intro k
        rw [hlen, ho]
        simp only [List.getElem?_take, List.getElem?_drop]
        by_cases ck : k < m * sz
        · simp only [ck, if_true]; rw [if_pos (by omega)]; congr 1; omega
        · simp [ck]
      rw [this]; exact k1
    · have hm0 : m = 0 := by omega
      subst hm0
      refine ⟨[b], ?_, fun c hc => by rw [f5]; rcases List.mem_cons.1 hc with rfl | hc; exact .head _; cases hc⟩
      simp only [RdL, List.take_zero]
      exact ⟨base', 0, cap', g2, rfl, g3, by omega, .inr ⟨b, off', cur, ty, fz, [], r2, f2, by omega, by simp [RdEs], rfl⟩⟩
theorem TAddr.det : ∀ (p : List (Nat × Nat)) (l : L) (hv : Value) (b o b' o' : Nat), TAddr w l hv p b o → TAddr w l hv p b' o' → b' = b ∧ o' = o
  | [], l, hv, b, o, b', o', h, _ => by cases l <;> simp [TAddr] at h
  | (i, j) :: p, l, hv, b, o, b', o', h, h' => by
    cases l with
    | s sz es =>
      simp only [TAddr] at h h'
      obtain ⟨b1, off, len, cap, y1, y2, y3⟩ := h
      obtain ⟨b2, off2, len2, cap2, z1, z2, z3⟩ := h'
      rw [y1] at z1; cases z1
      cases p with
      | nil => obtain ⟨rfl, rfl⟩ := y3; exact z3
      | cons q p =>
        obtain ⟨l1, v1, u1, u2, u3⟩ := y3
        obtain ⟨l2, v2, w1, w2, w3⟩ := z3
        rw [u1] at w1; cases w1
        rw [u2] at w2; cases w2
        exact TAddr.det (q :: p) _ _ _ _ _ _ u3 w3
    | _ => simp [TAddr] at h
theorem scal_fp {k : Nat} {es : List (List L)} {v : Value} {S : List Nat} (h : RdL w (.s k es) v S) (hs : scalRecs es) : S.Nodup := by
  simp only [RdL] at h
  obtain ⟨base, len, cap, _, _, _, _, h⟩ := h
  rcases h with ⟨_, rfl⟩ | ⟨b, off, cur, ty, fz, S', _, _, _, q, rfl⟩
  · exact List.nodup_nil
  · rw [scalRecs_nil hs q]; simp
theorem slice_fp {k : Nat} {es : List (List L)} {b off len cap : Nat} {S : List Nat} (h : RdL w (.s k es) (.slice (some ⟨b, off, none⟩) len cap) S) (hs : scalRecs es) (hc : cap ≠ 0) : S = [b] := by
  simp only [RdL] at h
  obtain ⟨base, len', cap', e, _, _, _, h⟩ := h
  cases e
  rcases h with ⟨q, _⟩ | ⟨b', off', cur, ty, fz, S', e, _, _, q, rfl⟩
  · exact absurd q hc
  · cases e; rw [scalRecs_nil hs q]
theorem ViewOf.own {v hv : Value} {k lo m : Nat} {es : List (List L)} {S : List Nat} (hw : ViewOf hv k lo m v) (hr : RdL w (.s k es) hv S) (hlo : lo + m ≤ es.length) (hsc : scalRecs es) (hst : scalRecs ((es.drop lo).take m)) :
    ∃ S2, RdL w (.s k ((es.drop lo).take m)) v S2 ∧ S2.Nodup ∧ ∀ S3, RdL w (.s k es) hv S3 → ∀ c ∈ S2, c ∈ S3 := by
  obtain ⟨S1, k1, _⟩ := ViewOf.rd hr hlo hw
  obtain ⟨base, len, cap, base', cap', g1, g2, g3, g4, g5, g6⟩ := id hw
  subst g1 g2
  by_cases hc : cap' = 0
  · subst hc
    refine ⟨[], ?_, List.nodup_nil, fun S3 _ c hc => by cases hc⟩
    simp only [RdL] at k1 ⊢
    obtain ⟨base0, len0, cap0, q1, q2, q3, q4, _⟩ := k1
    cases q1
    exact ⟨_, _, _, rfl, q2, q3, q4, .inl ⟨rfl, trivial⟩⟩
  · rcases g6 with ⟨_, q⟩ | ⟨b, off, off', r1, r2, r3, r4⟩
    · exact absurd q hc
    · subst r1 r2
      have e := slice_fp k1 hst hc
      subst e
      refine ⟨[b], k1, by simp, fun S3 h3 c hc3 => ?_⟩
      rw [slice_fp h3 hsc (by omega)]; exact hc3
theorem scal_take : ∀ {es : List (List L)} {m : Nat}, scalRecs es → scalRecs (es.take m)
  | [], m, _ => by simp [scalRecs]
  | e :: es, 0, _ => by simp [scalRecs]
  | e :: es, m + 1, h => ⟨h.1, scal_take h.2⟩

/-- A nested row: its value, what it holds. -/
theorem nested (hS : SimG cx G g a w) {r j ver iv lo m : Nat} {p : List (Nat × Nat)} {v : Value} (hx : AOk (gl g) G w (.vn r j ver iv p lo m) v) {h : Hv} (q1 : gl g r j = some h) (hgd : goodN h ver iv = true) {l : L} (hc : h.c = .own l) {k : Nat} {es : List (List L)} (hs : getS l p = some (k, es)) :
    ∃ rec o bb oo hv S, getR l p = some (rec, o) ∧ rec[o]? = some (.s k es) ∧ TAddr w l (G.val r j) p bb oo ∧ w.cell? ⟨bb, oo, none⟩ = some hv ∧ lo + m ≤ es.length ∧ ViewOf hv k lo m v ∧ RdL w (.s k es) hv S ∧ S.Nodup := by
  obtain ⟨h2, f1, f2, f2', fne, f3⟩ := hx
  rw [q1] at f1; cases f1
  unfold getS at hs
  cases hg : getR l p with
  | none => simp [hg] at hs
  | some pr =>
    obtain ⟨rec, j0⟩ := pr
    simp only [hg] at hs
    split at hs
    case h_2 => cases hs
    rename_i sz es' hrec
    cases hs
    obtain ⟨bb, oo, hvv, f4, f5, f6, f7⟩ := f3 hgd l rec j0 k es hc hg hrec
    have hok := hS.hok q1
    simp only [HOk, hc] at hok
    obtain ⟨cur, ty, fz, base, Sa, S1, Sb, m1, m2, m3, m4, m5, m6, _⟩ := focus p l _ _ bb oo rec j0 hok.1 hok.2.1 f4 hg
    obtain ⟨Sp, Sx, Sq, v', k1, k2, k3⟩ := m6.at j0 _ hrec
    have hvv' : v' = hvv := by
      have := row_cells m1 k2
      rw [← m4, f5] at this; exact (Option.some.inj this).symm
    subst hvv'
    have hn := hok.2.1
    rw [m2] at hn
    have hn1 := (nd_mid hn).1
    rw [k1] at hn1
    exact ⟨rec, j0, bb, oo, v', Sx, rfl, hrec, f4, f5, f6, f7, k3, (nd_mid hn1).1⟩

end

def vSliceN (pr : (Unit → Prop) → Prop) (ad : Nat → Int → Nat) (df : Int → Int → Nat) (zi : Nat → Int) (el : TypeId → Option (TypeId × TI × Nat)) (n : Nat) (d : Option Tmp) (t : TypeId) (x : Operand) (low high max : Option Operand) : Rd Out :=
  match el t, max with
  | some (_, ti, _), none => ev1 x fun
    | .vn r j ver iv p lo m => rdH r j fun h => match h.c with
      | .own l => if goodN h ver iv then evBound low 0 fun a => evBound high (zi m) fun b =>
          .req (pr fun _ => 0 ≤ a ∧ a ≤ b ∧ b ≤ m ∧ ∃ es, getS l p = some (ti.zero.length, es)) (toReg n d (.one (.vn r j ver iv p (ad lo a) (df b a)))) else .fail
      | _ => .fail
    | _ => .fail
  | _, _ => .fail
def vStoreN (pr : (Unit → Prop) → Prop) (ps : PsF) (sub : List (List L) → Nat → Nat → List (List L)) (up : UpF) (ty : TypeId → Option TI) (t : TypeId) (x y : Operand) : Rd Out :=
  match ty t with
  | none => .fail
  | some ti => match ti.slots with
    | [some k] => ev1 x fun
      | .pn r j ver iv p => ev1 y fun
        | .vn r2 j2 ver2 iv2 p2 lo m => if Nat.beq r r2 && Nat.beq j j2 then rdH r j fun h => if good h ver iv p && goodN h ver2 iv2 then match h.c with
          | .own (.s sz es) => .req (pr fun _ => p = p2 ∧ lo = 0 ∧ getS (.s sz es) p = some (k, ps (.s sz es) p) ∧ scalRecs (ps (.s sz es) p))
              (.ret (.ws [.leaf r j ⟨h.ver, h.iv + 1, h.org, .own (.s sz (up (.s sz es) p [.s k (sub (ps (.s sz es) p) 0 m)]))⟩]))
          | _ => .fail else .fail else .fail
        | _ => .fail
      | _ => .fail
    | _ => .fail

section
variable {P : Program} {o : Oper} {cx : Cx} {G : Gh} {g : Gm} {a : Act} {w : World} {ls : List Loc} {ws : List W} {K : Act → World → Prop} {Q : Exit → Act → World → Prop}

theorem vSliceN_sound {t : TypeId} {x : Operand} {lo hi mx : Option Operand} (ho : o.op = .slice t x lo hi mx) (hS : SimG cx G g a w) (h : (vSliceN prS (fun lo i => lo + i.toNat) (fun h l => h.toNat - l.toNat) (fun n => n) (elI P) cx.n o.dst t x lo hi mx).Runs g ls (.ws ws))
    (hk : ∀ a' w', Sim cx (apps g ws) a' w' → K a' w') : o.wp P a w K Q := by
  unfold vSliceN at h
  split at h
  · rename_i e ti bytes hel
    obtain ⟨x0, ls', hx, h⟩ := ev1_sound hS h
    cases x0 with
    | vn r j ver iv p lo0 m =>
      simp only at h
      obtain ⟨hv, ls3, q1, _, h⟩ := rdH_sound h
      split at h
      · rename_i l hc
        split at h
        · rename_i hgd
          obtain ⟨la, ls2, h, hl⟩ := evBound_sound hS h
          obtain ⟨hh, ls3, h, hhi⟩ := evBound_sound hS h
          obtain ⟨⟨h0, h1, h2, es, hes⟩, h⟩ := h
          obtain ⟨rec, o0, bb, oo, hvv, S, n1, n2, n3, n4, n5, n6, n7, n8⟩ := nested hS hx q1 hgd hc hes
          obtain ⟨_, f1, f2, f3, fne, _⟩ := hx
          rw [q1] at f1; cases f1
          obtain ⟨base, len, cap, base', cap', g1, g2, g3, g4, g5, g6⟩ := id n6
          rw [g2] at n6
          have hw := n6.part n7 n5 h0 h1 h2
          refine toReg_sound hS h ?_ (slice_run hel base' m cap' g2 la hh hl hhi h0 h1 (by omega) ho) hk
          simp only [ROk]
          refine ⟨hv, q1, f2, f3, fne, fun _ l' rec' o' sz' es' hc' hr' hr2 => ?_⟩
          rw [hc] at hc'; cases hc'
          rw [n1] at hr'; cases hr'
          rw [n2] at hr2; cases hr2
          exact ⟨bb, oo, hvv, n3, n4, by omega, hw⟩
        · exact h.elim
      · exact h.elim
    | _ => exact h.elim
  · exact h.elim

theorem vStoreN_sound {t : TypeId} {x y : Operand} (ho : o.op = .store t x y) (hdst : o.dst = none) (hS : SimG cx G g a w) (h : (vStoreN prS psI (fun es lo m => (es.drop lo).take m) upI (tyI P) t x y).Runs g ls (.ws ws))
    (hk : ∀ a' w', Sim cx (apps g ws) a' w' → K a' w') : o.wp P a w K Q := by
  unfold vStoreN at h
  split at h
  · exact h.elim
  · rename_i ti hti
    split at h
    case h_2 => exact h.elim
    rename_i k hsl
    obtain ⟨x0, ls1, hx, h⟩ := ev1_sound hS h
    cases x0 with
    | pn r j ver iv p =>
      obtain ⟨y0, ls2, hy, h⟩ := ev1_sound hS h
      cases y0 with
      | vn r2 j2 ver2 iv2 p2 lo m =>
        simp only at h
        split at h
        case isFalse => exact h.elim
        rename_i hrj
        simp only [Bool.and_eq_true] at hrj
        have e1 := Nat.eq_of_beq_eq_true hrj.1
        have e2 := Nat.eq_of_beq_eq_true hrj.2
        subst e1 e2
        obtain ⟨h0, ls3, q1, q2, hq⟩ := rdH_sound h
        split at hq
        case isFalse => exact hq.elim
        rename_i hgd
        simp only [Bool.and_eq_true] at hgd
        split at hq
        case h_2 => exact hq.elim
        rename_i sz es hc
        obtain ⟨⟨rfl, rfl, hes, hsc⟩, hq⟩ := hq
        simp only [Rd.Runs, Out.ws.injEq] at hq
        obtain ⟨_, rfl⟩ := hq
        obtain ⟨rec, o0, bb, oo, hvv, S, n1, n2, n3, n4, n5, n6, n7, n8⟩ := nested hS hy q1 hgd.2 hc hes
        obtain ⟨h1, f1, f2, f3, f4, f5⟩ := hx
        rw [q1] at f1; cases f1
        obtain ⟨b, o1, g1, g2⟩ := f5 hgd.1 _ hc
        obtain ⟨e3, e4⟩ := TAddr.det _ _ _ _ _ _ _ g1 n3
        subst e3 e4
        obtain ⟨S2, k1, knd, k2⟩ := n6.own n7 n5 hsc (by rw [List.drop_zero]; exact scal_take hsc)
        have hlt : o0 < rec.length := (List.getElem?_eq_some_iff.1 n2).1
        obtain ⟨w', s1, s2⟩ := hS.storeAt (P := P) q2 hc g1 n1 [.s k (((psI (.s sz es) p).drop 0).take m)] [a.eval y] S2 (by simp; omega) rfl (by simpa using RdL.one k1) (by simp only [RdRec]; exact ⟨_, [], S2, [], rfl, k1, ⟨rfl, rfl⟩, by simp⟩)
          knd (by
            intro cur ty fz Sy m1 m2 c hc2
            have er : (rec.drop o0).take [a.eval y].length = [.s k (psI (.s sz es) p)] := by
              simp only [List.length_cons, List.length_nil, Nat.zero_add]
              rw [List.take_one, List.head?_drop, n2]; rfl
            rw [er] at m2
            simp only [RdRec] at m2
            obtain ⟨v0, vs0, S3, S4, x1, x2, ⟨x3, x4⟩, x5⟩ := m2
            have e0 : v0 = hvv := by
              have hx1 : ((cur.toList.drop oo).take 1)[0]? = some v0 := by rw [show (cur.toList.drop oo).take 1 = _ from x1]; rfl
              rw [List.getElem?_take, if_pos (by omega), List.getElem?_drop, Nat.add_zero, Array.getElem?_toList] at hx1
              have := n4
              simp only [World.cell?, m1] at this
              rw [hx1] at this
              exact Option.some.inj this
            subst e0
            rw [x5, x4, List.append_nil]
            exact k2 S3 x2 c hc2)
        obtain ⟨iti, z, ei1, ei2, ei3, ei4, ei5⟩ := tyI_spec hti
        have hzl := (zipZ_spec ei4).2.2
        refine wp_skip_op hdst (run_store_op hti ho g2 (cells_of (vs := [a.eval y]) (.inr rfl) (by simpa using RdL.one k1)) (by rw [← hzl, hsl]; rfl) s1) (hk _ _ ?_)
        simp only [apps]
        have eu : (L.s sz (upI (.s sz es) p [.s k (((psI (.s sz es) p).drop 0).take m)])) = setR (.s sz es) p [.s k (((psI (.s sz es) p).drop 0).take m)] := (setR_row n1).symm
        rw [eu]
        exact s2
      | _ => exact h.elim
    | _ => exact h.elim
end
end Go.V

/-
  The value-level condition generator, part 48: calls that take rows over.
-/
namespace Go.V

/-- THE CONTRACT of a function that takes its arguments' rows over: what it returns may lie in their memory. -/
def OCtr (P : Program) (f : FuncId) (ds res : List DV) : Prop :=
  ∀ (w : World) (vs : List Value) (S : List Nat), RdDVs w ds vs S → S.Nodup → (∀ b ∈ S, Unf w b) →
    Calls P f vs.toArray w fun e w' => ∃ v Sr, e = .returned v ∧ RdRes w' res v Sr ∧ Sr.Nodup ∧ (∀ b ∈ Sr, Unf w' b ∧ (w.heap.size ≤ b ∨ b ∈ S)) ∧ Same (fun b => b ∉ S) w w'
abbrev OK' := List DV → Option ((Unit → Prop) × List DV)

section
variable (tk : ∀ {β : Type}, List (Option Nat) → List A → (List (L × Option Nat) → List (Nat × Nat) → Rd β) → Rd β) (ty : TypeId → Option TI)
def tArg {α : Type} (t : TypeId) (x : Operand) (k : DV → List (Nat × Nat) → Rd α) : Rd α :=
  match ty t with
  | none => .fail
  | some ti => ev x fun val => match val with
    | .one a => if ti.agg then .fail else tk ti.slots [a] fun lts srcs => match lts with
      | [(l, _)] => k (.one l) srcs
      | _ => .fail
    | .agg as => if ti.agg then tk ti.slots as fun lts srcs => k (.agg (lts.map (·.1))) srcs else .fail
    | .tup _ => .fail
def tArgs {α : Type} : List TypeId → List Operand → (List DV → List (Nat × Nat) → Rd α) → Rd α
  | [], [], k => k [] []
  | t :: ts, x :: xs, k => tArg tk ty t x fun d src => tArgs ts xs fun ds srcs => k (d :: ds) (src ++ srcs)
  | _, _, _ => .fail
def vCallT (pr : (Unit → Prop) → Prop) (n : Nat) (d : Option Tmp) (body : Bool) (ts : Array TypeId) (args : Array Operand) (mk : OK') (rw : Nat → List DV → List W) : Rd Out :=
  if body then tArgs tk ty ts.toList args.toList fun ds srcs => match mk ds with
    | some (pre, res) => .req (pr pre) (if distinctP srcs then gones srcs fun w1 => fresh n d fun d => .ret (.ws (w1 ++ rw d res)) else .fail)
    | none => .fail
  else .fail
end

section
variable {P : Program} {o : Oper} {cx : Cx} {G : Gh} {g : Gm} {a : Act} {w : World} {ls : List Loc} {ws : List W} {K : Act → World → Prop} {Q : Exit → Act → World → Prop}

theorem tail_own (hS : SimG cx G g a w) {d : Nat} (hlt : d < cx.n) (hm : g (.meta_ d) = none) {res : List DV} {v : Value} {S : List Nat} {w' : World} (hres : RdRes w' res v S) (hnd : S.Nodup) (hfr : ∀ b ∈ S, Unf w' b ∧ Free g G w b) (hos : w'.os = w.os) (htape : w'.tape = w.tape) (hout : w'.output = w.output) (hsize : w.heap.size ≤ w'.heap.size)
    (hsame : ∀ b, b < w.heap.size → (∀ r j, G.ow b = some (.leaf r j) → ∃ h l, gl g r j = some h ∧ h.c = .own l) → w'.heap[b]? = w.heap[b]?) :
    Sim cx (apps g (resWs d res)) (a.put (some d) v) w' := by
  obtain ⟨vs, lv, hlv, hv⟩ : ∃ vs lv, LvOk w' res vs lv S ∧ ((∃ dv, res = [dv] ∧ vs = [v]) ∨ v = .tuple vs.toArray ∧ ∀ dv, res ≠ [dv]) := by
    cases res with
    | nil => obtain ⟨vs, e, h2⟩ := hres; obtain ⟨lv, k⟩ := RdDVs.lv h2; exact ⟨vs, lv, k, .inr ⟨e, fun dv e => by cases e⟩⟩
    | cons d1 rest =>
      cases rest with
      | nil =>
        have h2 : RdDVs w' [d1] [v] S := by simp only [RdDVs]; exact ⟨v, [], S, [], rfl, hres, ⟨rfl, rfl⟩, by simp⟩
        obtain ⟨lv, k⟩ := RdDVs.lv h2
        exact ⟨[v], lv, k, .inl ⟨d1, rfl, rfl⟩⟩
      | cons d2 rest => obtain ⟨vs, e, h2⟩ := hres; obtain ⟨lv, k⟩ := RdDVs.lv h2; exact ⟨vs, lv, k, .inr ⟨e, fun dv e => by cases e⟩⟩
  have hrec := hlv.rec_
  obtain ⟨Ss, s1, s2, s3⟩ := hrec.items
  rw [← s1] at hnd
  obtain ⟨G', k1, k2, _, _⟩ := hS.newRoot' hm false ((res.flatMap dvLeaves).map fun l => ⟨0, 0, none, .own l⟩) w' hos htape hout hsize hsame (fun j => lv.getD j undef) (fun j => Ss.getD j [])
    (by
      intro j h hj
      simp only [List.getElem?_map, Option.map_eq_some_iff] at hj
      obtain ⟨l, e1, rfl⟩ := hj
      obtain ⟨u, q1, q2⟩ := s3 j l e1
      simp only [New]
      refine ⟨by simpa [List.getD, q1] using q2, nodup_getD hnd j, fun b hb => ?_⟩
      exact hfr b (by rw [← s1]; exact flatten_getD hb))
    (by
      intro j h hj
      simp only [List.getElem?_map, Option.map_eq_some_iff] at hj
      obtain ⟨l, e1, rfl⟩ := hj
      exact OrgOk.none)
    (fun i j _ _ hij => flatten_disj hnd i j hij) 0 0 (by simp)
  simp only [resWs, apps]
  refine ⟨G', k1.put hlt ?_⟩
  have hgl : ∀ i l, (res.flatMap dvLeaves)[i]? = some l → gl ((W.root d false ((res.flatMap dvLeaves).map fun l => ⟨0, 0, none, .own l⟩)).app g) d (0 + i) = some ⟨0, 0, none, .own l⟩ := by
    intro i l e
    simp [gl, W.app, e]
  have hval : ∀ i u, lv[i]? = some u → G'.val d (0 + i) = u := by
    intro i u e
    rw [k2, Nat.zero_add]
    simp [List.getD, e]
  have hall := resRs_ok (G := G') res 0 vs lv S hlv (fun i l e => ⟨none, hgl i l e⟩) hval
  rcases hv with ⟨dv, rfl, rfl⟩ | ⟨rfl, hne⟩
  · simp only [resAll]
    simp only [resRs, ROks] at hall
    obtain ⟨v', vs', e, h1, _⟩ := hall
    cases e; exact h1
  · have : resAll d res = .tup (resRs d 0 res) := by
      unfold resAll
      split
      · exact absurd rfl (hne _)
      · rfl
    rw [this]
    simp only [ROk]
    exact ⟨vs, rfl, hall⟩

theorem Tks.tok2 (hS : SimG cx G g a w) {ls : List (L × Option Nat)} {srcs : List (Nat × Nat)} {vs : List Value} {Ss : List (List Nat)} (h : Tks g G w ls srcs vs Ss) :
    ∀ b ∈ Ss.flatten, Unf w b ∧ ∃ r j, (r, j) ∈ srcs ∧ G.ow b = some (.leaf r j) := by
  induction h with
  | nil => intro b hb; simp at hb
  | cons h hs ih =>
    have f := h.facts hS
    intro b hb
    rw [List.flatten_cons, List.mem_append] at hb
    rcases hb with hb | hb
    · obtain ⟨u, r, j, m1, m2⟩ := f.2.2 b hb; exact ⟨u, r, j, by simp [m1], m2⟩
    · obtain ⟨u, r, j, m1, m2⟩ := ih b hb; exact ⟨u, r, j, by simp [m1], m2⟩
/-- What was taken over for arguments. -/
def TkD (g : Gm) (G : Gh) (w : World) (ds : List DV) (srcs : List (Nat × Nat)) (vs : List Value) (S : List Nat) : Prop :=
  RdDVs w ds vs S ∧ (distinctP srcs = true → S.Nodup) ∧ ∀ b ∈ S, Unf w b ∧ ∃ r j, (r, j) ∈ srcs ∧ G.ow b = some (.leaf r j)

theorem tArg_sound (hS : SimG cx G g a w) {t : TypeId} {x : Operand} {α : Type} {k : DV → List (Nat × Nat) → Rd α} {ls : List Loc} {out : α} (h : (tArg takeAll (tyI P) t x k).Runs g ls out) :
    ∃ d src S ls', RdDV w d (a.eval x) S ∧ (distinctP src = true → S.Nodup) ∧ (∀ b ∈ S, Unf w b ∧ ∃ r j, (r, j) ∈ src ∧ G.ow b = some (.leaf r j)) ∧ (k d src).Runs g ls' out := by
  unfold tArg at h
  cases hti : tyI P t with
  | none => simp only [hti] at h; exact h.elim
  | some ti =>
    simp only [hti] at h
    obtain ⟨r, ls1, hr, h⟩ := ev_sound hS h
    cases r with
    | one x0 =>
      simp only [ROk] at hr
      simp only at h
      split at h
      · exact h.elim
      · obtain ⟨lts, srcs, Ss, ls2, ht, hl, h⟩ := takeAll_sound hS _ [x0] [a.eval x] (by simp [AOks, hr]) _ _ _ h
        split at h
        · rename_i l og
          have hrec := ht.rec_ hS
          simp only [List.map_cons, List.map_nil, RdRec] at hrec
          obtain ⟨v, vs', S1, S2, e1, k2, ⟨e2, e3⟩, e4⟩ := hrec
          cases e1
          rw [e3, List.append_nil] at e4
          refine ⟨.one l, srcs, S1, ls2, k2, fun hd => ?_, fun b hb => ?_, h⟩
          · have := (ht.facts hS hd).1; rwa [e4] at this
          · have := ht.tok2 hS b (by rw [e4]; exact hb); exact this
        · exact h.elim
    | agg as =>
      simp only [ROk] at hr
      obtain ⟨vs, e, hr⟩ := hr
      simp only at h
      split at h
      · obtain ⟨lts, srcs, Ss, ls2, ht, hl, h⟩ := takeAll_sound hS _ as vs hr _ _ _ h
        have hrd : RdDV w (.agg (lts.map (·.1))) (a.eval x) Ss.flatten := ⟨vs, e, ht.rec_ hS⟩
        exact ⟨_, srcs, Ss.flatten, ls2, hrd, fun hd => (ht.facts hS hd).1, ht.tok2 hS, h⟩
      · exact h.elim
    | tup rs => exact h.elim

theorem tArgs_sound (hS : SimG cx G g a w) {α : Type} : ∀ (ts : List TypeId) (xs : List Operand) (k : List DV → List (Nat × Nat) → Rd α) (ls : List Loc) (out : α), (tArgs takeAll (tyI P) ts xs k).Runs g ls out →
    ∃ ds srcs S ls', TkD g G w ds srcs (xs.map a.eval) S ∧ (k ds srcs).Runs g ls' out
  | [], [], k, ls, out, h => ⟨[], [], [], ls, ⟨⟨rfl, rfl⟩, fun _ => List.nodup_nil, by simp⟩, h⟩
  | [], _ :: _, k, ls, out, h => h.elim
  | _ :: _, [], k, ls, out, h => h.elim
  | t :: ts, x :: xs, k, ls, out, h => by
    simp only [tArgs] at h
    obtain ⟨d, src, S, ls2, k1, k2, k3, h⟩ := tArg_sound hS h
    obtain ⟨ds, srcs, S', ls3, ⟨m1, m2, m3⟩, h⟩ := tArgs_sound hS ts xs _ _ _ h
    refine ⟨_, _, S ++ S', ls3, ⟨?_, fun hd => ?_, fun b hb => ?_⟩, h⟩
    · simp only [List.map_cons, RdDVs]; exact ⟨_, _, S, S', rfl, k1, m1, rfl⟩
    · obtain ⟨d1, d2, d3⟩ := distinctP_append hd
      rw [List.nodup_append]
      refine ⟨k2 d1, m2 d2, fun b hb b' hb' e => ?_⟩
      subst e
      obtain ⟨_, r, j, q1, q2⟩ := k3 b hb
      obtain ⟨_, r', j', q3, q4⟩ := m3 b hb'
      rw [q2] at q4; cases q4
      exact d3 _ q1 q3
    · rcases List.mem_append.1 hb with hb | hb
      · obtain ⟨u, r, j, q1, q2⟩ := k3 b hb; exact ⟨u, r, j, by simp [q1], q2⟩
      · obtain ⟨u, r, j, q1, q2⟩ := m3 b hb; exact ⟨u, r, j, by simp [q1], q2⟩

theorem vCallT_sound {f : FuncId} {ts : Array TypeId} {args : Array Operand} (ho : o.op = .call { callee := .value (.func f), args := args, argTypes := ts }) (hS : SimG cx G g a w) {mk : OK'}
    (hmk : ∀ ds pre res, mk ds = some (pre, res) → pre () → OCtr P f ds res) (h : (vCallT takeAll (tyI P) prS cx.n o.dst (hasBody P f) ts args mk resWs).Runs g ls (.ws ws))
    (hk : ∀ a' w', Sim cx (apps g ws) a' w' → K a' w') : o.wp P a w K Q := by
  unfold vCallT at h
  split at h
  case isFalse => exact h.elim
  rename_i hbody
  obtain ⟨ds, srcs, S, ls1, ⟨t1, t2, t3⟩, h⟩ := tArgs_sound hS _ _ _ _ _ h
  split at h
  case h_2 => exact h.elim
  rename_i pre res he
  obtain ⟨hpre, h⟩ := h
  split at h
  case isFalse => exact h.elim
  rename_i hdist
  obtain ⟨w1, ls2, hS1, h, hg1, hg2⟩ := gones_sound srcs g hS (fun _ _ _ => rfl) hdist _ _ _ h
  obtain ⟨d, ls3, hd, hlt, hm, h⟩ := fresh_sound h
  simp only [Rd.Runs, Out.ws.injEq] at h
  obtain ⟨_, rfl⟩ := h
  have hm1 : apps g w1 (.meta_ d) = none := by rw [hg2 _ (by intro r j e; cases e)]; exact hm
  have hex : (execOp a.eval o).run P w = .ok (.enter f (args.map a.eval)) w := by
    unfold execOp
    simp only [ho, resolve, Act.eval, Deferred.ofValue, Sem.run_bind, Sem.run_pure, Result.andThen_ok, invoke, Array.empty_append, Array.append_empty]
    exact callFunc_run hbody _
  unfold Oper.wp
  rw [hex]
  simp only [Oper.upon]
  have hcall := hmk ds pre res he hpre w (args.toList.map a.eval) S t1 (t2 hdist) (fun b hb => (t3 b hb).1)
  have harr : (args.toList.map a.eval).toArray = args.map a.eval := by rw [← Array.toList_map, Array.toArray_toList]
  rw [harr] at hcall
  refine hcall.mono ?_
  rintro e w' ⟨v, Sr, rfl, hres, hnd, hfr, hsame⟩
  rw [hd]
  have gone : ∀ b ∈ S, ∃ r j, G.ow b = some (.leaf r j) ∧ ∀ h l, gl (apps g w1) r j = some h → h.c = .own l → False := by
    intro b hb
    obtain ⟨_, r, j, m1, m2⟩ := t3 b hb
    refine ⟨r, j, m2, fun h l e1 e2 => ?_⟩
    obtain ⟨h', q1, q2⟩ := hg1 r j m1
    rw [gl_some, q1] at e1; cases e1
    rw [q2] at e2; cases e2
  rw [show apps g (w1 ++ resWs d res) = apps (apps g w1) (resWs d res) from apps_append g w1 _] at hk
  refine hk _ _ (tail_own hS1 hlt hm1 hres hnd (fun b hb => ⟨(hfr b hb).1, ?_⟩) hsame.os hsame.tape hsame.output hsame.size (fun b hb hl => ?_))
  · rcases (hfr b hb).2 with q | q
    · exact .inl q
    · obtain ⟨r, j, m1, m2⟩ := gone b q
      exact .inr ⟨r, j, m1, m2⟩
  · refine hsame.block b hb (fun q => ?_)
    obtain ⟨r, j, m1, m2⟩ := gone b q
    obtain ⟨h, l, e1, e2⟩ := hl r j m1
    exact m2 h l e1 e2
end
end Go.V

/-
  The value-level condition generator, part 19: the operations behind a variable, for evaluation on values that are not known.
-/
namespace Go.V

def getV (l : L) (p : List (Nat × Nat)) : Value :=
  match getR l p with
  | some (rec, o) => match rec[o]? with
    | some (.v x) => x
    | _ => .bool false
  | none => .bool false
def intOf : Value → Int
  | .int _ n => n
  | _ => 0
def boolOf : Value → Bool
  | .bool b => b
  | _ => false
def strOf : Value → ByteArray
  | .string s => s
  | _ => .empty
def lfI : L → Int
  | .v (.int _ n) => n
  | _ => 0
def lfB : L → Bool
  | .v (.bool b) => b
  | _ => false
def lfT : L → ByteArray
  | .v (.string b) => b
  | _ => .empty
def lfS : L → List (List L)
  | .s _ es => es
  | _ => []
/-- What is done with values that are not known. -/
structure Ops where
  pr : (Unit → Prop) → Prop
  ar : BinOp → IntKind → Int → Int → Int
  sh : BinOp → IntKind → Int → Int → Int
  cmp : BinOp → Int → Int → Bool
  wr : IntKind → Int → Int
  bq : BinOp → Bool → Bool → Bool
  bn : Bool → Bool
  sel : Bool → Bool → Bool → Bool
  mm : Bool → Int → Int → Int
  ln : List (List L) → Nat
  zi : Nat → Int
  nn : Int → Nat
  ad : Nat → Int → Nat
  df : Int → Int → Nat
  cat : List (List L) → List (List L) → List (List L)
  sub : List (List L) → Nat → Nat → List (List L)
  rep : Int → (List L) → List (List L)
  gi : List (List L) → Int → Nat → Int
  gb : List (List L) → Int → Nat → Bool
  gt : List (List L) → Int → Nat → ByteArray
  gs : List (List L) → Int → Nat → List (List L)
  pi : L → List (Nat × Nat) → Int
  pb : L → List (Nat × Nat) → Bool
  pt : L → List (Nat × Nat) → ByteArray
  ps : L → List (Nat × Nat) → List (List L)
  up : L → List (Nat × Nat) → (List L) → List (List L)
  mgb : List (List L) → Int → Bool
  mgi : List (List L) → Int → Int
  mu : List (List L) → Int → L → List (List L)

def arI (op : BinOp) (k : IntKind) (a b : Int) : Int :=
  match op with
  | .add => k.wrap (a + b)
  | .sub => k.wrap (a - b)
  | .mul => k.wrap (a * b)
  | .quo => k.wrap (a.tdiv b)
  | .rem => a.tmod b
  | .and => k.wrap (BitVec.ofInt k.bits a &&& BitVec.ofInt k.bits b).toNat
  | .or => k.wrap (BitVec.ofInt k.bits a ||| BitVec.ofInt k.bits b).toNat
  | .xor => k.wrap (BitVec.ofInt k.bits a ^^^ BitVec.ofInt k.bits b).toNat
  | .andNot => k.wrap (BitVec.ofInt k.bits a &&& ~~~ BitVec.ofInt k.bits b).toNat
  | _ => 0
def shI (op : BinOp) (k : IntKind) (a b : Int) : Int :=
  match op with
  | .shl => k.wrap (a * 2 ^ (min b.toNat k.bits))
  | _ => a.fdiv (2 ^ (min b.toNat k.bits))
def prI (f : Unit → Prop) : Prop := f ()
def wrI (k : IntKind) (a : Int) : Int := k.wrap a
def mmI (isMax : Bool) (a b : Int) : Int := if isMax then (if b > a then b else a) else (if b < a then b else a)
def lnI (es : List (List L)) : Nat := es.length
def ziI (n : Nat) : Int := n
def nnI (i : Int) : Nat := i.toNat
def adI (lo : Nat) (i : Int) : Nat := lo + i.toNat
def dfI (h l : Int) : Nat := h.toNat - l.toNat
def catI (a b : List (List L)) : List (List L) := a ++ b
def subI (es : List (List L)) (lo m : Nat) : List (List L) := (es.drop lo).take m
def repI (n : Int) (r : (List L)) : List (List L) := List.replicate n.toNat r
def giI (es : List (List L)) (i : Int) (j : Nat) : Int := lfI ((es.getD i.toNat []).getD j .g)
def gbI (es : List (List L)) (i : Int) (j : Nat) : Bool := lfB ((es.getD i.toNat []).getD j .g)
def gtI (es : List (List L)) (i : Int) (j : Nat) : ByteArray := lfT ((es.getD i.toNat []).getD j .g)
def gsI (es : List (List L)) (i : Int) (j : Nat) : List (List L) := lfS ((es.getD i.toNat []).getD j .g)
def piI (l : L) (p : List (Nat × Nat)) : Int := intOf (getV l p)
def pbI (l : L) (p : List (Nat × Nat)) : Bool := boolOf (getV l p)
def ptI (l : L) (p : List (Nat × Nat)) : ByteArray := strOf (getV l p)
def stdO : Ops := ⟨prI, arI, shI, cmpI, wrI, bqI, bnI, selI, mmI, lnI, ziI, nnI, adI, dfI, catI, subI, repI, giI, gbI, gtI, gsI, piI, pbI, ptI, psI, upI, mgbI, mgiI, muI⟩

/-- What is known of a program's types and functions. -/
structure Tab where
  tyL : List (Nat × TI)
  elL : List (Nat × (TypeId × TI × Nat))
  fdL : List (Nat × List (Option Nat))
  bdL : List (Nat × List (Nat × Nat))
  itL : List (Nat × IntKind)
  boL : List (Nat × Unit)
  slL : List (Nat × Unit)
  fnL : List (Nat × Unit)
  ptL : List (Nat × TI)
  pnL : List (Nat × Unit)
  mpL : List (Nat × Bool)
  cmL : List (Nat × List Bool)

def lk {α : Type} : List (Nat × α) → Nat → Option α
  | [], _ => none
  | (k, x) :: r, t => match Nat.beq k t with
    | true => some x
    | false => lk r t

def lkF : Option (List (Option Nat)) → Nat → Option Nat
  | none, _ => none
  | some l, f => l.getD f none

def TabOk (P : Program) (T : Tab) : Prop :=
  (T.tyL.map fun p => tyI P p.1) = (T.tyL.map fun p => some p.2) ∧
  (T.elL.map fun p => elI P p.1) = (T.elL.map fun p => some p.2) ∧
  (T.fdL.map fun p => (List.range p.2.length).map (fdI P p.1)) = (T.fdL.map fun p => p.2) ∧
  (T.bdL.map fun p => bdI P p.1) = (T.bdL.map fun p => some p.2) ∧
  (T.itL.map fun p => intT P p.1) = (T.itL.map fun p => some p.2) ∧
  (T.boL.map fun p => isBoolT P p.1) = (T.boL.map fun _ => true) ∧
  (T.slL.map fun p => isSliceT P p.1) = (T.slL.map fun _ => true) ∧
  (T.fnL.map fun p => hasBody P p.1) = (T.fnL.map fun _ => true) ∧
  (T.ptL.map fun p => ppI P p.1) = (T.ptL.map fun p => some p.2) ∧
  (T.pnL.map fun p => (tyI P p.1).isNone) = (T.pnL.map fun _ => true) ∧
  (T.mpL.map fun p => mpI P p.1) = (T.mpL.map fun p => some p.2) ∧
  (T.cmL.map fun p => cmT P p.1) = (T.cmL.map fun p => some p.2)

theorem lk_mem {α : Type} : ∀ {l : List (Nat × α)} {t : Nat} {x : α}, lk l t = some x → (t, x) ∈ l
  | [], _, _, h => by cases h
  | (k, y) :: r, t, x, h => by
    simp only [lk] at h
    split at h
    · rename_i e; cases h; cases Nat.eq_of_beq_eq_true e; simp
    · exact List.mem_cons_of_mem _ (lk_mem h)
theorem map_mem {α β : Type} {f g : α → β} : ∀ {l : List α}, l.map f = l.map g → ∀ x ∈ l, f x = g x
  | [], _, x, hx => by cases hx
  | y :: l, h, x, hx => by
    simp only [List.map_cons, List.cons.injEq] at h
    rcases List.mem_cons.1 hx with rfl | hx
    · exact h.1
    · exact map_mem h.2 x hx

section
variable {P : Program} {T : Tab}
theorem TabOk.ty (h : TabOk P T) (t : Nat) : lk T.tyL t = none ∨ ∃ x, lk T.tyL t = some x ∧ tyI P t = some x := by
  cases e : lk T.tyL t with
  | none => exact .inl rfl
  | some x => exact .inr ⟨x, rfl, map_mem h.1 _ (lk_mem e)⟩
theorem TabOk.el (h : TabOk P T) (t : Nat) : lk T.elL t = none ∨ ∃ x, lk T.elL t = some x ∧ elI P t = some x := by
  cases e : lk T.elL t with
  | none => exact .inl rfl
  | some x => exact .inr ⟨x, rfl, map_mem h.2.1 _ (lk_mem e)⟩
theorem TabOk.fd (h : TabOk P T) (s f : Nat) : lkF (lk T.fdL s) f = none ∨ ∃ x, lkF (lk T.fdL s) f = some x ∧ fdI P s f = some x := by
  cases e : lk T.fdL s with
  | none => exact .inl rfl
  | some l =>
    have h1 := map_mem h.2.2.1 _ (lk_mem e)
    simp only at h1
    cases e2 : l.getD f none with
    | none => exact .inl e2
    | some x =>
      refine .inr ⟨x, e2, ?_⟩
      have hlt : f < l.length := by
        rcases Nat.lt_or_ge f l.length with c | c
        · exact c
        · rw [List.getD_eq_getElem?_getD, List.getElem?_eq_none c] at e2; cases e2
      have h2 : ((List.range l.length).map (fdI P s))[f]? = l[f]? := by rw [h1]
      rw [List.getElem?_map, List.getElem?_range hlt, List.getElem?_eq_getElem hlt] at h2
      rw [List.getD_eq_getElem?_getD, List.getElem?_eq_getElem hlt] at e2
      simp at h2 e2
      rw [h2, e2]
theorem TabOk.bd (h : TabOk P T) (t : Nat) : lk T.bdL t = none ∨ ∃ x, lk T.bdL t = some x ∧ bdI P t = some x := by
  cases e : lk T.bdL t with
  | none => exact .inl rfl
  | some x => exact .inr ⟨x, rfl, map_mem h.2.2.2.1 _ (lk_mem e)⟩
theorem TabOk.it (h : TabOk P T) (t : Nat) : lk T.itL t = none ∨ ∃ x, lk T.itL t = some x ∧ intT P t = some x := by
  cases e : lk T.itL t with
  | none => exact .inl rfl
  | some x => exact .inr ⟨x, rfl, map_mem h.2.2.2.2.1 _ (lk_mem e)⟩
theorem TabOk.bo (h : TabOk P T) (t : Nat) : lk T.boL t = none ∨ ∃ x, lk T.boL t = some x ∧ isBoolT P t = true := by
  cases e : lk T.boL t with
  | none => exact .inl rfl
  | some x => exact .inr ⟨x, rfl, map_mem h.2.2.2.2.2.1 _ (lk_mem e)⟩
theorem TabOk.sl (h : TabOk P T) (t : Nat) : lk T.slL t = none ∨ ∃ x, lk T.slL t = some x ∧ isSliceT P t = true := by
  cases e : lk T.slL t with
  | none => exact .inl rfl
  | some x => exact .inr ⟨x, rfl, map_mem h.2.2.2.2.2.2.1 _ (lk_mem e)⟩
theorem TabOk.fn (h : TabOk P T) (t : Nat) : lk T.fnL t = none ∨ ∃ x, lk T.fnL t = some x ∧ hasBody P t = true := by
  cases e : lk T.fnL t with
  | none => exact .inl rfl
  | some x => exact .inr ⟨x, rfl, map_mem h.2.2.2.2.2.2.2.1 _ (lk_mem e)⟩
theorem TabOk.pt (h : TabOk P T) (t : Nat) : lk T.ptL t = none ∨ ∃ x, lk T.ptL t = some x ∧ ppI P t = some x := by
  cases e : lk T.ptL t with
  | none => exact .inl rfl
  | some x => exact .inr ⟨x, rfl, map_mem h.2.2.2.2.2.2.2.2.1 _ (lk_mem e)⟩
theorem TabOk.pn (h : TabOk P T) (t : Nat) : lk T.pnL t = none ∨ ∃ x, lk T.pnL t = some x ∧ tyI P t = none := by
  cases e : lk T.pnL t with
  | none => exact .inl rfl
  | some x => exact .inr ⟨x, rfl, Option.isNone_iff_eq_none.1 (map_mem h.2.2.2.2.2.2.2.2.2.1 _ (lk_mem e))⟩
theorem TabOk.mp (h : TabOk P T) (t : Nat) : lk T.mpL t = none ∨ ∃ x, lk T.mpL t = some x ∧ mpI P t = some x := by
  cases e : lk T.mpL t with
  | none => exact .inl rfl
  | some x => exact .inr ⟨x, rfl, map_mem h.2.2.2.2.2.2.2.2.2.2.1 _ (lk_mem e)⟩
theorem TabOk.cm (h : TabOk P T) (t : Nat) : lk T.cmL t = none ∨ ∃ x, lk T.cmL t = some x ∧ cmT P t = some x := by
  cases e : lk T.cmL t with
  | none => exact .inl rfl
  | some x => exact .inr ⟨x, rfl, map_mem h.2.2.2.2.2.2.2.2.2.2.2 _ (lk_mem e)⟩
end

abbrev CT := FuncId → List DV → Option ((Unit → Prop) × List DV)
abbrev MT := FuncId → Option MK
/-- What is known of the functions that are called: those that only read, those that write into their arguments. -/
structure Cts where
  rd : CT
  mu : MT
  pt : FuncId → Option PK
  nw : FuncId → Option NK
  tk : FuncId → Option OK'

section
variable (T : Tab) (O : Ops) (ct : Cts) (n : Nat)

/-- A record at a place that is not known. -/
def etaE (O : Ops) (es : List (List L)) (i : Int) : Nat → (List L) → (List L)
  | _, [] => []
  | j, .v (.int k _) :: zs => .v (.int k (O.gi es i j)) :: etaE O es i (j + 1) zs
  | j, .v (.bool _) :: zs => .v (.bool (O.gb es i j)) :: etaE O es i (j + 1) zs
  | j, .v (.string _) :: zs => .v (.string (O.gt es i j)) :: etaE O es i (j + 1) zs
  | j, .s sz _ :: zs => .s sz (O.gs es i j) :: etaE O es i (j + 1) zs
  | j, _ :: zs => .g :: etaE O es i (j + 1) zs
/-- What lies at a path that is not known. -/
def etaP (O : Ops) (l : L) (p : List (Nat × Nat)) : Nat → (List L) → (List L)
  | _, [] => []
  | j, .v (.int k _) :: zs => .v (.int k (O.pi l (adv p j))) :: etaP O l p (j + 1) zs
  | j, .v (.bool _) :: zs => .v (.bool (O.pb l (adv p j))) :: etaP O l p (j + 1) zs
  | j, .v (.string _) :: zs => .v (.string (O.pt l (adv p j))) :: etaP O l p (j + 1) zs
  | j, .s sz _ :: zs => .s sz (O.ps l (adv p j)) :: etaP O l p (j + 1) zs
  | j, _ :: zs => .g :: etaP O l p (j + 1) zs

def leafAO (r j : Nat) (h : Hv) : A :=
  match h.c with
  | .own (.v x) => .v x
  | .own (.s _ es) => .vw r j h.ver 0 (O.ln es)
  | .own .g => .un
  | .own (.m _ _) => .mv r j h.ver
  | .ro (.v x) => .v x
  | .ro (.s sz es) => .ro sz es
  | .ro .g => .un
  | .ro (.m _ _) => .un
  | .gone => .un
def loadLeavesO {α : Type} (r : Nat) : Nat → Nat → (List A → Rd α) → Rd α
  | _, 0, k => k []
  | j, m + 1, k => rdH r j fun h => loadLeavesO r (j + 1) m fun as => k (leafAO O r j h :: as)
def nestAO (r j ver iv : Nat) (p : List (Nat × Nat)) : Nat → (List L) → List A
  | _, [] => []
  | o, .v x :: ls => .v x :: nestAO r j ver iv p (o + 1) ls
  | o, .s _ es :: ls => .vn r j ver iv (adv p o) 0 (O.ln es) :: nestAO r j ver iv p (o + 1) ls
  | o, .g :: ls => .un :: nestAO r j ver iv p (o + 1) ls
  | o, .m _ _ :: ls => .un :: nestAO r j ver iv p (o + 1) ls

def vLoadO (d : Option Tmp) (t : TypeId) (x : Operand) : Rd Out :=
  match lk T.tyL t with
  | none => .fail
  | some ti => ev1 x fun
    | .pt r j => loadLeavesO O r j ti.zero.length fun as => mkR ti as (toReg n d)
    | .pn r j ver iv p => rdH r j fun h =>
      if good h ver iv p then match h.c with
        | .own l => .req (O.pr fun _ => ∃ rec o, getR l p = some (rec, o) ∧ o + ti.zero.length ≤ rec.length ∧ (rec.drop o).take ti.zero.length = etaP O l p 0 ti.zero)
            (mkR ti (nestAO O r j ver h.iv p 0 (etaP O l p 0 ti.zero)) (toReg n d))
        | _ => .fail
      else .fail
    | .rp rec o => if o + ti.zero.length ≤ rec.length then mkR ti (((rec.drop o).take ti.zero.length).map roA) (toReg n d) else .fail
    | _ => .fail

def take1O {α : Type} (slot : Option Nat) (a : A) (k : L → Option Nat → List (Nat × Nat) → Rd α) : Rd α :=
  match a, slot with
  | .v x, none => if scal x then k (.v x) none [] else .fail
  | .nl, some sz => k (.s sz []) none []
  | .vw r j ver lo m, some sz => rdH r j fun h =>
    match h.c with
    | .own (.s sz' es) => if h.ver == ver && sz' == sz then .req (O.pr fun _ => lo = 0 ∧ m = es.length) (k (.s sz' es) h.org [(r, j)]) else .fail
    | _ => .fail
  | .mv r j ver, some _ => rdH r j fun h =>
    match h.c with
    | .own (.m kb es) => if h.ver == ver then k (.m kb es) h.org [(r, j)] else .fail
    | _ => .fail
  | _, _ => .fail
def takeAllO {α : Type} : List (Option Nat) → List A → (List (L × Option Nat) → List (Nat × Nat) → Rd α) → Rd α
  | [], [], k => k [] []
  | sl :: sls, a :: as, k => take1O O sl a fun l og src => takeAllO sls as fun ls srcs => k ((l, og) :: ls) (src ++ srcs)
  | _, _, _ => .fail
def put1O {α : Type} (slot : Option Nat) (a : A) (k : H → Option Nat → List (Nat × Nat) → Rd α) : Rd α :=
  match a, slot with
  | .ro sz' es, some sz => if sz' == sz then k (.ro (.s sz' es)) none [] else .fail
  | a, slot => take1O O slot a fun l og src => k (.own l) og src
def putAllO {α : Type} : List (Option Nat) → List A → (List (H × Option Nat) → List (Nat × Nat) → Rd α) → Rd α
  | [], [], k => k [] []
  | sl :: sls, a :: as, k => put1O O sl a fun h og src => putAllO sls as fun hs srcs => k ((h, og) :: hs) (src ++ srcs)
  | _, _, _ => .fail

def vStoreO (t : TypeId) (x y : Operand) : Rd Out :=
  match lk T.tyL t with
  | none => .fail
  | some ti => ev1 x fun p => ev y fun val =>
    match leavesOf val with
    | none => .fail
    | some as =>
      match p with
      | .pt r j => putAllO O ti.slots as fun hs srcs =>
        if distinctP srcs && srcs.all (fun s => !inRange r j hs.length s) then
          gones srcs fun w1 => storeLeaves r j hs fun w2 => .ret (.ws (w1 ++ w2))
        else .fail
      | .pn r j ver iv p => takeAllO O ti.slots as fun ls srcs =>
        if distinctP srcs && srcs.all (fun s => s != (r, j)) then
          gones srcs fun w1 => rdH r j fun h =>
            if good h ver iv p then match h.c with
              | .own (.s sz es) => .req (O.pr fun _ => ∃ rec o, getR (.s sz es) p = some (rec, o) ∧ o + ls.length ≤ rec.length)
                  (.ret (.ws (w1 ++ [.leaf r j ⟨h.ver, h.iv + 1, h.org, .own (.s sz (O.up (.s sz es) p (ls.map (·.1))))⟩])))
              | _ => .fail
            else .fail
        else .fail
      | _ => .fail

def vBoxO (d : Option Tmp) (t : TypeId) (x : Operand) : Rd Out :=
  match lk T.tyL t with
  | none => .fail
  | some ti => ev x fun val =>
    match leavesOf val with
    | none => .fail
    | some as => fresh n d fun d => putAllO O ti.slots as fun hs srcs =>
      if distinctP srcs then gones srcs fun w1 => .ret (.ws (w1 ++ [.root d true (hvs hs), .reg d (.one (.pt d 0))])) else .fail

def ownRowO (d : Nat) (sz : Nat) (es : List (List L)) : List W := [.root d false [⟨0, 0, none, .own (.s sz es)⟩], .reg d (.one (.vw d 0 0 0 (O.ln es)))]

def vMakeO (d : Option Tmp) (t : TypeId) (len cap : Operand) : Rd Out :=
  match lk T.elL t with
  | none => .fail
  | some (_, ti, bytes) => evInt len fun kl l => evInt cap fun kc c =>
    if kl == .i64 && kc == .i64 then
      .req (O.pr fun _ => 0 ≤ l ∧ l ≤ c ∧ c * (bytes : Int) ≤ 70368744177664 ∧ c ≤ 70368744177664) (fresh n d fun d => .ret (.ws (ownRowO O d ti.zero.length (O.rep l ti.zero))))
    else .fail

def partsOfO {α : Type} (ti : TI) (len : Nat) : List (Nat × Operand) → (List (Nat × List L) → List (Nat × Nat) → Rd α) → Rd α
  | [], k => k [] []
  | (i, x) :: ps, k => if i < len then ev x fun val => match leavesOf val with
      | none => .fail
      | some as => takeAllO O ti.slots as fun ls src => partsOfO ti len ps fun rest srcs => k ((i, ls.map (·.1)) :: rest) (src ++ srcs)
    else .fail
def vBuildSliceO (d : Option Tmp) (t : TypeId) (len : Nat) (parts : Array (Nat × Operand)) : Rd Out :=
  match lk T.elL t with
  | none => .fail
  | some (_, ti, _) => if len * ti.zero.length ≤ 16777216 then
      partsOfO O ti len parts.toList fun ps srcs => if distinctP srcs then gones srcs fun w1 => fresh n d fun d => .ret (.ws (w1 ++ ownRowO O d ti.zero.length (placeParts (List.replicate len ti.zero) ps))) else .fail
    else .fail

def vIndexAddrO (d : Option Tmp) (t : TypeId) (x i : Operand) : Rd Out :=
  match lk T.elL t with
  | none => .fail
  | some (_, ti, _) => ev1 x fun a => evInt i fun _ i =>
    match a with
    | .ro sz es => if sz == ti.zero.length then .req (O.pr fun _ => 0 ≤ i ∧ i < es.length ∧ es.getD i.toNat [] = etaE O es i 0 ti.zero) (toReg n d (.one (.rp (etaE O es i 0 ti.zero) 0))) else .fail
    | .vw r j ver lo m => rdH r j fun h => match h.c with
      | .own (.s sz _) => if h.ver == ver && sz == ti.zero.length then .req (O.pr fun _ => 0 ≤ i ∧ i < m) (toReg n d (.one (.pn r j ver h.iv [(O.ad lo i, 0)]))) else .fail
      | _ => .fail
    | .vn r j ver iv p lo m => rdH r j fun h => match h.c with
      | .own l => if goodN h ver iv then .req (O.pr fun _ => 0 ≤ i ∧ i < m ∧ ∃ es, getS l p = some (ti.zero.length, es)) (toReg n d (.one (.pn r j ver iv (p ++ [(O.ad lo i, 0)])))) else .fail
      | _ => .fail
    | _ => .fail

def vSliceO (d : Option Tmp) (t : TypeId) (x : Operand) (low high max : Option Operand) : Rd Out :=
  match lk T.elL t, max with
  | some (_, ti, _), none => ev1 x fun
    | .ro sz es => if sz == ti.zero.length then evBound low 0 fun l => evBound high (O.zi (O.ln es)) fun h =>
        .req (O.pr fun _ => 0 ≤ l ∧ l ≤ h ∧ h ≤ es.length) (toReg n d (.one (.ro sz (O.sub es (O.nn l) (O.df h l))))) else .fail
    | .vw r j ver lo m => rdH r j fun hv => match hv.c with
      | .own (.s sz _) => if hv.ver == ver && sz == ti.zero.length then evBound low 0 fun l => evBound high (O.zi m) fun h =>
          .req (O.pr fun _ => 0 ≤ l ∧ l ≤ h ∧ h ≤ m) (toReg n d (.one (.vw r j ver (O.ad lo l) (O.df h l)))) else .fail
      | _ => .fail
    | _ => .fail
  | _, _ => .fail

def isSh : BinOp → Bool
  | .shl => true
  | .shr => true
  | _ => false
def isAr : BinOp → Bool
  | .add => true
  | .sub => true
  | .mul => true
  | .quo => true
  | .rem => true
  | .and => true
  | .or => true
  | .xor => true
  | .andNot => true
  | _ => false
def isDiv : BinOp → Bool
  | .quo => true
  | .rem => true
  | _ => false
def isCmp : BinOp → Bool
  | .eql => true
  | .neq => true
  | .lss => true
  | .leq => true
  | .gtr => true
  | .geq => true
  | _ => false
def isEq : BinOp → Bool
  | .eql => true
  | .neq => true
  | _ => false
def vBinO (d : Option Tmp) (op : BinOp) (t : TypeId) (x y : Operand) : Rd Out :=
  ev1 x fun a => ev1 y fun b =>
    match a, b with
    | .v (.int k a), .v (.int k' b) =>
      if isSh op then .req (O.pr fun _ => 0 ≤ b) (toReg n d (.one (.v (.int k (O.sh op k a b)))))
      else if k == k' then
        (if isDiv op then .req (O.pr fun _ => b ≠ 0) (toReg n d (.one (.v (.int k (O.ar op k a b)))))
         else if isAr op then toReg n d (.one (.v (.int k (O.ar op k a b))))
         else if isCmp op then toReg n d (.one (.v (.bool (O.cmp op a b))))
         else .fail)
      else .fail
    | .v (.bool a), .v (.bool b) => if (lk T.boL t).isSome && isEq op then toReg n d (.one (.v (.bool (O.bq op a b)))) else .fail
    | _, _ => .fail

def vBinXO (d : Option Tmp) (op : BinOp) (t : TypeId) (x y : Operand) : Rd Out :=
  ev x fun rx => match rx with
    | .agg _ => vCmp (lk T.cmL) O.cmp O.bq O.sel O.bn n d op t x y
    | _ => vBinO T O n d op t x y

def vUnO (d : Option Tmp) (op : UnOp) (x : Operand) : Rd Out :=
  ev1 x fun a => match op, a with
    | .not, .v (.bool b) => toReg n d (.one (.v (.bool (O.bn b))))
    | .neg, .v (.int k a) => toReg n d (.one (.v (.int k (O.ar .sub k 0 a))))
    | _, _ => .fail

def lenAO {α : Type} (a : A) (k : Nat → Rd α) : Rd α :=
  match a with
  | .nl => k 0
  | .ro _ es => k (O.ln es)
  | .vw r j ver _ m => rdH r j fun h => match h.c with
    | .own (.s _ _) => if h.ver == ver then k m else .fail
    | _ => .fail
  | .vn r j ver iv p _ m => rdH r j fun h => match h.c with
    | .own l => if goodN h ver iv then .req (O.pr fun _ => (getS l p).isSome = true) (k m) else .fail
    | _ => .fail
  | _ => .fail

def srcElemsO {α : Type} (ti : TI) (a : A) (k : List (List L) → List (Nat × Nat) → Rd α) : Rd α :=
  match a with
  | .nl => k [] []
  | .ro sz es => if sz == ti.zero.length && allScal ti.slots then .req (O.pr fun _ => scalRecs es) (k es []) else .fail
  | .vw r j ver lo m => rdH r j fun h => match h.c with
    | .own (.s sz es) => if h.ver == ver && sz == ti.zero.length then
        (if allScal ti.slots then .req (O.pr fun _ => scalRecs es) (k (O.sub es lo m) [])
         else .req (O.pr fun _ => lo = 0 ∧ m = es.length) (k es [(r, j)]))
      else .fail
    | _ => .fail
  | .vn r j ver iv p lo m => rdH r j fun h => match h.c with
    | .own l => if goodN h ver iv && allScal ti.slots then .req (O.pr fun _ => getS l p = some (ti.zero.length, O.ps l p) ∧ scalRecs (O.ps l p)) (k (O.sub (O.ps l p) lo m) []) else .fail
    | _ => .fail
  | _ => .fail
def vAppendO (d : Option Tmp) (t t' : TypeId) (s x : Operand) : Rd Out :=
  match lk T.elL t with
  | none => .fail
  | some (_, ti, bytes) => if t == t' then ev1 s fun a => ev1 x fun b =>
      take1O O (some ti.zero.length) a fun l _ src => match l with
        | .s sz es => if sz == ti.zero.length then srcElemsO O ti b fun es2 src2 => if distinctP (src ++ src2) then
            .req (O.pr fun _ => (es.length + es2.length) * bytes ≤ 70368744177664 ∧ es.length + es2.length ≤ 70368744177664) (gones (src ++ src2) fun w1 => fresh n d fun d => .ret (.ws (w1 ++ ownRowO O d ti.zero.length (O.cat es es2))))
          else .fail else .fail
        | _ => .fail
    else .fail

def gapO (es : List (List L)) (lo m : Nat) (gr : (List L)) : List (List L) := O.cat (O.sub es 0 lo) (O.cat (O.rep (O.zi m) gr) (O.sub es (O.ad lo (O.zi m)) (O.ln es)))
def vAppendPO (d : Option Tmp) (t t' : TypeId) (s x : Operand) : Rd Out :=
  match lk T.elL t with
  | none => .fail
  | some (_, ti, bytes) => if t == t' then ev1 s fun a => ev1 x fun b =>
      take1O O (some ti.zero.length) a fun l _ src => match l with
        | .s sz es => if sz == ti.zero.length then match b with
          | .vw r j ver lo m => rdH r j fun h => match h.c with
            | .own (.s sz2 es2) => if h.ver == ver && sz2 == ti.zero.length && distinctP src && src.all (fun p => p != (r, j)) then
              .req (O.pr fun _ => (es.length + m) * bytes ≤ 70368744177664 ∧ es.length + m ≤ 70368744177664) (gones src fun w1 => fresh n d fun d => .ret (.ws (w1 ++ (.leaf r j ⟨h.ver, h.iv + 1, h.org, .own (.s sz2 (gapO O es2 lo m (gRec ti.zero)))⟩ :: ownRowO O d ti.zero.length (O.cat es (O.sub es2 lo m))))))
            else .fail
            | _ => .fail
          | _ => .fail
          else .fail
        | _ => .fail
    else .fail
def vAppendXO (d : Option Tmp) (t t' : TypeId) (s x : Operand) : Rd Out :=
  ev1 x fun b => match b with
    | .vw r _ _ _ _ => .get (.meta_ r) fun
      | some (.m _ true) => match lk T.elL t with
        | some (_, ti, _) => if allScal ti.slots then vAppendO T O n d t t' s x else vAppendPO T O n d t t' s x
        | none => .fail
      | _ => vAppendO T O n d t t' s x
    | _ => vAppendO T O n d t t' s x

def argLO {α : Type} (slot : Option Nat) (a : A) (k : L → Rd α) : Rd α :=
  match a, slot with
  | .v x, none => if scal x then k (.v x) else .fail
  | .nl, some sz => k (.s sz [])
  | .ro sz' es, some sz => if sz' == sz then k (.s sz' es) else .fail
  | .vw r j ver lo m, some sz => rdH r j fun h => match h.c with
    | .own (.s sz' es) => if h.ver == ver && sz' == sz then k (.s sz' (O.sub es lo m)) else .fail
    | _ => .fail
  | .vn r j ver iv p lo m, some sz => rdH r j fun h => match h.c with
    | .own l => if goodN h ver iv then .req (O.pr fun _ => getS l p = some (sz, O.ps l p)) (k (.s sz (O.sub (O.ps l p) lo m))) else .fail
    | _ => .fail
  | _, _ => .fail
def argLsO {α : Type} : List (Option Nat) → List A → (List L → Rd α) → Rd α
  | [], [], k => k []
  | sl :: sls, a :: as, k => argLO O sl a fun l => argLsO sls as fun ls => k (l :: ls)
  | _, _, _ => .fail
def argDO {α : Type} (t : TypeId) (x : Operand) (k : DV → Rd α) : Rd α :=
  match lk T.tyL t with
  | none => if (lk T.pnL t).isSome then argP (lk T.ptL t) x k else .fail
  | some ti => ev x fun val => match val with
    | .one a => if ti.agg then .fail else argLsO O ti.slots [a] fun ls => match ls with
      | [l] => k (.one l)
      | _ => .fail
    | .agg as => if ti.agg then argLsO O ti.slots as fun ls => k (.agg ls) else .fail
    | .tup _ => .fail
def argDsO {α : Type} : List TypeId → List Operand → (List DV → Rd α) → Rd α
  | [], [], k => k []
  | t :: ts, x :: xs, k => argDO T O t x fun d => argDsO ts xs fun ds => k (d :: ds)
  | _, _, _ => .fail

def resLeafO (d : Nat) : Nat → List L → List A
  | _, [] => []
  | j, .v x :: ls => .v x :: resLeafO d (j + 1) ls
  | j, .s _ es :: ls => .vw d j 0 0 (O.ln es) :: resLeafO d (j + 1) ls
  | j, .g :: ls => .un :: resLeafO d (j + 1) ls
  | j, .m _ _ :: ls => .un :: resLeafO d (j + 1) ls
def resRO (d : Nat) (j : Nat) : DV → R
  | .one l => match resLeafO O d j [l] with
    | [a] => .one a
    | _ => .agg []
  | .agg ls => .agg (resLeafO O d j ls)
  | _ => .agg []
def resRsO (d : Nat) : Nat → List DV → List R
  | _, [] => []
  | j, r :: rs => resRO O d j r :: resRsO d (j + (dvLeaves r).length) rs
def resAllO (d : Nat) (res : List DV) : R := match res with
  | [r] => resRO O d 0 r
  | rs => .tup (resRsO O d 0 rs)
def resWsO (d : Nat) (res : List DV) : List W :=
  [.root d false ((res.flatMap dvLeaves).map fun l => ⟨0, 0, none, .own l⟩), .reg d (resAllO O d res)]

def vCallO (d : Option Tmp) (f : FuncId) (ts : Array TypeId) (args : Array Operand) : Rd Out :=
  if (lk T.fnL f).isSome then argDsO T O ts.toList args.toList fun ds => match ct.rd f ds with
    | some (pre, res) => .req (O.pr pre) (fresh n d fun d => .ret (.ws (resWsO O d res)))
    | none => .fail
  else .fail

def vCallFO (d : Option Tmp) (t : Tmp) (ts : Array TypeId) (args : Array Operand) : Rd Out :=
  ev1 (.tmp t) fun
    | .fn f caps => argDsO T O ts.toList args.toList fun ds => capRecs caps fun recs => match ct.rd f (ds ++ recs.map .ptr) with
      | some (pre, res) => .req (O.pr pre) (.req (O.pr fun _ => (lk T.fnL f).isSome = true) (fresh n d fun d => .ret (.ws (resWsO O d res))))
      | none => .fail
    | _ => .fail

def vSliceXO (d : Option Tmp) (t : TypeId) (x : Operand) (low high max : Option Operand) : Rd Out :=
  ev1 x fun
    | .vn _ _ _ _ _ _ _ => vSliceN O.pr O.ad O.df O.zi (lk T.elL) n d t x low high max
    | _ => vSliceO T O n d t x low high max
def vStoreXO (t : TypeId) (x y : Operand) : Rd Out :=
  ev y fun
    | .one (.vn _ _ _ _ _ _ _) => vStoreN O.pr O.ps O.sub O.up (lk T.tyL) t x y
    | _ => vStoreO T O t x y
def vCallXO (d : Option Tmp) (t : Tmp) (ts : Array TypeId) (args : Array Operand) : Rd Out :=
  ev1 (.tmp t) fun
    | .fn f _ => match ct.pt f with
      | some _ => vCallFP O.pr (fun {β} => argLsO O (α := β)) (lk T.tyL) (lk T.ptL) (fun t => (lk T.pnL t).isSome) n d (fun f => (lk T.fnL f).isSome) t ts args ct.pt (resWsO O)
      | none => vCallFO T O ct n d t ts args
    | _ => .fail
def vAllocO (d : Option Tmp) (t : TypeId) : Rd Out :=
  match lk T.tyL t with
  | none => .fail
  | some ti => fresh n d fun d => .ret (.ws [.root d true (ti.zero.map fun l => ⟨0, 0, none, .own l⟩), .reg d (.one (.pt d 0))])
def vBuildO (d : Option Tmp) (t : TypeId) (parts : Array (Nat × Operand)) : Rd Out :=
  match lk T.tyL t with
  | none => .fail
  | some ti => match lk T.bdL t with
    | none => .fail
    | some bd => buildParts bd parts.toList (ti.zero.map zeroA) fun as => toReg n d (.agg as)
def vFieldAddrO (d : Option Tmp) (s : TypeId) (x : Operand) (f : Nat) : Rd Out :=
  match lkF (lk T.fdL s) f with
  | none => .fail
  | some o => ev1 x fun
    | .pt r j => toReg n d (.one (.pt r (j + o)))
    | .rp rec j => toReg n d (.one (.rp rec (j + o)))
    | .pn r j ver iv p => rdH r j fun h => match h.c with
      | .own _ => if good h ver iv p then toReg n d (.one (.pn r j ver iv (adv p o))) else .fail
      | _ => .fail
    | _ => .fail

def mmO (isMax : Bool) : List Value → Option Value
  | [.int k a, .int k' b] => if k == k' then some (.int k (O.mm isMax a b)) else none
  | _ => none

def vopO (o : Oper) : Rd Out :=
  match o.op with
  | .move x => ev x fun r => toReg n o.dst r
  | .assign x => ev x fun r =>
    match x, r, o.dst with
    | .tmp t, .one (.vw r0 j ver lo m), some d =>
      if r0 = t ∧ r0 ≠ d ∧ d < n then .get (.meta_ r0) fun
        | some (.m 1 false) => rdH r0 j fun h => match h.c, h.org with
          | .own (.s sz es), none => if h.ver == ver then .req (O.pr fun _ => lo = 0 ∧ m = es.length) (.get (.meta_ d) fun
            | none => .ret (.ws ([.leaf r0 j ⟨h.ver + 1, h.iv, none, .gone⟩] ++ ownRowO O d sz es))
            | some (.m 1 false) => rdH d 0 fun h2 => .ret (.ws [.leaf r0 j ⟨h.ver + 1, h.iv, none, .gone⟩, .leaf d 0 ⟨h2.ver + 1, h2.iv + 1, none, .own (.s sz es)⟩, .reg d (.one (.vw d 0 (h2.ver + 1) 0 (O.ln es)))])
            | _ => .fail) else .fail
          | _, _ => .fail
        | _ => .fail
      else toReg n o.dst r
    | _, _, _ => toReg n o.dst r
  | .pick c a b => evBool c fun c => ev1 a fun a => ev1 b fun b => match a, b with
    | .v x, .v y => match x, y with
      | .bool x, .bool y => toReg n o.dst (.one (.v (.bool (O.sel c x y))))
      | .tuple _, .bool y => .br c .fail (toReg n o.dst (.one (.v (.bool y))))
      | .bool x, .tuple _ => .br c (toReg n o.dst (.one (.v (.bool x)))) .fail
      | _, _ => .fail
    | _, _ => .fail
  | .alloc t => vAllocO T n o.dst t
  | .box t x => vBoxO T O n o.dst t x
  | .build t parts => vBuildO T n o.dst t parts
  | .buildSlice t len parts => vBuildSliceO T O n o.dst t len parts
  | .load t x => vLoadO T O n o.dst t x
  | .store t x y => match o.dst with
    | none => vStoreXO T O t x y
    | some _ => .fail
  | .fieldAddr s x f => vFieldAddrO T n o.dst s x f
  | .indexAddr t x i => vIndexAddrO T O n o.dst t x i
  | .nilCheck x => ev1 x fun a => match a with
    | .pt _ _ => toReg n o.dst (.one a)
    | .rp _ _ => toReg n o.dst (.one a)
    | _ => .fail
  | .binOp op t x y _ => vBinXO T O n o.dst op t x y
  | .unOp op _ x => vUnO O n o.dst op x
  | .convert src dst x => evInt x fun _ a => match lk T.itL src, lk T.itL dst with
    | some _, some k => toReg n o.dst (.one (.v (.int k (O.wr k a))))
    | _, _ => .fail
  | .makeSlice t l c => vMakeO T O n o.dst t l c
  | .slice t x lo hi mx => vSliceXO T O n o.dst t x lo hi mx
  | .makeFunc fn first captured => match fn, first.toList with
    | .func f, [] => capsE captured.toList fun cs => toReg n o.dst (.one (.fn f cs))
    | _, _ => .fail
  | .extract x i => ev x fun r => match r with
    | .tup rs => match rs[i]? with
      | some r => toReg n o.dst r
      | none => .fail
    | _ => .fail
  | .makeMap t r => vMakeMap (lk T.mpL) n o.dst t r
  | .lookup t x i ok => vLookup O.mgb O.mgi (lk T.mpL) n o.dst t x i ok
  | .mapUpdate t m k v => match o.dst with
    | none => vMapUpd O.mu (lk T.mpL) t m k v
    | some _ => .fail
  | .call c => match c.callee with
    | .builtin .len => match c.args.toList, c.argTypes.toList with
      | [x], [t] => if (lk T.slL t).isSome then ev1 x fun a => lenAO O a fun m => toReg n o.dst (.one (.v (.int .i64 (O.zi m)))) else .fail
      | _, _ => .fail
    | .builtin .append => match c.args.toList, c.argTypes.toList with
      | [s, x], [t, t'] => vAppendXO T O n o.dst t t' s x
      | _, _ => .fail
    | .builtin .min => evList c.args.toList fun vs => match mmO O false vs with
      | some v => toReg n o.dst (.one (.v v))
      | none => .fail
    | .builtin .max => evList c.args.toList fun vs => match mmO O true vs with
      | some v => toReg n o.dst (.one (.v v))
      | none => .fail
    | .value (.func f) => match ct.nw f with
     | some mk => vCallN O.pr n o.dst (lk T.fnL f).isSome c.args mk
     | none => match ct.tk f with
     | some mk => vCallT (fun {β} => takeAllO O (α := β)) (lk T.tyL) O.pr n o.dst (lk T.fnL f).isSome c.argTypes c.args mk (resWsO O)
     | none => match ct.pt f with
      | some mk => vCallP O.pr (fun {β} => argLsO O (α := β)) (lk T.tyL) (lk T.ptL) (fun t => (lk T.pnL t).isSome) n o.dst (lk T.fnL f).isSome c.argTypes c.args mk (resWsO O)
      | none => match ct.mu f with
        | some mk => vCallM O.pr O.ps O.up (lk T.tyL) n o.dst (lk T.fnL f).isSome c.argTypes c.args mk (resWsO O)
        | none => vCallO T O ct n o.dst f c.argTypes c.args
    | .value (.tmp t) => vCallXO T O ct n o.dst t c.argTypes c.args
    | _ => .fail
  | _ => .fail

end

end Go.V

/-
  The value-level condition generator, part 20: with the standard operations behind the variable, the conditions of part 19 give those of part 2.
-/
namespace Go.V

theorem leafA_std : leafAO stdO = leafA := rfl
theorem loadLeaves_std {α : Type} (r : Nat) : ∀ (m j : Nat) (k : List A → Rd α), loadLeavesO stdO r j m k = loadLeaves r j m k
  | 0, j, k => rfl
  | m + 1, j, k => by
    simp only [loadLeavesO, loadLeaves, leafA_std]
    congr 1; funext h
    exact loadLeaves_std r m (j + 1) _
theorem nestA_std (r j ver iv : Nat) (p : List (Nat × Nat)) : ∀ (ls : (List L)) (o : Nat), nestAO stdO r j ver iv p o ls = nestA r j ver iv p o ls
  | [], o => rfl
  | .v x :: ls, o => by simp only [nestAO, nestA, nestA_std r j ver iv p ls]
  | .s sz es :: ls, o => by simp only [nestAO, nestA, nestA_std r j ver iv p ls]; rfl
  | .g :: ls, o => by simp only [nestAO, nestA, nestA_std r j ver iv p ls]
  | .m _ _ :: ls, o => by simp only [nestAO, nestA, nestA_std r j ver iv p ls]
theorem take1_std : @take1O stdO = @take1 := rfl
theorem takeAll_std {α : Type} : ∀ (sl : List (Option Nat)) (as : List A) (k : List (L × Option Nat) → List (Nat × Nat) → Rd α), takeAllO stdO sl as k = takeAll sl as k
  | [], [], k => rfl
  | [], _ :: _, k => rfl
  | _ :: _, [], k => rfl
  | s :: sl, a :: as, k => by
    simp only [takeAllO, takeAll, take1_std]
    congr 1; funext l og src
    exact takeAll_std sl as _
theorem put1_std : @put1O stdO = @put1 := rfl
theorem putAll_std {α : Type} : ∀ (sl : List (Option Nat)) (as : List A) (k : List (H × Option Nat) → List (Nat × Nat) → Rd α), putAllO stdO sl as k = putAll sl as k
  | [], [], k => rfl
  | [], _ :: _, k => rfl
  | _ :: _, [], k => rfl
  | s :: sl, a :: as, k => by
    simp only [putAllO, putAll, put1_std]
    congr 1; funext l og src
    exact putAll_std sl as _
theorem ownRow_std : ownRowO stdO = ownRow := rfl
theorem partsOf_std {α : Type} (ti : TI) (len : Nat) : ∀ (ps : List (Nat × Operand)) (k : List (Nat × List L) → List (Nat × Nat) → Rd α), partsOfO stdO ti len ps k = partsOf ti len ps k
  | [], k => rfl
  | (i, x) :: ps, k => by
    simp only [partsOfO, partsOf, takeAll_std, partsOf_std ti len ps]; rfl
theorem resLeaf_std (d : Nat) : ∀ (ls : List L) (j : Nat), resLeafO stdO d j ls = resLeaf d j ls
  | [], j => rfl
  | .v x :: ls, j => by simp only [resLeafO, resLeaf, resLeaf_std d ls]
  | .s sz es :: ls, j => by simp only [resLeafO, resLeaf, resLeaf_std d ls]; rfl
  | .g :: ls, j => by simp only [resLeafO, resLeaf, resLeaf_std d ls]
  | .m _ _ :: ls, j => by simp only [resLeafO, resLeaf, resLeaf_std d ls]
theorem resR_std (d j : Nat) (r : DV) : resRO stdO d j r = resR d j r := by
  cases r <;> simp only [resRO, resR, resLeaf_std] <;> rfl
theorem resRs_std (d : Nat) : ∀ (rs : List DV) (j : Nat), resRsO stdO d j rs = resRs d j rs
  | [], j => rfl
  | r :: rs, j => by simp only [resRsO, resRs, resR_std, resRs_std d rs]
theorem resWs_std (d : Nat) (res : List DV) : resWsO stdO d res = resWs d res := by
  unfold resWsO resWs resAllO resAll
  split <;> simp only [resR_std, resRs_std]

section
variable {P : Program} {T : Tab} {n : Nat} {g : Gm}

theorem vBox_ref (hT : TabOk P T) {d : Option Tmp} {t : TypeId} {x : Operand} {ls : List Loc} {out : Out} (h : (vBoxO T stdO n d t x).Runs g ls out) : (vBox P n d t x).Runs g ls out := by
  revert h; unfold vBoxO vBox
  rcases hT.ty t with e | ⟨ti, e, e2⟩
  · simp only [e]; exact fun h => h.elim
  · simp only [e, e2, putAll_std]; exact fun h => h
theorem vMake_ref (hT : TabOk P T) {d : Option Tmp} {t : TypeId} {x y : Operand} {ls : List Loc} {out : Out} (h : (vMakeO T stdO n d t x y).Runs g ls out) : (vMake P n d t x y).Runs g ls out := by
  revert h; unfold vMakeO vMake
  rcases hT.el t with e | ⟨ti, e, e2⟩
  · simp only [e]; exact fun h => h.elim
  · simp only [e, e2, ownRow_std]; exact fun h => h
theorem vBuildSlice_ref (hT : TabOk P T) {d : Option Tmp} {t : TypeId} {len : Nat} {parts : Array (Nat × Operand)} {ls : List Loc} {out : Out} (h : (vBuildSliceO T stdO n d t len parts).Runs g ls out) : (vBuildSlice P n d t len parts).Runs g ls out := by
  revert h; unfold vBuildSliceO vBuildSlice
  rcases hT.el t with e | ⟨ti, e, e2⟩
  · simp only [e]; exact fun h => h.elim
  · simp only [e, e2, ownRow_std, partsOf_std]; exact fun h => h
theorem vAlloc_ref (hT : TabOk P T) {d : Option Tmp} {t : TypeId} {ls : List Loc} {out : Out} (h : (vAllocO T n d t).Runs g ls out) : (vAlloc P n d t).Runs g ls out := by
  revert h; unfold vAllocO vAlloc
  rcases hT.ty t with e | ⟨ti, e, e2⟩
  · simp only [e]; exact fun h => h.elim
  · simp only [e, e2]; exact fun h => h
theorem vBuild_ref (hT : TabOk P T) {d : Option Tmp} {t : TypeId} {parts : Array (Nat × Operand)} {ls : List Loc} {out : Out} (h : (vBuildO T n d t parts).Runs g ls out) : (vBuild P n d t parts).Runs g ls out := by
  revert h; unfold vBuildO vBuild
  rcases hT.ty t with e | ⟨ti, e, e2⟩
  · simp only [e]; exact fun h => h.elim
  · rcases hT.bd t with f | ⟨bd, f, f2⟩
    · simp only [e, f]; exact fun h => h.elim
    · simp only [e, e2, f, f2]; exact fun h => h
theorem vFieldAddr_ref (hT : TabOk P T) {d : Option Tmp} {s : TypeId} {x : Operand} {f : Nat} {ls : List Loc} {out : Out} (h : (vFieldAddrO T n d s x f).Runs g ls out) : (vFieldAddr P n d s x f).Runs g ls out := by
  revert h; unfold vFieldAddrO vFieldAddr
  rcases hT.fd s f with e | ⟨ti, e, e2⟩
  · simp only [e]; exact fun h => h.elim
  · simp only [e, e2]; exact fun h => h
theorem rd_mono {α : Type} {l : Loc} {k' k : Val → Rd α} {x : α} {ls : List Loc} (hk : ∀ v ls, (k' v).Runs g ls x → (k v).Runs g ls x) (h : (rd l k').Runs g ls x) : (rd l k).Runs g ls x := by
  unfold rd at *
  simp only [Rd.Runs] at *
  obtain ⟨ls', e, h⟩ := h
  refine ⟨ls', e, ?_⟩
  cases hg : g l with
  | none => simp [hg, Rd.Runs] at h
  | some v => simp only [hg] at h ⊢; exact hk v _ h
theorem rdR_mono {α : Type} {d : Nat} {k' k : R → Rd α} {x : α} {ls : List Loc} (hk : ∀ v ls, (k' v).Runs g ls x → (k v).Runs g ls x) (h : (rdR d k').Runs g ls x) : (rdR d k).Runs g ls x := by
  refine rd_mono ?_ h
  intro v ls h
  cases v with
  | r y => exact hk _ _ h
  | h y => exact h
  | m a b => exact h
theorem rdH_mono {α : Type} {r j : Nat} {k' k : Hv → Rd α} {x : α} {ls : List Loc} (hk : ∀ v ls, (k' v).Runs g ls x → (k v).Runs g ls x) (h : (rdH r j k').Runs g ls x) : (rdH r j k).Runs g ls x := by
  refine rd_mono ?_ h
  intro v ls h
  cases v with
  | h y => exact hk _ _ h
  | r y => exact h
  | m a b => exact h
theorem ev_mono {α : Type} {y : Operand} {k' k : R → Rd α} {x : α} {ls : List Loc} (hk : ∀ v ls, (k' v).Runs g ls x → (k v).Runs g ls x) (h : (ev y k').Runs g ls x) : (ev y k).Runs g ls x := by
  cases y with
  | tmp t => exact rdR_mono hk h
  | const c => exact hk _ _ h
  | _ => exact h
theorem ev1_mono {α : Type} {y : Operand} {k' k : A → Rd α} {x : α} {ls : List Loc} (hk : ∀ v ls, (k' v).Runs g ls x → (k v).Runs g ls x) (h : (ev1 y k').Runs g ls x) : (ev1 y k).Runs g ls x := by
  refine ev_mono ?_ h
  intro v ls h
  cases v with
  | one a => exact hk _ _ h
  | agg as => exact h
  | tup rs => exact h
theorem evInt_mono {α : Type} {y : Operand} {k' k : IntKind → Int → Rd α} {x : α} {ls : List Loc} (hk : ∀ v w ls, (k' v w).Runs g ls x → (k v w).Runs g ls x) (h : (evInt y k').Runs g ls x) : (evInt y k).Runs g ls x := by
  refine ev1_mono ?_ h
  intro v ls h
  cases v with
  | v y => cases y with
    | int kd m => exact hk _ _ _ h
    | _ => exact h
  | _ => exact h
theorem evBound_mono {α : Type} {y : Option Operand} {dflt : Int} {k' k : Int → Rd α} {x : α} {ls : List Loc} (hk : ∀ v ls, (k' v).Runs g ls x → (k v).Runs g ls x) (h : (evBound y dflt k').Runs g ls x) : (evBound y dflt k).Runs g ls x := by
  cases y with
  | none => exact hk _ _ h
  | some y => exact evInt_mono (fun _ _ ls h => hk _ ls h) h
theorem req_mono {α : Type} {c' c : Prop} {k' k : Rd α} {x : α} {ls : List Loc} (hc : c' → c) (hk : ∀ ls, k'.Runs g ls x → k.Runs g ls x) (h : (Rd.req c' k').Runs g ls x) : (Rd.req c k).Runs g ls x := ⟨hc h.1, hk _ h.2⟩
theorem ite_mono {α : Type} {b : Prop} [Decidable b] {k' k : Rd α} {x : α} {ls : List Loc} (hk : ∀ ls, k'.Runs g ls x → k.Runs g ls x) (h : (if b then k' else Rd.fail).Runs g ls x) : (if b then k else Rd.fail).Runs g ls x := by
  split at h
  · rename_i hb; rw [if_pos hb]; exact hk _ h
  · exact h.elim
theorem vSlice_ref (hT : TabOk P T) {d : Option Tmp} {t : TypeId} {x : Operand} {lo hi mx : Option Operand} {ls : List Loc} {out : Out} (h : (vSliceO T stdO n d t x lo hi mx).Runs g ls out) : (vSlice P n d t x lo hi mx).Runs g ls out := by
  revert h
  unfold vSliceO vSlice
  rcases hT.el t with e | ⟨q, e, e2⟩
  · simp only [e]; exact fun h => h.elim
  simp only [e, e2]
  intro h
  cases mx with
  | some _ => exact h.elim
  | none =>
    ·
      obtain ⟨e, ti, b⟩ := q
      refine ev1_mono ?_ h
      intro a ls h
      cases a with
      | ro sz es =>
        refine ite_mono (fun ls h => ?_) h
        refine evBound_mono (fun l ls h => ?_) h
        refine evBound_mono (fun u ls h => ?_) h
        refine req_mono id (fun ls h => ?_) h
        rw [show (es.take u.toNat).drop l.toNat = (es.drop l.toNat).take (u.toNat - l.toNat) from List.drop_take ..]
        exact h
      | vw r j ver lo m =>
        refine rdH_mono ?_ h
        intro hv ls h
        revert h
        generalize hv.c = c
        intro h
        cases c with
        | own l => cases l with
          | s sz es => exact h
          | v x => exact h
          | g => exact h
          | m _ _ => exact h
        | ro l => exact h
        | gone => exact h
      | _ => exact h

theorem take1_mono {α : Type} {slot : Option Nat} {a : A} {k' k : L → Option Nat → List (Nat × Nat) → Rd α} {x : α} {ls : List Loc} (hk : ∀ l og src ls, (k' l og src).Runs g ls x → (k l og src).Runs g ls x) (h : (take1 slot a k').Runs g ls x) : (take1 slot a k).Runs g ls x := by
  cases slot with
  | none =>
    cases a with
    | v y => exact ite_mono (fun ls h => hk _ _ _ _ h) h
    | _ => exact h
  | some sz =>
    cases a with
    | nl => exact hk _ _ _ _ h
    | vw r j ver lo m =>
      refine rdH_mono ?_ h
      intro hv ls h
      revert h
      generalize hv.c = c
      intro h
      cases c with
      | own l => cases l with
        | s sz' es => exact ite_mono (fun ls h => req_mono id (fun ls h => hk _ _ _ _ h) h) h
        | v x => exact h
        | g => exact h
        | m _ _ => exact h
      | ro l => exact h
      | gone => exact h
    | mv r j ver =>
      refine rdH_mono ?_ h
      intro hv ls h
      revert h
      generalize hv.c = c
      intro h
      cases c with
      | own l => cases l with
        | m kb es => exact ite_mono (fun ls h => hk _ _ _ _ h) h
        | v x => exact h
        | g => exact h
        | s _ _ => exact h
      | ro l => exact h
      | gone => exact h
    | _ => exact h
theorem takeAll_mono {α : Type} : ∀ {sl : List (Option Nat)} {as : List A} {k' k : List (L × Option Nat) → List (Nat × Nat) → Rd α} {x : α} {ls : List Loc}, (∀ l src ls, (k' l src).Runs g ls x → (k l src).Runs g ls x) → (takeAll sl as k').Runs g ls x → (takeAll sl as k).Runs g ls x
  | [], [], k', k, x, ls, hk, h => hk _ _ _ h
  | [], _ :: _, k', k, x, ls, hk, h => h
  | _ :: _, [], k', k, x, ls, hk, h => h
  | s :: sl, a :: as, k', k, x, ls, hk, h => take1_mono (fun l og src ls h => takeAll_mono (fun _ _ ls h => hk _ _ ls h) h) h
theorem gones_mono {α : Type} : ∀ {xs : List (Nat × Nat)} {k' k : List W → Rd α} {x : α} {ls : List Loc}, (∀ l ls, (k' l).Runs g ls x → (k l).Runs g ls x) → (gones xs k').Runs g ls x → (gones xs k).Runs g ls x
  | [], k', k, x, ls, hk, h => hk _ _ h
  | (r, j) :: xs, k', k, x, ls, hk, h => rdH_mono (fun v ls h => gones_mono (fun _ ls h => hk _ ls h) h) h

theorem getS_some {l : L} {p : List (Nat × Nat)} {sz : Nat} {es : List (List L)} (h : getS l p = some (sz, es)) : ∃ rec o, getR l p = some (rec, o) ∧ rec[o]? = some (.s sz es) := by
  unfold getS at h
  split at h
  · rename_i rec o e
    split at h
    · rename_i sz' es' e'
      cases h
      exact ⟨rec, o, e, e'⟩
    · cases h
  · cases h
theorem std_ps {l : L} {p : List (Nat × Nat)} {sz : Nat} {es : List (List L)} (h : getS l p = some (sz, es)) : stdO.ps l p = es := by
  show (match getS l p with | some (_, es) => es | none => []) = es
  rw [h]

theorem vLoad_ref (hT : TabOk P T) {d : Option Tmp} {t : TypeId} {x : Operand} {ls : List Loc} {out : Out} (h : (vLoadO T stdO n d t x).Runs g ls out) : (vLoad P n d t x).Runs g ls out := by
  revert h
  unfold vLoadO vLoad
  rcases hT.ty t with e | ⟨ti, e, e2⟩
  · simp only [e]; exact fun h => h.elim
  simp only [e, e2]
  intro h
  ·
    refine ev1_mono ?_ h
    intro a ls h
    cases a with
    | pt r j => simp only [loadLeaves_std] at h; exact h
    | pn r j ver iv p =>
      refine rdH_mono ?_ h
      intro hv ls h
      refine ite_mono (fun ls h => ?_) h
      revert h
      generalize hv.c = c
      intro h
      cases c with
      | own l =>
        obtain ⟨⟨rec, o, e1, e2, e3⟩, h⟩ := h
        simp only [e1, Rd.Runs]
        refine ⟨e2, ?_⟩
        rw [e3]; rw [nestA_std] at h; exact h
      | ro l => exact h
      | gone => exact h
    | rp rec j =>
      simp only at h ⊢
      split at h
      · rename_i hle; exact ⟨hle, h⟩
      · exact h.elim
    | _ => exact h

theorem vStore_ref (hT : TabOk P T) {t : TypeId} {x y : Operand} {ls : List Loc} {out : Out} (h : (vStoreO T stdO t x y).Runs g ls out) : (vStore P t x y).Runs g ls out := by
  revert h
  unfold vStoreO vStore
  rcases hT.ty t with e | ⟨ti, e, e2⟩
  · simp only [e]; exact fun h => h.elim
  simp only [e, e2]
  intro h
  ·
    refine ev1_mono ?_ h
    intro a ls h
    refine ev_mono ?_ h
    intro v ls h
    generalize leavesOf v = lv at h ⊢
    cases lv with
    | none => exact h.elim
    | some as =>
      cases a with
      | pt r j => simp only [putAll_std] at h; exact h
      | pn r j ver iv p =>
        simp only [takeAll_std] at h ⊢
        refine takeAll_mono ?_ h
        intro lts srcs ls h
        refine ite_mono (fun ls h => ?_) h
        refine gones_mono ?_ h
        intro w1 ls h
        refine rdH_mono ?_ h
        intro hv ls h
        refine ite_mono (fun ls h => ?_) h
        revert h
        generalize hv.c = c
        intro h
        cases c with
        | own l =>
          cases l with
          | s sz es =>
            obtain ⟨⟨rec, o, e1, e2⟩, h⟩ := h
            simp only [e1, Rd.Runs]
            refine ⟨e2, ?_⟩
            simp only [Rd.Runs] at h
            rw [h.1, h.2]
            refine ⟨rfl, ?_⟩
            rw [setR_row e1]
            rfl
          | v x => exact h.elim
          | g => exact h.elim
          | m _ _ => exact h.elim
        | ro l => exact h.elim
        | gone => exact h.elim
      | _ => exact h

theorem vIndexAddr_ref (hT : TabOk P T) {d : Option Tmp} {t : TypeId} {x y : Operand} {ls : List Loc} {out : Out} (h : (vIndexAddrO T stdO n d t x y).Runs g ls out) : (vIndexAddr P n d t x y).Runs g ls out := by
  revert h
  unfold vIndexAddrO vIndexAddr
  rcases hT.el t with e | ⟨q, e, e2⟩
  · simp only [e]; exact fun h => h.elim
  simp only [e, e2]
  intro h
  ·
    obtain ⟨e, ti, b⟩ := q
    refine ev1_mono ?_ h
    intro a ls h
    refine evInt_mono ?_ h
    intro kd i ls h
    cases a with
    | ro sz es =>
      refine ite_mono (fun ls h => ?_) h
      obtain ⟨⟨e1, e2, e3⟩, h⟩ := h
      refine ⟨⟨e1, e2⟩, ?_⟩
      rw [e3]; exact h
    | vw r j ver lo m =>
      refine rdH_mono ?_ h
      intro hv ls h
      revert h
      generalize hv.c = c
      intro h
      cases c with
      | own l => cases l <;> exact h
      | ro l => exact h
      | gone => exact h
    | vn r j ver iv p lo m =>
      refine rdH_mono ?_ h
      intro hv ls h
      revert h
      generalize hv.c = c
      intro h
      cases c with
      | own l =>
        refine ite_mono (fun ls h => ?_) h
        obtain ⟨⟨e1, e2, es, e3⟩, h⟩ := h
        obtain ⟨rec, o, f1, f2⟩ := getS_some e3
        simp only [f1, f2, beq_self_eq_true, if_true]
        exact ⟨⟨e1, e2⟩, h⟩
      | ro l => exact h
      | gone => exact h
    | _ => exact h

end
end Go.V

/-
  The value-level condition generator, part 21: the rest of the operations, with the standard ones behind the variable.
-/
namespace Go.V

section
variable {P : Program} {T : Tab} {n : Nat} {g : Gm}

theorem vBin_ref (hT : TabOk P T) {d : Option Tmp} {op : BinOp} {t : TypeId} {x y : Operand} {ls : List Loc} {out : Out} (h : (vBinO T stdO n d op t x y).Runs g ls out) : (vBin P n d op t x y).Runs g ls out := by
  unfold vBinO at h
  unfold vBin
  refine ev1_mono ?_ h
  intro a ls h
  refine ev1_mono ?_ h
  intro b ls h
  cases a with
  | v a =>
    cases b with
    | v b =>
      cases a with
      | int k a =>
        cases b with
        | int k' b =>
          by_cases hk : k = k'
          · subst hk
            cases op <;> first
              | exact h
              | (simp only [isSh, isDiv, isAr, isCmp, ishift, ibin, beq_self_eq_true, if_true, Bool.false_eq_true, if_false] at h ⊢; exact h)
              | (simp only [isSh, isDiv, isAr, isCmp, ishift, ibin, beq_self_eq_true, if_true, Bool.false_eq_true, if_false] at h ⊢; exact ⟨trivial, h⟩)
              | (simp [isSh, isDiv, isAr, isCmp, Rd.Runs] at h)
          · cases op <;> first
              | exact h
              | (simp [isSh, hk, Rd.Runs] at h)
        | _ => exact h.elim
      | bool a =>
        cases b with
        | bool b =>
          rcases hT.bo t with e | ⟨q, e, hb⟩
          · simp [e, Rd.Runs] at h
          · cases op <;> first
              | (simp only [e, hb, Option.isSome_some, isEq, Bool.true_and, Bool.and_true, if_true] at h ⊢; exact h)
              | (simp [isEq, Rd.Runs] at h)
        | _ => exact h.elim
      | _ => exact h.elim
    | _ => cases a <;> exact h.elim
  | _ => exact h.elim

theorem vBinX_ref (hT : TabOk P T) {d : Option Tmp} {op : BinOp} {t : TypeId} {x y : Operand} {ls : List Loc} {out : Out} (h : (vBinXO T stdO n d op t x y).Runs g ls out) : (vBinX P n d op t x y).Runs g ls out := by
  unfold vBinXO at h
  unfold vBinX
  refine ev_mono ?_ h
  intro v ls h
  cases v with
  | agg as =>
    simp only at h ⊢
    unfold vCmp at h ⊢
    rcases hT.cm t with e | ⟨q, e, e2⟩
    · simp only [e] at h; exact h.elim
    · simp only [e, e2] at h ⊢; exact h
  | one a => exact vBin_ref hT h
  | tup rs => exact vBin_ref hT h

theorem vUn_ref {d : Option Tmp} {op : UnOp} {x : Operand} {ls : List Loc} {out : Out} (h : (vUnO stdO n d op x).Runs g ls out) : (vUn n d op x).Runs g ls out := by
  unfold vUnO at h
  unfold vUn
  refine ev1_mono ?_ h
  intro a ls h
  cases a with
  | v a => cases op <;> cases a <;> exact h
  | _ => cases op <;> exact h

theorem lenA_ref {α : Type} {a : A} {k : Nat → Rd α} {ls : List Loc} {x : α} (h : (lenAO stdO a k).Runs g ls x) : (lenA a k).Runs g ls x := by
  cases a with
  | vn r j ver iv p lo m =>
    refine rdH_mono ?_ h
    intro hv ls h
    revert h
    generalize hv.c = c
    intro h
    cases c with
    | own l =>
      refine ite_mono (fun ls h => ?_) h
      obtain ⟨hs, h⟩ := h
      obtain ⟨⟨sz, es⟩, e⟩ := Option.isSome_iff_exists.1 hs
      obtain ⟨rec, o, f1, f2⟩ := getS_some e
      simp only [f1, f2]; exact h
    | ro l => exact h
    | gone => exact h
  | vw r j ver lo m =>
    refine rdH_mono ?_ h
    intro hv ls h
    revert h
    generalize hv.c = c
    intro h
    cases c with
    | own l => cases l <;> exact h
    | ro l => exact h
    | gone => exact h
  | _ => exact h

theorem srcElems_ref {α : Type} {ti : TI} {a : A} {k' k : List (List L) → List (Nat × Nat) → Rd α} {ls : List Loc} {x : α} (hk : ∀ es src ls, (k' es src).Runs g ls x → (k es src).Runs g ls x) (h : (srcElemsO stdO ti a k').Runs g ls x) : (srcElems ti a k).Runs g ls x := by
  cases a with
  | nl => exact hk _ _ _ h
  | ro sz es => exact ite_mono (fun ls h => req_mono id (fun ls h => hk _ _ _ h) h) h
  | vw r j ver lo m =>
    refine rdH_mono ?_ h
    intro hv ls h
    revert h
    generalize hv.c = c
    intro h
    cases c with
    | own l => cases l with
      | s sz es =>
        refine ite_mono (fun ls h => ?_) h
        by_cases hs : allScal ti.slots = true
        · rw [if_pos hs] at h ⊢; exact req_mono id (fun ls h => hk _ _ _ h) h
        · rw [if_neg hs] at h ⊢; exact req_mono id (fun ls h => hk _ _ _ h) h
      | v x => exact h
      | g => exact h
      | m _ _ => exact h
    | ro l => exact h
    | gone => exact h
  | vn r j ver iv p lo m =>
    refine rdH_mono ?_ h
    intro hv ls h
    revert h
    generalize hv.c = c
    intro h
    cases c with
    | own l =>
      refine ite_mono (fun ls h => ?_) h
      obtain ⟨⟨h1, h2⟩, h⟩ := h
      obtain ⟨rec, o, f1, f2⟩ := getS_some h1
      simp only [f1, f2, beq_self_eq_true, if_true]
      exact ⟨h2, hk _ _ _ h⟩
    | ro l => exact h
    | gone => exact h
  | _ => exact h

theorem vAppend_ref (hT : TabOk P T) {d : Option Tmp} {t t' : TypeId} {s x : Operand} {ls : List Loc} {out : Out} (h : (vAppendO T stdO n d t t' s x).Runs g ls out) : (vAppend P n d t t' s x).Runs g ls out := by
  revert h
  unfold vAppendO vAppend
  rcases hT.el t with e | ⟨q, e, e2⟩
  · simp only [e]; exact fun h => h.elim
  simp only [e, e2]
  intro h
  ·
    obtain ⟨e, ti, b⟩ := q
    refine ite_mono (fun ls h => ?_) h
    refine ev1_mono ?_ h
    intro a ls h
    refine ev1_mono ?_ h
    intro b ls h
    rw [take1_std] at h
    refine take1_mono ?_ h
    intro l og src ls h
    cases l with
    | s sz es =>
      refine ite_mono (fun ls h => ?_) h
      refine srcElems_ref ?_ h
      intro es2 src2 ls h
      exact h
    | v y => exact h
    | g => exact h
    | m _ _ => exact h

theorem vAppendP_ref (hT : TabOk P T) {d : Option Tmp} {t t' : TypeId} {s x : Operand} {ls : List Loc} {out : Out} (h : (vAppendPO T stdO n d t t' s x).Runs g ls out) : (vAppendP P n d t t' s x).Runs g ls out := by
  revert h
  unfold vAppendPO vAppendP
  rcases hT.el t with e | ⟨q, e, e2⟩
  · simp only [e]; exact fun h => h.elim
  simp only [e, e2]
  intro h
  obtain ⟨e, ti, b⟩ := q
  refine ite_mono (fun ls h => ?_) h
  refine ev1_mono ?_ h
  intro a ls h
  refine ev1_mono ?_ h
  intro b ls h
  rw [take1_std] at h
  refine take1_mono ?_ h
  intro l og src ls h
  cases l with
  | s sz es => exact h
  | v y => exact h
  | g => exact h
  | m _ _ => exact h
theorem vAppendX_ref (hT : TabOk P T) {d : Option Tmp} {t t' : TypeId} {s x : Operand} {ls : List Loc} {out : Out} (h : (vAppendXO T stdO n d t t' s x).Runs g ls out) : (vAppendX P n d t t' s x).Runs g ls out := by
  unfold vAppendXO at h
  unfold vAppendX
  refine ev1_mono ?_ h
  intro b ls h
  cases b with
  | vw r j ver lo m =>
    obtain ⟨ls', e, h⟩ := h
    refine ⟨ls', e, ?_⟩
    revert h; generalize g (Loc.meta_ r) = mv; intro h
    rcases hT.el t with e | ⟨q, e, e2⟩
    · simp only [e] at h
      cases mv with
      | none => exact vAppend_ref hT h
      | some v => cases v with
        | m k bx => cases bx with
          | true => exact h.elim
          | false => exact vAppend_ref hT h
        | _ => exact vAppend_ref hT h
    · obtain ⟨e0, ti, b⟩ := q
      simp only [e, e2] at h ⊢
      cases mv with
      | none => exact vAppend_ref hT h
      | some v => cases v with
        | m k bx => cases bx with
          | true =>
            simp only at h ⊢
            by_cases c : allScal ti.slots = true
            · rw [if_pos c] at h ⊢; exact vAppend_ref hT h
            · rw [if_neg c] at h ⊢; exact vAppendP_ref hT h
          | false => exact vAppend_ref hT h
        | _ => exact vAppend_ref hT h
  | _ => exact vAppend_ref hT h

/-- What a reader hands on, and that any other continuation may take it. -/
def Fac (g : Gm) {α τ : Type} (m : ∀ {β : Type}, (τ → Rd β) → Rd β) (k' : τ → Rd α) (ls : List Loc) (x : α) : Prop :=
  ∃ t ls', (k' t).Runs g ls' x ∧ ∀ {β : Type} (k : τ → Rd β) (y : β), (k t).Runs g ls' y → (m k).Runs g ls y

theorem rd_fac {α : Type} {l : Loc} {k' : Val → Rd α} {ls : List Loc} {x : α} (h : (rd l k').Runs g ls x) : Fac g (fun k => rd l k) k' ls x := by
  unfold rd at h
  obtain ⟨ls', e, h⟩ := h
  cases hg : g l with
  | none => simp [hg, Rd.Runs] at h
  | some v =>
    simp only [hg] at h
    refine ⟨v, ls', h, ?_⟩
    intro β k y hy
    refine ⟨ls', e, ?_⟩
    simp only [hg]
    exact hy
theorem rdR_fac {α : Type} {d : Nat} {k' : R → Rd α} {ls : List Loc} {x : α} (h : (rdR d k').Runs g ls x) : Fac g (fun k => rdR d k) k' ls x := by
  obtain ⟨v, ls', h1, h2⟩ := rd_fac h
  cases v with
  | r y => exact ⟨y, ls', h1, fun k z hz => h2 _ z hz⟩
  | _ => exact h1.elim
theorem rdH_fac {α : Type} {r j : Nat} {k' : Hv → Rd α} {ls : List Loc} {x : α} (h : (rdH r j k').Runs g ls x) : Fac g (fun k => rdH r j k) k' ls x := by
  obtain ⟨v, ls', h1, h2⟩ := rd_fac h
  cases v with
  | h y => exact ⟨y, ls', h1, fun k z hz => h2 _ z hz⟩
  | _ => exact h1.elim
theorem ev_fac {α : Type} {o : Operand} {k' : R → Rd α} {ls : List Loc} {x : α} (h : (ev o k').Runs g ls x) : Fac g (fun k => ev o k) k' ls x := by
  cases o with
  | tmp t => exact rdR_fac h
  | const c => exact ⟨_, ls, h, fun k y hy => hy⟩
  | _ => exact h.elim
theorem argL_fac {α : Type} {slot : Option Nat} {a : A} {k' : L → Rd α} {ls : List Loc} {x : α} (h : (argLO stdO slot a k').Runs g ls x) : Fac g (fun k => argL slot a k) k' ls x := by
  cases slot with
  | none =>
    cases a with
    | v y =>
      simp only [argLO] at h
      split at h
      · rename_i hs; exact ⟨_, ls, h, fun k z hz => by simp only [argL, hs, if_true]; exact hz⟩
      · exact h.elim
    | _ => exact h.elim
  | some sz =>
    cases a with
    | nl => exact ⟨_, ls, h, fun k y hy => hy⟩
    | ro sz' es =>
      simp only [argLO] at h
      split at h
      · rename_i hs; exact ⟨_, ls, h, fun k z hz => by simp only [argL, hs, if_true]; exact hz⟩
      · exact h.elim
    | vw r j ver lo m =>
      obtain ⟨hv, ls', h1, h2⟩ := rdH_fac h
      cases hc : hv.c with
      | own l => cases l with
        | s sz' es =>
          simp only [hc] at h1
          split at h1
          · rename_i hs; exact ⟨_, ls', h1, fun k z hz => h2 _ z (by simp only [hc, hs, if_true]; exact hz)⟩
          · exact h1.elim
        | v x => simp [hc, Rd.Runs] at h1
        | g => simp [hc, Rd.Runs] at h1
        | m _ _ => simp [hc, Rd.Runs] at h1
      | ro l => simp [hc, Rd.Runs] at h1
      | gone => simp [hc, Rd.Runs] at h1
    | vn r j ver iv p lo m =>
      obtain ⟨hv, ls', h1, h2⟩ := rdH_fac h
      cases hc : hv.c with
      | own l =>
        simp only [hc] at h1
        split at h1
        · rename_i hg
          obtain ⟨e1, h1⟩ := h1
          obtain ⟨rec, o, f1, f2⟩ := getS_some e1
          refine ⟨_, ls', h1, fun k z hz => h2 _ z ?_⟩
          simp only [hc, hg, if_true, f1, f2, beq_self_eq_true]
          exact hz
        · exact h1.elim
      | ro l => simp [hc, Rd.Runs] at h1
      | gone => simp [hc, Rd.Runs] at h1
    | _ => exact h.elim
theorem argLs_fac {α : Type} : ∀ {sl : List (Option Nat)} {as : List A} {k' : List L → Rd α} {ls : List Loc} {x : α}, (argLsO stdO sl as k').Runs g ls x → Fac g (fun k => argLs sl as k) k' ls x
  | [], [], _, ls, _, h => ⟨_, ls, h, fun _ _ hy => hy⟩
  | [], _ :: _, _, _, _, h => h.elim
  | _ :: _, [], _, _, _, h => h.elim
  | _ :: _, _ :: _, _, _, _, h => by
    obtain ⟨l, ls1, h1, h2⟩ := argL_fac h
    obtain ⟨l2, ls2, h3, h4⟩ := argLs_fac h1
    exact ⟨l :: l2, ls2, h3, fun k y hy => h2 _ y (h4 _ y hy)⟩
theorem leafRecs_fac {α : Type} {r : Nat} : ∀ {m j : Nat} {k' : (List L) → Rd α} {ls : List Loc} {x : α}, (leafRecs r j m k').Runs g ls x → Fac g (fun k => leafRecs r j m k) k' ls x
  | 0, _, _, ls, _, h => ⟨_, ls, h, fun _ _ hy => hy⟩
  | m + 1, j, _, _, _, h => by
    obtain ⟨hv, ls1, h1, h2⟩ := rdH_fac h
    cases hc : hv.c with
    | own l =>
      simp only [hc] at h1
      obtain ⟨rec, ls2, h3, h4⟩ := leafRecs_fac h1
      exact ⟨l :: rec, ls2, h3, fun k y hy => h2 _ y (by simp only [hc]; exact h4 _ y hy)⟩
    | ro l =>
      simp only [hc] at h1
      obtain ⟨rec, ls2, h3, h4⟩ := leafRecs_fac h1
      exact ⟨l :: rec, ls2, h3, fun k y hy => h2 _ y (by simp only [hc]; exact h4 _ y hy)⟩
    | gone => simp [hc, Rd.Runs] at h1
theorem get_fac {α : Type} {l : Loc} {k' : Option Val → Rd α} {ls : List Loc} {x : α} (h : (Rd.get l k').Runs g ls x) : Fac g (fun k => Rd.get l k) k' ls x := by
  obtain ⟨ls', e, h⟩ := h
  exact ⟨g l, ls', h, fun k y hy => ⟨ls', e, hy⟩⟩
theorem capRecs_fac {α : Type} : ∀ {cs : List Cap} {k' : List (List L) → Rd α} {ls : List Loc} {x : α}, (capRecs cs k').Runs g ls x → Fac g (fun k => capRecs cs k) k' ls x
  | [], _, ls, _, h => ⟨_, ls, h, fun _ _ hy => hy⟩
  | .pt r j :: cs, _, _, _, h => by
    obtain ⟨v, ls1, h1, h2⟩ := get_fac h
    dsimp only at h1
    split at h1
    · rename_i n
      split at h1
      · rename_i hj
        obtain ⟨rec, ls2, h3, h4⟩ := leafRecs_fac h1
        obtain ⟨recs, ls3, h5, h6⟩ := capRecs_fac h3
        exact ⟨rec :: recs, ls3, h5, fun k y hy => h2 _ y (by simp only [hj, if_true]; exact h4 _ y (h6 _ y hy))⟩
      · exact h1.elim
    · exact h1.elim
  | .rp rec j :: cs, _, _, _, h => by
    simp only [capRecs] at h
    split at h
    · rename_i hj
      obtain ⟨recs, ls3, h5, h6⟩ := capRecs_fac h
      exact ⟨_, ls3, h5, fun k y hy => by simp only [capRecs, hj, if_true]; exact h6 _ y hy⟩
    · exact h.elim
theorem ev1_fac {α : Type} {o : Operand} {k' : A → Rd α} {ls : List Loc} {x : α} (h : (ev1 o k').Runs g ls x) : Fac g (fun k => ev1 o k) k' ls x := by
  obtain ⟨v, ls1, h1, h2⟩ := ev_fac h
  cases v with
  | one a => exact ⟨a, ls1, h1, fun k y hy => h2 _ y hy⟩
  | agg as => exact h1.elim
  | tup rs => exact h1.elim
theorem argP_fac (hT : TabOk P T) {α : Type} {t : TypeId} {o : Operand} {k' : DV → Rd α} {ls : List Loc} {x : α} (h : (argP (lk T.ptL t) o k').Runs g ls x) : Fac g (fun k => argP (ppI P t) o k) k' ls x := by
  obtain ⟨v, ls1, h1, h2⟩ := ev1_fac h
  cases v with
  | pt r j =>
    rcases hT.pt t with e | ⟨ti, e, e2⟩
    · simp [e, Rd.Runs] at h1
    · simp only [e] at h1
      split at h1
      · rename_i hp
        obtain ⟨rec, ls2, h3, h4⟩ := leafRecs_fac h1
        exact ⟨_, ls2, h3, fun k y hy => h2 _ y (by simp only [e2, hp, if_true]; exact h4 _ y hy)⟩
      · exact h1.elim
  | rp rec j =>
    rcases hT.pt t with e | ⟨ti, e, e2⟩
    · simp [e, Rd.Runs] at h1
    · simp only [e] at h1
      split at h1
      · rename_i hp
        exact ⟨_, ls1, h1, fun k y hy => h2 _ y (by simp only [e2]; rw [if_pos hp]; exact hy)⟩
      · exact h1.elim
  | fn f caps =>
    obtain ⟨recs, ls2, h3, h4⟩ := capRecs_fac h1
    exact ⟨_, ls2, h3, fun k y hy => h2 _ y (h4 _ y hy)⟩
  | _ => exact h1.elim
theorem argD_fac (hT : TabOk P T) {α : Type} {t : TypeId} {o : Operand} {k' : DV → Rd α} {ls : List Loc} {x : α} (h : (argDO T stdO t o k').Runs g ls x) : Fac g (fun k => argD P t o k) k' ls x := by
  unfold argDO at h
  rcases hT.ty t with e | ⟨ti, e, hti⟩
  · simp only [e] at h
    split at h
    · rename_i hp
      rcases hT.pn t with f | ⟨_, _, f⟩
      · simp [f] at hp
      · obtain ⟨d, ls1, h1, h2⟩ := argP_fac hT h
        exact ⟨d, ls1, h1, fun k y hy => by unfold argD; simp only [f]; exact h2 _ y hy⟩
    · exact h.elim
  · simp only [e] at h
    obtain ⟨v, ls1, h1, h2⟩ := ev_fac h
    cases v with
    | one a =>
      simp only at h1
      split at h1
      · exact h1.elim
      · rename_i hb
        obtain ⟨l, ls2, h3, h4⟩ := argLs_fac h1
        simp only at h3
        split at h3
        · refine ⟨_, ls2, h3, fun k y hy => ?_⟩
          unfold argD
          simp only [hti]
          refine h2 _ y ?_
          simp only
          rw [if_neg hb]
          exact h4 _ y hy
        · exact h3.elim
    | agg as =>
      simp only at h1
      split at h1
      · rename_i hb
        obtain ⟨l, ls2, h3, h4⟩ := argLs_fac h1
        refine ⟨_, ls2, h3, fun k y hy => ?_⟩
        unfold argD
        simp only [hti]
        refine h2 _ y ?_
        simp only
        rw [if_pos hb]
        exact h4 _ y hy
      · exact h1.elim
    | tup rs => exact h1.elim
theorem argDs_fac (hT : TabOk P T) {α : Type} : ∀ {ts : List TypeId} {xs : List Operand} {k' : List DV → Rd α} {ls : List Loc} {x : α}, (argDsO T stdO ts xs k').Runs g ls x → Fac g (fun k => argDs P ts xs k) k' ls x
  | [], [], _, ls, _, h => ⟨_, ls, h, fun _ _ hy => hy⟩
  | [], _ :: _, _, _, _, h => h.elim
  | _ :: _, [], _, _, _, h => h.elim
  | _ :: _, _ :: _, _, _, _, h => by
    obtain ⟨l, ls1, h1, h2⟩ := argD_fac hT h
    obtain ⟨l2, ls2, h3, h4⟩ := argDs_fac hT h1
    exact ⟨l :: l2, ls2, h3, fun k y hy => h2 _ y (h4 _ y hy)⟩
theorem fresh_fac {α : Type} {d : Option Tmp} {k' : Nat → Rd α} {ls : List Loc} {x : α} (h : (fresh n d k').Runs g ls x) : Fac g (fun k => fresh n d k) k' ls x := by
  cases d with
  | none => exact h.elim
  | some d =>
    simp only [fresh] at h
    split at h
    · rename_i hlt
      obtain ⟨ls', e, h⟩ := h
      cases hg : g (.meta_ d) with
      | none =>
        simp only [hg] at h
        refine ⟨d, ls', h, fun k y hy => ?_⟩
        simp only [fresh, hlt, if_true, Rd.Runs]
        exact ⟨ls', e, by simp only [hg]; exact hy⟩
      | some v => simp [hg, Rd.Runs] at h
    · exact h.elim

/-- The contracts that the table names hold. -/
def CTok (P : Program) (ct : CT) : Prop := ∀ f ds pre res, ct f ds = some (pre, res) → pre () → Ctr P f ds res

def MTok (P : Program) (mt : MT) : Prop := ∀ f mk, mt f = some mk → ∀ ds pre outs res, mk ds = some (pre, outs, res) → pre () → MCtr P f ds outs res
def PTok (P : Program) (pt : FuncId → Option PK) : Prop := ∀ f mk, pt f = some mk → ∀ ds pre outs res, mk ds = some (pre, outs, res) → pre () → PCtr P f ds outs res
def NTok (P : Program) (nt : FuncId → Option NK) : Prop := ∀ f mk, nt f = some mk → ∀ ds pre hs, mk ds = some (pre, hs) → pre () → NCtr P f ds hs
def OTok (P : Program) (ot : FuncId → Option OK') : Prop := ∀ f mk, ot f = some mk → ∀ ds pre res, mk ds = some (pre, res) → pre () → OCtr P f ds res
def CtsOk (P : Program) (ct : Cts) : Prop := CTok P ct.rd ∧ MTok P ct.mu ∧ PTok P ct.pt ∧ NTok P ct.nw ∧ OTok P ct.tk
/-- An operation's condition is sound. -/
def SoundC (P : Program) (n : Nat) (o : Oper) (rd : Rd Out) : Prop :=
  ∀ (cx : Cx) (G : Gh) (g : Gm) (a : Act) (w : World) (ls : List Loc) (ws : List W), cx.n = n → SimG cx G g a w → rd.Runs g ls (.ws ws) →
    ∀ (K : Act → World → Prop) (Q : Exit → Act → World → Prop), (∀ a' w', Sim cx (apps g ws) a' w' → K a' w') → o.wp P a w K Q

/-- What an operation's step is in terms of part 16's. -/
def VStep (P : Program) (n : Nat) (o : Oper) (g : Gm) (ls : List Loc) (ws : List W) : Prop :=
  (callOf o = none ∧ (vop P n o).Runs g ls (.ws ws)) ∨
  (∃ f ts args ds mk res, callOf o = some (f, ts, args) ∧ (vCall P n o.dst f ts args).Runs g ls (.call f ds mk) ∧ Ctr P f ds res ∧ ws = mk res) ∨
  (∃ f ts args mk, callOf o = some (f, ts, args) ∧ (∀ ds pre outs res, mk ds = some (pre, outs, res) → pre () → MCtr P f ds outs res) ∧ (vCallM prS psI upI (tyI P) n o.dst (hasBody P f) ts args mk resWs).Runs g ls (.ws ws)) ∨
  ∃ rd, SoundC P n o rd ∧ rd.Runs g ls (.ws ws)

theorem own1_mono {α : Type} {slot : Option Nat} {a : A} {k' k : L → List Pl → Rd α} {x : α} {ls : List Loc} (hk : ∀ l p ls, (k' l p).Runs g ls x → (k l p).Runs g ls x) (h : (own1 prS psI slot a k').Runs g ls x) : (own1 prS psI slot a k).Runs g ls x := by
  cases slot with
  | none =>
    cases a with
    | v y => exact ite_mono (fun ls h => hk _ _ _ h) h
    | _ => exact h
  | some sz =>
    cases a with
    | vw r j ver lo m =>
      refine rdH_mono ?_ h
      intro hv ls h
      revert h
      generalize hv.c = c
      intro h
      cases c with
      | own l => cases l with
        | s sz' es => exact ite_mono (fun ls h => req_mono id (fun ls h => hk _ _ _ h) h) h
        | v x => exact h
        | g => exact h
        | m _ _ => exact h
      | ro l => exact h
      | gone => exact h
    | vn r j ver iv p lo m =>
      refine rdH_mono ?_ h
      intro hv ls h
      revert h
      generalize hv.c = c
      intro h
      cases c with
      | own l => cases l with
        | s sz' es => exact ite_mono (fun ls h => req_mono id (fun ls h => hk _ _ _ h) h) h
        | v x => exact h
        | g => exact h
        | m _ _ => exact h
      | ro l => exact h
      | gone => exact h
    | _ => exact h
theorem ownAll_mono {α : Type} : ∀ {sl : List (Option Nat)} {as : List A} {k' k : (List L) → List Pl → Rd α} {x : α} {ls : List Loc}, (∀ l p ls, (k' l p).Runs g ls x → (k l p).Runs g ls x) → (ownAll prS psI sl as k').Runs g ls x → (ownAll prS psI sl as k).Runs g ls x
  | [], [], k', k, x, ls, hk, h => hk _ _ _ h
  | [], _ :: _, k', k, x, ls, hk, h => h
  | _ :: _, [], k', k, x, ls, hk, h => h
  | s :: sl, a :: as, k', k, x, ls, hk, h => own1_mono (fun l p ls h => ownAll_mono (fun _ _ ls h => hk _ _ ls h) h) h
theorem ownD_mono {ty ty' : TypeId → Option TI} (ht : ∀ t x, ty t = some x → ty' t = some x) {α : Type} {t : TypeId} {o : Operand} {k' k : DV → List Pl → Rd α} {x : α} {ls : List Loc} (hk : ∀ d p ls, (k' d p).Runs g ls x → (k d p).Runs g ls x)
    (h : (ownD prS psI ty t o k').Runs g ls x) : (ownD prS psI ty' t o k).Runs g ls x := by
  unfold ownD at h ⊢
  cases hti : ty t with
  | none => simp [hti, Rd.Runs] at h
  | some ti =>
    simp only [hti] at h
    simp only [ht t ti hti]
    refine ev_mono ?_ h
    intro v ls h
    cases v with
    | one a =>
      simp only at h ⊢
      split at h
      · exact h.elim
      · rename_i hb
        rw [if_neg hb]
        refine ownAll_mono ?_ h
        intro l p ls h
        split at h
        · exact hk _ _ _ h
        · exact h.elim
    | agg as =>
      simp only at h ⊢
      split at h
      · rename_i hb
        rw [if_pos hb]
        exact ownAll_mono (fun l p ls h => hk _ _ _ h) h
      · exact h.elim
    | tup rs => exact h
theorem ownDs_mono {ty ty' : TypeId → Option TI} (ht : ∀ t x, ty t = some x → ty' t = some x) {α : Type} : ∀ {ts : List TypeId} {xs : List Operand} {k' k : List DV → List Pl → Rd α} {x : α} {ls : List Loc}, (∀ d p ls, (k' d p).Runs g ls x → (k d p).Runs g ls x) →
    (ownDs prS psI ty ts xs k').Runs g ls x → (ownDs prS psI ty' ts xs k).Runs g ls x
  | [], [], k', k, x, ls, hk, h => hk _ _ _ h
  | [], _ :: _, k', k, x, ls, hk, h => h
  | _ :: _, [], k', k, x, ls, hk, h => h
  | t :: ts, o :: xs, k', k, x, ls, hk, h => ownD_mono ht (fun d p ls h => ownDs_mono ht (fun _ _ ls h => hk _ _ ls h) h) h

theorem vCallM_step (hT : TabOk P T) {o : Oper} {f : FuncId} {ts : Array TypeId} {args : Array Operand} {mk : MK} {ls : List Loc} {ws : List W} (hc : callOf o = some (f, ts, args)) (hmk : ∀ ds pre outs res, mk ds = some (pre, outs, res) → pre () → MCtr P f ds outs res)
    (h : (vCallM stdO.pr stdO.ps stdO.up (lk T.tyL) n o.dst (lk T.fnL f).isSome ts args mk (resWsO stdO)).Runs g ls (.ws ws)) : VStep P n o g ls ws := by
  refine .inr (.inr (.inl ⟨f, ts, args, mk, hc, hmk, ?_⟩))
  rw [show stdO.pr = prS from rfl, show stdO.ps = psI from rfl, show stdO.up = upI from rfl, show resWsO stdO = resWs from by funext d res; exact resWs_std d res] at h
  unfold vCallM at h ⊢
  split at h
  · rename_i hb'
    have hb : hasBody P f = true := by
      rcases hT.fn f with e | ⟨_, _, e⟩
      · rw [e] at hb'; cases hb'
      · exact e
    rw [if_pos hb]
    refine ownDs_mono ?_ (fun _ _ _ h => h) h
    intro t x e
    rcases hT.ty t with q | ⟨y, q1, q2⟩
    · rw [q] at e; cases e
    · rw [q1] at e; cases e; exact q2
  · exact h.elim

theorem vCall_step (hT : TabOk P T) {ct : Cts} (hct : CtsOk P ct) {o : Oper} {f : FuncId} {ts : Array TypeId} {args : Array Operand} {ls : List Loc} {ws : List W} (hc : callOf o = some (f, ts, args))
    (h : (vCallO T stdO ct n o.dst f ts args).Runs g ls (.ws ws)) : VStep P n o g ls ws := by
  unfold vCallO at h
  split at h
  · rename_i hb'
    have hb : hasBody P f = true := by
      rcases hT.fn f with e | ⟨_, _, e⟩
      · rw [e] at hb'; cases hb'
      · exact e
    obtain ⟨ds, ls1, h1, h2⟩ := argDs_fac hT h
    simp only at h1
    split at h1
    · rename_i pre res he
      obtain ⟨hp, h1⟩ := h1
      obtain ⟨d, ls2, h3, h4⟩ := fresh_fac h1
      simp only [Rd.Runs, Out.ws.injEq] at h3
      obtain ⟨rfl, rfl⟩ := h3
      refine .inr (.inl ⟨f, ts, args, ds, resWs d, res, hc, ?_, hct.1 _ _ _ _ he hp, by rw [resWs_std]⟩)
      unfold vCall
      rw [if_pos hb]
      refine h2 _ _ (h4 _ _ ?_)
      simp [Rd.Runs]
    · exact h1.elim
  · exact h.elim

theorem leafHs_fac {α : Type} {r : Nat} : ∀ {m j : Nat} {k' : List H → Rd α} {ls : List Loc} {x : α}, (leafHs r j m k').Runs g ls x → Fac g (fun k => leafHs r j m k) k' ls x
  | 0, _, _, ls, _, h => ⟨_, ls, h, fun _ _ hy => hy⟩
  | m + 1, j, _, _, _, h => by
    obtain ⟨hv, ls1, h1, h2⟩ := rdH_fac h
    cases hc : hv.c with
    | own l =>
      simp only [hc] at h1
      obtain ⟨rec, ls2, h3, h4⟩ := leafHs_fac h1
      exact ⟨.own l :: rec, ls2, h3, fun k y hy => h2 _ y (by simp only [hc]; exact h4 _ y hy)⟩
    | ro l =>
      simp only [hc] at h1
      obtain ⟨rec, ls2, h3, h4⟩ := leafHs_fac h1
      exact ⟨.ro l :: rec, ls2, h3, fun k y hy => h2 _ y (by simp only [hc]; exact h4 _ y hy)⟩
    | gone => simp [hc, Rd.Runs] at h1
theorem pArg_fac (hT : TabOk P T) {α : Type} {t : TypeId} {o : Operand} {k' : DV × List (Nat × Nat) × List PtA → Rd α} {ls : List Loc} {x : α}
    (h : (pArg (fun {β} => argLsO stdO (α := β)) (lk T.tyL) (lk T.ptL) (fun t => (lk T.pnL t).isSome) t o fun d s p => k' (d, s, p)).Runs g ls x) : Fac g (fun k => pArg argLs (tyI P) (ppI P) (fun _ => true) t o fun d s p => k (d, s, p)) k' ls x := by
  unfold pArg at h
  rcases hT.ty t with e | ⟨ti, e, hti⟩
  · simp only [e] at h
    split at h
    case isFalse => exact h.elim
    rename_i hp
    rcases hT.pn t with f | ⟨_, _, f⟩
    · simp [f] at hp
    obtain ⟨v, ls1, h1, h2⟩ := ev1_fac h
    cases v with
    | pt r j =>
      rcases hT.pt t with e3 | ⟨ti, e3, e4⟩
      · simp [e3, Rd.Runs] at h1
      · simp only [e3] at h1
        split at h1
        · rename_i hpos
          obtain ⟨hs, ls2, h3, h4⟩ := leafHs_fac h1
          exact ⟨(_, _, _), ls2, h3, fun k y hy => by unfold pArg; simp only [f, if_true]; exact h2 _ y (by simp only [e4, hpos, if_true]; exact h4 _ y hy)⟩
        · exact h1.elim
    | _ => exact h1.elim
  · simp only [e] at h
    obtain ⟨v, ls1, h1, h2⟩ := ev_fac h
    cases v with
    | one a =>
      simp only at h1
      split at h1
      · exact h1.elim
      · rename_i hb
        obtain ⟨l, ls2, h3, h4⟩ := argLs_fac h1
        simp only at h3
        split at h3
        · refine ⟨(_, _, _), ls2, h3, fun k y hy => ?_⟩
          unfold pArg
          simp only [hti]
          refine h2 _ y ?_
          simp only
          rw [if_neg hb]
          exact h4 _ y hy
        · exact h3.elim
    | agg as =>
      simp only at h1
      split at h1
      · rename_i hb
        obtain ⟨l, ls2, h3, h4⟩ := argLs_fac h1
        refine ⟨(_, _, _), ls2, h3, fun k y hy => ?_⟩
        unfold pArg
        simp only [hti]
        refine h2 _ y ?_
        simp only
        rw [if_pos hb]
        exact h4 _ y hy
      · exact h1.elim
    | tup rs => exact h1.elim
theorem pArgs_fac (hT : TabOk P T) {α : Type} : ∀ {ts : List TypeId} {xs : List Operand} {k' : List DV × List (Nat × Nat) × List PtA → Rd α} {ls : List Loc} {x : α},
    (pArgs (fun {β} => argLsO stdO (α := β)) (lk T.tyL) (lk T.ptL) (fun t => (lk T.pnL t).isSome) ts xs fun d s p => k' (d, s, p)).Runs g ls x → Fac g (fun k => pArgs argLs (tyI P) (ppI P) (fun _ => true) ts xs fun d s p => k (d, s, p)) k' ls x
  | [], [], _, ls, _, h => ⟨(_, _, _), ls, h, fun _ _ hy => hy⟩
  | [], _ :: _, _, _, _, h => h.elim
  | _ :: _, [], _, _, _, h => h.elim
  | t :: ts, o :: xs, k', _, _, h => by
    obtain ⟨⟨d, s, p⟩, ls1, h1, h2⟩ := pArg_fac hT (k' := fun q => pArgs (fun {β} => argLsO stdO (α := β)) (lk T.tyL) (lk T.ptL) (fun t => (lk T.pnL t).isSome) ts xs fun ds srcs pts => k' (q.1 :: ds, q.2.1 ++ srcs, q.2.2 ++ pts)) h
    obtain ⟨⟨ds, ss, ps⟩, ls2, h3, h4⟩ := pArgs_fac hT (k' := fun q => k' (d :: q.1, s ++ q.2.1, p ++ q.2.2)) h1
    exact ⟨(_, _, _), ls2, h3, fun k y hy => h2 (fun q => pArgs argLs (tyI P) (ppI P) (fun _ => true) ts xs fun ds srcs pts => k (q.1 :: ds, q.2.1 ++ srcs, q.2.2 ++ pts)) y (h4 (fun q => k (d :: q.1, s ++ q.2.1, p ++ q.2.2)) y hy)⟩

theorem vCallP_step (hT : TabOk P T) {o : Oper} {f : FuncId} {ts : Array TypeId} {args : Array Operand} {mk : PK} {ls : List Loc} {ws : List W} (hc : callOf o = some (f, ts, args)) (hmk : ∀ ds pre outs res, mk ds = some (pre, outs, res) → pre () → PCtr P f ds outs res)
    (h : (vCallP stdO.pr (fun {β} => argLsO stdO (α := β)) (lk T.tyL) (lk T.ptL) (fun t => (lk T.pnL t).isSome) n o.dst (lk T.fnL f).isSome ts args mk (resWsO stdO)).Runs g ls (.ws ws)) : VStep P n o g ls ws := by
  refine .inr (.inr (.inr ⟨vCallP prS argLs (tyI P) (ppI P) (fun _ => true) n o.dst (hasBody P f) ts args mk resWs, ?_, ?_⟩))
  · intro cx G g a w ls ws hn hS h K Q hk
    subst hn
    exact vCallP_sound (callOf_spec hc) hS hmk h hk
  · rw [show stdO.pr = prS from rfl, show resWsO stdO = resWs from by funext d res; exact resWs_std d res] at h
    unfold vCallP at h ⊢
    split at h
    · rename_i hb'
      have hb : hasBody P f = true := by
        rcases hT.fn f with e | ⟨_, _, e⟩
        · rw [e] at hb'; cases hb'
        · exact e
      rw [if_pos hb]
      obtain ⟨⟨ds, ss, ps⟩, ls1, h1, h2⟩ := pArgs_fac hT (k' := fun q => match mk q.1 with
        | some (pre, outs, res) => if rngOk q.2.2 && q.2.1.all (fun s => q.2.2.all fun p => !inPt s p) then .req (prS pre) (updP q.2.2 outs fun ws => match o.dst with
            | some _ => fresh n o.dst fun d => .ret (Out.ws (ws ++ resWs d res))
            | none => .ret (Out.ws ws)) else .fail
        | none => .fail) h
      exact h2 (fun q => match mk q.1 with
        | some (pre, outs, res) => if rngOk q.2.2 && q.2.1.all (fun s => q.2.2.all fun p => !inPt s p) then .req (prS pre) (updP q.2.2 outs fun ws => match o.dst with
            | some _ => fresh n o.dst fun d => .ret (Out.ws (ws ++ resWs d res))
            | none => .ret (Out.ws ws)) else .fail
        | none => .fail) _ h1
    · exact h.elim

theorem vCallF_ref (hT : TabOk P T) {ct : Cts} {d : Option Tmp} {t : Tmp} {ts : Array TypeId} {args : Array Operand} {ls : List Loc} {out : Out}
    (h : (vCallFO T stdO ct n d t ts args).Runs g ls out) : (vCallF P ct.rd n d t ts args).Runs g ls out := by
  unfold vCallFO at h
  obtain ⟨v, ls1, h1, h2⟩ := ev1_fac h
  cases v with
  | fn f caps =>
    obtain ⟨ds, ls2, h3, h4⟩ := argDs_fac hT h1
    obtain ⟨recs, ls3, h5, h6⟩ := capRecs_fac h3
    unfold vCallF
    refine h2 _ _ (h4 _ _ (h6 _ _ ?_))
    cases hm : ct.rd f (ds ++ recs.map .ptr) with
    | none => simp [hm, Rd.Runs] at h5
    | some pr =>
      obtain ⟨pre, res⟩ := pr
      simp only [hm] at h5 ⊢
      obtain ⟨hp, hb, h5⟩ := h5
      refine ⟨⟨hp, ?_⟩, ?_⟩
      · rcases hT.fn f with e | ⟨_, _, e⟩
        · have hb : (lk T.fnL f).isSome = true := hb
          rw [e] at hb; cases hb
        · exact e
      · rw [show resWsO stdO = resWs from by funext d res; exact resWs_std d res] at h5
        exact h5
  | _ => exact h1.elim
theorem vCallFP_ref (hT : TabOk P T) {d : Option Tmp} {t : Tmp} {ts : Array TypeId} {args : Array Operand} {pt : FuncId → Option PK} {ls : List Loc} {out : Out}
    (h : (vCallFP prS (fun {β} => argLsO stdO (α := β)) (lk T.tyL) (lk T.ptL) (fun t => (lk T.pnL t).isSome) n d (fun f => (lk T.fnL f).isSome) t ts args pt (resWsO stdO)).Runs g ls out) :
    (vCallFP prS argLs (tyI P) (ppI P) (fun _ => true) n d (hasBody P) t ts args pt resWs).Runs g ls out := by
  unfold vCallFP at h ⊢
  refine ev1_mono ?_ h
  intro v ls h
  cases v with
  | fn f caps =>
    simp only at h ⊢
    cases hm : pt f with
    | none => simp [hm, Rd.Runs] at h
    | some mk =>
      simp only [hm] at h ⊢
      rcases hT.fn f with e | ⟨_, e1, e2⟩
      · simp [e, Rd.Runs] at h
      rw [if_pos e2]
      rw [if_pos (by rw [e1]; rfl)] at h
      rw [show resWsO stdO = resWs from by funext d res; exact resWs_std d res] at h
      obtain ⟨⟨ds, ss, ps⟩, ls1, h1, h2⟩ := pArgs_fac hT (k' := fun q => capHs caps fun ds2 pts2 => tailP prS n d (q.1 ++ ds2) q.2.1 (q.2.2 ++ pts2) mk resWs) h
      exact h2 (fun q => capHs caps fun ds2 pts2 => tailP prS n d (q.1 ++ ds2) q.2.1 (q.2.2 ++ pts2) mk resWs) _ h1
  | _ => exact h.elim
def vCallX (P : Program) (ct : Cts) (n : Nat) (d : Option Tmp) (t : Tmp) (ts : Array TypeId) (args : Array Operand) : Rd Out :=
  ev1 (.tmp t) fun
    | .fn f _ => match ct.pt f with
      | some _ => vCallFP prS argLs (tyI P) (ppI P) (fun _ => true) n d (hasBody P) t ts args ct.pt resWs
      | none => vCallF P ct.rd n d t ts args
    | _ => .fail
theorem vCallX_step (hT : TabOk P T) {ct : Cts} (hct : CtsOk P ct) {o : Oper} {t : Tmp} {ts : Array TypeId} {args : Array Operand} {ls : List Loc} {ws : List W} (ho : o.op = .call { callee := .value (.tmp t), args := args, argTypes := ts })
    (h : (vCallXO T stdO ct n o.dst t ts args).Runs g ls (.ws ws)) : VStep P n o g ls ws := by
  refine .inr (.inr (.inr ⟨vCallX P ct n o.dst t ts args, ?_, ?_⟩))
  · intro cx G g a w ls ws hn hS h K Q hk
    subst hn
    unfold vCallX at h
    obtain ⟨x0, ls1, hx, h⟩ := ev1_sound hS h
    cases x0 with
    | fn f caps =>
      simp only at h
      split at h
      · exact vCallFP_sound ho hS (fun f mk e => hct.2.2.1 f mk e) h hk
      · exact vCallF_sound (fun f ds pre res e hp => hct.1 f ds pre res e hp) ho hS h hk
    | _ => exact h.elim
  · unfold vCallXO at h
    unfold vCallX
    refine ev1_mono ?_ h
    intro v ls h
    cases v with
    | fn f caps =>
      simp only at h ⊢
      cases hm : ct.pt f with
      | some mk => simp only [hm] at h ⊢; exact vCallFP_ref hT h
      | none => simp only [hm] at h ⊢; exact vCallF_ref hT h
    | _ => exact h.elim

theorem vCallN_step (hT : TabOk P T) {o : Oper} {c : Call} {f : FuncId} {mk : NK} {ls : List Loc} {ws : List W} (e1 : o.op = .call c) (e2 : c.callee = .value (.func f)) (hmk : ∀ ds pre hs, mk ds = some (pre, hs) → pre () → NCtr P f ds hs)
    (h : (vCallN prS n o.dst (lk T.fnL f).isSome c.args mk).Runs g ls (.ws ws)) : VStep P n o g ls ws := by
  refine .inr (.inr (.inr ⟨vCallN prS n o.dst (hasBody P f) c.args mk, ?_, ?_⟩))
  · intro cx G g a w ls ws hn hS h K Q hk
    subst hn
    obtain ⟨cal, as, ats⟩ := c
    simp only at e2
    subst e2
    exact vCallN_sound e1 hS hmk h hk
  · unfold vCallN at h ⊢
    split at h
    · rename_i hb'
      have hb : hasBody P f = true := by
        rcases hT.fn f with e | ⟨_, _, e⟩
        · rw [e] at hb'; cases hb'
        · exact e
      rw [if_pos hb]
      exact h
    · exact h.elim

theorem vSliceX_step (hT : TabOk P T) {o : Oper} {t : TypeId} {x : Operand} {lo hi mx : Option Operand} {ls : List Loc} {ws : List W} (ho : o.op = .slice t x lo hi mx) (h : (vSliceXO T stdO n o.dst t x lo hi mx).Runs g ls (.ws ws)) : VStep P n o g ls ws := by
  refine .inr (.inr (.inr ⟨ev1 x fun
    | .vn _ _ _ _ _ _ _ => vSliceN prS (fun lo i => lo + i.toNat) (fun h l => h.toNat - l.toNat) (fun n => n) (elI P) n o.dst t x lo hi mx
    | _ => vSlice P n o.dst t x lo hi mx, ?_, ?_⟩))
  · intro cx G g a w ls ws hn hS h K Q hk
    subst hn
    obtain ⟨x0, ls1, _, h⟩ := ev1_sound hS h
    cases x0 with
    | vn r j ver iv p lo m => exact vSliceN_sound ho hS h hk
    | _ => exact vSlice_sound ho hS h hk
  · unfold vSliceXO at h
    refine ev1_mono ?_ h
    intro v ls h
    cases v with
    | vn r j ver iv p lo m =>
      simp only at h ⊢
      unfold vSliceN at h ⊢
      rcases hT.el t with e | ⟨y, e, e2⟩
      · rw [e] at h; exact h.elim
      · rw [e] at h; rw [e2]; exact h
    | _ => exact vSlice_ref hT h
theorem vStoreX_step (hT : TabOk P T) {o : Oper} {t : TypeId} {x y : Operand} {ls : List Loc} {ws : List W} (ho : o.op = .store t x y) (hd : o.dst = none) (h : (vStoreXO T stdO t x y).Runs g ls (.ws ws)) : VStep P n o g ls ws := by
  refine .inr (.inr (.inr ⟨ev y fun
    | .one (.vn _ _ _ _ _ _ _) => vStoreN prS psI (fun es lo m => (es.drop lo).take m) upI (tyI P) t x y
    | _ => vStore P t x y, ?_, ?_⟩))
  · intro cx G g a w ls ws hn hS h K Q hk
    subst hn
    obtain ⟨x0, ls1, _, h⟩ := ev_sound hS h
    split at h
    · exact vStoreN_sound ho hd hS h hk
    · exact vStore_sound ho hd hS h hk
  · unfold vStoreXO at h
    refine ev_mono ?_ h
    intro v ls h
    split at h
    · try simp only
      unfold vStoreN at h ⊢
      rcases hT.ty t with e | ⟨z, e, e2⟩
      · rw [e] at h; exact h.elim
      · rw [e] at h; rw [e2]; exact h
    · rename_i hne
      first
        | exact vStore_ref hT h
        | (split
           · exact absurd rfl (hne _ _ _ _ _ _ _)
           · exact vStore_ref hT h)
theorem vMakeMap_step (hT : TabOk P T) {o : Oper} {t : TypeId} {r : Option Operand} {ls : List Loc} {ws : List W} (ho : o.op = .makeMap t r) (h : (vMakeMap (lk T.mpL) n o.dst t r).Runs g ls (.ws ws)) : VStep P n o g ls ws := by
  refine .inr (.inr (.inr ⟨vMakeMap (mpI P) n o.dst t r, ?_, ?_⟩))
  · intro cx G g a w ls ws hn hS h K Q hk
    subst hn
    exact vMakeMap_sound ho hS h hk
  · unfold vMakeMap at h ⊢
    rcases hT.mp t with e | ⟨x, e, e2⟩
    · cases r <;> simp [e, Rd.Runs] at h
    · rw [e] at h; rw [e2]; exact h
theorem vLookup_step (hT : TabOk P T) {o : Oper} {t : TypeId} {x i : Operand} {k : Bool} {ls : List Loc} {ws : List W} (ho : o.op = .lookup t x i k) (h : (vLookup mgbI mgiI (lk T.mpL) n o.dst t x i k).Runs g ls (.ws ws)) : VStep P n o g ls ws := by
  refine .inr (.inr (.inr ⟨vLookup mgbI mgiI (mpI P) n o.dst t x i k, ?_, ?_⟩))
  · intro cx G g a w ls ws hn hS h K Q hk
    subst hn
    exact vLookup_sound ho hS h hk
  · unfold vLookup at h ⊢
    rcases hT.mp t with e | ⟨y, e, e2⟩
    · cases k <;> simp [e, Rd.Runs] at h
    · rw [e] at h; rw [e2]; exact h
theorem vMapUpd_step (hT : TabOk P T) {o : Oper} {t : TypeId} {m k v : Operand} {ls : List Loc} {ws : List W} (ho : o.op = .mapUpdate t m k v) (hd : o.dst = none) (h : (vMapUpd muI (lk T.mpL) t m k v).Runs g ls (.ws ws)) : VStep P n o g ls ws := by
  refine .inr (.inr (.inr ⟨vMapUpd muI (mpI P) t m k v, ?_, ?_⟩))
  · intro cx G g a w ls ws hn hS h K Q hk
    subst hn
    exact vMapUpd_sound ho hd hS h hk
  · unfold vMapUpd at h ⊢
    rcases hT.mp t with e | ⟨y, e, e2⟩
    · simp [e, Rd.Runs] at h
    · rw [e] at h; rw [e2]; exact h

theorem tArg_mono {tk : ∀ {β : Type}, List (Option Nat) → List A → (List (L × Option Nat) → List (Nat × Nat) → Rd β) → Rd β} (hT : TabOk P T) (htk : ∀ {β : Type}, @tk β = @takeAll β) {α : Type} {t : TypeId} {x : Operand} {k' k : DV → List (Nat × Nat) → Rd α} {y : α} {ls : List Loc}
    (hk : ∀ d s ls, (k' d s).Runs g ls y → (k d s).Runs g ls y) (h : (tArg tk (lk T.tyL) t x k').Runs g ls y) : (tArg takeAll (tyI P) t x k).Runs g ls y := by
  unfold tArg at h ⊢
  rcases hT.ty t with e | ⟨ti, e, e2⟩
  · rw [e] at h; exact h.elim
  · rw [e] at h
    rw [e2]
    refine ev_mono ?_ h
    intro v ls h
    cases v with
    | one a =>
      simp only [htk] at h ⊢
      split at h
      · exact h.elim
      · rename_i hag
        rw [if_neg hag]
        refine takeAll_mono ?_ h
        intro lts src ls h
        split at h
        · exact hk _ _ _ h
        · exact h.elim
    | agg as =>
      simp only [htk] at h ⊢
      split at h
      · rename_i hag
        rw [if_pos hag]
        refine takeAll_mono ?_ h
        intro lts src ls h
        exact hk _ _ _ h
      · exact h.elim
    | tup rs => exact h.elim
theorem tArgs_mono {tk : ∀ {β : Type}, List (Option Nat) → List A → (List (L × Option Nat) → List (Nat × Nat) → Rd β) → Rd β} (hT : TabOk P T) (htk : ∀ {β : Type}, @tk β = @takeAll β) {α : Type} : ∀ {ts : List TypeId} {xs : List Operand} {k' k : List DV → List (Nat × Nat) → Rd α} {y : α} {ls : List Loc},
    (∀ d s ls, (k' d s).Runs g ls y → (k d s).Runs g ls y) → (tArgs tk (lk T.tyL) ts xs k').Runs g ls y → (tArgs takeAll (tyI P) ts xs k).Runs g ls y
  | [], [], k', k, y, ls, hk, h => hk _ _ _ h
  | [], _ :: _, k', k, y, ls, hk, h => h.elim
  | _ :: _, [], k', k, y, ls, hk, h => h.elim
  | t :: ts, x :: xs, k', k, y, ls, hk, h => by
    simp only [tArgs] at h ⊢
    refine tArg_mono hT htk ?_ h
    intro d s ls h
    exact tArgs_mono hT htk (fun d s ls h => hk _ _ _ h) h
theorem vCallT_step (hT : TabOk P T) {o : Oper} {c : Call} {f : FuncId} {mk : OK'} {ls : List Loc} {ws : List W} (e1 : o.op = .call c) (e2 : c.callee = .value (.func f)) (hmk : ∀ ds pre res, mk ds = some (pre, res) → pre () → OCtr P f ds res)
    (h : (vCallT (fun {β} => takeAllO stdO (α := β)) (lk T.tyL) prS n o.dst (lk T.fnL f).isSome c.argTypes c.args mk (resWsO stdO)).Runs g ls (.ws ws)) : VStep P n o g ls ws := by
  refine .inr (.inr (.inr ⟨vCallT takeAll (tyI P) prS n o.dst (hasBody P f) c.argTypes c.args mk resWs, ?_, ?_⟩))
  · intro cx G g a w ls ws hn hS h K Q hk
    subst hn
    obtain ⟨cal, as, ats⟩ := c
    simp only at e2
    subst e2
    exact vCallT_sound e1 hS hmk h hk
  · unfold vCallT at h ⊢
    rcases hT.fn f with e | ⟨_, e, e3⟩
    · rw [e] at h; exact h.elim
    · rw [if_pos e3]
      rw [if_pos (by rw [e]; rfl)] at h
      rw [show resWsO stdO = resWs from by funext d res; exact resWs_std d res] at h
      exact tArgs_mono hT (by intro β; funext sl as k; exact takeAll_std sl as k) (fun _ _ _ h => h) h

theorem mm_std (b : Bool) : mmO stdO b = minmax b := by
  funext vs
  match vs with
  | [] => rfl
  | [x] => cases x <;> rfl
  | [x, y] => cases x <;> cases y <;> first | rfl | skip
              rename_i k a k' b'
              simp only [mmO, minmax]
              by_cases e : k = k'
              · subst e; simp only [beq_self_eq_true, if_true]; rfl
              · simp [e]
  | x :: y :: z :: vs => cases x <;> cases y <;> rfl

theorem vop_step (hT : TabOk P T) {ct : Cts} (hct : CtsOk P ct) {o : Oper} {ls : List Loc} {ws : List W} (h : (vopO T stdO ct n o).Runs g ls (.ws ws)) : VStep P n o g ls ws := by
  by_cases hc : ∃ c f, o.op = .call c ∧ c.callee = .value (.func f)
  · obtain ⟨c, f, e1, e2⟩ := hc
    unfold vopO at h
    simp only [e1, e2] at h
    cases hnw : ct.nw f with
    | some mk =>
      simp only [hnw] at h
      exact vCallN_step hT e1 e2 (hct.2.2.2.1 f mk hnw) h
    | none =>
    simp only [hnw] at h
    cases htk : ct.tk f with
    | some mk =>
      simp only [htk] at h
      exact vCallT_step hT e1 e2 (hct.2.2.2.2 f mk htk) h
    | none =>
    simp only [htk] at h
    cases hpt : ct.pt f with
    | some mk =>
      simp only [hpt] at h
      exact vCallP_step hT (by unfold callOf; simp only [e1, e2]) (hct.2.2.1 f mk hpt) h
    | none =>
    simp only [hpt] at h
    cases hmu : ct.mu f with
    | none =>
      simp only [hmu] at h
      exact vCall_step hT hct (by unfold callOf; simp only [e1, e2]) h
    | some mk =>
      simp only [hmu] at h
      exact vCallM_step hT (by unfold callOf; simp only [e1, e2]) (hct.2.1 f mk hmu) h
  by_cases hc2 : ∃ c t, o.op = .call c ∧ c.callee = .value (.tmp t)
  · obtain ⟨c, t, e1, e2⟩ := hc2
    unfold vopO at h
    simp only [e1, e2] at h
    exact vCallX_step hT hct (by rw [e1]; obtain ⟨cal, as, ats⟩ := c; simp only at e2; rw [e2]) h
  by_cases hsl : ∃ t x lo hi mx, o.op = .slice t x lo hi mx
  · obtain ⟨t, x, lo, hi, mx, e1⟩ := hsl
    unfold vopO at h
    simp only [e1] at h
    exact vSliceX_step hT e1 h
  by_cases hst : ∃ t x y, o.op = .store t x y
  · obtain ⟨t, x, y, e1⟩ := hst
    unfold vopO at h
    simp only [e1] at h
    split at h
    · rename_i hd
      exact vStoreX_step hT e1 hd h
    · exact h.elim
  by_cases hmk : ∃ t r, o.op = .makeMap t r
  · obtain ⟨t, r, e1⟩ := hmk
    unfold vopO at h
    simp only [e1] at h
    exact vMakeMap_step hT e1 h
  by_cases hlo : ∃ t x i k, o.op = .lookup t x i k
  · obtain ⟨t, x, i, k, e1⟩ := hlo
    unfold vopO at h
    simp only [e1] at h
    exact vLookup_step hT e1 h
  by_cases hup : ∃ t m k v, o.op = .mapUpdate t m k v
  · obtain ⟨t, m, k, v, e1⟩ := hup
    unfold vopO at h
    simp only [e1] at h
    split at h
    · rename_i hd
      exact vMapUpd_step hT e1 hd h
    · exact h.elim
  · refine .inl ⟨?_, ?_⟩
    · unfold callOf
      split
      · rename_i c e1
        split
        · rename_i f e2; exact absurd ⟨c, f, e1, e2⟩ hc
        · rfl
      · rfl
    · unfold vopO at h
      unfold vop
      generalize hop : o.op = op at h hc hc2 hmk hlo hup hsl hst ⊢
      cases op with
      | makeMap t r => exact absurd ⟨t, r, rfl⟩ hmk
      | lookup t x i k => exact absurd ⟨t, x, i, k, rfl⟩ hlo
      | mapUpdate t m k v => exact absurd ⟨t, m, k, v, rfl⟩ hup
      | call c =>
        simp only at h ⊢
        cases hcal : c.callee with
        | value x =>
          cases x with
          | func f => exact absurd ⟨c, f, rfl, hcal⟩ hc
          | tmp t => exact absurd ⟨c, t, rfl, hcal⟩ hc2
          | _ => simp only [hcal] at h; exact h.elim
        | builtin b =>
          simp only [hcal] at h ⊢
          cases b with
          | len =>
            simp only at h ⊢
            split at h
            · rename_i x t e1 e2
              simp only [e1, e2]
              rcases hT.sl t with e | ⟨_, e, e3⟩
              · simp [e, Rd.Runs] at h
              simp only [e, e3, Option.isSome_some, if_true] at h ⊢
              refine ev1_mono ?_ h
              intro a ls h
              exact lenA_ref h
            · exact h.elim
          | append =>
            simp only at h ⊢
            split at h
            · rename_i e1 e2
              simp only [e1, e2]
              exact vAppendX_ref hT h
            · exact h.elim
          | min => simp only [mm_std] at h ⊢; exact h
          | max => simp only [mm_std] at h ⊢; exact h
          | _ => exact h
        | _ => simp only [hcal] at h; exact h.elim
      | box t x => exact vBox_ref hT h
      | alloc t => exact vAlloc_ref hT h
      | build t parts => exact vBuild_ref hT h
      | fieldAddr s x f => exact vFieldAddr_ref hT h
      | buildSlice t len parts => exact vBuildSlice_ref hT h
      | load t x => exact vLoad_ref hT h
      | store t x y => exact absurd ⟨t, x, y, rfl⟩ hst
      | indexAddr t x i => exact vIndexAddr_ref hT h
      | binOp op t x y _ => exact vBinX_ref hT h
      | unOp op t x => exact vUn_ref h
      | makeSlice t l c => exact vMake_ref hT h
      | slice t x lo hi mx => exact absurd ⟨t, x, lo, hi, mx, rfl⟩ hsl
      | assign x => exact h
      | pick c a b => exact h
      | convert s t x =>
        simp only at h ⊢
        refine evInt_mono ?_ h
        intro _ a ls h
        rcases hT.it s with e | ⟨k1, e, e3⟩
        · simp [e, Rd.Runs] at h
        rcases hT.it t with f | ⟨k2, f, f3⟩
        · simp [e, f, Rd.Runs] at h
        simp only [e, e3, f, f3] at h ⊢
        exact h
      | _ => exact h

end
end Go.V

/-
  The value-level condition generator, part 22: lists of operations in text order, with what each reads and writes.
-/
namespace Go.V

/-- A case of a truth value: it is left standing where the value is not known. -/
def caseB (b : Bool) (A B : Unit → Prop) : Prop := (Bool.rec (motive := fun _ => Unit → Prop) B A b : Unit → Prop) ()
theorem caseB_intro {b : Bool} {A B : Unit → Prop} (h1 : b = true → A ()) (h2 : b = false → B ()) : (Bool.rec (motive := fun _ => Unit → Prop) B A b : Unit → Prop) () := by
  cases b with
  | true => exact h1 rfl
  | false => exact h2 rfl

def Rd.wpU {α : Type} (g : Gm) : Rd α → List Loc → (List Loc → α → Prop) → Prop
  | .fail, _, _ => False
  | .ret a, t, K => K t a
  | .get l k, t, K => (k (g l)).wpU g (l :: t) K
  | .req c k, t, K => c ∧ k.wpU g t K
  | .br b k1 k2, t, K => caseB b (fun _ => k1.wpU g t K) (fun _ => k2.wpU g t K)

theorem Rd.wpU_runs {α : Type} {g : Gm} : ∀ {rd : Rd α} {t : List Loc} {K : List Loc → α → Prop}, rd.wpU g t K → ∃ ls x t', rd.Runs g ls x ∧ K t' x ∧ (∀ l ∈ ls, l ∈ t') ∧ (∀ l ∈ t, l ∈ t')
  | .fail, _, _, h => h.elim
  | .ret b, t, _, h => ⟨[], b, t, ⟨rfl, rfl⟩, h, by simp, fun _ h => h⟩
  | .get l k, t, _, h => by
    obtain ⟨ls, x, t', h1, h2, h3, h4⟩ := Rd.wpU_runs (rd := k (g l)) h
    refine ⟨l :: ls, x, t', ⟨ls, rfl, h1⟩, h2, ?_, fun y hy => h4 y (by simp [hy])⟩
    intro y hy
    rcases List.mem_cons.1 hy with rfl | hy
    · exact h4 _ (by simp)
    · exact h3 _ hy
  | .req c k, t, _, h => by
    obtain ⟨ls, x, t', h1, h2, h3⟩ := Rd.wpU_runs (rd := k) h.2
    exact ⟨ls, x, t', ⟨h.1, h1⟩, h2, h3⟩
  | .br b k1 k2, t, _, h => by
    cases b with
    | true => obtain ⟨ls, x, t', h1, h2⟩ := Rd.wpU_runs (rd := k1) h; exact ⟨ls, x, t', .inl ⟨rfl, h1⟩, h2⟩
    | false => obtain ⟨ls, x, t', h1, h2⟩ := Rd.wpU_runs (rd := k2) h; exact ⟨ls, x, t', .inr ⟨rfl, h1⟩, h2⟩

theorem Rd.Runs_congr {α : Type} {g g' : Gm} : ∀ {rd : Rd α} {ls : List Loc} {x : α}, rd.Runs g ls x → (∀ l ∈ ls, g' l = g l) → rd.Runs g' ls x
  | .fail, _, _, h, _ => h
  | .ret b, _, _, h, _ => h
  | .get l k, _, _, h, hg => by
    obtain ⟨ls', e, h⟩ := h
    subst e
    refine ⟨ls', rfl, ?_⟩
    rw [hg l (by simp)]
    exact Rd.Runs_congr h (fun y hy => hg y (by simp [hy]))
  | .req c k, _, _, h, hg => ⟨h.1, Rd.Runs_congr h.2 hg⟩
  | .br b k1 k2, _, _, h, hg => by
    rcases h with ⟨e, h⟩ | ⟨e, h⟩
    · exact .inl ⟨e, Rd.Runs_congr h hg⟩
    · exact .inr ⟨e, Rd.Runs_congr h hg⟩

def skipW (n : Nat) (o : Oper) (ws : List W) : Prop :=
  match o.dst with
  | some d => d < n ∧ ws = [.reg d (.one (.v undef))]
  | none => ws = []

/-- An operation of a region, with what it reads (at most t) and writes. -/
def Exec (P : Program) (n : Nat) (all : Array Oper) (o : Oper) (g : Gm) (t : List Loc) (ws : List W) : Prop :=
  ∃ ls b, (guardV all o).Runs g ls b ∧ (∀ l ∈ ls, l ∈ t) ∧
    ((b = true ∧ ∃ ls2, VStep P n o g ls2 ws ∧ ∀ l ∈ ls2, l ∈ t) ∨ (b = false ∧ skipW n o ws))

theorem VStep.congr {P : Program} {n : Nat} {o : Oper} {g g' : Gm} {ls : List Loc} {ws : List W} (h : VStep P n o g ls ws) (hg : ∀ l ∈ ls, g' l = g l) : VStep P n o g' ls ws := by
  rcases h with ⟨h1, h2⟩ | ⟨f, ts, args, ds, mk, res, h1, h2, h3, h4⟩ | ⟨f, ts, args, mk, h1, h2, h3⟩ | ⟨rd, h1, h2⟩
  · exact .inl ⟨h1, Rd.Runs_congr h2 hg⟩
  · exact .inr (.inl ⟨f, ts, args, ds, mk, res, h1, Rd.Runs_congr h2 hg, h3, h4⟩)
  · exact .inr (.inr (.inl ⟨f, ts, args, mk, h1, h2, Rd.Runs_congr h3 hg⟩))
  · exact .inr (.inr (.inr ⟨rd, h1, Rd.Runs_congr h2 hg⟩))

theorem Exec.congr {P : Program} {n : Nat} {all : Array Oper} {o : Oper} {g g' : Gm} {t : List Loc} {ws : List W} (h : Exec P n all o g t ws) (hg : ∀ l ∈ t, g' l = g l) : Exec P n all o g' t ws := by
  obtain ⟨ls, b, h1, h2, h3⟩ := h
  refine ⟨ls, b, Rd.Runs_congr h1 (fun l hl => hg l (h2 l hl)), h2, ?_⟩
  rcases h3 with ⟨e, ls2, h4, h5⟩ | h3
  · exact .inl ⟨e, ls2, h4.congr (fun l hl => hg l (h5 l hl)), h5⟩
  · exact .inr h3

section
variable {P : Program} {cx : Cx} {a : Act} {w : World}

theorem VStep.sound {o : Oper} {g : Gm} {ls : List Loc} {ws : List W} (h : VStep P cx.n o g ls ws) (hS : Sim cx g a w) {K : Act → World → Prop} {Q : Exit → Act → World → Prop}
    (hk : ∀ a' w', Sim cx (apps g ws) a' w' → K a' w') : o.wp P a w K Q := by
  obtain ⟨G, hS⟩ := hS
  rcases h with ⟨_, h2⟩ | ⟨f, ts, args, ds, mk, res, h1, h2, h3, rfl⟩ | ⟨f, ts, args, mk, h1, h2, h3⟩ | ⟨rd, h1, h2⟩
  · exact vop_sound hS h2 hk
  · exact vCall_sound (callOf_spec h1) hS h2 h3 hk
  · exact vCallM_sound (callOf_spec h1) hS h3 h2 hk
  · exact h1 cx G g a w _ _ rfl hS h2 K Q hk

theorem Exec.sound {all : Array Oper} {o : Oper} {g : Gm} {t : List Loc} {ws : List W} (h : Exec P cx.n all o g t ws) (hS : Sim cx g a w) {K : Act → World → Prop} {Q : Exit → Act → World → Prop}
    (hk : ∀ a' w', Sim cx (apps g ws) a' w' → K a' w') :
    if Region.wanted o (yielded all a.tmps) then o.wp P a w K Q ∨ (o.asks P a w ∧ LetsOut Q) else K (a.put o.dst undef) w := by
  obtain ⟨ls, b, h1, _, h3⟩ := h
  obtain ⟨G, hG⟩ := id hS
  have hw := guardV_sound hG h1
  rcases h3 with ⟨rfl, ls2, h4, _⟩ | ⟨rfl, h3⟩
  · rw [if_pos hw]; exact .inl (h4.sound hS hk)
  · rw [if_neg (by rw [hw]; simp)]
    unfold skipW at h3
    cases hd : o.dst with
    | none =>
      simp only [hd] at h3
      subst h3
      exact hk _ _ (by simpa [Act.put, apps] using hS)
    | some d =>
      simp only [hd] at h3
      obtain ⟨hlt, rfl⟩ := h3
      refine hk _ _ ⟨G, ?_⟩
      exact hG.put hlt (by simp [ROk, AOk])

end

/-- What a write touches. -/
inductive WK where
  | reg (d : Nat)
  | leaf (r j : Nat)
  | root (r : Nat)
def keyOf : W → WK
  | .reg d _ => .reg d
  | .leaf r j _ => .leaf r j
  | .root r _ _ => .root r

/-- What each operation of a region has read and written, the last first. -/
abbrev Tr := List (List Loc × List WK)

/-- Is the operation wanted? The state says so from here on. -/
def guardO (all : Array Oper) (o : Oper) (σ : VS) (K : VS → List Loc → Bool → Prop) : Prop :=
  match o.guard with
  | none => K σ [] true
  | some (j, want) => match all[j]? with
    | some o' => match o'.dst with
      | some d => match get σ (.reg d) with
        | some (.r (.one (.v (.bool b)))) => caseB b (fun _ => K (.reg d (.one (.v (.bool true))) :: σ) [.reg d] (true == want)) (fun _ => K (.reg d (.one (.v (.bool false))) :: σ) [.reg d] (false == want))
        | some (.r (.one (.v (.tuple _)))) => K σ [.reg d] false
        | _ => False
      | none => False
    | none => False

section
variable (T : Tab) (O : Ops) (ct : Cts) (n : Nat)

def vseqO (all : Array Oper) : List Oper → VS → Tr → (VS → Tr → Prop) → Prop
  | [], σ, acc, K => K σ acc
  | o :: rest, σ, acc, K => guardO all o σ fun σ t b => match b with
    | true => (vopO T O ct n o).wpU (get σ) t fun t out => match out with
      | .ws ws => vseqO all rest (push σ ws) ((t, ws.map keyOf) :: acc) K
      | .call _ _ _ => False
    | false => match o.dst with
      | some d => if d < n then vseqO all rest (.reg d (.one (.v undef)) :: σ) ((t, [.reg d]) :: acc) K else False
      | none => vseqO all rest σ ((t, []) :: acc) K

end

/-- The operations, each at its place in text order. -/
inductive Run (P : Program) (n : Nat) (all : Array Oper) : List Oper → Gm → List (List Loc × List W) → Gm → Prop where
  | nil (g : Gm) : Run P n all [] g [] g
  | cons {o : Oper} {rest : List Oper} {g g' : Gm} {t : List Loc} {ws : List W} {xs : List (List Loc × List W)} : Exec P n all o g t ws → Run P n all rest (apps g ws) xs g' → Run P n all (o :: rest) g ((t, ws) :: xs) g'

theorem get_same {σ : VS} {d : Nat} {x : R} (h : get σ (.reg d) = some (.r x)) : get (.reg d x :: σ) = get σ := by
  funext l
  simp only [get, W.app]
  split
  · rename_i e; rw [e, h]
  · rfl

theorem guardO_spec {all : Array Oper} {o : Oper} {σ : VS} {K : VS → List Loc → Bool → Prop} (h : guardO all o σ K) :
    ∃ σ1 t b, get σ1 = get σ ∧ (guardV all o).Runs (get σ) t b ∧ K σ1 t b := by
  unfold guardO at h
  unfold guardV
  cases hg : o.guard with
  | none => simp only [hg] at h; exact ⟨σ, [], true, rfl, ⟨rfl, rfl⟩, h⟩
  | some jw =>
    obtain ⟨j, want⟩ := jw
    simp only [hg] at h ⊢
    cases ho : all[j]? with
    | none => simp [ho] at h
    | some o' =>
      simp only [ho, Option.bind_some] at h ⊢
      cases hd : o'.dst with
      | none => simp [hd] at h
      | some d =>
        simp only [hd] at h ⊢
        cases hx : get σ (.reg d) with
        | none => simp [hx] at h
        | some v =>
          cases v with
          | h x => simp [hx] at h
          | m a b => simp [hx] at h
          | r x => cases x with
            | agg as => simp [hx] at h
            | tup rs => simp [hx] at h
            | one a => cases a with
              | v y => cases y with
                | bool b =>
                  simp only [hx] at h
                  cases b with
                  | true => exact ⟨_, _, _, get_same hx, by simp [rdR, rd, Rd.Runs, hx], h⟩
                  | false => exact ⟨_, _, _, get_same hx, by simp [rdR, rd, Rd.Runs, hx], h⟩
                | tuple vs =>
                  simp only [hx] at h
                  exact ⟨σ, _, _, rfl, by simp [rdR, rd, Rd.Runs, hx], h⟩
                | _ => simp [hx] at h
              | _ => simp [hx] at h

theorem vseqO_run {P : Program} {T : Tab} (hT : TabOk P T) {ct : Cts} (hct : CtsOk P ct) {n : Nat} {all : Array Oper} : ∀ (ops : List Oper) (σ : VS) (acc : Tr) (K : VS → Tr → Prop), vseqO T stdO ct n all ops σ acc K →
    ∃ xs σ', Run P n all ops (get σ) xs (get σ') ∧ K σ' ((xs.map fun x => (x.1, x.2.map keyOf)).reverse ++ acc)
  | [], σ, acc, K, h => ⟨[], σ, .nil _, h⟩
  | o :: rest, σ, acc, K, h => by
    simp only [vseqO] at h
    obtain ⟨σ1, t, b, e1, h1, h2⟩ := guardO_spec h
    cases b with
    | true =>
      simp only at h2
      obtain ⟨ls2, out, t2, k1, k2, k3, k4⟩ := Rd.wpU_runs h2
      cases out with
      | call f ds mk => exact k2.elim
      | ws ws =>
        simp only at k2
        obtain ⟨xs, σ', m1, m2⟩ := vseqO_run hT hct rest _ _ _ k2
        rw [get_push] at m1
        rw [e1] at m1 k1
        refine ⟨(t2, ws) :: xs, σ', .cons ⟨t, true, h1, fun l hl => k4 l hl, .inl ⟨rfl, ls2, vop_step hT hct k1, k3⟩⟩ m1, ?_⟩
        simpa using m2
    | false =>
      simp only at h2
      cases hd : o.dst with
      | none =>
        simp only [hd] at h2
        obtain ⟨xs, σ', m1, m2⟩ := vseqO_run hT hct rest _ _ _ h2
        rw [e1] at m1
        refine ⟨(t, []) :: xs, σ', .cons ⟨t, false, h1, fun l hl => hl, .inr ⟨rfl, by simp [skipW, hd]⟩⟩ m1, ?_⟩
        simpa using m2
      | some d =>
        simp only [hd] at h2
        split at h2
        · rename_i hlt
          obtain ⟨xs, σ', m1, m2⟩ := vseqO_run hT hct rest _ _ _ h2
          have e2 : get (W.reg d (.one (.v undef)) :: σ1) = apps (get σ) [W.reg d (.one (.v undef))] := by
            simp only [get, apps, e1]
          rw [e2] at m1
          refine ⟨(t, [.reg d (.one (.v undef))]) :: xs, σ', .cons ⟨t, false, h1, fun l hl => hl, .inr ⟨rfl, by simp [skipW, hd, hlt]⟩⟩ m1, ?_⟩
          simpa [keyOf] using m2
        · exact h2.elim

theorem Run.text {P : Program} {cx : Cx} {all : Array Oper} {Q : Exit → Act → World → Prop} : ∀ {ops : List Oper} {g g' : Gm} {xs : List (List Loc × List W)} {a : Act} {w : World}, Run P cx.n all ops g xs g' → Sim cx g a w →
    (∀ a' w', Sim cx g' a' w' → Q .normal a' w') → wpList P all Q ops a w
  | _, _, _, _, a, w, .nil g, hS, hk => hk a w hS
  | _, _, _, _, a, w, .cons he hr, hS, hk => by
    simp only [wpList]
    exact he.sound hS (fun a' w' hs => hr.text hs hk)

end Go.V

/-
  The value-level condition generator, part 23: regions whose order is drawn.
-/
namespace Go.V

def WK.hits : WK → Loc → Bool
  | .reg d, .reg d' => d.beq d'
  | .leaf r j, .leaf r' j' => r.beq r' && j.beq j'
  | .root r, .leaf r' _ => r.beq r'
  | .root r, .meta_ r' => r.beq r'
  | _, _ => false
def WK.clash : WK → WK → Bool
  | .reg d, .reg d' => d.beq d'
  | .leaf r j, .leaf r' j' => r.beq r' && j.beq j'
  | .root r, .leaf r' _ => r.beq r'
  | .leaf r _, .root r' => r.beq r'
  | .root r, .root r' => r.beq r'
  | _, _ => false

theorem clash_of {k k' : WK} {l : Loc} (h : k.hits l = true) (h' : k'.hits l = true) : k.clash k' = true := by
  cases k <;> cases k' <;> cases l <;> simp_all [WK.hits, WK.clash]

theorem app_other {g : Gm} {x : W} {l : Loc} (h : (keyOf x).hits l = false) : x.app g l = g l := by
  cases x <;> cases l <;> simp only [keyOf, WK.hits, W.app] at h ⊢ <;> first
    | rfl
    | (rw [if_neg]; intro e; cases e; simp at h)
    | (rw [if_neg]; intro e; subst e; simp at h)
theorem app_hit {g g' : Gm} {x : W} {l : Loc} (h : (keyOf x).hits l = true) : x.app g l = x.app g' l := by
  cases x <;> cases l <;> simp_all [keyOf, WK.hits, W.app]

def touches (ws : List W) (l : Loc) : Bool := ws.any fun x => (keyOf x).hits l

theorem apps_other {l : Loc} : ∀ {ws : List W} {g : Gm}, touches ws l = false → apps g ws l = g l
  | [], _, _ => rfl
  | x :: ws, g, h => by
    simp only [touches, List.any_cons, Bool.or_eq_false_iff] at h
    simp only [apps]
    rw [apps_other (ws := ws) h.2, app_other h.1]
theorem apps_at {l : Loc} : ∀ {ws : List W} {g g' : Gm}, g l = g' l → apps g ws l = apps g' ws l
  | [], _, _, h => h
  | x :: ws, g, g', h => by
    simp only [apps]
    refine apps_at (ws := ws) ?_
    cases hx : (keyOf x).hits l with
    | true => exact app_hit hx
    | false => rw [app_other hx, app_other hx, h]
theorem apps_hit {l : Loc} : ∀ {ws : List W} {g g' : Gm}, touches ws l = true → apps g ws l = apps g' ws l
  | [], _, _, h => by simp [touches] at h
  | x :: ws, g, g', h => by
    simp only [touches, List.any_cons, Bool.or_eq_true] at h
    simp only [apps]
    cases hx : (keyOf x).hits l with
    | true => exact apps_at (app_hit hx)
    | false =>
      rw [hx] at h
      exact apps_hit (h.resolve_left (by simp))

/-- The writes of the listed, in text order. -/
def sel (wsOf : Nat → List W) (p : Nat → Bool) (m : Nat) : List W := ((List.range m).filter p).flatMap wsOf

theorem apps_flat (wsOf : Nat → List W) (l : Loc) : ∀ (is : List Nat) (g : Gm), apps g (is.flatMap wsOf) l = apps g ((is.filter fun i => touches (wsOf i) l).flatMap wsOf) l
  | [], g => rfl
  | i :: is, g => by
    simp only [List.flatMap_cons, List.filter_cons, apps_append]
    cases h : touches (wsOf i) l with
    | true => simp only [if_true, List.flatMap_cons, apps_append]; exact apps_flat wsOf l is _
    | false =>
      simp only [Bool.false_eq_true, if_false]
      rw [← apps_flat wsOf l is g]
      exact apps_at (apps_other h)

theorem sel_congr {wsOf : Nat → List W} {p q : Nat → Bool} {m : Nat} {l : Loc} {g : Gm} (h : ∀ i, i < m → touches (wsOf i) l = true → p i = q i) : apps g (sel wsOf p m) l = apps g (sel wsOf q m) l := by
  unfold sel
  rw [apps_flat, apps_flat wsOf l ((List.range m).filter q)]
  have e : ((List.range m).filter p).filter (fun i => touches (wsOf i) l) = ((List.range m).filter q).filter (fun i => touches (wsOf i) l) := by
    rw [List.filter_filter, List.filter_filter]
    refine List.filter_congr ?_
    intro i hi
    rw [List.mem_range] at hi
    cases ht : touches (wsOf i) l with
    | true => simp [h i hi ht]
    | false => simp
  rw [e]

theorem sel_last {wsOf : Nat → List W} {q : Nat → Bool} {m j : Nat} {l : Loc} {g g' : Gm} (hj : j < m) (hq : q j = true) (ht : touches (wsOf j) l = true) (h : ∀ i, j < i → i < m → touches (wsOf i) l = true → q i = false) :
    apps g (sel wsOf q m) l = apps g' (wsOf j) l := by
  have e : apps g (sel wsOf q m) l = apps g (sel wsOf (fun i => q i && decide (i ≤ j)) m) l := by
    refine sel_congr ?_
    intro i hi hti
    rcases Nat.lt_or_ge j i with c | c
    · rw [h i c hi hti]; rfl
    · simp [c]
  rw [e]
  have hs : (List.range m).filter (fun i => q i && decide (i ≤ j)) = ((List.range j).filter q) ++ [j] := by
    have : List.range m = List.range j ++ [j] ++ (List.range (m - (j + 1))).map (fun x => (j + 1) + x) := by
      have e1 : List.range (j + 1 + (m - (j + 1))) = List.range (j + 1) ++ (List.range (m - (j + 1))).map (fun x => (j + 1) + x) := List.range_add
      rw [show j + 1 + (m - (j + 1)) = m from by omega] at e1
      rw [e1, List.range_succ]
    rw [this, List.filter_append, List.filter_append]
    have e2 : (List.map (fun x => j + 1 + x) (List.range (m - (j + 1)))).filter (fun i => q i && decide (i ≤ j)) = [] := by
      rw [List.filter_eq_nil_iff]
      intro a ha
      obtain ⟨x, _, rfl⟩ := List.mem_map.1 ha
      simp; intro _; omega
    have e3 : (List.range j).filter (fun i => q i && decide (i ≤ j)) = (List.range j).filter q := by
      refine List.filter_congr ?_
      intro i hi
      rw [List.mem_range] at hi
      simp [Nat.le_of_lt hi]
    rw [e2, e3]
    simp [hq]
  unfold sel
  rw [hs, List.flatMap_append, apps_append]
  simp only [List.flatMap_cons, List.flatMap_nil, List.append_nil]
  exact apps_hit ht

/-! ### The check -/

def predsOf (o : Oper) : List Nat := o.after.toList.filterMap fun e => if Region.binds .any e then some e.on else none
def maskOf (ms : List Nat) : List Nat → Nat
  | [] => 0
  | p :: ps => (1 <<< p) ||| (ms.getD p 0 ||| maskOf ms ps)
def masks : List (List Nat) → List Nat → List Nat
  | [], acc => acc
  | ds :: rest, acc => masks rest (acc ++ [maskOf acc ds])

def pairBad (x y : List Loc × List WK) : Bool :=
  x.2.any fun k => y.1.any (fun l => k.hits l) || y.2.any (fun k' => k.clash k') 
def pairBad' (x y : List Loc × List WK) : Bool := y.2.any fun k => x.1.any fun l => k.hits l

def okRow (mask : Nat) (y : List Loc × List WK) : Nat → Tr → Bool
  | _, [] => true
  | i, x :: xs => (mask.testBit i || !(pairBad x y || pairBad' x y)) && okRow mask y (i + 1) xs
/-- 'xs': those ahead, in text order. -/
def okRows : List Nat → Tr → Tr → Bool
  | m :: ms, xs, y :: ys => okRow m y 0 xs && okRows ms (xs ++ [y]) ys
  | [], _, [] => true
  | _, _, _ => false
def okBack : Nat → List (List Nat) → Bool
  | _, [] => true
  | i, ds :: rest => ds.all (fun p => p.blt i) && okBack (i + 1) rest
def okOrder (ops : Array Oper) (tr : Tr) : Bool :=
  let ps := ops.toList.map predsOf
  okBack 0 ps && okRows (masks ps []) [] tr

end Go.V

/-
  The value-level condition generator, part 24: regions whose order is drawn: any order comes to what text order comes to.
-/
namespace Go.V

theorem Run.at {P : Program} {n : Nat} {all : Array Oper} : ∀ {ops : List Oper} {g g' : Gm} {xs : List (List Loc × List W)}, Run P n all ops g xs g' →
    xs.length = ops.length ∧ g' = apps g (xs.flatMap (·.2)) ∧ ∀ j o, ops[j]? = some o → ∃ t ws, xs[j]? = some (t, ws) ∧ Exec P n all o (apps g ((xs.take j).flatMap (·.2))) t ws
  | _, _, _, _, .nil g => ⟨rfl, rfl, fun j o h => by simp at h⟩
  | _, _, _, _, .cons (t := t) (ws := ws) he hr => by
    obtain ⟨h1, h2, h3⟩ := Run.at hr
    refine ⟨by simp [h1], by rw [h2]; simp [apps_append], ?_⟩
    intro j o h
    cases j with
    | zero => simp at h; subst h; exact ⟨t, ws, rfl, by simpa [apps] using he⟩
    | succ j =>
      simp at h
      obtain ⟨t', ws', e1, e2⟩ := h3 j o h
      exact ⟨t', ws', by simpa using e1, by simpa [apps_append] using e2⟩

theorem take_flat (xs : List (List Loc × List W)) : ∀ j, j ≤ xs.length → (xs.take j).flatMap (·.2) = (List.range j).flatMap fun i => (xs.getD i ([], [])).2
  | 0, _ => rfl
  | j + 1, h => by
    rw [List.take_succ, List.range_succ, List.flatMap_append, List.flatMap_append, take_flat xs j (by omega)]
    congr 1
    rw [List.getElem?_eq_getElem (by omega)]
    simp [List.getElem?_eq_getElem (show j < xs.length by omega)]

theorem range_filter_lt {m j : Nat} (h : j ≤ m) : (List.range m).filter (fun i => decide (i < j)) = List.range j := by
  have e1 : List.range (j + (m - j)) = List.range j ++ (List.range (m - j)).map (fun x => j + x) := List.range_add
  rw [show j + (m - j) = m from by omega] at e1
  rw [e1, List.filter_append]
  have e2 : ((List.range (m - j)).map (fun x => j + x)).filter (fun i => decide (i < j)) = [] := by
    rw [List.filter_eq_nil_iff]
    intro a ha
    obtain ⟨x, _, rfl⟩ := List.mem_map.1 ha
    simp
  rw [e2, List.append_nil]
  exact List.filter_eq_self.2 (fun a ha => by simpa using ha)

theorem masks_spec {S : Nat → Prop} {pr : Nat → List Nat} (hcl : ∀ k, S k → ∀ p ∈ pr k, S p) : ∀ (rest : List (List Nat)) (acc : List Nat),
    (∀ k ds, rest[k]? = some ds → pr (acc.length + k) = ds) →
    (∀ j, j < acc.length → ∀ i, (acc.getD j 0).testBit i = true → (∀ p ∈ pr j, S p) → S i) →
    ∀ j, j < (masks rest acc).length → ∀ i, ((masks rest acc).getD j 0).testBit i = true → (∀ p ∈ pr j, S p) → S i
  | [], acc, _, h => h
  | ds :: rest, acc, hp, h => by
    simp only [masks]
    refine masks_spec hcl rest _ ?_ ?_
    · intro k ds' hk
      have := hp (k + 1) ds' (by simpa using hk)
      simp only [List.length_append, List.length_cons, List.length_nil]
      rw [← this]; congr 1; omega
    · intro j hj i hi hS
      simp only [List.length_append, List.length_cons, List.length_nil] at hj
      rcases Nat.lt_or_ge j acc.length with c | c
      · refine h j c i ?_ hS
        rw [List.getD_eq_getElem?_getD, List.getElem?_append_left c] at hi
        rw [List.getD_eq_getElem?_getD]; exact hi
      · have hj' : j = acc.length := by omega
        subst hj'
        have e0 := hp 0 ds rfl
        rw [Nat.add_zero] at e0
        rw [List.getD_eq_getElem?_getD, List.getElem?_append_right (Nat.le_refl _)] at hi
        simp only [Nat.sub_self, List.getElem?_cons_zero, Option.getD_some] at hi
        rw [e0] at hS
        have key : ∀ (ps : List Nat), (∀ p ∈ ps, S p) → (maskOf acc ps).testBit i = true → S i := by
          intro ps
          induction ps with
          | nil => intro _ hb; simp [maskOf] at hb
          | cons p ps ih =>
            intro hps hb
            simp only [maskOf, Nat.testBit_or, Bool.or_eq_true] at hb
            rcases hb with hb | hb | hb
            · rw [Nat.one_shiftLeft, Nat.testBit_two_pow] at hb
              simp at hb
              subst hb
              exact hps _ (by simp)
            · rcases Nat.lt_or_ge p acc.length with c2 | c2
              · exact h p c2 i hb (hcl p (hps p (by simp)))
              · rw [List.getD_eq_getElem?_getD, List.getElem?_eq_none c2] at hb
                simp at hb
            · exact ih (fun q hq => hps q (by simp [hq])) hb
        exact key ds hS hi

theorem okRow_spec {mask : Nat} {y : List Loc × List WK} : ∀ {xs : Tr} {i0 : Nat}, okRow mask y i0 xs = true → ∀ i x, xs[i]? = some x → mask.testBit (i0 + i) = true ∨ (pairBad x y = false ∧ pairBad' x y = false)
  | [], _, _, i, x, hx => by simp at hx
  | x0 :: xs, i0, h, i, x, hx => by
    simp only [okRow, Bool.and_eq_true, Bool.or_eq_true, Bool.not_eq_true', Bool.or_eq_false_iff] at h
    cases i with
    | zero => simp at hx; subst hx; exact h.1
    | succ i =>
      simp at hx
      have := okRow_spec h.2 i x hx
      rw [show i0 + 1 + i = i0 + (i + 1) from by omega] at this
      exact this

theorem okRows_spec : ∀ {ms : List Nat} {xs ys : Tr}, okRows ms xs ys = true → ∀ j y, ys[j]? = some y → ∃ m, ms[j]? = some m ∧ ∀ i x, (xs ++ ys)[i]? = some x → i < xs.length + j → m.testBit i = true ∨ (pairBad x y = false ∧ pairBad' x y = false)
  | [], _, [], _, j, y, hy => by simp at hy
  | _ :: _, _, [], _, j, y, hy => by simp at hy
  | [], _, _ :: _, h, _, _, _ => by simp [okRows] at h
  | m :: ms, xs, y0 :: ys, h, j, y, hy => by
    simp only [okRows, Bool.and_eq_true] at h
    cases j with
    | zero =>
      simp at hy; subst hy
      refine ⟨m, rfl, ?_⟩
      intro i x hx hi
      rw [List.getElem?_append_left (by omega)] at hx
      have := okRow_spec h.1 i x hx
      rwa [Nat.zero_add] at this
    | succ j =>
      simp at hy
      obtain ⟨m', e1, e2⟩ := okRows_spec h.2 j y hy
      refine ⟨m', by simpa using e1, ?_⟩
      intro i x hx hi
      refine e2 i x (by simpa using hx) (by simp; omega)

theorem okBack_spec : ∀ {pss : List (List Nat)} {i0 : Nat}, okBack i0 pss = true → ∀ i ps, pss[i]? = some ps → ∀ p ∈ ps, p < i0 + i
  | [], _, _, i, ps, h => by simp at h
  | q :: pss, i0, h, i, ps, hi => by
    simp only [okBack, Bool.and_eq_true, List.all_eq_true] at h
    cases i with
    | zero =>
      simp at hi; subst hi
      intro p hp
      have := h.1 p hp
      have h2 : p + 1 ≤ i0 := by simpa [Nat.blt] using this
      omega
    | succ i =>
      simp at hi
      intro p hp
      have := okBack_spec h.2 i ps hi p hp
      omega

theorem masks_length : ∀ (rest : List (List Nat)) (acc : List Nat), (masks rest acc).length = acc.length + rest.length
  | [], acc => rfl
  | ds :: rest, acc => by simp only [masks, masks_length rest]; simp; omega

end Go.V

/-
  The value-level condition generator, part 25: regions whose order is drawn, joined.
-/
namespace Go.V

def lst (listed : Array Bool) (i : Nat) : Bool := listed.getD i false

theorem lst_set {listed : Array Bool} {i k : Nat} (hi : i < listed.size) : lst (listed.setIfInBounds i true) k = (lst listed k || decide (k = i)) := by
  unfold lst
  by_cases e : k = i
  · subst e; simp [hi]
  · rw [getD_set_ne false (Ne.symm e)]; simp [e]

def preds (ops : Array Oper) (k : Nat) : List Nat := match ops[k]? with
  | some o => predsOf o
  | none => []

theorem mem_predsOf {o : Oper} {p : Nat} : p ∈ predsOf o ↔ ∃ e ∈ o.after, Region.binds .any e = true ∧ e.on = p := by
  unfold predsOf
  simp only [List.mem_filterMap, Array.mem_toList_iff]
  constructor
  · rintro ⟨e, he, h⟩
    split at h
    · rename_i hb; cases h; exact ⟨e, he, hb, rfl⟩
    · cases h
  · rintro ⟨e, he, hb, rfl⟩
    exact ⟨e, he, by simp [hb]⟩

theorem touches_iff {ws : List W} {l : Loc} : touches ws l = true ↔ ∃ k ∈ ws.map keyOf, k.hits l = true := by
  unfold touches
  simp only [List.any_eq_true, List.mem_map]
  constructor
  · rintro ⟨x, h1, h2⟩; exact ⟨_, ⟨x, h1, rfl⟩, h2⟩
  · rintro ⟨k, ⟨x, h1, rfl⟩, h2⟩; exact ⟨x, h1, h2⟩

section
variable {P : Program} {cx : Cx} {ops : Array Oper} {Q : Exit → Act → World → Prop} {g0 gm : Gm} {xs : List (List Loc × List W)}

theorem order_back {tr : Tr} (hok : okOrder ops tr = true) {j p : Nat} (hp : p ∈ preds ops j) : p < j := by
  simp only [okOrder, Bool.and_eq_true] at hok
  unfold preds at hp
  cases ho : ops[j]? with
  | none => simp [ho] at hp
  | some o =>
    simp only [ho] at hp
    have := okBack_spec hok.1 j (predsOf o) (by simp [ho]) p hp
    omega

theorem order_pair {tr : Tr} (hok : okOrder ops tr = true) {S : Nat → Prop} (hcl : ∀ k, S k → ∀ p ∈ preds ops k, S p) {i j : Nat} {x y : List Loc × List WK} (hij : i < j) (hx : tr[i]? = some x) (hy : tr[j]? = some y)
    (hS : ∀ p ∈ preds ops j, S p) (hbad : pairBad x y = true ∨ pairBad' x y = true) : S i := by
  simp only [okOrder, Bool.and_eq_true] at hok
  obtain ⟨m, e1, e2⟩ := okRows_spec hok.2 j y hy
  have e3 := e2 i x (by simpa using hx) (by simpa using hij)
  rcases e3 with e3 | ⟨e3, e4⟩
  · refine masks_spec (S := S) (pr := preds ops) hcl (ops.toList.map predsOf) [] ?_ ?_ j (List.getElem?_eq_some_iff.1 e1).1 i ?_ hS
    · intro k ds hk
      simp only [List.getElem?_map, Option.map_eq_some_iff] at hk
      obtain ⟨o, ho, rfl⟩ := hk
      rw [Array.getElem?_toList] at ho
      simp [preds, ho]
    · intro j hj; simp at hj
    · rw [List.getD_eq_getElem?_getD, e1]; exact e3
  · rcases hbad with h | h
    · rw [e3] at h; cases h
    · rw [e4] at h; cases h

theorem draw_sound (hrun : Run P cx.n ops ops.toList g0 xs gm) (hok : okOrder ops (xs.map fun x => (x.1, x.2.map keyOf)) = true) (hQ : ∀ a' w', Sim cx gm a' w' → Q .normal a' w') :
    ∀ (fuel : Nat) (listed : Array Bool) (a : Act) (w : World), listed.size = ops.size → ((List.range ops.size).filter fun i => !lst listed i).length ≤ fuel →
      (∀ k, lst listed k = true → ∀ p ∈ preds ops k, lst listed p = true) →
      Sim cx (apps g0 (sel (fun i => (xs.getD i ([], [])).2) (lst listed) ops.size)) a w → wpAny P .any ops Q fuel listed a w := by
  obtain ⟨hlen, hgm, hat⟩ := Run.at hrun
  have hlen' : xs.length = ops.size := by simpa using hlen
  let wsOf : Nat → List W := fun i => (xs.getD i ([], [])).2
  have hall : gm = apps g0 (sel wsOf (fun _ => true) ops.size) := by
    have := take_flat xs xs.length (Nat.le_refl _)
    rw [List.take_length] at this
    rw [hgm, this, hlen']
    unfold sel
    rw [List.filter_eq_self.2 (fun _ _ => rfl)]
  have hex : ∀ j, j < ops.size → ∃ o t, ops[j]? = some o ∧ xs[j]? = some (t, wsOf j) ∧ Exec P cx.n ops o (apps g0 (sel wsOf (fun i => decide (i < j)) ops.size)) t (wsOf j) := by
    intro j hj
    have ho : ops.toList[j]? = some ops[j] := by simp [hj]
    obtain ⟨t, ws, e1, e2⟩ := hat j _ ho
    have hw : wsOf j = ws := by simp [wsOf, List.getD_eq_getElem?_getD, e1]
    refine ⟨ops[j], t, by simp [hj], by rw [hw]; exact e1, ?_⟩
    rw [hw]
    have e3 := take_flat xs j (by omega)
    unfold sel
    rw [range_filter_lt (by omega)]
    rw [e3] at e2
    exact e2
  have full : ∀ (listed : Array Bool) (a : Act) (w : World), (∀ j, j < ops.size → lst listed j = true) → Sim cx (apps g0 (sel wsOf (lst listed) ops.size)) a w → Q .normal a w := by
    intro listed a w hl hS
    refine hQ a w ?_
    rw [hall]
    have : sel wsOf (lst listed) ops.size = sel wsOf (fun _ => true) ops.size := by
      unfold sel
      congr 1
      exact List.filter_congr (fun i hi => hl i (List.mem_range.1 hi))
    rw [← this]; exact hS
  have noready : ∀ (listed : Array Bool), listed.size = ops.size → Region.ready .any ops listed = [] → ∀ j, j < ops.size → lst listed j = true := by
    intro listed hsz hr j
    induction j using Nat.strongRecOn with
    | _ j ih =>
      intro hj
      cases hl : lst listed j with
      | true => rfl
      | false =>
        exfalso
        have : j ∈ Region.ready .any ops listed := by
          rw [mem_ready]
          refine ⟨?_, ops[j], by simp [hj], ?_⟩
          · unfold lst at hl
            simp only [Array.getD_eq_getD_getElem?] at hl ⊢
            rw [Array.getElem?_eq_getElem (by omega)] at hl ⊢
            simpa using hl
          · intro e he hb
            have hp : e.on ∈ preds ops j := by
              simp only [preds, hj, Array.getElem?_eq_getElem]
              exact mem_predsOf.2 ⟨e, he, hb, rfl⟩
            have hlt := order_back hok hp
            exact ih e.on hlt (by omega)
        rw [hr] at this
        cases this
  intro fuel
  induction fuel with
  | zero =>
    intro listed a w hsz hf hcl hS
    have hnil : (List.range ops.size).filter (fun i => !lst listed i) = [] := List.eq_nil_of_length_eq_zero (by omega)
    have hl : ∀ j, j < ops.size → lst listed j = true := by
      intro j hj
      have := List.filter_eq_nil_iff.1 hnil j (List.mem_range.2 hj)
      simpa using this
    refine ⟨?_, full listed a w hl hS⟩
    rw [List.eq_nil_iff_forall_not_mem]
    intro j hj
    obtain ⟨h1, o, ho, _⟩ := mem_ready.1 hj
    have hjlt := (Array.getElem?_eq_some_iff.1 ho).1
    have := hl j hjlt
    unfold lst at this
    simp only [Array.getD_eq_getD_getElem?] at h1 this
    rw [Array.getElem?_eq_getElem (by omega)] at h1 this
    simp only [Option.getD_some] at h1 this
    rw [h1] at this; cases this
  | succ fuel ih =>
    intro listed a w hsz hf hcl hS
    refine ⟨fun hr => full listed a w (noready listed hsz hr) hS, ?_⟩
    intro i hi
    obtain ⟨h1, o, ho, hpre⟩ := mem_ready.1 hi
    have hilt := (Array.getElem?_eq_some_iff.1 ho).1
    have hni : lst listed i = false := by
      unfold lst
      simp only [Array.getD_eq_getD_getElem?] at h1 ⊢
      rw [Array.getElem?_eq_getElem (by omega)] at h1 ⊢
      simpa using h1
    have hpi : ∀ p ∈ preds ops i, lst listed p = true := by
      intro p hp
      simp only [preds, ho] at hp
      obtain ⟨e, he, hb, rfl⟩ := mem_predsOf.1 hp
      exact hpre e he hb
    obtain ⟨o', t, ho', hxs, hexec⟩ := hex i hilt
    rw [ho] at ho'; cases ho'
    have htr : ∀ k t', xs[k]? = some (t', wsOf k) → (xs.map fun x => (x.1, x.2.map keyOf))[k]? = some (t', (wsOf k).map keyOf) := by
      intro k t' h; simp [h]
    have later : ∀ k, i < k → k < ops.size → ∀ l, touches (wsOf k) l = true → (touches (wsOf i) l = true ∨ l ∈ t) → lst listed k = false := by
      intro k hik hk l hl hc
      cases hlk : lst listed k with
      | false => rfl
      | true =>
        exfalso
        obtain ⟨o2, t2, ho2, hxs2, _⟩ := hex k hk
        have := order_pair hok (S := fun k => lst listed k = true) hcl hik (htr i t hxs) (htr k t2 hxs2) (hcl k hlk) (by
          obtain ⟨q, hq1, hq2⟩ := touches_iff.1 hl
          rcases hc with hc | hc
          · obtain ⟨q', hq3, hq4⟩ := touches_iff.1 hc
            refine .inl ?_
            simp only [pairBad, List.any_eq_true, Bool.or_eq_true]
            exact ⟨q', hq3, .inr ⟨q, hq1, clash_of hq4 hq2⟩⟩
          · refine .inr ?_
            simp only [pairBad', List.any_eq_true]
            exact ⟨q, hq1, l, hc, hq2⟩)
        rw [hni] at this; cases this
    have hexec' : Exec P cx.n ops o (apps g0 (sel wsOf (lst listed) ops.size)) t (wsOf i) := by
      refine hexec.congr ?_
      intro l hl
      refine sel_congr ?_
      intro k hk htk
      rcases Nat.lt_trichotomy k i with c | c | c
      · simp only [c, decide_true]
        obtain ⟨o2, t2, ho2, hxs2, _⟩ := hex k hk
        refine order_pair hok (S := fun k => lst listed k = true) hcl c (htr k t2 hxs2) (htr i t hxs) hpi (.inl ?_)
        obtain ⟨q, hq1, hq2⟩ := touches_iff.1 htk
        simp only [pairBad, List.any_eq_true, Bool.or_eq_true]
        exact ⟨q, hq1, .inl ⟨l, hl, hq2⟩⟩
      · subst c; simp [hni]
      · rw [later k c hk l htk (.inr hl)]
        simp; omega
    show wpOp P ops Q i _ a w
    unfold wpOp
    simp only [ho]
    refine hexec'.sound hS ?_
    intro a' w' hs'
    refine ih _ a' w' (by simp [hsz]) ?_ ?_ ?_
    · have e : (List.range ops.size).filter (fun k => !lst (listed.setIfInBounds i true) k) = ((List.range ops.size).filter (fun k => !lst listed k)).filter (fun k => decide (k ≠ i)) := by
        rw [List.filter_filter]
        refine List.filter_congr ?_
        intro k _
        rw [lst_set (by omega)]
        by_cases hki : k = i <;> simp [hki]
      have hlt : (((List.range ops.size).filter (fun k => !lst listed k)).filter (fun k => decide (k ≠ i))).length < ((List.range ops.size).filter (fun k => !lst listed k)).length := by
        rw [List.length_filter_lt_length_iff_exists]
        exact ⟨i, List.mem_filter.2 ⟨List.mem_range.2 hilt, by simp [hni]⟩, by simp⟩
      rw [e]; omega
    · intro k hk p hp
      rw [lst_set (by omega)] at hk ⊢
      rw [Bool.or_eq_true] at hk
      rcases hk with hk | hk
      · rw [hcl k hk p hp]; rfl
      · simp at hk; subst hk; rw [hpi p hp]; rfl
    · have e : apps (apps g0 (sel wsOf (lst listed) ops.size)) (wsOf i) = apps g0 (sel wsOf (lst (listed.setIfInBounds i true)) ops.size) := by
        funext l
        cases ht : touches (wsOf i) l with
        | true =>
          symm
          refine sel_last hilt ?_ ht ?_
          · rw [lst_set (by omega)]; simp
          · intro k hik hk htk
            rw [lst_set (by omega), later k hik hk l htk (.inl ht)]
            simp; omega
        | false =>
          rw [apps_other ht]
          refine sel_congr ?_
          intro k hk htk
          rw [lst_set (by omega)]
          have : k ≠ i := fun e => by rw [e, ht] at htk; cases htk
          simp [this]
      rw [← e]; exact hs'

/-- **A REGION WHOSE ORDER IS DRAWN.** -/
theorem region_draw {id : Nat} {a : Act} {w : World} (hm : P.follows .mixedOrders = true) (hrun : Run P cx.n ops ops.toList g0 xs gm) (hok : okOrder ops (xs.map fun x => (x.1, x.2.map keyOf)) = true)
    (hQ : ∀ a' w', Sim cx gm a' w' → Q .normal a' w') (hS : ∀ a w, Sim cx g0 a w → Sim cx g0 a { w with drawn := w.drawn + 1 }) (hs : Sim cx g0 a w) : (Code.region id ops true).wp P Q a w := by
  refine wp_region_any hm ?_
  refine draw_sound hrun hok hQ ops.size _ a _ (by simp) ?_ ?_ ?_
  · exact Nat.le_trans (List.length_filter_le _ _) (by simp)
  · intro k hk
    exfalso
    unfold lst at hk
    simp only [Array.getD_eq_getD_getElem?, Array.getElem?_replicate] at hk
    split at hk <;> simp at hk
  · have : sel (fun i => (xs.getD i ([], [])).2) (lst (Array.replicate ops.size false)) ops.size = [] := by
      unfold sel
      have : (List.range ops.size).filter (lst (Array.replicate ops.size false)) = [] := by
        rw [List.filter_eq_nil_iff]
        intro k hk
        have hk := List.mem_range.1 hk
        simp [lst, hk]
      rw [this]; rfl
    rw [this]
    exact hS a w hs

end
end Go.V
