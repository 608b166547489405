/-
  The value-level condition generator, part 35: the contract of a function that writes into its arguments.
-/
import Derived.Test.YtlpkkliogonmnaaV31
set_option linter.all false

namespace Go.V

def lvHv : Nat → Rec → List Hv
  | _, [] => []
  | i, l :: ls => match l with
    | .s sz es => ⟨0, 0, some i, .own (.s sz es)⟩ :: lvHv (i + 1) ls
    | .v x => ⟨0, 0, none, .own (.v x)⟩ :: lvHv i ls
    | .g => ⟨0, 0, none, .own .g⟩ :: lvHv i ls
def initWs (O : Ops) : Nat → Nat → List DV → List W
  | _, _, [] => []
  | p, i, d :: ds => .root p false (lvHv i (dvLeaves d)) :: .reg p (resRO O p 0 d) :: initWs O (p + 1) (i + (slL (dvLeaves d)).length) ds
def initM (O : Ops) (ds : List DV) : VS := push [] (initWs O 0 0 ds)

def outsR {α : Type} (pr : (Unit → Prop) → Prop) (os : Nat → L) : List (Nat × Nat) → Nat → Rd α → Rd α
  | [], _, k => k
  | (r, j) :: ps, i, k => rdH r j fun h => match h.org with
    | some i' => if Nat.beq i' i then match h.c with
      | .own (.s sz es) => .req (pr fun _ => L.s sz es = os i) (outsR pr os ps (i + 1) k)
      | _ => .fail
      else .fail
    | none => .fail
def vretM (T : Tab) (O : Ops) (ts : List TypeId) (rvs : List ResultVar) (locs : List (Nat × Nat)) (σ : VS) (res : List DV) (outs : Nat → L) : Prop :=
  (resDsO T O ts rvs fun ds srcs => if distinctP (srcs ++ locs) then .req (O.pr fun _ => ds = res) (outsR O.pr outs locs 0 (.ret ())) else .fail).wpU (get σ) [] fun _ _ => True
def finM (T : Tab) (O : Ops) (ts : List TypeId) (rvs : List ResultVar) (locs : List (Nat × Nat)) (res : List DV) (outs : Nat → L) : Ex → VS → Prop
  | .normal, σ => vretM T O ts rvs locs σ res outs
  | .ret, σ => vretM T O ts rvs locs σ res outs
  | .exit _, _ => False

section
variable {P : Program} {cx : Cx} {G : Gh} {g : Gm} {a : Act} {w : World}

theorem lvHv_at : ∀ {ls : Rec} {vs : List Value} {i : Nat}, vs.length = ls.length → (∀ k v, (slV ls vs)[k]? = some v → cx.anc (i + k) = v) → ∀ (j : Nat) (h : Hv), (lvHv i ls)[j]? = some h →
    ∃ l v og, ls[j]? = some l ∧ vs[j]? = some v ∧ h = ⟨0, 0, og, .own l⟩ ∧ OrgOk cx h.c h.org v
  | [], vs, i, _, _, j, h, e => by simp [lvHv] at e
  | l :: ls, [], i, hl, _, j, h, e => by simp at hl
  | l :: ls, v :: vs, i, hl, ha, j, h, e => by
    cases l with
    | s sz es =>
      simp only [lvHv] at e
      cases j with
      | zero =>
        simp at e; subst e
        refine ⟨_, v, some i, rfl, rfl, rfl, fun k hk _ => ?_⟩
        cases hk
        exact (ha 0 v (by simp [slV])).symm
      | succ j =>
        obtain ⟨l, v', og, e1, e2, e3, e4⟩ := lvHv_at (ls := ls) (vs := vs) (i := i + 1) (by simpa using hl) (fun k v hk => by rw [show i + 1 + k = i + (k + 1) from by omega]; exact ha (k + 1) v (by simpa [slV] using hk)) j h (by simpa using e)
        exact ⟨l, v', og, by simpa using e1, by simpa using e2, e3, e4⟩
    | v x =>
      simp only [lvHv] at e
      cases j with
      | zero => simp at e; subst e; exact ⟨_, v, none, rfl, rfl, rfl, OrgOk.none⟩
      | succ j =>
        obtain ⟨l, v', og, e1, e2, e3, e4⟩ := lvHv_at (ls := ls) (vs := vs) (i := i) (by simpa using hl) (fun k v hk => ha k v (by simpa [slV] using hk)) j h (by simpa using e)
        exact ⟨l, v', og, by simpa using e1, by simpa using e2, e3, e4⟩
    | g =>
      simp only [lvHv] at e
      cases j with
      | zero => simp at e; subst e; exact ⟨_, v, none, rfl, rfl, rfl, OrgOk.none⟩
      | succ j =>
        obtain ⟨l, v', og, e1, e2, e3, e4⟩ := lvHv_at (ls := ls) (vs := vs) (i := i) (by simpa using hl) (fun k v hk => ha k v (by simpa [slV] using hk)) j h (by simpa using e)
        exact ⟨l, v', og, by simpa using e1, by simpa using e2, e3, e4⟩
theorem lvHv_length : ∀ {ls : Rec} {i : Nat}, (lvHv i ls).length = ls.length
  | [], i => rfl
  | l :: ls, i => by cases l <;> simp [lvHv, lvHv_length (ls := ls)]
theorem lvHv_some {ls : Rec} {i j : Nat} {l : L} (h : ls[j]? = some l) : ∃ og, (lvHv i ls)[j]? = some ⟨0, 0, og, .own l⟩ := by
  induction ls generalizing i j with
  | nil => simp at h
  | cons x ls ih =>
    cases j with
    | zero => simp at h; subst h; cases x <;> exact ⟨_, rfl⟩
    | succ j =>
      simp at h
      cases x with
      | s sz es => obtain ⟨og, e⟩ := ih (i := i + 1) h; exact ⟨og, by simpa [lvHv] using e⟩
      | v y => obtain ⟨og, e⟩ := ih (i := i) h; exact ⟨og, by simpa [lvHv] using e⟩
      | g => obtain ⟨og, e⟩ := ih (i := i) h; exact ⟨og, by simpa [lvHv] using e⟩
theorem slV_length : ∀ {ls : Rec} {vs : List Value}, vs.length = ls.length → (slV ls vs).length = (slL ls).length
  | [], [], _ => rfl
  | [], _ :: _, h => by simp at h
  | _ :: _, [], h => by simp at h
  | l :: ls, v :: vs, h => by
    have ih := slV_length (ls := ls) (vs := vs) (by simpa using h)
    cases l <;> simp [slV, slL, ih]

theorem put_self {a : Act} {p : Nat} {v : Value} (hp : p < a.tmps.size) (h : a.tmps.getD p undef = v) : a.put (some p) v = a := by
  obtain ⟨t, d⟩ := a
  simp only [Act.put] at *
  congr 1
  apply Array.ext_getElem?
  intro i
  rw [Array.getElem?_setIfInBounds]
  by_cases e : p = i
  · subst e
    rw [if_pos rfl, if_pos hp]
    rw [← h, Array.getD_eq_getD_getElem?, Array.getElem?_eq_getElem hp]; rfl
  · rw [if_neg e]

theorem initWs_sim : ∀ (ds : List DV) (p i : Nat) (vs : List Value) (S : List Nat) (g : Gm) (G : Gh), SimG cx G g a w → (∀ r, p ≤ r → g (.meta_ r) = none) → RdDVs w ds vs S → S.Nodup →
    (∀ b ∈ S, Unf w b ∧ G.ow b = some (.leaf cx.n 0)) → p + ds.length ≤ cx.n → (∀ k v, vs[k]? = some v → a.tmps.getD (p + k) undef = v) → (∀ k v, (argVals ds vs)[k]? = some v → cx.anc (i + k) = v) →
    Sim cx (apps g (initWs stdO p i ds)) a w
  | [], p, i, vs, S, g, G, hS, _, _, _, _, _, _, _ => ⟨G, hS⟩
  | d :: ds, p, i, vs, S, g, G, hS, hm, hr, hnd, htok, hn, hv, ha => by
    simp only [RdDVs] at hr
    obtain ⟨v, vs', S1, S2, rfl, h1, h2, rfl⟩ := hr
    rw [List.nodup_append] at hnd
    obtain ⟨n1, n2, n3⟩ := hnd
    -- the leaves' values
    obtain ⟨lv, q1, q2, q3, q4⟩ : ∃ lv, RdRec w (dvLeaves d) lv S1 ∧ (∀ dl, d = .one dl → lv = [v]) ∧ (∀ dls, d = .agg dls → v = .agg lv.toArray) ∧ argVals (d :: ds) (v :: vs') = slV (dvLeaves d) lv ++ argVals ds vs' := by
      cases d with
      | one l => exact ⟨[v], by simp only [dvLeaves, RdRec]; exact ⟨v, [], S1, [], rfl, h1, ⟨rfl, rfl⟩, by simp⟩, fun _ _ => rfl, (fun _ e => by cases e), rfl⟩
      | agg ls => obtain ⟨us, rfl, h1'⟩ := h1; exact ⟨us, h1', (fun _ e => by cases e), (fun _ e => by cases e; rfl), by simp [argVals, dvLeaves]⟩
    obtain ⟨Ss, s1, s2, s3⟩ := q1.items
    have hlen := q1.length
    have ha1 : ∀ k v, (slV (dvLeaves d) lv)[k]? = some v → cx.anc (i + k) = v := by
      intro k u hk
      refine ha k u ?_
      rw [q4, List.getElem?_append_left (List.getElem?_eq_some_iff.1 hk).1]; exact hk
    have hat := fun j h => lvHv_at (cx := cx) (ls := dvLeaves d) (vs := lv) (i := i) hlen ha1 j h
    have hnone : gl g cx.n 0 = none := by
      cases e : gl g cx.n 0 with
      | none => rfl
      | some y =>
        obtain ⟨_, k, bx, _, e2, _⟩ := hS.leaf cx.n 0 _ (gl_some.1 e)
        rw [hm cx.n (by simp at hn; omega)] at e2; cases e2
    obtain ⟨G', k1, k2, _, _, k5⟩ := hS.newRoot (hm p (Nat.le_refl _)) false (lvHv i (dvLeaves d)) w (Same.refl _ _) (fun j => lv.getD j undef) (fun j => Ss.getD j [])
      (by
        intro j h hj
        obtain ⟨l, u, og, e1, e2, e3, _⟩ := hat j h hj
        obtain ⟨u', z1, z2⟩ := s3 j l e1
        rw [e3]
        simp only [New]
        refine ⟨by simpa [List.getD, z1] using z2, nodup_getD (by rw [s1]; exact n1) j, fun b hb => ?_⟩
        have := htok b (List.mem_append.2 (.inl (by rw [← s1]; exact flatten_getD hb)))
        exact ⟨this.1, .inr ⟨cx.n, 0, this.2, fun h l e => by rw [hnone] at e; cases e⟩⟩)
      (by
        intro j h hj
        obtain ⟨l, u, og, e1, e2, e3, e4⟩ := hat j h hj
        have : lv.getD j undef = u := by simp [List.getD, e2]
        rw [this]; exact e4)
      (fun i j _ _ hij => flatten_disj (by rw [s1]; exact n1) i j hij) 0 0 (by simp)
    have hpn : p < cx.n := by simp at hn; omega
    have hg : ∀ j l, (dvLeaves d)[j]? = some l → ∃ og, gl ((W.root p false (lvHv i (dvLeaves d))).app g) p (0 + j) = some ⟨0, 0, og, .own l⟩ := by
      intro j l e
      obtain ⟨og, e2⟩ := lvHv_some (i := i) e
      exact ⟨og, by simp [gl, W.app, e2]⟩
    have hrok : ROk (gl ((W.root p false (lvHv i (dvLeaves d))).app g)) G' w (resR p 0 d) v := by
      refine resR_ok h1 hg ?_
      intro lv' z1 z2 z3 j u e
      have : lv' = lv := by
        cases d with
        | one l => rw [z2 l rfl, q2 l rfl]
        | agg ls => have e1 := z3 ls rfl; rw [q3 ls rfl] at e1; simpa using e1.symm
      subst this
      rw [k2, Nat.zero_add]; simp [List.getD, e]
    have hput := k1.put hpn hrok
    have hself : a.put (some p) v = a := put_self (by rw [hS.tm]; exact hpn) (by have := hv 0 v (by simp); simpa using this)
    rw [hself] at hput
    simp only [initWs, apps, resR_std]
    refine initWs_sim ds (p + 1) _ vs' S2 _ G' hput ?_ h2 n2 ?_ (by simp at hn; omega) ?_ ?_
    · intro r hr
      simp only [W.app]
      rw [if_neg (by intro e; cases e), if_neg (by omega)]
      exact hm r (by omega)
    · intro b hb
      have := htok b (List.mem_append.2 (.inr hb))
      refine ⟨this.1, ?_⟩
      rw [k5 b (by simp) (fun j _ hbj => n3 b (by rw [← s1]; exact flatten_getD hbj) b hb rfl)]
      exact this.2
    · intro k u e
      rw [show p + 1 + k = p + (k + 1) from by omega]
      exact hv (k + 1) u (by simpa using e)
    · intro k u e
      have hsl := slV_length hlen
      rw [show i + (slL (dvLeaves d)).length + k = i + ((slV (dvLeaves d) lv).length + k) from by rw [hsl]; omega]
      refine ha _ u ?_
      rw [q4, List.getElem?_append_right (by omega)]
      simpa using e

end
end Go.V
