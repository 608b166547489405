/-
  The value-level condition generator, part 12: stores.
-/
import Derived.Test.YtlpkkliogonmnaaV11
set_option linter.all false

namespace Go.V

section
variable {P : Program} {o : Oper} {cx : Cx} {G : Gh} {g : Gm} {a : Act} {w : World}

def NonOwn (g : Gm) (r j : Nat) : Prop := ∀ h l, gl g r j = some h → h.c = .own l → False

def ItemOk (g : Gm) (G : Gh) (w : World) (r j0 m : Nat) (c : H) (v : Value) (S : List Nat) : Prop :=
  v.oneCell' = true ∧ match c with
    | .own l => RdL w l v S ∧ S.Nodup ∧ ∀ b ∈ S, Unf w b ∧ ∃ r' j', G.ow b = some (.leaf r' j') ∧ NonOwn g r' j' ∧ ¬ (r' = r ∧ j0 ≤ j' ∧ j' < j0 + m)
    | .ro l => S = [] ∧ ∃ S', RdL w l v S' ∧ ∀ b ∈ S', G.ow b = some .ro
    | .gone => S = []

def Items (g : Gm) (G : Gh) (w : World) (r j0 m : Nat) : List (H × Option Nat) → List Value → List (List Nat) → Prop
  | [], vs, Ss => vs = [] ∧ Ss = []
  | (c, _) :: lts, vs, Ss => ∃ v vs' S Ss', vs = v :: vs' ∧ Ss = S :: Ss' ∧ ItemOk g G w r j0 m c v S ∧ (∀ b ∈ S, b ∉ Ss'.flatten) ∧ Items g G w r j0 m lts vs' Ss'

theorem run_storeCells_cons (P : Program) (w : World) (b o : Nat) (v : Value) (rest : List Value) (i : Nat) (cur : Array Value) (ty : TypeId) (hb : w.heap[b]? = some (.cells cur ty (0, 0))) (hi : o + i < cur.size) (h1 : v.oneCell' = true) :
    (storeCells ⟨b, o, none⟩ (v :: rest) i).run P w = (storeCells ⟨b, o, none⟩ rest (i + 1)).run P (w.setRow b (cur.setIfInBounds (o + i) v)) := by
  have hcell : w.cell? ⟨b, o + i, none⟩ = some cur[o + i] := by rw [cell_in_row hb]; simp [hi]
  have hfro : w.frozen? ⟨b, o + i, none⟩ = false := by simp [World.frozen?, hb]
  have hst : (store ((⟨b, o, none⟩ : Addr).add i) v).run P w = .ok () (w.setRow b (cur.setIfInBounds (o + i) v)) := by
    rw [add_lit, run_store P w _ v _ h1, hcell]
    simp [hfro, setCell_eq_setRow w b (o + i) cur ty (0, 0) v hb]
  simp only [storeCells, Sem.run_bind, hst, Result.andThen_ok]

theorem Items.step {w' : World} {g' : Gm} {G' : Gh} {r j0 m : Nat} : ∀ {lts : List (H × Option Nat)} {vs : List Value} {Ss : List (List Nat)}, Items g G w r j0 m lts vs Ss →
    (∀ b ∈ Ss.flatten, w'.heap[b]? = w.heap[b]? ∧ G'.ow b = G.ow b) → (∀ b, G.ow b = some .ro → G'.ow b = some .ro ∧ w'.heap[b]? = w.heap[b]?) →
    (∀ r' j', ¬ (r' = r ∧ j0 ≤ j' ∧ j' < j0 + m) → NonOwn g r' j' → NonOwn g' r' j') → Items g' G' w' r j0 m lts vs Ss
  | [], vs, Ss, h, _, _, _ => h
  | (c, og) :: lts, vs, Ss, h, h1, h2, h3 => by
    obtain ⟨v, vs', S, Ss', rfl, rfl, k1, k2, k3⟩ := h
    refine ⟨v, vs', S, Ss', rfl, rfl, ⟨k1.1, ?_⟩, k2, Items.step k3 (fun b hb => h1 b (by simp [hb])) h2 h3⟩
    have k := k1.2
    cases c with
    | own l =>
      simp only at k ⊢
      obtain ⟨q1, q2, q3⟩ := k
      refine ⟨RdL.keep _ _ _ q1 (fun b hb => (h1 b (by simp [hb])).1), q2, fun b hb => ?_⟩
      obtain ⟨u, r', j', e1, e2, e3⟩ := q3 b hb
      have := h1 b (by simp [hb])
      exact ⟨u.keep this.1, r', j', by rw [this.2]; exact e1, h3 r' j' e3 e2, e3⟩
    | ro l =>
      simp only at k ⊢
      obtain ⟨q1, S', q2, q3⟩ := k
      exact ⟨q1, S', RdL.keep _ _ _ q2 (fun b hb => (h2 b (q3 b hb)).2), fun b hb => (h2 b (q3 b hb)).1⟩
    | gone => exact k

theorem storeLeaves_sound {α : Type} (P : Program) (r b off j0 m : Nat) : ∀ (lts : List (H × Option Nat)) (vs : List Value) (Ss : List (List Nat)) (j : Nat) (gk : Gm) (Gk : Gh) (wk : World) (k : List W → Rd α) (ls : List Loc) (out : α),
    SimG cx Gk gk a wk → Gk.loc r = some (b, off) → Items gk Gk wk r j0 m lts vs Ss → OrgsOk cx lts vs → j0 ≤ j → j + lts.length ≤ j0 + m → (∀ i, i < lts.length → gk (.leaf r (j + i)) = g (.leaf r (j + i))) → (storeLeaves r j lts k).Runs g ls out →
    ∃ w2 ls' G' w', SimG cx G' (apps gk w2) a w' ∧ (k w2).Runs g ls' out ∧ (storeCells ⟨b, off + j0, none⟩ vs (j - j0)).run P wk = .ok () w'
  | [], vs, Ss, j, gk, Gk, wk, k, ls, out, hS, hl, hi, _, _, _, _, h => by
    obtain ⟨rfl, rfl⟩ := hi
    exact ⟨[], ls, Gk, wk, hS, by simpa [storeLeaves] using h, rfl⟩
  | (c, og) :: lts, vs, Ss, j, gk, Gk, wk, k, ls, out, hS, hl, hi, hog, hj0, hjm, hag, h => by
    obtain ⟨v, vs', S, Ss', rfl, rfl, k1, k2, k3⟩ := hi
    obtain ⟨hog1, hog2⟩ := hog
    simp only [storeLeaves] at h
    obtain ⟨hv, ls2, _, q, h⟩ := rdH_sound h
    have q0 : gk (.leaf r j) = some (.h hv) := by have := hag 0 (by simp); simpa [q] using this
    obtain ⟨mm, hm⟩ := hS.noloc r _ hl
    obtain ⟨b', off', cur, ty, f1, f2, f3, f4, f5⟩ := hS.boxes r mm hm
    rw [hl] at f1; cases f1
    obtain ⟨_, mm', bx, _, p2, p3, _⟩ := hS.leaf r j _ q0
    rw [hm] at p2; cases p2
    have hlt : off + j < cur.size := by omega
    let w' := wk.setRow b (cur.setIfInBounds (off + j) v)
    have hoth : ∀ b', b' ≠ b → w'.heap[b']? = wk.heap[b']? := fun b' hb' => setRow_other wk b b' _ hb'
    have hnew0 : w'.heap[b]? = some (.cells (cur.setIfInBounds (off + j) v) ty (0, 0)) := setRow_heap wk b cur _ ty _ f3
    have htok : ∀ b', Gk.ow b' ≠ some (.box r) → b' ≠ b := by rintro b' h1 rfl; exact h1 f2
    have hokh := hS.hok (gl_some.2 q0)
    obtain ⟨G', s1, s2, s3, s4, s5, s6⟩ := hS.upd q0 ⟨hv.ver + 1, hv.iv + 1, og, c⟩ v S w' (.inl ⟨Nat.lt_succ_self _, Nat.le_succ _⟩) rfl rfl rfl (by simp [w'])
      (fun b' _ h1 _ => hoth b' (by rintro rfl; exact h1 off hl))
      (by
        intro b1 off1 hl1
        rw [hl] at hl1; cases hl1
        refine ⟨cur, _, ty, f3, hnew0, by simp, fun _ => by simp [hlt], fun i hi => ?_⟩
        rw [Array.getElem?_setIfInBounds, if_neg (Ne.symm hi)])
      (by
        intro l hc b1 hb1
        simp only [HOk, hc] at hokh
        have := hokh.2.2 b1 hb1
        exact this.2.keep (hoth b1 (htok b1 (by rw [this.1]; simp))))
      (by
        have k := k1.2
        cases c with
        | own l =>
          simp only at k ⊢
          refine ⟨RdL.keep _ _ _ k.1 (fun b1 hb1 => ?_), k.2.1, fun b1 hb1 => ?_⟩
          · obtain ⟨u, r', j', e1, _⟩ := k.2.2 b1 hb1
            exact hoth b1 (htok b1 (by rw [e1]; simp))
          · obtain ⟨u, r', j', e1, e2, _⟩ := k.2.2 b1 hb1
            exact ⟨u.keep (hoth b1 (htok b1 (by rw [e1]; simp))), .inl (.inr ⟨r', j', e1, e2⟩)⟩
        | ro l =>
          simp only at k ⊢
          obtain ⟨_, S', e1, e2⟩ := k
          exact ⟨S', RdL.keep _ _ _ e1 (fun b1 hb1 => hoth b1 (htok b1 (by rw [e2 b1 hb1]; simp))), e2⟩
        | gone => trivial) hog1
    have hitems : Items ((W.leaf r j ⟨hv.ver + 1, hv.iv + 1, og, c⟩).app gk) G' w' r j0 m lts vs' Ss' := by
      have key : ∀ (lts : List (H × Option Nat)) (vs : List Value) (Ss : List (List Nat)), Items gk Gk wk r j0 m lts vs Ss → ∀ b1 ∈ Ss.flatten, ∃ r' j', Gk.ow b1 = some (.leaf r' j') := by
        intro lts
        induction lts with
        | nil => intro vs Ss h b1 hb1; obtain ⟨_, rfl⟩ := h; simp at hb1
        | cons x lts ih =>
          obtain ⟨c, og⟩ := x
          intro vs Ss h b1 hb1
          obtain ⟨v, vs', S, Ss', rfl, rfl, k1, k2, k3⟩ := h
          rw [List.flatten_cons, List.mem_append] at hb1
          rcases hb1 with hb1 | hb1
          · have k := k1.2
            cases c with
            | own l => obtain ⟨_, r', j', e, _⟩ := k.2.2 b1 hb1; exact ⟨r', j', e⟩
            | ro l => rw [k.1] at hb1; cases hb1
            | gone => simp only at k; rw [k] at hb1; cases hb1
          · exact ih vs' Ss' k3 b1 hb1
      refine k3.step ?_ ?_ ?_
      · intro b1 hb1
        obtain ⟨r', j', e⟩ := key _ _ _ k3 b1 hb1
        exact ⟨hoth b1 (htok b1 (by rw [e]; simp)), s6 b1 (fun _ hb2 => k2 b1 hb2 hb1)⟩
      · intro b1 hb1
        exact ⟨s5 b1 hb1, hoth b1 (htok b1 (by rw [hb1]; simp))⟩
      · intro r' j' hne hno h' l' e1 e2
        have hne2 : ¬ (r' = r ∧ j' = j) := by rintro ⟨rfl, rfl⟩; exact hne ⟨rfl, hj0, by simp at hjm; omega⟩
        refine hno h' l' ?_ e2
        rw [gl_some] at e1 ⊢
        simp only [W.app] at e1
        rw [if_neg (by intro e; cases e; exact hne2 ⟨rfl, rfl⟩)] at e1
        exact e1
    obtain ⟨w2, ls3, G2, w3, t1, t2, t3⟩ := storeLeaves_sound P r b off j0 m lts vs' Ss' (j + 1) _ G' w' _ ls2 out s1 (by rw [s4]; exact hl) hitems hog2 (by omega) (by simp at hjm; omega) (by
      intro i hi
      have e := hag (i + 1) (by simp; omega)
      rw [show j + 1 + i = j + (i + 1) from by omega]
      simp only [W.app]
      rw [if_neg (by intro e'; injection e'; omega)]
      exact e) h
    refine ⟨.leaf r j ⟨hv.ver + 1, hv.iv + 1, og, c⟩ :: w2, ls3, G2, w3, by simpa [apps] using t1, t2, ?_⟩
    rw [run_storeCells_cons P wk b (off + j0) v vs' (j - j0) cur ty f3 (by omega) k1.1]
    rw [show off + j0 + (j - j0) = off + j from by omega, show j - j0 + 1 = j + 1 - j0 from by omega]
    exact t3

theorem Pks.items (hS : SimG cx G g a w) {lts : List (H × Option Nat)} {srcs : List (Nat × Nat)} {vs : List Value} {Ss : List (List Nat)} (h : Pks g G w lts srcs vs Ss) (hd : distinctP srcs = true) {g1 : Gm} {r j0 m : Nat}
    (hgone : ∀ r' j', (r', j') ∈ srcs → NonOwn g1 r' j') (hrange : ∀ r' j', (r', j') ∈ srcs → ¬ (r' = r ∧ j0 ≤ j' ∧ j' < j0 + m)) : Items g1 G w r j0 m lts vs Ss := by
  induction h with
  | nil => exact ⟨rfl, rfl⟩
  | @cons c og src v S ls srcs vs Ss hk hs ih =>
    obtain ⟨d1, d2, d3⟩ := distinctP_append hd
    refine ⟨v, vs, S, Ss, rfl, rfl, ⟨hk.one hS, ?_⟩, ?_, ih d2 (fun r' j' hm => hgone r' j' (by simp [hm])) (fun r' j' hm => hrange r' j' (by simp [hm]))⟩
    · have f := hk.facts hS
      cases hk with
      | own t =>
        simp only
        refine ⟨(t.facts hS).1, f.1, fun b hb => ?_⟩
        obtain ⟨u, r', j', m1, m2⟩ := f.2 b hb
        exact ⟨u, r', j', m2, hgone r' j' (by simp [m1]), hrange r' j' (by simp [m1])⟩
      | ro l v S' h h2 => exact ⟨rfl, S', h, h2⟩
    · intro b hb hb2
      obtain ⟨_, r', j', m1, m2⟩ := (hk.facts hS).2 b hb
      have key : ∀ {ls : List (H × Option Nat)} {srcs : List (Nat × Nat)} {vs : List Value} {Ss : List (List Nat)}, Pks g G w ls srcs vs Ss → ∀ b ∈ Ss.flatten, ∃ r j, (r, j) ∈ srcs ∧ G.ow b = some (.leaf r j) := by
        intro ls srcs vs Ss ht
        induction ht with
        | nil => intro b hb; simp at hb
        | cons h hs ih =>
          intro b hb
          rw [List.flatten_cons, List.mem_append] at hb
          rcases hb with hb | hb
          · obtain ⟨u, r, j, m1, m2⟩ := (h.facts hS).2 b hb; exact ⟨r, j, by simp [m1], m2⟩
          · obtain ⟨r, j, m1, m2⟩ := ih b hb; exact ⟨r, j, by simp [m1], m2⟩
      obtain ⟨r2, j2, m3, m4⟩ := key hs b hb2
      rw [m2] at m4; cases m4
      exact d3 _ m1 m3

theorem nodup_swap {A Y B N : List Nat} (h : (A ++ Y ++ B).Nodup) (hn : N.Nodup) (hA : ∀ b ∈ N, b ∉ A) (hB : ∀ b ∈ N, b ∉ B) : (A ++ N ++ B).Nodup := by
  rw [List.nodup_append] at h ⊢
  obtain ⟨h1, h2, h3⟩ := h
  rw [List.nodup_append] at h1 ⊢
  obtain ⟨h4, h5, h6⟩ := h1
  refine ⟨⟨h4, hn, fun x hx y hy e => hA y hy (by subst e; exact hx)⟩, h2, fun x hx y hy e => ?_⟩
  rcases List.mem_append.1 hx with hx | hx
  · exact h3 x (by simp [hx]) y hy e
  · exact hB x hx (by subst e; exact hy)

variable {ls : List Loc} {ws : List W} {K : Act → World → Prop} {Q : Exit → Act → World → Prop}

theorem wp_skip_op {w' : World} (hd : o.dst = none) (hr : (execOp a.eval o).run P w = .ok .skip w') (hk : K a w') : o.wp P a w K Q := by
  unfold Oper.wp; rw [hr]; simp only [Oper.upon, hd, Act.put]; exact hk

theorem run_store_op {t : TypeId} {ti : TI} (hti : tyI P t = some ti) {x y : Operand} (ho : o.op = .store t x y) {b o0 : Nat} (he : a.eval x = .pointer (some ⟨b, o0, none⟩)) {vs : List Value} (hc : (a.eval y).cells = vs.toArray) (hl : vs.length = ti.zero.length) {w' : World}
    (hr : (storeCells ⟨b, o0, none⟩ vs 0).run P w = .ok () w') : (execOp a.eval o).run P w = .ok .skip w' := by
  obtain ⟨i, z, e1, e2, e3, e4, e5⟩ := tyI_spec hti
  unfold execOp
  simp [ho, Instr.storeAt, he, Instr.sureAddr, storeVar, run_sizeOf e1, hc, e3, hl, hr]

end

section
variable {P : Program} {o : Oper} {cx : Cx} {G : Gh} {g : Gm} {a : Act} {w : World} {ls : List Loc} {ws : List W} {K : Act → World → Prop} {Q : Exit → Act → World → Prop}

theorem vStore_sound {t : TypeId} {x y : Operand} (ho : o.op = .store t x y) (hdst : o.dst = none) (hS : SimG cx G g a w) (h : (vStore P t x y).Runs g ls (.ws ws))
    (hk : ∀ a' w', Sim cx (apps g ws) a' w' → K a' w') : o.wp P a w K Q := by
  unfold vStore at h
  cases hti : tyI P t with
  | none => simp [hti, Rd.Runs] at h
  | some ti =>
    simp only [hti] at h
    obtain ⟨x0, ls1, hx, h⟩ := ev1_sound hS h
    obtain ⟨r0, ls2, hr, h⟩ := ev_sound hS h
    cases hl : leavesOf r0 with
    | none => simp [hl, Rd.Runs] at h
    | some as =>
      simp only [hl] at h
      obtain ⟨vs, hvs, hv⟩ := leavesOf_sound r0 as _ hl hr
      obtain ⟨iti, z, ei1, ei2, ei3, ei4, ei5⟩ := tyI_spec hti
      have hslen := (zipZ_spec ei4).2.2
      cases x0 with
      | pt r j =>
        simp only at h
        obtain ⟨lts, srcs, Ss, ls3, hp, hpl, h⟩ := putAll_sound hS _ _ _ hvs _ _ _ h
        split at h
        · rename_i hd
          simp only [Bool.and_eq_true, List.all_eq_true] at hd
          obtain ⟨hdist, hrng⟩ := hd
          have hrng' : ∀ r' j', (r', j') ∈ srcs → ¬ (r' = r ∧ j ≤ j' ∧ j' < j + lts.length) := by
            intro r' j' hm ⟨e1, e2, e3⟩
            have := hrng (r', j') hm
            simp [inRange, e1, e2, e3] at this
          obtain ⟨w1, ls4, hS1, h, hg1, hg2⟩ := gones_sound srcs g hS (fun _ _ _ => rfl) hdist _ _ _ h
          have hno : ∀ r' j', (r', j') ∈ srcs → NonOwn (apps g w1) r' j' := by
            intro r' j' hm h' l q1 q2
            obtain ⟨h2, p1, p2⟩ := hg1 r' j' hm
            rw [gl_some, p1] at q1; cases q1
            rw [p2] at q2; cases q2
          obtain ⟨b, off, e1, e2⟩ := hx
          have hlen : vs.length = lts.length := hp.length.1
          obtain ⟨w2, ls5, G', w', s1, s2, s3⟩ := storeLeaves_sound (g := g) P r b off j lts.length lts vs Ss j _ G w _ _ _ hS1 e1 (hp.items hS hdist hno hrng') (hp.orgs hS) (Nat.le_refl _) (Nat.le_refl _)
            (fun i hi => hg2 _ (by rintro r' j' e hm; cases e; exact hrng' _ _ hm ⟨rfl, by omega, by omega⟩)) h
          simp only [Rd.Runs, Out.ws.injEq] at s2
          obtain ⟨_, rfl⟩ := s2
          rw [Nat.sub_self] at s3
          refine wp_skip_op hdst (run_store_op hti ho e2 (cells_of hv (hp.one hS)) (by rw [hlen, hpl, hslen]) s3) (hk _ _ ?_)
          rw [apps_append]
          exact ⟨G', s1⟩
        · simp [Rd.Runs] at h
      | pn r j ver iv p =>
        simp only at h
        obtain ⟨lts, srcs, Ss, ls3, ht, htl, h⟩ := takeAll_sound hS _ _ _ hvs _ _ _ h
        split at h
        · rename_i hd
          simp only [Bool.and_eq_true, List.all_eq_true] at hd
          obtain ⟨hdist, hrng⟩ := hd
          have hnm : (r, j) ∉ srcs := fun hm => by have := hrng (r, j) hm; simp at this
          obtain ⟨w1, ls4, hS1, h, hg1, hg2⟩ := gones_sound srcs g hS (fun _ _ _ => rfl) hdist _ _ _ h
          obtain ⟨h0, ls5, q1, q2, h⟩ := rdH_sound h
          split at h
          · rename_i hgood
            cases hc : h0.c with
            | own l =>
              simp only [hc] at h
              cases hg : getR l p with
              | none => simp [hg, Rd.Runs] at h
              | some pr =>
                obtain ⟨rec, jj⟩ := pr
                simp only [hg, Rd.Runs, Out.ws.injEq] at h
                obtain ⟨hlen, _, rfl⟩ := h
                obtain ⟨h1, f1, f2, f3, f4, f5⟩ := hx
                rw [q1] at f1; cases f1
                obtain ⟨b, o0, g1, g2⟩ := f5 hgood l hc
                have q3 : apps g w1 (.leaf r j) = some (.h h0) := by rw [hg2 _ (by rintro r' j' e hm; cases e; exact hnm hm)]; exact q2
                have hok := hS1.hok (gl_some.2 q3)
                simp only [HOk, hc] at hok
                obtain ⟨cur, ty, fz, base, Sa, S1, Sb, m1, m2, m3, m4, m5, m6, m7⟩ := focus p l _ _ b o0 rec jj hok.1 hok.2.1 g1 hg
                have hbS : b ∈ G.fp r j := by rw [m2]; simp [m3]
                obtain ⟨how, cur0, ty0, hunf⟩ := hok.2.2 b hbS
                rw [m1] at hunf; cases hunf
                have hlt : lts.length = vs.length := by rw [ht.toPks.length.1]; simp
                have hvl : (lts.map (·.1)).length = vs.length := by simp [hlt]
                -- the new row
                let cur' := (cur.toList.take o0 ++ vs ++ cur.toList.drop (o0 + vs.length)).toArray
                let w' := w.setRow b cur'
                have hsz : cur'.size = cur.size := by
                  simp only [cur', List.size_toArray, List.length_append, List.length_take, List.length_drop, Array.length_toList]
                  rw [m4]; omega
                have hst : (storeCells ⟨b, o0, none⟩ vs 0).run P w = .ok () w' := by
                  have := run_storeCells_at P b o0 ty vs 0 cur w m1 (by omega) (ht.one hS)
                  simpa [w', cur'] using this
                have hoth : ∀ b', b' ≠ b → w'.heap[b']? = w.heap[b']? := fun b' hb' => setRow_other w b b' _ hb'
                have hnew0 : w'.heap[b]? = some (.cells cur' ty (0, 0)) := setRow_heap w b cur _ ty _ m1
                have hcell : ∀ i, cur'[i]? = if o0 ≤ i ∧ i < o0 + vs.length then vs[i - o0]? else cur[i]? := by
                  intro i
                  simp only [cur', List.getElem?_toArray]
                  have l1 : (cur.toList.take o0).length = o0 := by simp only [List.length_take, Array.length_toList]; omega
                  rcases Nat.lt_or_ge i o0 with hi | hi
                  · rw [if_neg (by omega), List.append_assoc, List.getElem?_append_left (by omega), List.getElem?_take, if_pos hi]; simp
                  · rcases Nat.lt_or_ge i (o0 + vs.length) with hi2 | hi2
                    · rw [if_pos ⟨hi, hi2⟩, List.append_assoc, List.getElem?_append_right (by omega), l1, List.getElem?_append_left (by omega)]
                    · rw [if_neg (by omega), List.append_assoc, List.getElem?_append_right (by omega), l1, List.getElem?_append_right (by omega), List.getElem?_drop]
                      have : o0 + vs.length + (i - o0 - vs.length) = i := by omega
                      rw [this]; simp
                -- the record's parts
                have hfac := ht.facts hS hdist
                have hndb : b ∉ S1 ∧ b ∉ Sb := by
                  have hn := hok.2.1
                  rw [m2] at hn
                  rw [List.nodup_append] at hn
                  obtain ⟨n1, n2, n3⟩ := hn
                  rw [List.nodup_append] at n1
                  exact ⟨fun hb => n1.2.2 b m3 b hb rfl, fun hb => n3 b (by simp [m3]) b hb rfl⟩
                have hlen' : jj + vs.length ≤ rec.length := by omega
                have m6' : RdRec w (rec.take jj ++ ((rec.drop jj).take vs.length ++ (rec.drop jj).drop vs.length)) ((cur.toList.drop base).take rec.length) S1 := by
                  rw [List.take_append_drop, List.take_append_drop]; exact m6
                obtain ⟨Sx, Sr, rfl, x1, x2⟩ := RdRec.split m6'
                obtain ⟨Sy, Sz, rfl, x3, x4⟩ := RdRec.split x2
                have lj : (rec.take jj).length = jj := by simp only [List.length_take]; omega
                have ly : ((rec.drop jj).take vs.length).length = vs.length := by simp only [List.length_take, List.length_drop]; omega
                have hnb : ∀ c ∈ Ss.flatten, c ≠ b := by
                  rintro c hc0 rfl
                  obtain ⟨_, r', j', k1, k2⟩ := hfac.2 c hc0
                  rw [how] at k2; cases k2
                  exact hnm k1
                have hnfp : ∀ c ∈ Ss.flatten, c ∉ G.fp r j := by
                  intro c hc0 hcf
                  obtain ⟨_, r', j', k1, k2⟩ := hfac.2 c hc0
                  rw [(hok.2.2 c hcf).1] at k2; cases k2
                  exact hnm k1
                have rd1 : RdRec w' (rec.take jj) (((cur'.toList.drop base).take rec.length).take jj) Sx := by
                  have := RdRec.keep (w' := w') _ _ _ x1 (fun c hc0 => hoth c (by rintro rfl; exact hndb.1 (by simp [hc0])))
                  rw [lj] at this
                  have e : (((cur'.toList.drop base).take rec.length).take jj) = (((cur.toList.drop base).take rec.length).take jj) := by
                    apply List.ext_getElem?
                    intro i
                    simp only [List.getElem?_take, List.getElem?_drop, Array.getElem?_toList]
                    by_cases ci : i < jj
                    · have hci := hcell (base + i)
                      rw [if_neg (by omega)] at hci
                      rw [hci]
                    · simp [ci]
                  rw [e]; simpa using this
                have rd2 : RdRec w' (lts.map (·.1)) vs Ss.flatten := RdRec.keep _ _ _ (ht.rec_ hS) (fun c hc0 => hoth c (hnb c hc0))
                have rd3 : RdRec w' ((rec.drop jj).drop vs.length) (((cur'.toList.drop base).take rec.length).drop (jj + vs.length)) Sz := by
                  have := RdRec.keep (w' := w') _ _ _ x4 (fun c hc0 => hoth c (by rintro rfl; exact hndb.1 (by simp [hc0])))
                  rw [lj, ly] at this
                  have e : (((cur'.toList.drop base).take rec.length).drop (jj + vs.length)) = (((cur.toList.drop base).take rec.length).drop (jj + vs.length)) := by
                    apply List.ext_getElem?
                    intro i
                    simp only [List.getElem?_take, List.getElem?_drop, Array.getElem?_toList]
                    by_cases ci : jj + vs.length + i < rec.length
                    · have hci := hcell (base + (jj + vs.length + i))
                      rw [if_neg (by omega)] at hci
                      rw [hci]
                    · simp [ci]
                  rw [e, ← List.drop_drop]; exact this
                have hmid : (cur'.toList.drop base).take rec.length = ((cur'.toList.drop base).take rec.length).take jj ++ (vs ++ ((cur'.toList.drop base).take rec.length).drop (jj + vs.length)) := by
                  have e3 : ((cur'.toList.drop base).take rec.length).drop jj = vs ++ ((cur'.toList.drop base).take rec.length).drop (jj + vs.length) := by
                    rw [← List.drop_drop]
                    conv => lhs; rw [← List.take_append_drop vs.length (((cur'.toList.drop base).take rec.length).drop jj)]
                    congr 1
                    apply List.ext_getElem?
                    intro i
                    simp only [List.getElem?_take, List.getElem?_drop, Array.getElem?_toList]
                    by_cases ci : i < vs.length
                    · have hci := hcell (base + (jj + i))
                      rw [if_pos (by omega)] at hci
                      rw [if_pos ci, if_pos (by omega), hci]
                      congr 1; omega
                    · rw [if_neg ci, List.getElem?_eq_none (by omega)]
                  rw [← e3, List.take_append_drop]
                have rdall : RdRec w' (rec.take jj ++ lts.map (·.1) ++ rec.drop (jj + (lts.map (·.1)).length)) ((cur'.toList.drop base).take rec.length) (Sx ++ (Ss.flatten ++ Sz)) := by
                  rw [hmid, List.append_assoc, hvl, ← List.drop_drop]
                  exact rd1.append (rd2.append rd3)
                have hrd := m7 w' cur' _ _ hnew0 hsz (by
                    intro i hi
                    rw [hcell, if_neg (by omega)]) (by
                    simp only [List.length_append, List.length_take, List.length_drop, hvl]; omega) rdall
                  (fun c hc0 hcb => hoth c hcb)
                rw [← setR_eq p l rec jj _ hg] at hrd
                have hS' : (Sa ++ (Sx ++ (Ss.flatten ++ Sz)) ++ Sb).Nodup := by
                  have hn := hok.2.1
                  rw [m2] at hn
                  have e4 : Sa ++ (Sx ++ (Ss.flatten ++ Sz)) ++ Sb = (Sa ++ Sx) ++ Ss.flatten ++ (Sz ++ Sb) := by simp
                  have e5 : Sa ++ (Sx ++ (Sy ++ Sz)) ++ Sb = (Sa ++ Sx) ++ Sy ++ (Sz ++ Sb) := by simp
                  rw [e4]
                  rw [e5] at hn
                  refine nodup_swap hn hfac.1 (fun c hc0 hcA => hnfp c hc0 ?_) (fun c hc0 hcB => hnfp c hc0 ?_)
                  · rw [m2]; rcases List.mem_append.1 hcA with q | q <;> simp [q]
                  · rw [m2]; rcases List.mem_append.1 hcB with q | q <;> simp [q]
                have hlsz : ∃ sz es, l = .s sz es := by
                  cases l with
                  | s sz es => exact ⟨sz, es, rfl⟩
                  | v y => cases p <;> simp [getR] at hg
                  | g => cases p <;> simp [getR] at hg
                obtain ⟨sz, es, hls⟩ := hlsz
                obtain ⟨es', hes1, hes2⟩ := putRec_s l p (rec.take jj ++ lts.map (·.1) ++ rec.drop (jj + (lts.map (·.1)).length)) sz es hls
                rw [← setR_eq p l rec jj _ hg] at hes1
                obtain ⟨G', s1, _⟩ := hS1.upd q3 ⟨h0.ver, h0.iv + 1, h0.org, .own (setR l p (lts.map (·.1)))⟩ (G.val r j) (Sa ++ (Sx ++ (Ss.flatten ++ Sz)) ++ Sb) w'
                  (.inr ⟨rfl, Nat.lt_succ_self _, rfl, sz, es, es', by rw [hc, hls], by simp only [hes1], hes2⟩) rfl rfl rfl (by simp [w'])
                  (fun b' _ _ h2 => hoth b' (by rintro rfl; exact h2 l hc hbS))
                  (by
                    intro b1 off1 hl1
                    obtain ⟨mm, hm⟩ := hS1.noloc r _ hl1
                    obtain ⟨b2, off2, c2, t2, u1, u2, u3, u4, u5⟩ := hS1.boxes r mm hm
                    rw [hl1] at u1; cases u1
                    have hne : b1 ≠ b := by rintro rfl; rw [how] at u2; cases u2
                    obtain ⟨_, mm', bx, _, p2, p3, _⟩ := hS1.leaf r j _ q3
                    rw [hm] at p2; cases p2
                    exact ⟨c2, c2, t2, u3, by rw [hoth b1 hne]; exact u3, rfl, fun _ => u5 j p3, fun _ _ => rfl⟩)
                  (by
                    intro l' hc' b1 hb1
                    by_cases hb : b1 = b
                    · subst hb; exact ⟨cur', ty, hnew0⟩
                    · exact (hok.2.2 b1 hb1).2.keep (hoth b1 hb))
                  (by
                    simp only
                    refine ⟨hrd, hS', fun b1 hb1 => ?_⟩
                    have hcase : b1 ∈ G.fp r j ∨ b1 ∈ Ss.flatten := by
                      rw [m2]
                      simp only [List.mem_append] at hb1 ⊢
                      rcases hb1 with (q | q | q | q) | q
                      · exact .inl (.inl (.inl q))
                      · exact .inl (.inl (.inr (.inl q)))
                      · exact .inr q
                      · exact .inl (.inl (.inr (.inr (.inr q))))
                      · exact .inl (.inr q)
                    rcases hcase with q | q
                    · refine ⟨?_, .inr ⟨l, hc, q⟩⟩
                      by_cases hb : b1 = b
                      · subst hb; exact ⟨cur', ty, hnew0⟩
                      · exact (hok.2.2 b1 q).2.keep (hoth b1 hb)
                    · obtain ⟨u, r', j', k1, k2⟩ := hfac.2 b1 q
                      refine ⟨u.keep (hoth b1 (hnb b1 q)), .inl (.inr ⟨r', j', k2, fun h' l' z1 z2 => ?_⟩)⟩
                      obtain ⟨h2, p1, p2⟩ := hg1 r' j' k1
                      rw [gl_some, p1] at z1; cases z1
                      rw [p2] at z2; cases z2)
                  (fun i e1 _ => hS1.anc r j h0 (gl_some.2 q3) i e1 ⟨l, hc⟩)
                refine wp_skip_op hdst (run_store_op hti ho g2 (cells_of hv (ht.one hS)) (by rw [← hlt, htl, hslen]) hst) (hk _ _ ?_)
                rw [apps_append]
                exact ⟨G', s1⟩
            | ro l => simp [hc, Rd.Runs] at h
            | gone => simp [hc, Rd.Runs] at h
          · simp [Rd.Runs] at h
        · simp [Rd.Runs] at h
      | _ => simp [Rd.Runs] at h

end

end Go.V
