/-
  The value-level condition generator, part 11: a slice out of its elements; a struct in a register.
-/
import Derived.Test.YtlpkkliogonmnaaV10
set_option linter.all false

namespace Go.V

inductive Rows (w : World) (sz : Nat) : List Rec → List (List Value) → List (List Nat) → Prop
  | nil : Rows w sz [] [] []
  | cons {e vs S es vss Ss} (h : RdRec w e vs S) (hl : vs.length = sz) (hs : Rows w sz es vss Ss) : Rows w sz (e :: es) (vs :: vss) (S :: Ss)

section
variable {P : Program} {o : Oper} {cx : Cx} {G : Gh} {g : Gm} {a : Act} {w : World} {sz : Nat}

theorem Rows.rdEs {es : List Rec} {vss : List (List Value)} {Ss : List (List Nat)} (h : Rows w sz es vss Ss) : RdEs w sz es vss.flatten Ss.flatten := by
  induction h with
  | nil => simp [RdEs]
  | cons h hl hs ih => simp only [RdEs, List.flatten_cons]; exact ⟨_, _, _, _, rfl, hl, h, ih, rfl⟩

theorem Rows.set {es : List Rec} {vss : List (List Value)} {Ss : List (List Nat)} (h : Rows w sz es vss Ss) {e : Rec} {vs : List Value} {S : List Nat} (he : RdRec w e vs S) (hl : vs.length = sz) :
    ∀ i, Rows w sz (es.set i e) (vss.set i vs) (Ss.set i S) := by
  induction h with
  | nil => intro i; exact .nil
  | cons h hl' hs ih =>
    intro i
    cases i with
    | zero => exact .cons he hl hs
    | succ i => exact .cons h hl' (ih i)

theorem Rows.replicate {zr : Rec} {zl : List Value} (h : RdRec w zr zl []) (hl : zl.length = sz) : ∀ n, Rows w sz (List.replicate n zr) (List.replicate n zl) (List.replicate n [])
  | 0 => .nil
  | n + 1 => by simp only [List.replicate_succ]; exact .cons h hl (Rows.replicate h hl n)

theorem foldl_seg (off : Nat) : ∀ (l : List Value) (k : Nat) (cells : Array Value), off + k + l.length ≤ cells.size →
    (l.zipIdx k).foldl (fun cs (c, j) => cs.setIfInBounds (off + j) c) cells = (cells.toList.take (off + k) ++ l ++ cells.toList.drop (off + k + l.length)).toArray
  | [], k, cells, _ => by simp
  | v :: rest, k, cells, h => by
    simp only [List.zipIdx_cons, List.foldl_cons]
    rw [foldl_seg off rest (k + 1) _ (by simp at h ⊢; omega)]
    congr 1
    have e := list_seg_step cells.toList (off + k) v rest (by simp at h ⊢; omega)
    simpa [Array.toList_setIfInBounds, Nat.add_assoc] using e

theorem flatten_len {vss : List (List Value)} (h : ∀ vs ∈ vss, vs.length = sz) : vss.flatten.length = vss.length * sz := by
  induction vss with
  | nil => simp
  | cons v vss ih => simp [h v (by simp), ih (fun x hx => h x (by simp [hx])), Nat.add_mul, Nat.add_comm]

theorem flatten_set : ∀ {vss : List (List Value)}, (∀ vs ∈ vss, vs.length = sz) → ∀ (i : Nat) (vs : List Value), i < vss.length → vs.length = sz →
    vss.flatten.take (i * sz) ++ vs ++ vss.flatten.drop (i * sz + sz) = (vss.set i vs).flatten
  | [], _, i, vs, hi, _ => by simp at hi
  | v :: vss, h, 0, vs, _, hl => by
    have hv := h v (by simp)
    simp only [Nat.zero_mul, List.take_zero, List.nil_append, Nat.zero_add, List.flatten_cons, List.set_cons_zero]
    rw [← hv, List.drop_left]
  | v :: vss, h, i + 1, vs, hi, hl => by
    have hv := h v (by simp)
    have ih := flatten_set (vss := vss) (fun x hx => h x (by simp [hx])) i vs (by simpa using hi) hl
    simp only [List.flatten_cons, List.set_cons_succ]
    rw [← ih]
    have e1 : (v ++ vss.flatten).take ((i + 1) * sz) = v ++ vss.flatten.take (i * sz) := by
      rw [List.take_append, List.take_of_length_le (by rw [hv, Nat.add_mul]; omega), hv, Nat.add_mul]; congr 2; omega
    have e2 : (v ++ vss.flatten).drop ((i + 1) * sz + sz) = vss.flatten.drop (i * sz + sz) := by
      rw [List.drop_append, List.drop_of_length_le (by rw [hv, Nat.add_mul]; omega), hv, Nat.add_mul, List.nil_append]; congr 1; omega
    rw [e1, e2]; simp

def placeV (vss : List (List Value)) : List (Nat × Value) → List (List Value)
  | [] => vss
  | (i, v) :: ps => placeV (vss.set i v.cells.toList) ps

theorem fill_rows : ∀ (parts : List (Nat × Value)) (vss : List (List Value)), (∀ vs ∈ vss, vs.length = sz) → (∀ p ∈ parts, p.1 < vss.length ∧ p.2.cells.size = sz) →
    Instr.fill (fun i => some (i * sz, sz)) vss.flatten.toArray parts = some (placeV vss parts).flatten.toArray
  | [], vss, _, _ => rfl
  | (i, v) :: ps, vss, h, hp => by
    obtain ⟨h1, h2⟩ := hp (i, v) (by simp)
    have hfl := flatten_len h
    have hle : i * sz + sz ≤ vss.length * sz := by rw [← Nat.succ_mul]; exact Nat.mul_le_mul_right _ h1
    simp only [Instr.fill]
    have h2' : v.cells.size = sz := h2
    rw [if_neg (by rw [h2', List.size_toArray, hfl]; simp; exact hle)]
    have e1 : Array.foldl (fun cs (x : Value × Nat) => match x with | (c, j) => cs.setIfInBounds (i * sz + j) c) vss.flatten.toArray v.cells.zipIdx =
        (vss.flatten.take (i * sz) ++ v.cells.toList ++ vss.flatten.drop (i * sz + sz)).toArray := by
      rw [← Array.foldl_toList]
      have := foldl_seg (i * sz) v.cells.toList 0 vss.flatten.toArray (by simp only [List.size_toArray, hfl, Array.length_toList]; simp only at h2; omega)
      simp only [Nat.add_zero, Array.length_toList] at this
      simp only at h2
      rw [h2] at this
      simpa using this
    rw [e1, flatten_set h i _ h1 (by simpa using h2)]
    exact fill_rows ps _ (by
      intro vs hvs
      rcases List.mem_or_eq_of_mem_set hvs with hvs | rfl
      · exact h vs hvs
      · simpa using h2) (fun p hp' => by have := hp p (by simp [hp']); simpa using this)

theorem Tks.toPks {ls : List (L × Option Nat)} {srcs : List (Nat × Nat)} {vs : List Value} {Ss : List (List Nat)} (h : Tks g G w ls srcs vs Ss) : Pks g G w (ls.map fun x => (.own x.1, x.2)) srcs vs Ss := by
  induction h with
  | nil => exact .nil
  | cons h hs ih => exact .cons (.own h) ih

theorem Tks.rec_ (hS : SimG cx G g a w) {ls : List (L × Option Nat)} {srcs : List (Nat × Nat)} {vs : List Value} {Ss : List (List Nat)} (h : Tks g G w ls srcs vs Ss) : RdRec w (ls.map (·.1)) vs Ss.flatten := by
  induction h with
  | nil => simp [RdRec]
  | cons h hs ih => simp only [List.map_cons, RdRec, List.flatten_cons]; exact ⟨_, _, _, _, rfl, (h.facts hS).1, ih, rfl⟩

/-- Of what was taken together: no block twice; each free once its leaf is gone. -/
theorem Tks.facts (hS : SimG cx G g a w) {ls : List (L × Option Nat)} {srcs : List (Nat × Nat)} {vs : List Value} {Ss : List (List Nat)} (h : Tks g G w ls srcs vs Ss) (hd : distinctP srcs = true) :
    Ss.flatten.Nodup ∧ ∀ b ∈ Ss.flatten, Unf w b ∧ ∃ r j, (r, j) ∈ srcs ∧ G.ow b = some (.leaf r j) := by
  induction h with
  | nil => exact ⟨List.nodup_nil, fun b hb => by simp at hb⟩
  | cons h hs ih =>
    obtain ⟨d1, d2, d3⟩ := distinctP_append hd
    obtain ⟨i1, i2⟩ := ih d2
    have f := h.facts hS
    refine ⟨?_, fun b hb => ?_⟩
    · rw [List.flatten_cons, List.nodup_append]
      refine ⟨f.2.1, i1, fun b hb b' hb' e => ?_⟩
      subst e
      obtain ⟨_, r, j, m1, m2⟩ := f.2.2 b hb
      obtain ⟨_, r', j', m3, m4⟩ := i2 b hb'
      rw [m2] at m4; cases m4
      exact d3 _ m1 m3
    · rw [List.flatten_cons, List.mem_append] at hb
      rcases hb with hb | hb
      · obtain ⟨u, r, j, m1, m2⟩ := f.2.2 b hb; exact ⟨u, r, j, by simp [m1], m2⟩
      · obtain ⟨u, r, j, m1, m2⟩ := i2 b hb; exact ⟨u, r, j, by simp [m1], m2⟩

theorem Tks.one (hS : SimG cx G g a w) {ls : List (L × Option Nat)} {srcs : List (Nat × Nat)} {vs : List Value} {Ss : List (List Nat)} (h : Tks g G w ls srcs vs Ss) : ∀ u ∈ vs, u.oneCell' = true := h.toPks.one hS

structure Pt where
  i : Nat
  ls : List L
  v : Value
  vs : List Value
  S : List Nat

/-- The parts of a slice's literal. -/
inductive Pts (g : Gm) (G : Gh) (w : World) (sz len : Nat) : List Pt → List (Nat × Nat) → Prop
  | nil : Pts g G w sz len [] []
  | cons {p ps src srcs} (h : RdRec w p.ls p.vs p.S) (hl : p.vs.length = sz) (hv : p.v.cells = p.vs.toArray) (hi : p.i < len) (hn : distinctP src = true → p.S.Nodup)
      (ht : ∀ b ∈ p.S, Unf w b ∧ ∃ r j, (r, j) ∈ src ∧ G.ow b = some (.leaf r j)) (hs : Pts g G w sz len ps srcs) : Pts g G w sz len (p :: ps) (src ++ srcs)

theorem partsOf_sound (hS : SimG cx G g a w) {ti : TI} {len : Nat} (hsz : ti.slots.length = sz) {α : Type} : ∀ (ps : List (Nat × Operand)) (k : List (Nat × List L) → List (Nat × Nat) → Rd α) (ls : List Loc) (out : α),
    (partsOf ti len ps k).Runs g ls out → ∃ (pts : List Pt) (srcs : List (Nat × Nat)) (ls' : List Loc), Pts g G w sz len pts srcs ∧ ps.map (fun x => (x.1, a.eval x.2)) = pts.map (fun p => (p.i, p.v)) ∧ (k (pts.map fun p => (p.i, p.ls)) srcs).Runs g ls' out
  | [], k, ls, out, h => ⟨[], [], ls, .nil, rfl, by simpa [partsOf] using h⟩
  | (i, x) :: ps, k, ls, out, h => by
    simp only [partsOf] at h
    split at h
    · rename_i hi
      obtain ⟨r, ls1, hr, h⟩ := ev_sound hS h
      cases hl : leavesOf r with
      | none => simp [hl, Rd.Runs] at h
      | some as =>
        simp only [hl] at h
        obtain ⟨vs, hvs, hv⟩ := leavesOf_sound r as _ hl hr
        obtain ⟨lts, src, Ss, ls2, t, tl, h⟩ := takeAll_sound hS _ _ _ hvs _ _ _ h
        obtain ⟨pts, srcs, ls3, h1, h2, h3⟩ := partsOf_sound hS hsz ps _ _ _ h
        have hc := cells_of hv (t.one hS)
        have hlen : vs.length = sz := by rw [(t.toPks.length).1]; simp [tl, hsz]
        refine ⟨⟨i, lts.map (·.1), a.eval x, vs, Ss.flatten⟩ :: pts, src ++ srcs, ls3, .cons (t.rec_ hS) hlen hc hi (fun hd => (t.facts hS hd).1) ?_ h1, by simp [h2], h3⟩
        intro b hb
        clear h2 h3 h1 hl hr hv hc
        -- the tokens do not hang on distinctness
        have key : ∀ {ls : List (L × Option Nat)} {srcs : List (Nat × Nat)} {vs : List Value} {Ss : List (List Nat)}, Tks g G w ls srcs vs Ss → ∀ b ∈ Ss.flatten, Unf w b ∧ ∃ r j, (r, j) ∈ srcs ∧ G.ow b = some (.leaf r j) := by
          intro ls srcs vs Ss ht
          induction ht with
          | nil => intro b hb; simp at hb
          | cons h hs ih =>
            intro b hb
            rw [List.flatten_cons, List.mem_append] at hb
            rcases hb with hb | hb
            · obtain ⟨u, r, j, m1, m2⟩ := (h.facts hS).2.2 b hb; exact ⟨u, r, j, by simp [m1], m2⟩
            · obtain ⟨u, r, j, m1, m2⟩ := ih b hb; exact ⟨u, r, j, by simp [m1], m2⟩
        exact key t b hb
    · simp [Rd.Runs] at h

theorem nodup_set : ∀ {Ss : List (List Nat)} {S : List Nat}, Ss.flatten.Nodup → S.Nodup → (∀ b ∈ S, b ∉ Ss.flatten) → ∀ i, (Ss.set i S).flatten.Nodup ∧ ∀ b ∈ (Ss.set i S).flatten, b ∈ Ss.flatten ∨ b ∈ S
  | [], S, h, hS, hd, i => by simp
  | T :: Ss, S, h, hS, hd, 0 => by
    rw [List.flatten_cons, List.nodup_append] at h
    simp only [List.set_cons_zero, List.flatten_cons]
    refine ⟨List.nodup_append.2 ⟨hS, h.2.1, fun b hb b' hb' e => hd b hb (by subst e; simp [hb'])⟩, fun b hb => ?_⟩
    rcases List.mem_append.1 hb with hb | hb
    · exact .inr hb
    · exact .inl (by simp [hb])
  | T :: Ss, S, h, hS, hd, i + 1 => by
    rw [List.flatten_cons, List.nodup_append] at h
    simp only [List.flatten_cons, List.mem_append, not_or] at hd
    obtain ⟨k1, k2⟩ := nodup_set h.2.1 hS (fun b hb => (hd b hb).2) i
    simp only [List.set_cons_succ, List.flatten_cons]
    refine ⟨List.nodup_append.2 ⟨h.1, k1, fun b hb b' hb' e => ?_⟩, fun b hb => ?_⟩
    · subst e
      rcases k2 b hb' with q | q
      · exact h.2.2 b hb b q rfl
      · exact (hd b q).1 hb
    · rcases List.mem_append.1 hb with hb | hb
      · exact .inl (by simp [hb])
      · rcases k2 b hb with q | q
        · exact .inl (by simp [q])
        · exact .inr q

theorem Pts.place {len : Nat} : ∀ {pts : List Pt} {srcs : List (Nat × Nat)}, Pts g G w sz len pts srcs → distinctP srcs = true → ∀ (used : List (Nat × Nat)), (∀ p ∈ srcs, p ∉ used) →
    ∀ (es : List Rec) (vss : List (List Value)) (Ss : List (List Nat)), Rows w sz es vss Ss → Ss.flatten.Nodup → (∀ b ∈ Ss.flatten, Unf w b ∧ ∃ r j, (r, j) ∈ used ∧ G.ow b = some (.leaf r j)) →
    ∃ Ss', Rows w sz (placeParts es (pts.map fun p => (p.i, p.ls))) (placeV vss (pts.map fun p => (p.i, p.v))) Ss' ∧ Ss'.flatten.Nodup ∧ ∀ b ∈ Ss'.flatten, Unf w b ∧ ∃ r j, ((r, j) ∈ used ∨ (r, j) ∈ srcs) ∧ G.ow b = some (.leaf r j) := by
  intro pts srcs h
  induction h with
  | nil =>
    intro _ used _ es vss Ss hr hn ht
    refine ⟨Ss, by simpa [placeParts, placeV] using hr, hn, fun b hb => ?_⟩
    obtain ⟨u, r, j, m1, m2⟩ := ht b hb
    exact ⟨u, r, j, .inl m1, m2⟩
  | @cons p ps src srcs hrec hl hv hi hnd htok hs ih =>
    intro hd used hu es vss Ss hr hn ht
    obtain ⟨d1, d2, d3⟩ := distinctP_append hd
    have hdis : ∀ b ∈ p.S, b ∉ Ss.flatten := by
      intro b hb hb2
      obtain ⟨_, r, j, m1, m2⟩ := htok b hb
      obtain ⟨_, r', j', m3, m4⟩ := ht b hb2
      rw [m2] at m4; cases m4
      exact hu _ (by simp [m1]) m3
    obtain ⟨n1, n2⟩ := nodup_set hn (hnd d1) hdis p.i
    obtain ⟨Ss', k1, k2, k3⟩ := ih d2 (used ++ src) (fun q hq => by
        simp only [List.mem_append, not_or]
        exact ⟨hu q (by simp [hq]), fun hq2 => d3 q hq2 hq⟩) (es.set p.i p.ls) (vss.set p.i p.vs) (Ss.set p.i p.S) (hr.set hrec hl p.i) n1 (fun b hb => by
        rcases n2 b hb with q | q
        · obtain ⟨u, r, j, m1, m2⟩ := ht b q; exact ⟨u, r, j, by simp [m1], m2⟩
        · obtain ⟨u, r, j, m1, m2⟩ := htok b q; exact ⟨u, r, j, by simp [m1], m2⟩)
    refine ⟨Ss', ?_, k2, fun b hb => ?_⟩
    · simp only [List.map_cons, placeParts, placeV, hv]; exact k1
    · obtain ⟨u, r, j, m1, m2⟩ := k3 b hb
      refine ⟨u, r, j, ?_, m2⟩
      rcases m1 with m1 | m1
      · rcases List.mem_append.1 m1 with m1 | m1
        · exact .inl m1
        · exact .inr (by simp [m1])
      · exact .inr (by simp [m1])

theorem Pts.cells {len : Nat} {pts : List Pt} {srcs : List (Nat × Nat)} (h : Pts g G w sz len pts srcs) : ∀ p ∈ pts.map (fun p => (p.i, p.v)), p.1 < len ∧ p.2.cells.size = sz := by
  induction h with
  | nil => intro p hp; simp at hp
  | cons hrec hl hv hi hnd htok hs ih =>
    intro p hp
    simp only [List.map_cons, List.mem_cons] at hp
    rcases hp with rfl | hp
    · exact ⟨hi, by simp [hv, hl]⟩
    · exact ih p hp

theorem placeParts_length : ∀ (ps : List (Nat × List L)) (z : List Rec), (placeParts z ps).length = z.length
  | [], _ => rfl
  | (i, ls) :: ps, z => by simp [placeParts, placeParts_length ps]

variable {ls : List Loc} {ws : List W} {K : Act → World → Prop} {Q : Exit → Act → World → Prop}

theorem vBuildSlice_sound {t : TypeId} {len : Nat} {parts : Array (Nat × Operand)} (ho : o.op = .buildSlice t len parts) (hS : SimG cx G g a w) (h : (vBuildSlice P cx.n o.dst t len parts).Runs g ls (.ws ws))
    (hk : ∀ a' w', Sim cx (apps g ws) a' w' → K a' w') : o.wp P a w K Q := by
  unfold vBuildSlice at h
  split at h
  · simp [Rd.Runs] at h
  · rename_i e ti bytes hel
    obtain ⟨e1, e2, inf, e3, e4, e5, e6⟩ := elI_spec hel
    obtain ⟨i, z, f1, f2, f3, f4, f5⟩ := tyI_spec e2
    rw [e3] at f1; cases f1
    obtain ⟨z1, z2, z3⟩ := zipZ_spec f4
    have hzs : z.cells.size = ti.zero.length := by simpa using z2
    split at h
    · rename_i hmax
      obtain ⟨pts, srcs, ls1, hp, hpe, h⟩ := partsOf_sound (sz := ti.zero.length) hS z3 _ _ _ _ h
      split at h
      · rename_i hdist
        obtain ⟨w1, ls4, hS1, h, hg1, hg2⟩ := gones_sound srcs g hS (fun _ _ _ => rfl) hdist _ _ _ h
        obtain ⟨d, ls2, hd, hlt, hm, h⟩ := fresh_sound h
        simp only [Rd.Runs, Out.ws.injEq] at h
        obtain ⟨_, rfl⟩ := h
        have hm1 : apps g w1 (.meta_ d) = none := by rw [hg2 _ (by intro r j e; cases e)]; exact hm
        obtain ⟨Ss, k1, k2, k3⟩ := hp.place hdist [] (fun _ _ hq => by cases hq) _ _ _ (Rows.replicate (z1 w) (by simpa using hzs) len) (by induction len <;> simp_all [List.replicate_succ])
          (fun b hb => by simp at hb)
        have hrd := k1.rdEs
        have hrows : ∀ vs ∈ List.replicate len z.cells.toList, vs.length = ti.zero.length := by
          intro vs hvs; rw [(List.mem_replicate.1 hvs).2]; simpa using hzs
        have hfill := fill_rows (sz := ti.zero.length) (pts.map fun p => (p.i, p.v)) (List.replicate len z.cells.toList) hrows (by simpa using hp.cells)
        let cur := (placeV (List.replicate len z.cells.toList) (pts.map fun p => (p.i, p.v))).flatten.toArray
        have hpe' : (parts.map fun x => (x.1, a.eval x.2)).toList = pts.map fun p => (p.i, p.v) := by simpa using hpe
        have hzero : ((Array.range (len * ti.zero.length)).map (z.cells[· % z.cells.size]!)) = (List.replicate len z.cells.toList).flatten.toArray := by
          have := zeros_eq z.cells len
          rw [hzs] at this ⊢
          rw [← this]
        have hcl : cur.size = len * ti.zero.length := by
          have := hrd.length
          simp only [cur, List.size_toArray]
          rw [this, placeParts_length]; simp
        refine wp_value (v := .slice (some ⟨w.heap.size, 0, none⟩) len len) (w' := w.alloc (.cells cur e)) ?_ (hk _ _ ?_)
        · unfold execOp
          simp only [ho, Instr.buildSlice, Sem.run_bind, run_underlying e1, Result.andThen_ok, run_sizeOf e3, e6]
          rw [if_neg (by omega)]
          by_cases hz : len * ti.zero.length = 0
          · have hl0 : len = 0 := by
              rcases Nat.mul_eq_zero.1 hz with h | h
              · exact h
              · omega
            subst hl0
            have hpn : pts = [] := by
              cases pts with
              | nil => rfl
              | cons p ps => have := (hp.cells (p.i, p.v) (by simp)).1; omega
            subst hpn
            have hpn2 : parts = #[] := by simpa using hpe
            subst hpn2
            simp [Instr.fill, newRow, cur, placeV, Array.range_zero']
          · simp only [if_neg hz, zeroValue, typeInfo, Sem.run_bind, run_program, Result.andThen_ok, e3, Sem.run_pure, f2, hpe', hzero, hfill]
            simp [newRow, cur]
        · rw [apps_append, hd]
          refine hS1.newRow hlt hm1 _ (same_alloc w _) w.heap.size cur e (Nat.le_refl _) (heap_alloc_new w _) _ _ len len (by rw [placeParts_length]; simp) (Nat.le_refl _) ?_ (by rw [hcl]; exact Nat.le_refl _) Ss.flatten ?_ k2 ?_
          · unfold maxLen
            have : len ≤ len * ti.zero.length := Nat.le_mul_of_pos_right _ (by omega)
            omega
          · have : cur.toList.take (len * ti.zero.length) = cur.toList := List.take_of_length_le (by simp [hcl])
            rw [this]
            exact RdEs.keep _ _ _ _ hrd (fun b hb => heap_alloc_old w _ ((k3 b hb).1.lt))
          · intro b hb
            obtain ⟨u, r, j, m1, m2⟩ := k3 b hb
            refine ⟨u.keep (heap_alloc_old w _ u.lt), .inr ⟨r, j, m2, fun h l q1 q2 => ?_⟩, fun e => by have := u.lt; omega⟩
            rcases m1 with m1 | m1
            · cases m1
            · obtain ⟨h', p1, p2⟩ := hg1 r j m1
              rw [gl_some, p1] at q1; cases q1
              rw [p2] at q2; cases q2
      · simp [Rd.Runs] at h
    · simp [Rd.Runs] at h

end

end Go.V
