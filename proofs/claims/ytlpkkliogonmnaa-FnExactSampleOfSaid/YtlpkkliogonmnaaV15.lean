/-
  The value-level condition generator, part 15: all operations.
-/
import Derived.Test.YtlpkkliogonmnaaV14
set_option linter.all false

namespace Go.V

section
variable {P : Program} {o : Oper} {cx : Cx} {G : Gh} {g : Gm} {a : Act} {w : World} {ls : List Loc} {ws : List W} {K : Act → World → Prop} {Q : Exit → Act → World → Prop}

theorem execOp_move {x : Operand} (ho : o.op = .move x ∨ o.op = .assign x) : (execOp a.eval o).run P w = .ok (.value (a.eval x)) w := by
  unfold execOp; rcases ho with h | h <;> rw [h] <;> rfl

theorem plain_sound {x : Operand} {r : R} (ho : o.op = .move x ∨ o.op = .assign x) (hS : SimG cx G g a w) (hr : ROk (gl g) G w r (a.eval x)) (h : (toReg cx.n o.dst r).Runs g ls (.ws ws))
    (hk : ∀ a' w', Sim cx (apps g ws) a' w' → K a' w') : o.wp P a w K Q := toReg_sound hS h hr (execOp_move ho) hk

theorem toReg_ws {n : Nat} {d : Option Tmp} {x : R} {out : Out} (h : (toReg n d x).Runs g ls out) : ∃ ws, out = .ws ws := by
  unfold toReg at h
  split at h
  · split at h
    · simp only [Rd.Runs] at h; exact ⟨_, h.2⟩
    · simp [Rd.Runs] at h
  · simp only [Rd.Runs] at h; exact ⟨_, h.2⟩

theorem assign_sound {x : Operand} (ho : o.op = .assign x) (hS : SimG cx G g a w) (h : (vop P cx.n o).Runs g ls (.ws ws))
    (hk : ∀ a' w', Sim cx (apps g ws) a' w' → K a' w') : o.wp P a w K Q := by
  unfold vop at h
  simp only [ho] at h
  obtain ⟨r, ls1, hr, h⟩ := ev_sound hS h
  cases x with
  | tmp t =>
    cases r with
    | one y =>
      cases y with
      | vw r0 j ver lo m =>
        cases hdst : o.dst with
        | none => simp only [hdst] at h; exact plain_sound (.inr ho) hS hr (by rw [hdst]; exact h) hk
        | some d =>
          simp only [hdst] at h
          split at h
          · rename_i hcond
            obtain ⟨hc1, hc2, hlt⟩ := hcond
            simp only [Rd.Runs] at h
            obtain ⟨ls2, _, h⟩ := h
            split at h
            · obtain ⟨hv, ls3, q1, q2, h⟩ := rdH_sound h
              split at h
              · rename_i sz es hcc horg
                split at h
                · rename_i hver
                  simp only [beq_iff_eq] at hver
                  simp only [Rd.Runs] at h
                  obtain ⟨⟨h0, h1⟩, ls4, _, h⟩ := h
                  simp only [ROk] at hr
                  obtain ⟨h2, f1, f2, f3⟩ := hr
                  rw [q1] at f1; cases f1
                  obtain ⟨f4, base, len, cap, base', cap', g1, g2, g3, g4, g5, g6⟩ := f3 hver sz es hcc
                  have hok := hS.hok q1
                  simp only [HOk, hcc] at hok
                  have hml : m = len := by
                    have hok1 := hok.1
                    simp only [RdL] at hok1
                    obtain ⟨b0, n0, c0, r1, r2, _⟩ := hok1
                    rw [g1] at r1; cases r1; omega
                  have hval := g5 h0 hml
                  have hS1 := hS.gone q2 none
                  have hgone : gl ((W.leaf r0 j ⟨hv.ver + 1, hv.iv, none, .gone⟩).app g) r0 j = some ⟨hv.ver + 1, hv.iv, none, .gone⟩ := by simp [gl, W.app]
                  have hfree : ∀ b ∈ G.fp r0 j, Unf w b ∧ Free ((W.leaf r0 j ⟨hv.ver + 1, hv.iv, none, .gone⟩).app g) G w b := fun b hb => by
                    have := hok.2.2 b hb
                    refine ⟨this.2, .inr ⟨r0, j, this.1, fun h' l' z1 z2 => ?_⟩⟩
                    rw [hgone] at z1; cases z1; cases z2
                  refine wp_value (execOp_move (.inr ho)) (hk _ _ ?_)
                  rw [hdst]
                  split at h
                  · rename_i hmd
                    simp only [Rd.Runs, Out.ws.injEq] at h
                    obtain ⟨_, rfl⟩ := h
                    simp only [List.singleton_append, apps]
                    refine hS1.newSlice hlt (by simp [W.app, hmd]) w rfl rfl rfl (Nat.le_refl _) (fun _ _ _ => rfl) sz es _ (G.fp r0 j) (by rw [hval]; exact hok.1) hok.2.1 hfree
                  · rename_i hmd
                    obtain ⟨hv2, ls5, p1, p2, h⟩ := rdH_sound h
                    simp only [Rd.Runs, Out.ws.injEq] at h
                    obtain ⟨_, rfl⟩ := h
                    have hne : ¬ (d = r0 ∧ 0 = j) := fun e => hc2 e.1.symm
                    have p3 : (W.leaf r0 j ⟨hv.ver + 1, hv.iv, none, .gone⟩).app g (.leaf d 0) = some (.h hv2) := by
                      simp only [W.app]
                      rw [if_neg (by intro e; cases e; exact hne ⟨rfl, rfl⟩)]; exact p2
                    obtain ⟨G', s1, s2, s3, _⟩ := hS1.upd p3 ⟨hv2.ver + 1, hv2.iv + 1, none, .own (.s sz es)⟩ (G.val r0 j) (G.fp r0 j) w (.inl ⟨Nat.lt_succ_self _, Nat.le_succ _⟩) rfl rfl rfl (Nat.le_refl _) (fun _ _ _ _ => rfl)
                      (by
                        intro b off hl
                        obtain ⟨k, hk'⟩ := hS.noloc d _ hl
                        rw [hmd] at hk'; cases hk')
                      (by
                        intro l hcl b hb
                        have := hS1.hok (gl_some.2 p3)
                        simp only [HOk, hcl] at this
                        exact (this.2.2 b hb).2)
                      (by simp only; exact ⟨hok.1, hok.2.1, fun b hb => ⟨(hfree b hb).1, .inl (hfree b hb).2⟩⟩) OrgOk.none
                    simp only [apps]
                    refine ⟨G', s1.put hlt ?_⟩
                    simp only [ROk]
                    have hg : gl ((W.leaf d 0 ⟨hv2.ver + 1, hv2.iv + 1, none, .own (.s sz es)⟩).app ((W.leaf r0 j ⟨hv.ver + 1, hv.iv, none, .gone⟩).app g)) d 0 = some ⟨hv2.ver + 1, hv2.iv + 1, none, .own (.s sz es)⟩ := by simp [gl, W.app]
                    refine ⟨_, hg, Nat.le_refl _, fun _ sz' es' e => ?_⟩
                    cases e
                    rw [s3, if_pos ⟨rfl, rfl⟩, hval]
                    exact ⟨by omega, ViewOf.full hok.1⟩
                  · simp [Rd.Runs] at h
                · simp [Rd.Runs] at h
              · simp [Rd.Runs] at h
            · simp [Rd.Runs] at h
          · exact plain_sound (.inr ho) hS hr (by rw [hdst]; exact h) hk
      | _ => exact plain_sound (.inr ho) hS hr h hk
    | _ => exact plain_sound (.inr ho) hS hr h hk
  | _ => exact plain_sound (.inr ho) hS hr h hk

theorem chk1_sound {x : A} {v : Value} (hx : AOk (gl g) G w x v) {α : Type} {k : Rd α} {out : α} (h : (chk1 x k).Runs g ls out) : v.oneCell' = true ∧ ∃ ls', k.Runs g ls' out := by
  unfold chk1 at h
  cases x with
  | v y =>
    have hv : v = y := hx
    subst hv
    simp only at h
    split at h
    · exact ⟨by assumption, ls, h⟩
    · simp [Rd.Runs] at h
  | nl => have hv : v = .slice none 0 0 := hx; subst hv; exact ⟨rfl, ls, h⟩
  | ro sz es => obtain ⟨S, h1, _⟩ := hx; exact ⟨RdL.one h1, ls, h⟩
  | vw r j ver lo m =>
    simp only at h
    obtain ⟨hv, ls2, q1, q2, h⟩ := rdH_sound h
    split at h
    · rename_i sz es hc
      split at h
      · rename_i hver
        simp only [beq_iff_eq] at hver
        obtain ⟨h2, f1, f2, f3⟩ := hx
        rw [q1] at f1; cases f1
        obtain ⟨f4, base, len, cap, base', cap', g1, g2, _⟩ := f3 hver sz es hc
        rw [g2]
        exact ⟨rfl, ls2, h⟩
      · simp [Rd.Runs] at h
    · simp [Rd.Runs] at h
  | _ => simp [Rd.Runs] at h

theorem chkAll_sound (hS : SimG cx G g a w) {α : Type} {k : Rd α} {out : α} : ∀ (as : List A) (vs : List Value) (ls : List Loc), AOks (gl g) G w as vs → (chkAll as k).Runs g ls out → (∀ u ∈ vs, u.oneCell' = true) ∧ ∃ ls', k.Runs g ls' out
  | [], vs, ls, hx, h => by simp only [AOks] at hx; subst hx; exact ⟨fun u hu => (by cases hu), ls, by simpa [chkAll] using h⟩
  | x :: as, vs, ls, hx, h => by
    obtain ⟨v, vs', rfl, h1, h2⟩ := hx
    simp only [chkAll] at h
    obtain ⟨k1, ls2, h⟩ := chk1_sound h1 h
    obtain ⟨k2, ls3, h⟩ := chkAll_sound hS as vs' ls2 h2 h
    exact ⟨fun u hu => by rcases List.mem_cons.1 hu with rfl | hu; exact k1; exact k2 u hu, ls3, h⟩

theorem buildParts_sound (hS : SimG cx G g a w) {bd : List (Nat × Nat)} {α : Type} : ∀ (ps : List (Nat × Operand)) (as : List A) (vs : List Value) (k : List A → Rd α) (ls : List Loc) (out : α), AOks (gl g) G w as vs → (buildParts bd ps as k).Runs g ls out →
    ∃ as' vs' ls', AOks (gl g) G w as' vs' ∧ (k as').Runs g ls' out ∧ Instr.fill (bd.toArray[·]?) vs.toArray (ps.map fun p => (p.1, a.eval p.2)) = some vs'.toArray
  | [], as, vs, k, ls, out, hx, h => ⟨as, vs, ls, hx, by simpa [buildParts] using h, rfl⟩
  | (i, x) :: ps, as, vs, k, ls, out, hx, h => by
    simp only [buildParts] at h
    split at h
    · simp [Rd.Runs] at h
    · rename_i off m hbd
      obtain ⟨r, ls1, hr, h⟩ := ev_sound hS h
      cases hl : leavesOf r with
      | none => simp [hl, Rd.Runs] at h
      | some bs =>
        simp only [hl] at h
        obtain ⟨us, hus, hv⟩ := leavesOf_sound r bs _ hl hr
        split at h
        · rename_i hcond
          obtain ⟨c1, c2, c3⟩ := hcond
          obtain ⟨hone, ls2, h⟩ := chkAll_sound hS _ _ _ hus h
          have hlen : us.length = bs.length := hus.length
          have hlv := hx.length
          have hsp : AOks (gl g) G w (splice as off bs) (vs.take off ++ us ++ vs.drop (off + us.length)) := by
            unfold splice
            rw [hlen]
            exact ((hx.take_drop off).1.append hus).append (hx.take_drop _).2
          obtain ⟨as', vs', ls3, k1, k2, k3⟩ := buildParts_sound hS ps _ _ _ _ _ hsp h
          refine ⟨as', vs', ls3, k1, k2, ?_⟩
          simp only [List.map_cons, Instr.fill]
          have hb2 : bd.toArray[i]? = some (off, m) := by simpa using hbd
          have hc := cells_of hv hone
          rw [hb2]
          simp only [hc]
          rw [if_neg (by simp; omega)]
          have e1 : Array.foldl (fun cs (x : Value × Nat) => match x with | (c, j) => cs.setIfInBounds (off + j) c) vs.toArray us.toArray.zipIdx = (vs.take off ++ us ++ vs.drop (off + us.length)).toArray := by
            rw [← Array.foldl_toList]
            have := foldl_seg off us 0 vs.toArray (by simp; omega)
            simpa using this
          rw [e1]; exact k3
        · simp [Rd.Runs] at h

theorem zeroA_ok {γ : Nat → Nat → Option Hv} : ∀ {sl : List (Option Nat)} {xs : List Value} {zr : Rec}, zipZ sl xs = some zr → AOks γ G w (zr.map zeroA) xs
  | [], [], zr, h => by simp [zipZ] at h; subst h; simp [AOks]
  | none :: sl, [], zr, h => by simp [zipZ] at h
  | some sz :: sl, [], zr, h => by simp [zipZ] at h
  | [], v :: xs, zr, h => by simp [zipZ] at h
  | none :: sl, v :: xs, zr, h => by
    simp only [zipZ] at h
    split at h
    · simp only [Option.map_eq_some_iff] at h
      obtain ⟨zr', h1, rfl⟩ := h
      exact ⟨v, xs, rfl, rfl, zeroA_ok h1⟩
    · cases h
  | some sz :: sl, v :: xs, zr, h => by
    unfold zipZ at h
    split at h
    · rename_i e1 e2; cases e1
    · rename_i e1 e2; cases e1
    · rename_i sz' ss xs' e1 e2
      cases e1; cases e2
      simp only [Option.map_eq_some_iff] at h
      obtain ⟨zr', h1, rfl⟩ := h
      exact ⟨_, xs, rfl, rfl, zeroA_ok h1⟩
    · cases h

theorem places_run {fs : Array Field} {bd : List (Nat × Nat)} (h : fs.toList.mapM (fun f => (P.info? f.type).map fun i => (f.offset, i.size)) = some bd) (w : World) :
    (fs.mapM fun f => do pure (f.offset, ← sizeOf f.type) : Sem (Array (Nat × Nat))).run P w = .ok bd.toArray w := by
  rw [Array.mapM_eq_mapM_toList]
  have key : ∀ (l : List Field) (bd : List (Nat × Nat)), l.mapM (fun f => (P.info? f.type).map fun i => (f.offset, i.size)) = some bd → (l.mapM fun f => do pure (f.offset, ← sizeOf f.type) : Sem (List (Nat × Nat))).run P w = .ok bd w := by
    intro l
    induction l with
    | nil => intro bd h; simp at h; subst h; rfl
    | cons f l ih =>
      intro bd h
      simp only [List.mapM_cons] at h ⊢
      cases hf : P.info? f.type with
      | none => simp [hf] at h
      | some i =>
        cases hl : l.mapM (fun f => (P.info? f.type).map fun i => (f.offset, i.size)) with
        | none => simp [hf, hl] at h
        | some bd' =>
          simp [hf, hl] at h
          subst h
          simp only [Sem.run_bind, Sem.run_pure, run_sizeOf hf, Result.andThen_ok, ih bd' hl]
  simp only [Sem.run_map, key _ _ h, Result.andThen_ok]

theorem vBuild_sound {t : TypeId} {parts : Array (Nat × Operand)} (ho : o.op = .build t parts) (hS : SimG cx G g a w) (h : (vBuild P cx.n o.dst t parts).Runs g ls (.ws ws))
    (hk : ∀ a' w', Sim cx (apps g ws) a' w' → K a' w') : o.wp P a w K Q := by
  unfold vBuild at h
  split at h
  · rename_i ti bd hti hbd
    obtain ⟨i, z, e1, e2, e3, e4, e5⟩ := tyI_spec hti
    obtain ⟨as, vs, ls2, k1, k2, k3⟩ := buildParts_sound hS _ _ _ _ _ _ (zeroA_ok e4) h
    refine toReg_sound hS k2 (v := .agg vs.toArray) (by simp only [ROk]; exact ⟨vs, rfl, k1⟩) ?_ hk
    unfold bdI at hbd
    split at hbd
    · rename_i fs hfs
      unfold execOp
      have hp := places_run hbd w
      have k3' : Instr.fill (fun x => bd.toArray[x]?) z.cells (parts.map fun x => (x.1, a.eval x.2)).toList = some vs.toArray := by simpa using k3
      simp only [ho, Instr.build, zeroValue, typeInfo, Sem.run_bind, run_program, Result.andThen_ok, e1, Sem.run_pure, e2, run_underlying hfs, hp, k3']
    · cases hbd
  · simp [Rd.Runs] at h

theorem evList_sound (hS : SimG cx G g a w) {α : Type} : ∀ (xs : List Operand) (k : List Value → Rd α) (ls : List Loc) (out : α), (evList xs k).Runs g ls out → ∃ ls', (k (xs.map a.eval)).Runs g ls' out
  | [], k, ls, out, h => ⟨ls, by simpa [evList] using h⟩
  | x :: xs, k, ls, out, h => by
    simp only [evList] at h
    obtain ⟨y, ls1, hy, h⟩ := ev1_sound hS h
    split at h
    · rename_i v
      have hv : a.eval x = v := hy
      obtain ⟨ls2, h⟩ := evList_sound hS xs _ _ _ h
      exact ⟨ls2, by simpa [hv] using h⟩
    · simp [Rd.Runs] at h

theorem minmax_run {isMax : Bool} {vs : List Value} {v : Value} (h : minmax isMax vs = some v) (ats : Array TypeId) (ty : TypeId) :
    ((if isMax then Builtin.max_ ats ty vs.toArray else Builtin.min_ ats ty vs.toArray)).run P w = .ok v w := by
  unfold minmax at h
  split at h
  · rename_i k x k' y
    split at h
    · rename_i hk
      subst hk
      cases h
      cases isMax <;> simp [Builtin.max_, Builtin.min_, Builtin.max2, Builtin.min2]
    · cases h
  · cases h

theorem lenA_sound {x : A} {v : Value} (hx : AOk (gl g) G w x v) {α : Type} {k : Nat → Rd α} {out : α} (h : (lenA x k).Runs g ls out) :
    ∃ base n cap ls', v = .slice base n cap ∧ (k n).Runs g ls' out := by
  unfold lenA at h
  cases x with
  | nl => have hv : v = .slice none 0 0 := hx; exact ⟨none, 0, 0, ls, hv, h⟩
  | ro sz es =>
    obtain ⟨S, h1, _⟩ := hx
    simp only [RdL] at h1
    obtain ⟨base, len, cap, q1, q2, _⟩ := h1
    exact ⟨base, es.length, cap, ls, by rw [q1, q2], h⟩
  | vw r j ver lo m =>
    simp only at h
    obtain ⟨hv, ls2, q1, q2, h⟩ := rdH_sound h
    split at h
    · rename_i sz es hc
      split at h
      · rename_i hver
        simp only [beq_iff_eq] at hver
        obtain ⟨h2, f1, f2, f3⟩ := hx
        rw [q1] at f1; cases f1
        obtain ⟨f4, base, len, cap, base', cap', g1, g2, _⟩ := f3 hver sz es hc
        exact ⟨base', m, cap', ls2, g2, h⟩
      · simp [Rd.Runs] at h
    · simp [Rd.Runs] at h
  | vn r j ver iv p lo m =>
    simp only at h
    obtain ⟨hv, ls2, q1, q2, h⟩ := rdH_sound h
    split at h
    · rename_i l hc
      split at h
      · rename_i hgood
        split at h
        · rename_i rec j0 hg
          split at h
          · rename_i sz es hrec
            obtain ⟨h2, f1, f2, f2', fne, f3⟩ := hx
            rw [q1] at f1; cases f1
            obtain ⟨bb, oo, hvv, f4, f5, f6, base, len, cap, base', cap', g1, g2, _⟩ := f3 hgood l rec j0 sz es hc hg hrec
            exact ⟨base', m, cap', ls2, g2, h⟩
          · simp [Rd.Runs] at h
        · simp [Rd.Runs] at h
      · simp [Rd.Runs] at h
    · simp [Rd.Runs] at h
  | _ => simp [Rd.Runs] at h

theorem len_run {t : TypeId} {x : Operand} (hty : isSliceT P t = true) (ho : o.op = .call { callee := .builtin .len, args := #[x], argTypes := #[t] }) {base : Option Addr} {n cap : Nat} (hx : a.eval x = .slice base n cap) :
    (execOp a.eval o).run P w = .ok (.value (.int .i64 n)) w := by
  unfold isSliceT at hty
  split at hty
  · rename_i e he
    unfold execOp
    simp [ho, resolve, invoke, builtin, Builtin.len_, hx, run_underlying he, goInt]
  · cases hty

theorem args_one {xs : Array Operand} {x : Operand} (h : xs.toList = [x]) : xs = #[x] := by cases xs; simp_all
theorem args_two {xs : Array Operand} {x y : Operand} (h : xs.toList = [x, y]) : xs = #[x, y] := by cases xs; simp_all
theorem types_one {xs : Array TypeId} {x : TypeId} (h : xs.toList = [x]) : xs = #[x] := by cases xs; simp_all
theorem types_two {xs : Array TypeId} {x y : TypeId} (h : xs.toList = [x, y]) : xs = #[x, y] := by cases xs; simp_all

/-- ALL OPERATIONS that end in writes. -/
theorem vop_sound (hS : SimG cx G g a w) (h : (vop P cx.n o).Runs g ls (.ws ws)) (hk : ∀ a' w', Sim cx (apps g ws) a' w' → K a' w') : o.wp P a w K Q := by
  have h0 := h
  unfold vop at h
  split at h
  · rename_i x ho
    obtain ⟨r, ls1, hr, h⟩ := ev_sound hS h
    exact plain_sound (.inl ho) hS hr h hk
  · rename_i x ho
    exact assign_sound ho hS h0 hk
  · rename_i c x y ho
    obtain ⟨b, ls1, hb, h⟩ := evBool_sound hS h
    obtain ⟨x0, ls2, hx, h⟩ := ev1_sound hS h
    obtain ⟨y0, ls3, hy, h⟩ := ev1_sound hS h
    have run : (execOp a.eval o).run P w = .ok (.value (if b then a.eval x else a.eval y)) w := by
      unfold execOp; simp [ho, hb, asBool]
    have fin : ∀ v, (toReg cx.n o.dst (.one (.v v))).Runs g ls3 (.ws ws) → v = (if b then a.eval x else a.eval y) → o.wp P a w K Q := by
      intro v hv e
      exact toReg_sound hS hv (v := v) (by simp [ROk, AOk]) (by rw [e]; exact run) hk
    have core : ∀ u v, x0 = .v u → y0 = .v v → o.wp P a w K Q := by
      rintro u v rfl rfl
      have hx' : a.eval x = u := hx
      have hy' : a.eval y = v := hy
      simp only at h
      split at h
      · exact fin _ h (by rw [hx', hy']; cases b <;> rfl)
      · simp only [Rd.Runs] at h
        rcases h with ⟨_, h⟩ | ⟨e, h⟩
        · exact h.elim
        · exact fin _ h (by rw [hy', e]; rfl)
      · simp only [Rd.Runs] at h
        rcases h with ⟨e, h⟩ | ⟨_, h⟩
        · exact fin _ h (by rw [hx', e]; rfl)
        · exact h.elim
      · simp [Rd.Runs] at h
    cases x0 with
    | v u => cases y0 with
      | v v => exact core u v rfl rfl
      | _ => simp [Rd.Runs] at h
    | _ => simp [Rd.Runs] at h
  · rename_i t ho; exact vAlloc_sound ho hS h hk
  · rename_i t x ho; exact vBox_sound ho hS h hk
  · rename_i t ps ho; exact vBuild_sound ho hS h hk
  · rename_i t n ps ho; exact vBuildSlice_sound ho hS h hk
  · rename_i t x ho; exact vLoad_sound ho cx.n cx rfl G g a w ls ws hS h K Q hk
  · rename_i t x y ho
    split at h
    · rename_i hd; exact vStore_sound ho hd hS h hk
    · simp [Rd.Runs] at h
  · rename_i s x f ho; exact vFieldAddr_sound ho hS h hk
  · rename_i t x i ho; exact vIndexAddr_sound ho hS h hk
  · rename_i x ho
    obtain ⟨x0, ls1, hx, h⟩ := ev1_sound hS h
    have run : ∀ b off, a.eval x = .pointer (some ⟨b, off, none⟩) → (execOp a.eval o).run P w = .ok (.value (a.eval x)) w := by
      intro b off e
      unfold execOp; simp [ho, e]
    cases x0 with
    | pt r j => obtain ⟨b, off, e1, e2⟩ := hx; exact toReg_sound hS h (by simp only [ROk]; exact ⟨b, off, e1, e2⟩) (run _ _ e2) hk
    | rp rec j => obtain ⟨b, off, cur, ty, fz, S, e1, e2⟩ := hx; exact toReg_sound hS h (by simp only [ROk]; exact ⟨b, off, cur, ty, fz, S, e1, e2⟩) (run _ _ e1) hk
    | _ => simp [Rd.Runs] at h
  · rename_i op t x y t' ho; exact vBin_sound ho hS h hk
  · rename_i op t x ho; exact vUn_sound ho hS h hk
  · rename_i src dst x ho
    obtain ⟨kd, n, ls1, hx, h⟩ := evInt_sound hS h
    split at h
    · rename_i k0 k hik0 hik
      unfold intT at hik hik0
      split at hik
      · rename_i k' hu
        cases hik
        split at hik0
        · rename_i k'' hu0
          refine toReg_sound hS h (v := .int k (k.wrap n)) (by simp [ROk, AOk]) ?_ hk
          unfold execOp
          simp [ho, hx, convert, run_underlying hu0, run_underlying hu, Conv.intToInt]
        · cases hik0
      · cases hik
    · simp [Rd.Runs] at h
  · rename_i t l c ho; exact vMake_sound ho hS h hk
  · rename_i t x lo hi mx ho; exact vSlice_sound ho hS h hk
  · rename_i x i ho
    obtain ⟨r, ls1, hr, h⟩ := ev_sound hS h
    split at h
    · rename_i rs
      split at h
      · rename_i r0 hr0
        simp only [ROk] at hr
        obtain ⟨vs, e, hr⟩ := hr
        have key : ∀ (rs : List R) (vs : List Value), ROks (gl g) G w rs vs → ∀ (i : Nat) (r0 : R), rs[i]? = some r0 → ∃ v, vs[i]? = some v ∧ ROk (gl g) G w r0 v := by
          intro rs
          induction rs with
          | nil => intro vs _ i r0 e; simp at e
          | cons x xs ih =>
            intro vs hx i r0 e
            simp only [ROks] at hx
            obtain ⟨v, vs', rfl, h1, h2⟩ := hx
            cases i with
            | zero => simp at e; subst e; exact ⟨v, rfl, h1⟩
            | succ i => simp at e; obtain ⟨v', q1, q2⟩ := ih vs' h2 i r0 e; exact ⟨v', by simpa using q1, q2⟩
        obtain ⟨v, hv, hok⟩ := key rs vs hr i r0 hr0
        refine toReg_sound hS h hok ?_ hk
        unfold execOp
        simp [ho, e, Instr.extract, hv]
      · simp [Rd.Runs] at h
    · simp [Rd.Runs] at h
  · rename_i c ho
    obtain ⟨callee, args, argTypes⟩ := c
    simp only at h
    split at h
    · split at h
      · rename_i x t e1 e2
        obtain rfl := args_one e1
        obtain rfl := types_one e2
        split at h
        · rename_i hty
          obtain ⟨x0, ls1, hx, h⟩ := ev1_sound hS h
          obtain ⟨base, n, cap, ls2, hv, h⟩ := lenA_sound hx h
          exact toReg_sound hS h (v := .int .i64 n) (by simp [ROk, AOk]) (len_run hty ho hv) hk
        · simp [Rd.Runs] at h
      · simp [Rd.Runs] at h
    · split at h
      · rename_i s x t t' e1 e2
        obtain rfl := args_two e1
        obtain rfl := types_two e2
        exact vAppend_sound ho hS h hk
      · simp [Rd.Runs] at h
    · obtain ⟨ls1, h⟩ := evList_sound hS _ _ _ _ h
      split at h
      · rename_i v hv
        refine toReg_sound hS h (v := v) (by simp [ROk, AOk]) ?_ hk
        have := minmax_run (P := P) (w := w) hv argTypes o.type
        unfold execOp
        simp only [Bool.false_eq_true, if_false] at this
        have e : (args.toList.map a.eval).toArray = args.map a.eval := by rw [← Array.toList_map, Array.toArray_toList]
        rw [e] at this
        simp [ho, resolve, invoke, builtin, this]
      · simp [Rd.Runs] at h
    · obtain ⟨ls1, h⟩ := evList_sound hS _ _ _ _ h
      split at h
      · rename_i v hv
        refine toReg_sound hS h (v := v) (by simp [ROk, AOk]) ?_ hk
        have := minmax_run (P := P) (w := w) hv argTypes o.type
        unfold execOp
        simp only [if_true] at this
        have e : (args.toList.map a.eval).toArray = args.map a.eval := by rw [← Array.toList_map, Array.toArray_toList]
        rw [e] at this
        simp [ho, resolve, invoke, builtin, this]
      · simp [Rd.Runs] at h
    · -- a call does not end in writes
      unfold vCall at h
      split at h
      · obtain ⟨ds, ls2, _, h⟩ := argDs_sound hS _ _ _ _ _ h
        obtain ⟨d, ls3, _, _, _, h⟩ := fresh_sound h
        simp only [Rd.Runs] at h
        cases h.2
      · simp [Rd.Runs] at h
    · simp [Rd.Runs] at h
  · simp [Rd.Runs] at h

end

end Go.V
