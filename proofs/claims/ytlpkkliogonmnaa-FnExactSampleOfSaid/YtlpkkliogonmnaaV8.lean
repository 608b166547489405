/-
  The value-level condition generator, part 8: addresses, arithmetic, slicing, building a struct in a register.
-/
import Derived.Test.YtlpkkliogonmnaaV7
set_option linter.all false

namespace Go.V

theorem fdI_run {P : Program} {s : TypeId} {f off : Nat} (h : fdI P s f = some off) (w : World) (b o : Nat) :
    (Instr.fieldAt s (.pointer (some ⟨b, o, none⟩)) f).run P w = .ok (.pointer (some ⟨b, o + off, none⟩)) w := by
  unfold fdI at h
  split at h
  · rename_i fs e1
    split at h
    · rename_i fd e2
      split at h
      · rename_i i e3
        split at h
        · cases h
        · rename_i e4
          cases h
          simp [Instr.fieldAt, run_underlying e1, e2, Instr.sureAddr, fieldPlace, run_sizeOf e3, e4, add_lit]
      · cases h
    · cases h
  · cases h

theorem elI_spec {P : Program} {t e : TypeId} {ti : TI} {bytes : Nat} (h : elI P t = some (e, ti, bytes)) :
    P.underlying t = some (.slice e) ∧ tyI P e = some ti ∧ ∃ i, P.info? e = some i ∧ i.bytes = bytes ∧ 0 < i.size ∧ i.size = ti.zero.length := by
  unfold elI at h
  split at h
  · rename_i e' e1
    split at h
    · rename_i ti' i e2 e3
      split at h
      · rename_i e4
        cases h
        obtain ⟨i', z, f1, _, f3, _⟩ := tyI_spec e2
        rw [e3] at f1; cases f1
        exact ⟨e1, e2, i, e3, rfl, e4, f3⟩
      · cases h
    · cases h
  · cases h

theorem indexAt_run {P : Program} {t e : TypeId} {ti : TI} {bytes : Nat} (h : elI P t = some (e, ti, bytes)) (w : World) (b o len cap : Nat) (k : IntKind) (i : Int) (h0 : 0 ≤ i) (h1 : i < len) :
    (Instr.indexAt t (.slice (some ⟨b, o, none⟩) len cap) (.int k i)).run P w = .ok (.pointer (some ⟨b, o + i.toNat * ti.zero.length, none⟩)) w := by
  obtain ⟨e1, e2, inf, e3, e4, e5, e6⟩ := elI_spec h
  simp [Instr.indexAt, asIntOf, run_underlying e1, h0, h1, run_sizeOf e3, e6, add_lit]

theorem TAddr_snoc {w : World} : ∀ (p : List (Nat × Nat)) (l : L) (hv : Value) (b o : Nat) (rec : Rec) (j0 : Nat), TAddr w l hv p b o → getR l p = some (rec, j0) →
    ∀ (sz : Nat) (es : List Rec) (b2 off2 len cap i : Nat), rec[j0]? = some (.s sz es) → w.cell? ⟨b, o, none⟩ = some (.slice (some ⟨b2, off2, none⟩) len cap) → i < es.length →
      TAddr w l hv (p ++ [(i, 0)]) b2 (off2 + i * sz)
  | [], l, hv, b, o, rec, j0, h, _ => by cases l <;> simp [TAddr] at h
  | [(a, m)], l, hv, b, o, rec, j0, h, hg => by
    intro sz es b2 off2 len cap i hr hc hi
    cases l with
    | v y => simp [TAddr] at h
    | g => simp [TAddr] at h
    | s sz0 es0 =>
      simp only [TAddr] at h
      obtain ⟨b1, off, len1, cap1, e1, e2, e3, e4⟩ := h
      subst e3 e4
      simp only [getR, Option.map_eq_some_iff] at hg
      obtain ⟨e, h1, h2⟩ := hg
      cases h2
      simp only [List.cons_append, List.nil_append, TAddr]
      exact ⟨b, off, len1, cap1, e1, e2, .s sz es, _, by simp [h1, hr], hc, b2, off2, len, cap, rfl, hi, rfl, by omega⟩
  | (a, m) :: q :: p, l, hv, b, o, rec, j0, h, hg => by
    intro sz es b2 off2 len cap i hr hc hi
    cases l with
    | v y => simp [TAddr] at h
    | g => simp [TAddr] at h
    | s sz0 es0 =>
      simp only [TAddr] at h
      obtain ⟨b1, off, len1, cap1, e1, e2, l', v', e3, e4, h⟩ := h
      cases h1 : es0[a]? with
      | none => simp [h1] at e3
      | some e =>
        simp only [h1, Option.bind_some] at e3
        simp only [getR, h1, e3] at hg
        have := TAddr_snoc (q :: p) l' v' b o rec j0 h hg sz es b2 off2 len cap i hr hc hi
        simp only [List.cons_append, TAddr] at this ⊢
        exact ⟨b1, off, len1, cap1, e1, e2, l', v', by simp [h1, e3], e4, this⟩

section
variable {P : Program} {o : Oper} {cx : Cx} {G : Gh} {g : Gm} {a : Act} {w : World} {ls : List Loc} {ws : List W} {K : Act → World → Prop} {Q : Exit → Act → World → Prop}

theorem vFieldAddr_sound {s : TypeId} {x : Operand} {f : Nat} (ho : o.op = .fieldAddr s x f) (hS : SimG cx G g a w) (h : (vFieldAddr P cx.n o.dst s x f).Runs g ls (.ws ws))
    (hk : ∀ a' w', Sim cx (apps g ws) a' w' → K a' w') : o.wp P a w K Q := by
  unfold vFieldAddr at h
  cases hf : fdI P s f with
  | none => simp [hf, Rd.Runs] at h
  | some off =>
    simp only [hf] at h
    obtain ⟨x0, ls', hx, h⟩ := ev1_sound hS h
    have run : ∀ b o0, a.eval x = .pointer (some ⟨b, o0, none⟩) → (execOp a.eval o).run P w = .ok (.value (.pointer (some ⟨b, o0 + off, none⟩))) w := by
      intro b o0 he
      unfold execOp
      simp [ho, he, fdI_run hf]
    cases x0 with
    | pt r j =>
      obtain ⟨b, o0, e1, e2⟩ := hx
      exact toReg_sound hS h (v := .pointer (some ⟨b, o0 + j + off, none⟩)) (by simp only [ROk]; exact ⟨b, o0, e1, by rw [Nat.add_assoc]⟩) (run _ _ e2) hk
    | rp rec j =>
      obtain ⟨b, o0, cur, ty, fz, S, e1, e2, e3, e4, e5, e6⟩ := hx
      exact toReg_sound hS h (v := .pointer (some ⟨b, o0 + j + off, none⟩)) (by simp only [ROk]; exact ⟨b, o0, cur, ty, fz, S, by rw [Nat.add_assoc], e2, e3, e4, e5, e6⟩) (run _ _ e1) hk
    | pn r j ver iv p =>
      obtain ⟨hv, ls2, q1, _, h⟩ := rdH_sound h
      cases hc : hv.c with
      | own l =>
        simp only [hc] at h
        split at h
        · rename_i hgood
          obtain ⟨h0, e1, e2, e3, e4, e5⟩ := hx
          rw [q1] at e1; cases e1
          obtain ⟨b, o0, f1, he⟩ := e5 hgood l hc
          refine toReg_sound hS h (v := .pointer (some ⟨b, o0 + off, none⟩)) ?_ (run _ _ he) hk
          simp only [ROk]
          refine ⟨hv, q1, e2, e3, adv_ne p off e4, fun hg l' hl => ?_⟩
          rw [hc] at hl; cases hl
          exact ⟨b, o0 + off, TAddr_adv p l _ b o0 off f1, rfl⟩
        · simp [Rd.Runs] at h
      | ro l => simp [hc, Rd.Runs] at h
      | gone => simp [hc, Rd.Runs] at h
    | _ => simp [Rd.Runs] at h
end

theorem RdEs.nth {w : World} {sz : Nat} {es : List Rec} {vs : List Value} {S : List Nat} (h : RdEs w sz es vs S) {i : Nat} (hi : i < es.length) :
    ∃ S1, RdRec w (es.getD i []) ((vs.drop (i * sz)).take sz) S1 ∧ (es.getD i []).length = sz ∧ ∀ b ∈ S1, b ∈ S := by
  obtain ⟨Sa, S1, Sb, e1, e2, e3⟩ := h.at i es[i] (by simp [hi])
  have : es.getD i [] = es[i] := by simp [List.getD, hi]
  rw [this]
  exact ⟨S1, e3, e2, fun b hb => by rw [e1]; simp [hb]⟩

theorem RdEs.sub {w : World} {sz : Nat} : ∀ {es : List Rec} {vs : List Value} {S : List Nat}, RdEs w sz es vs S → ∀ (l m : Nat),
    ∃ S1, RdEs w sz ((es.drop l).take m) ((vs.drop (l * sz)).take (((es.drop l).take m).length * sz)) S1 ∧ ∀ b ∈ S1, b ∈ S
  | [], vs, S, h, l, m => by
    simp only [RdEs] at h
    exact ⟨[], by simp [RdEs], fun b hb => by cases hb⟩
  | e :: es, vs, S, h, 0, 0 => ⟨[], by simp [RdEs], fun b hb => by cases hb⟩
  | e :: es, vs, S, h, 0, m + 1 => by
    simp only [RdEs] at h
    obtain ⟨v1, v2, S1, S2, rfl, hl, h1, h2, rfl⟩ := h
    obtain ⟨S3, k1, k2⟩ := RdEs.sub h2 0 m
    refine ⟨S1 ++ S3, ?_, fun b hb => ?_⟩
    · simp only [List.drop_zero, Nat.zero_mul, List.take_succ_cons, List.length_cons, RdEs] at k1 ⊢
      refine ⟨v1, v2.take ((es.take m).length * sz), S1, S3, ?_, hl, h1, k1, rfl⟩
      rw [List.take_append, List.take_of_length_le (by rw [hl, Nat.add_mul]; omega), hl, Nat.add_mul]
      congr 2; omega
    · rcases List.mem_append.1 hb with hb | hb
      · simp [hb]
      · simp [k2 b hb]
  | e :: es, vs, S, h, l + 1, m => by
    simp only [RdEs] at h
    obtain ⟨v1, v2, S1, S2, rfl, hl, h1, h2, rfl⟩ := h
    obtain ⟨S3, k1, k2⟩ := RdEs.sub h2 l m
    refine ⟨S3, ?_, fun b hb => by simp [k2 b hb]⟩
    have : (v1 ++ v2).drop ((l + 1) * sz) = v2.drop (l * sz) := by
      rw [List.drop_append, List.drop_of_length_le (by rw [hl, Nat.add_mul]; omega), List.nil_append, hl, Nat.add_mul]
      congr 1; omega
    simp only [List.drop_succ_cons]
    rw [this]; exact k1

section
variable {P : Program} {o : Oper} {cx : Cx} {G : Gh} {g : Gm} {a : Act} {w : World} {ls : List Loc} {ws : List W} {K : Act → World → Prop} {Q : Exit → Act → World → Prop}

theorem vIndexAddr_sound {t : TypeId} {x i : Operand} (ho : o.op = .indexAddr t x i) (hS : SimG cx G g a w) (h : (vIndexAddr P cx.n o.dst t x i).Runs g ls (.ws ws))
    (hk : ∀ a' w', Sim cx (apps g ws) a' w' → K a' w') : o.wp P a w K Q := by
  unfold vIndexAddr at h
  cases hel : elI P t with
  | none => simp [hel, Rd.Runs] at h
  | some pr =>
    obtain ⟨e, ti, bytes⟩ := pr
    simp only [hel] at h
    obtain ⟨x0, ls', hx, h⟩ := ev1_sound hS h
    obtain ⟨kd, idx, ls2, hi, h⟩ := evInt_sound hS h
    have run : ∀ b o0 len cap, a.eval x = .slice (some ⟨b, o0, none⟩) len cap → 0 ≤ idx → idx < len →
        (execOp a.eval o).run P w = .ok (.value (.pointer (some ⟨b, o0 + idx.toNat * ti.zero.length, none⟩))) w := by
      intro b o0 len cap he h0 h1
      unfold execOp
      simp [ho, he, hi, indexAt_run hel w b o0 len cap kd idx h0 h1]
    cases x0 with
    | ro sz es =>
      simp only at h
      split at h
      · rename_i hsz
        simp only [beq_iff_eq] at hsz
        simp only [Rd.Runs] at h
        obtain ⟨⟨h0, h1⟩, h⟩ := h
        obtain ⟨S, k1, k2⟩ := hx
        simp only [RdL] at k1
        obtain ⟨base, len, cap, q1, q2, q3, q4, q5⟩ := k1
        rcases q5 with ⟨_, e2, _⟩ | ⟨b, off, cur, ty, fz, S', f1, f2, f3, f4, f5⟩
        · omega
        subst f1 f5
        have hlt : idx.toNat < es.length := by omega
        obtain ⟨S1, m1, m2, m3⟩ := f4.nth hlt
        have hcap : (idx.toNat + 1) * sz ≤ cap * sz := Nat.mul_le_mul_right _ (by omega)
        have hlen : (idx.toNat + 1) * sz ≤ len * sz := Nat.mul_le_mul_right _ (by omega)
        have hexp : (idx.toNat + 1) * sz = idx.toNat * sz + sz := by rw [Nat.add_mul]; omega
        refine toReg_sound hS h (v := .pointer (some ⟨b, off + idx.toNat * ti.zero.length, none⟩)) ?_ (run b off len cap q1 h0 (by omega)) hk
        simp only [ROk]
        refine ⟨b, off + idx.toNat * ti.zero.length, cur, ty, fz, S1, rfl, f2, k2 b (by simp), by rw [m2, ← hsz]; omega, ?_, fun c hc => k2 c (by simp [m3 c hc])⟩
        have : (cur.toList.drop (off + idx.toNat * ti.zero.length)).take (es.getD idx.toNat []).length = (((cur.toList.drop off).take (len * sz)).drop (idx.toNat * sz)).take sz := by
          apply List.ext_getElem?
          intro k
          rw [m2, ← hsz]
          simp only [List.getElem?_take, List.getElem?_drop]
          by_cases c : k < sz
          · simp only [c, if_true]; rw [if_pos (by omega)]; congr 1; omega
          · simp [c]
        rw [this]; exact m1
      · simp [Rd.Runs] at h
    | vw r j ver lo m =>
      simp only at h
      obtain ⟨hv, ls3, q1, _, h⟩ := rdH_sound h
      split at h
      · rename_i sz es hc
        split at h
        · rename_i hb
          simp only [Bool.and_eq_true, beq_iff_eq] at hb
          obtain ⟨hver, hsz⟩ := hb
          simp only [Rd.Runs] at h
          obtain ⟨⟨h0, h1⟩, h⟩ := h
          obtain ⟨h2, f1, f2, f3⟩ := hx
          rw [q1] at f1; cases f1
          obtain ⟨f4, base, len, cap, base', cap', g1, g2, g3, g4, g5, g6⟩ := f3 hver sz es hc
          rcases g6 with ⟨_, _, g7⟩ | ⟨b, off, off', g7, g8, g9, g10⟩
          · omega
          subst g7 g8
          have hoff := g10 (by omega)
          refine toReg_sound hS h (v := .pointer (some ⟨b, off' + idx.toNat * ti.zero.length, none⟩)) ?_ (run b off' m cap' g2 h0 (by omega)) hk
          simp only [ROk]
          refine ⟨hv, q1, f2, Nat.le_refl _, by simp, fun _ l hl => ⟨b, off' + idx.toNat * ti.zero.length, ?_, rfl⟩⟩
          rw [hc] at hl; cases hl
          simp only [TAddr]
          exact ⟨b, off, len, cap, g1, by omega, rfl, by rw [hoff, ← hsz, Nat.add_mul]; omega⟩
        · simp [Rd.Runs] at h
      · simp [Rd.Runs] at h
    | vn r j ver iv p lo m =>
      simp only at h
      obtain ⟨hv, ls3, q1, _, h⟩ := rdH_sound h
      split at h
      · rename_i l hc
        split at h
        · rename_i hgood
          cases hg : getR l p with
          | none => simp [hg, Rd.Runs] at h
          | some pr =>
            obtain ⟨rec, j0⟩ := pr
            simp only [hg] at h
            split at h
            · rename_i sz es hrec
              split at h
              · rename_i hsz
                simp only [beq_iff_eq] at hsz
                simp only [Rd.Runs] at h
                obtain ⟨⟨h0, h1⟩, h⟩ := h
                obtain ⟨h2, f1, f2, f2', fne, f3⟩ := hx
                rw [q1] at f1; cases f1
                obtain ⟨bb, oo, hvv, f4, f5, f6, base, len, cap, base', cap', g1, g2, g3, g4, g5, g6⟩ := f3 hgood l rec j0 sz es hc hg hrec
                rcases g6 with ⟨_, _, g7⟩ | ⟨b, off, off', g7, g8, g9, g10⟩
                · omega
                subst g7 g8
                have hoff := g10 (by omega)
                refine toReg_sound hS h (v := .pointer (some ⟨b, off' + idx.toNat * ti.zero.length, none⟩)) ?_ (run b off' m cap' g2 h0 (by omega)) hk
                simp only [ROk]
                refine ⟨hv, q1, f2, f2', by simp, fun _ l' hl => ⟨b, off' + idx.toNat * ti.zero.length, ?_, rfl⟩⟩
                rw [hc] at hl; cases hl
                have := TAddr_snoc p l _ bb oo rec j0 f4 hg sz es b off len cap (lo + idx.toNat) hrec (by rw [f5, g1]) (by omega)
                rw [hoff, ← hsz]
                rw [Nat.add_mul] at this
                rw [Nat.add_assoc]; exact this
              · simp [Rd.Runs] at h
            · simp [Rd.Runs] at h
        · simp [Rd.Runs] at h
      · simp [Rd.Runs] at h
    | _ => simp [Rd.Runs] at h

theorem evBound_sound (hS : SimG cx G g a w) {α : Type} {x : Option Operand} {dflt : Int} {k : Int → Rd α} {out : α} (h : (evBound x dflt k).Runs g ls out) :
    ∃ i ls', (k i).Runs g ls' out ∧ ((x = none ∧ i = dflt) ∨ ∃ x0 kd, x = some x0 ∧ a.eval x0 = .int kd i) := by
  unfold evBound at h
  cases x with
  | none => exact ⟨dflt, ls, h, .inl ⟨rfl, rfl⟩⟩
  | some x =>
    obtain ⟨kd, n, ls', e, h⟩ := evInt_sound hS h
    exact ⟨n, ls', h, .inr ⟨x, kd, rfl, e⟩⟩

theorem slice_run {t e : TypeId} {ti : TI} {bytes : Nat} (h : elI P t = some (e, ti, bytes)) {x : Operand} {lo hi : Option Operand} (base : Option Addr) (len cap : Nat) (he : a.eval x = .slice base len cap)
    (l hh : Int) (hl : (lo = none ∧ l = 0) ∨ ∃ x0 kd, lo = some x0 ∧ a.eval x0 = .int kd l) (hhi : (hi = none ∧ hh = len) ∨ ∃ x0 kd, hi = some x0 ∧ a.eval x0 = .int kd hh)
    (h0 : 0 ≤ l) (h1 : l ≤ hh) (h2 : hh ≤ cap) (ho : o.op = .slice t x lo hi none) :
    (execOp a.eval o).run P w = .ok (.value (.slice (if cap = l.toNat then base else base.map (·.add (l.toNat * ti.zero.length))) (hh.toNat - l.toNat) (cap - l.toNat))) w := by
  obtain ⟨e1, e2, inf, e3, e4, e5, e6⟩ := elI_spec h
  have s1 : (Instr.sliceBounds true len cap (lo.map a.eval) (hi.map a.eval) none).run P w = .ok (l.toNat, hh.toNat, cap) w := by
    have n1 : 0 ≤ hh := by omega
    have n2 : max hh 0 = hh := by omega
    rcases hl with ⟨rfl, rfl⟩ | ⟨x1, k1, rfl, r1⟩ <;> rcases hhi with ⟨rfl, rfl⟩ | ⟨x2, k2, rfl, r2⟩
    · simp [Instr.sliceBounds]
    · simp [Instr.sliceBounds, Instr.sliceBound, r2, asIntOf, n1, h2]
    · simp [Instr.sliceBounds, Instr.sliceBound, r1, asIntOf, h0, h1]
    · simp [Instr.sliceBounds, Instr.sliceBound, r1, r2, asIntOf, h0, n1, h2, n2, h1]
  unfold execOp
  simp [ho, Instr.sliceAt, run_underlying e1, Instr.slice, he, s1, run_sizeOf e3, e6]

end

section
variable {P : Program} {o : Oper} {cx : Cx} {G : Gh} {g : Gm} {a : Act} {w : World} {ls : List Loc} {ws : List W} {K : Act → World → Prop} {Q : Exit → Act → World → Prop}

/-- What a part of a slice reads as. -/
theorem RdL.part {sz : Nat} {es : List Rec} {base : Option Addr} {len cap : Nat} {S : List Nat} (hr : RdL w (.s sz es) (.slice base len cap) S) (l h : Nat) (h1 : l ≤ h) (h2 : h ≤ len) :
    ∃ S1, RdL w (.s sz ((es.take h).drop l)) (.slice (if cap = l then base else base.map (·.add (l * sz))) (h - l) (cap - l)) S1 ∧ ∀ b ∈ S1, b ∈ S := by
  simp only [RdL] at hr
  obtain ⟨base0, len0, cap0, q1, q2, q3, q4, q5⟩ := hr
  cases q1
  have hlen : ((es.take h).drop l).length = h - l := by simp only [List.length_drop, List.length_take]; omega
  rcases q5 with ⟨e2, e3⟩ | ⟨b, off, cur, ty, fz, S', f1, f2, f3, f4, f5⟩
  · subst e2
    refine ⟨[], ?_, fun b hb => by cases hb⟩
    simp only [RdL]
    exact ⟨_, _, _, rfl, by omega, by omega, by omega, .inl ⟨by omega, trivial⟩⟩
  · subst f1 f5
    obtain ⟨S1, k1, k2⟩ := f4.sub l (h - l)
    have htd : (es.take h).drop l = (es.drop l).take (h - l) := by rw [List.drop_take]
    rw [htd] at hlen ⊢
    by_cases c : cap = l
    · have : h - l = 0 := by omega
      rw [if_pos c]
      refine ⟨[b], ?_, fun x hx => by simp at hx; simp [hx]⟩
      simp only [RdL]
      have hes : (es.drop l).take (h - l) = [] := by rw [this]; simp
      rw [hes]
      exact ⟨_, _, _, rfl, by simp [this], by omega, by omega, .inr ⟨b, off, cur, ty, fz, [], rfl, f2, by rw [c] at f3 ⊢; simp; omega, by simp [RdEs, this], rfl⟩⟩
    · rw [if_neg c]
      refine ⟨b :: S1, ?_, fun x hx => by
        rcases List.mem_cons.1 hx with rfl | hx
        · simp
        · simp [k2 x hx]⟩
      simp only [RdL]
      have hm : (cap - l) * sz + l * sz = cap * sz := by rw [← Nat.add_mul]; congr 1; omega
      refine ⟨_, _, _, rfl, hlen.symm, by omega, by omega, .inr ⟨b, off + l * sz, cur, ty, fz, S1, by simp [add_lit], f2, by omega, ?_, rfl⟩⟩
      have hl2 : (h - l) * sz + l * sz ≤ len * sz := by rw [← Nat.add_mul]; exact Nat.mul_le_mul_right _ (by omega)
      have : (cur.toList.drop (off + l * sz)).take ((h - l) * sz) = (((cur.toList.drop off).take (len * sz)).drop (l * sz)).take (((es.drop l).take (h - l)).length * sz) := by
        apply List.ext_getElem?
        intro k
        rw [hlen]
        simp only [List.getElem?_take, List.getElem?_drop]
        by_cases ck : k < (h - l) * sz
        · simp only [ck, if_true]; rw [if_pos (by omega)]; congr 1; omega
        · simp [ck]
      rw [this]; exact k1

theorem vSlice_sound {t : TypeId} {x : Operand} {lo hi mx : Option Operand} (ho : o.op = .slice t x lo hi mx) (hS : SimG cx G g a w) (h : (vSlice P cx.n o.dst t x lo hi mx).Runs g ls (.ws ws))
    (hk : ∀ a' w', Sim cx (apps g ws) a' w' → K a' w') : o.wp P a w K Q := by
  unfold vSlice at h
  split at h
  · rename_i e ti bytes hel
    obtain ⟨x0, ls', hx, h⟩ := ev1_sound hS h
    cases x0 with
    | ro sz es =>
      simp only at h
      split at h
      · rename_i hsz
        simp only [beq_iff_eq] at hsz
        obtain ⟨l, ls2, h, hl⟩ := evBound_sound hS h
        obtain ⟨hh, ls3, h, hhi⟩ := evBound_sound hS h
        simp only [Rd.Runs] at h
        obtain ⟨⟨h0, h1, h2⟩, h⟩ := h
        obtain ⟨S, k1, k2⟩ := hx
        have k1' := k1
        simp only [RdL] at k1
        obtain ⟨base, len, cap, q1, q2, q3, q4, _⟩ := k1
        rw [q1] at k1'
        obtain ⟨S1, m1, m2⟩ := k1'.part l.toNat hh.toNat (by omega) (by omega)
        refine toReg_sound hS h ?_ (slice_run hel base len cap q1 l hh hl (by rw [q2]; exact hhi) h0 h1 (by omega) ho) hk
        simp only [ROk]
        rw [← hsz]
        exact ⟨S1, m1, fun b hb => k2 b (m2 b hb)⟩
      · simp [Rd.Runs] at h
    | vw r j ver lo0 m =>
      simp only at h
      obtain ⟨hv, ls3, q1, _, h⟩ := rdH_sound h
      split at h
      · rename_i sz es hc
        split at h
        · rename_i hb
          simp only [Bool.and_eq_true, beq_iff_eq] at hb
          obtain ⟨hver, hsz⟩ := hb
          obtain ⟨l, ls2, h, hl⟩ := evBound_sound hS h
          obtain ⟨hh, ls3, h, hhi⟩ := evBound_sound hS h
          simp only [Rd.Runs] at h
          obtain ⟨⟨h0, h1, h2⟩, h⟩ := h
          obtain ⟨h2', f1, f2, f3⟩ := hx
          rw [q1] at f1; cases f1
          obtain ⟨f4, base, len, cap, base', cap', g1, g2, g3, g4, g5, g6⟩ := f3 hver sz es hc
          refine toReg_sound hS h ?_ (slice_run hel base' m cap' g2 l hh hl hhi h0 h1 (by omega) ho) hk
          simp only [ROk]
          refine ⟨hv, q1, f2, fun _ sz' es' hc' => ?_⟩
          rw [hc] at hc'; cases hc'
          refine ⟨by omega, ?_⟩
          have hcm : (cap' - l.toNat) * sz + l.toNat * sz = cap' * sz := by rw [← Nat.add_mul]; congr 1; omega
          refine ⟨base, len, cap, _, _, g1, rfl, by omega, by omega, ?_, ?_⟩
          · intro e1 e2
            have e3 : l.toNat = 0 := by omega
            have e4 : lo0 = 0 := by omega
            have e5 : m = len := by
              have hok := hS.hok q1
              simp only [HOk, hc, RdL] at hok
              obtain ⟨⟨b0, n0, c0, r1, r2, _⟩, _⟩ := hok
              rw [g1] at r1; cases r1; omega
            have := g5 e4 e5
            rw [← this, g2]
            have e6 : hh.toNat = m := by omega
            rw [e3, e6]
            have : (if cap' = 0 then base' else base'.map (·.add (0 * ti.zero.length))) = base' := by
              split
              · rfl
              · cases base' <;> simp [Addr.add]
            simp only [this, Nat.sub_zero]
          · rcases g6 with ⟨r1, r3⟩ | ⟨b, off, off', r1, r2, r3, r4⟩
            · exact .inl ⟨r1, by omega⟩
            · subst r1 r2
              by_cases c : cap' = l.toNat
              · rw [if_pos c]
                exact .inr ⟨b, off, off', rfl, rfl, by rw [c]; simp; rw [c] at r3; omega, fun hp => by omega⟩
              · rw [if_neg c]
                refine .inr ⟨b, off, off' + l.toNat * sz, rfl, by simp [add_lit, hsz], by omega, fun hp => ?_⟩
                have := r4 (by omega)
                rw [this, Nat.add_mul]; omega
        · simp [Rd.Runs] at h
      · simp [Rd.Runs] at h
    | _ => simp [Rd.Runs] at h
  · simp [Rd.Runs] at h

theorem ibin_run {op : BinOp} {k : IntKind} {x y : Int} {c : Prop} {v : Value} (h : ibin op k x y = some (c, v)) (hc : c) (t : TypeId) : (binOp op t (.int k x) (.int k y)).run P w = .ok v w := by
  cases op <;> simp only [ibin, Option.some.injEq, Prod.mk.injEq, reduceCtorEq] at h <;> obtain ⟨rfl, rfl⟩ := h <;>
    (simp only [binOp]; rw [if_neg (by simp)]) <;>
    first
    | rfl
    | (unfold Op.intDiv; rw [if_neg hc]; rfl)

theorem ishift_run {op : BinOp} {k k' : IntKind} {x y : Int} {v : Value} (h : ishift op k x y = some v) (hc : 0 ≤ y) (t : TypeId) : (binOp op t (.int k x) (.int k' y)).run P w = .ok v w := by
  have : ¬ y < 0 := by omega
  cases op <;> simp only [ishift, Option.some.injEq, reduceCtorEq] at h <;> subst h <;> simp [binOp, Op.shift, this]

theorem eqGuard_int {op : BinOp} {t : TypeId} {x y : Operand} {k k' : IntKind} {m n : Int} : (eqGuard op t x y (.int k m) (.int k' n)).run P w = .ok () w := by
  cases op <;> simp [eqGuard]
theorem eqGuard_bool {op : BinOp} {t : TypeId} {x y : Operand} {m n : Bool} : (eqGuard op t x y (.bool m) (.bool n)).run P w = .ok () w := by
  cases op <;> simp [eqGuard]

theorem run_equalIn_bool {t : TypeId} (hu : P.underlying t = some .bool) (d : Nat) (m n : Bool) : (Op.equalIn (d + 1) t (.bool m) (.bool n)).run P w = .ok (m == n) w := by
  simp [Op.equalIn, run_underlying hu]

theorem vBin_sound {op : BinOp} {t t' : TypeId} {x y : Operand} (ho : o.op = .binOp op t x y t') (hS : SimG cx G g a w) (h : (vBin P cx.n o.dst op t x y).Runs g ls (.ws ws))
    (hk : ∀ a' w', Sim cx (apps g ws) a' w' → K a' w') : o.wp P a w K Q := by
  unfold vBin at h
  obtain ⟨x0, ls', hx, h⟩ := ev1_sound hS h
  obtain ⟨y0, ls2, hy, h⟩ := ev1_sound hS h
  have int_case : ∀ k m k' n, x0 = .v (.int k m) → y0 = .v (.int k' n) → o.wp P a w K Q := by
    rintro k m k' n rfl rfl
    have hx' : a.eval x = .int k m := hx
    have hy' : a.eval y = .int k' n := hy
    simp only at h
    split at h
    · rename_i v hs
      simp only [Rd.Runs] at h
      refine toReg_sound hS h.2 (v := v) (by simp [ROk, AOk]) ?_ hk
      unfold execOp
      simp [ho, hx', hy', eqGuard_int, ishift_run hs h.1]
    · split at h
      · rename_i hkk
        subst hkk
        split at h
        · rename_i c v hb
          simp only [Rd.Runs] at h
          refine toReg_sound hS h.2 (v := v) (by simp [ROk, AOk]) ?_ hk
          unfold execOp
          simp [ho, hx', hy', eqGuard_int, ibin_run hb h.1]
        · simp [Rd.Runs] at h
      · simp [Rd.Runs] at h
  have bool_case : ∀ m n, x0 = .v (.bool m) → y0 = .v (.bool n) → o.wp P a w K Q := by
    rintro m n rfl rfl
    have hx' : a.eval x = .bool m := hx
    have hy' : a.eval y = .bool n := hy
    simp only at h
    split at h
    · rename_i hb
      have hu : P.underlying t = some .bool := by
        unfold isBoolT at hb
        split at hb
        · assumption
        · cases hb
      have heq : (Op.equal t (.bool m) (.bool n)).run P w = .ok (m == n) w := run_equalIn_bool hu 9999 m n
      split at h
      · refine toReg_sound hS h (v := .bool (m == n)) (by simp [ROk, AOk]) ?_ hk
        unfold execOp
        simp [ho, hx', hy', eqGuard_bool, binOp, heq]
      · refine toReg_sound hS h (v := .bool (m != n)) (by simp [ROk, AOk]) ?_ hk
        unfold execOp
        simp [ho, hx', hy', eqGuard_bool, binOp, heq, bne]
      · simp [Rd.Runs] at h
    · simp [Rd.Runs] at h
  split at h
  · exact int_case _ _ _ _ rfl rfl
  · exact bool_case _ _ rfl rfl
  · simp [Rd.Runs] at h

theorem vUn_sound {op : UnOp} {t : TypeId} {x : Operand} (ho : o.op = .unOp op t x) (hS : SimG cx G g a w) (h : (vUn cx.n o.dst op x).Runs g ls (.ws ws))
    (hk : ∀ a' w', Sim cx (apps g ws) a' w' → K a' w') : o.wp P a w K Q := by
  unfold vUn at h
  obtain ⟨x0, ls', hx, h⟩ := ev1_sound hS h
  have not_case : ∀ b, op = .not → x0 = .v (.bool b) → o.wp P a w K Q := by
    rintro b rfl rfl
    have hx' : a.eval x = .bool b := hx
    simp only at h
    refine toReg_sound hS h (v := .bool (!b)) (by simp [ROk, AOk]) ?_ hk
    unfold execOp
    simp [ho, hx', Op.unary]
  have neg_case : ∀ k m, op = .neg → x0 = .v (.int k m) → o.wp P a w K Q := by
    rintro k m rfl rfl
    have hx' : a.eval x = .int k m := hx
    simp only at h
    refine toReg_sound hS h (v := .int k (k.wrap (0 - m))) (by simp [ROk, AOk]) ?_ hk
    unfold execOp
    simp [ho, hx', Op.unary, Op.intArith]
  split at h
  · exact not_case _ rfl rfl
  · exact neg_case _ _ rfl rfl
  · simp [Rd.Runs] at h

theorem AOks.take_drop {γ : Nat → Nat → Option Hv} : ∀ {as : List A} {vs : List Value}, AOks γ G w as vs → ∀ n, AOks γ G w (as.take n) (vs.take n) ∧ AOks γ G w (as.drop n) (vs.drop n)
  | [], vs, h, n => by simp only [AOks] at h; simp [h, AOks]
  | x :: as, vs, h, 0 => ⟨by simp [AOks], by simpa using h⟩
  | x :: as, vs, h, n + 1 => by
    obtain ⟨v, vs', rfl, h1, h2⟩ := h
    have ih := h2.take_drop n
    simp only [List.take_succ_cons, List.drop_succ_cons, AOks]
    exact ⟨⟨v, _, rfl, h1, ih.1⟩, ih.2⟩
theorem AOks.append {γ : Nat → Nat → Option Hv} : ∀ {as bs : List A} {vs us : List Value}, AOks γ G w as vs → AOks γ G w bs us → AOks γ G w (as ++ bs) (vs ++ us)
  | [], bs, vs, us, h, k => by simp only [AOks] at h; simpa [h] using k
  | x :: as, bs, vs, us, h, k => by
    obtain ⟨v, vs', rfl, h1, h2⟩ := h
    simp only [List.cons_append, AOks]
    exact ⟨v, _, rfl, h1, h2.append k⟩

end

end Go.V
