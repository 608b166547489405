/-
  The value-level condition generator, part 29: an argument that reads as data is a tree of data; its form.
-/
import Derived.Test.YtlpkkliogonmnaaV28
import Derived.ProofKit
set_option linter.all false

namespace Go.V

/-- A cell's form, whatever the program: of a slice the cells of an element. -/
inductive Ty where
  | int (k : IntKind)
  | bool
  | str
  | sl (fs : List Ty)

mutual
def confL : Ty → L → Prop
  | .int k, .v (.int k' n) => k' = k ∧ k.has n
  | .bool, .v (.bool _) => True
  | .str, .v (.string s) => s.size ≤ maxLen
  | .sl fs, .s sz es => sz = fs.length ∧ es.length ≤ maxLen ∧ ∀ e ∈ es, confR fs e
  | _, _ => False
def confR : List Ty → Rec → Prop
  | [], [] => True
  | t :: ts, l :: ls => confL t l ∧ confR ts ls
  | _, _ => False
end

/-- The cells of a type, in a row; 'none' where it isn't data. -/
def shape (P : Program) : Nat → TypeId → Option (List Ty)
  | 0, _ => none
  | k + 1, t =>
    let r : Option (List Ty) := match P.underlying t with
      | some (.int kd) => some [.int kd]
      | some .bool => some [.bool]
      | some .string => some [.str]
      | some (.slice e) => match shape P k e with
        | some (f :: fs) => if P.cellsOf e = (f :: fs).length then some [.sl (f :: fs)] else none
        | _ => none
      | some (.struct fs) => (fs.toList.foldl (fun acc fd => match acc, shape P k fd.type with
          | some acc, some ts => if fd.offset = acc.length ∧ P.cellsOf fd.type = ts.length then some (acc ++ ts) else none
          | _, _ => none) (some []))
      | _ => none
    match r with
    | some ts => if P.cellsOf t = ts.length then some ts else none
    | none => none

theorem confR_length : ∀ {ts : List Ty} {r : Rec}, confR ts r → r.length = ts.length
  | [], [], _ => rfl
  | [], _ :: _, h => by simp [confR] at h
  | _ :: _, [], h => by simp [confR] at h
  | t :: ts, l :: ls, h => by simp only [confR] at h; simp [confR_length h.2]
theorem confR_append : ∀ {ts us : List Ty} {r s : Rec}, confR ts r → confR us s → confR (ts ++ us) (r ++ s)
  | [], us, [], s, _, h2 => h2
  | [], _, _ :: _, _, h, _ => by simp [confR] at h
  | _ :: _, _, [], _, h, _ => by simp [confR] at h
  | t :: ts, us, l :: ls, s, h, h2 => by
    simp only [confR, List.cons_append] at h ⊢
    exact ⟨h.1, confR_append h.2 h2⟩

section
variable {P : Program} {w : World}

/-- Elements one by one make a row. -/
theorem rows_of {sz : Nat} {c : Rec → Prop} : ∀ (len : Nat) (l : List Value), l.length = len * sz → (∀ i, i < len → ∃ rec S, RdRec w rec ((l.drop (i * sz)).take sz) S ∧ c rec) →
    ∃ es S, es.length = len ∧ RdEs w sz es l S ∧ ∀ e ∈ es, c e
  | 0, l, hl, _ => ⟨[], [], rfl, by simp only [RdEs]; exact ⟨List.eq_nil_of_length_eq_zero (by simpa using hl), trivial⟩, fun e h => by cases h⟩
  | len + 1, l, hl, h => by
    obtain ⟨rec, S, h1, h2⟩ := h 0 (by omega)
    have hsz : sz ≤ l.length := by rw [hl, Nat.add_mul]; omega
    obtain ⟨es, T, k1, k2, k3⟩ := rows_of (sz := sz) (c := c) len (l.drop sz) (by rw [List.length_drop, hl, Nat.add_mul]; omega) (fun i hi => by
      obtain ⟨rec, S, h1, h2⟩ := h (i + 1) (by omega)
      refine ⟨rec, S, ?_, h2⟩
      rw [List.drop_drop]
      rw [show sz + i * sz = (i + 1) * sz from by rw [Nat.add_mul]; omega]
      exact h1)
    refine ⟨rec :: es, S ++ T, by simp [k1], ?_, ?_⟩
    · simp only [RdEs]
      refine ⟨l.take sz, l.drop sz, S, T, (List.take_append_drop _ _).symm, by simp; omega, by simpa using h1, k2, rfl⟩
    · intro e he
      rcases List.mem_cons.1 he with rfl | he
      · exact h2
      · exact k3 e he

theorem cells_at {a : Addr} {n : Nat} {cs : List Value} (h : w.cells? 0 a n = some cs) : cs.length = n ∧ ∀ k, k < n → w.cell? (a.add k) = cs[k]? := by
  unfold World.cells? at h
  rw [if_pos (Nat.zero_le _)] at h
  have hl := mapM_some_length h
  refine ⟨by simpa using hl, fun k hk => mapM_some_get h k k (by simp [hk])⟩

theorem add_add' (a : Addr) (ha : a.spot = none) (i k : Nat) : (a.add i).add k = ⟨a.block, a.off + i + k, none⟩ := by
  obtain ⟨b, o, s⟩ := a
  simp only at ha; subst ha
  unfold Addr.add
  split <;> split <;> simp_all <;> omega

theorem foldl_none {α : Type} {f : Option (List Ty) → α → Option (List Ty)} (hf : ∀ x, f none x = none) : ∀ (l : List α), l.foldl f none = none
  | [] => rfl
  | x :: l => by rw [List.foldl_cons, hf]; exact foldl_none hf l

/-- **AN ARGUMENT THAT READS AS DATA IS A TREE OF DATA.** -/
theorem read_trod {H : Type} {enc : TypeId × Value → H} : ∀ (k : Nat) (t : TypeId) (ts : List Ty), shape P k t = some ts → ∀ (fuel : Nat) (cs : List Value) (x : DataW H × List MemPlace), DataW.trod enc P w 0 (fun _ => true) true fuel t cs = some x →
    ∃ rec S, RdRec w rec cs S ∧ confR ts rec
  | 0, t, ts, hs, _, _, _, _ => by simp [shape] at hs
  | k + 1, t, ts, hs, 0, _, _, h => by simp [DataW.trod] at h
  | k + 1, t, ts, hs, fuel + 1, cs, x, h => by
    simp only [shape] at hs
    have hcell : P.cellsOf t = ts.length := by
      split at hs
      · rename_i r _
        split at hs
        · rename_i hc; cases hs; exact hc
        · cases hs
      · cases hs
    unfold DataW.trod at h
    cases hu : P.underlying t with
    | none => simp [hu] at hs
    | some d =>
      simp only [hu] at hs h
      cases d with
      | int kd =>
        have : ts = [.int kd] := by
          simp only at hs; split at hs
          · cases hs; rfl
          · cases hs
        subst this
        match cs, h with
        | [.int k' n], h =>
          simp only at h
          split at h
          · rename_i hc
            obtain ⟨rfl, hwf⟩ := hc
            simp only [Lit.wf, Bool.and_eq_true, decide_eq_true_eq] at hwf
            exact ⟨[.v (.int k' n)], [], by simp [RdRec, RdL, scal], by simp only [confR, confL]; exact ⟨⟨trivial, hwf⟩, trivial⟩⟩
          · cases h
      | bool =>
        have : ts = [.bool] := by
          simp only at hs; split at hs
          · cases hs; rfl
          · cases hs
        subst this
        match cs, h with
        | [.bool b], h => exact ⟨[.v (.bool b)], [], by simp [RdRec, RdL, scal], by simp [confR, confL]⟩
      | string =>
        have : ts = [.str] := by
          simp only at hs; split at hs
          · cases hs; rfl
          · cases hs
        subst this
        match cs, h with
        | [.string b], h =>
          simp only at h
          split at h
          · rename_i hc
            exact ⟨[.v (.string b)], [], by simp [RdRec, RdL, scal], by simp only [confR, confL]; exact ⟨hc, trivial⟩⟩
          · cases h
      | slice e =>
        simp only at hs
        cases he : shape P k e with
        | none => simp [he] at hs
        | some fs =>
          cases fs with
          | nil => simp [he] at hs
          | cons f fs =>
            simp only [he] at hs
            split at hs
            · rename_i r hr
              split at hr
              · rename_i hce
                cases hr
                split at hs
                · cases hs
                  match cs, h with
                  | [.slice none 0 0], h =>
                    refine ⟨[.s (f :: fs).length []], [], ?_, ?_⟩
                    · simp only [RdRec, RdL]
                      exact ⟨_, [], [], [], rfl, ⟨none, 0, 0, rfl, rfl, Nat.le_refl _, Nat.zero_le _, .inl ⟨rfl, rfl⟩⟩, ⟨rfl, rfl⟩, rfl⟩
                    · simp only [confR, confL]
                      exact ⟨⟨trivial, Nat.zero_le _, fun e h => by cases h⟩, trivial⟩
                  | [.slice (some a) len cap], h =>
                    simp only at h
                    split at h
                    · rename_i hb
                      obtain ⟨_, hlc, hcm⟩ := hb
                      simp only [if_true, Option.map_eq_some_iff, Option.bind_eq_some_iff] at h
                      obtain ⟨elems, hel, rest, hrest, _⟩ := h
                      have hsz : P.cellsOf e = (f :: fs).length := hce
                      have hszp : 0 < P.cellsOf e := by rw [hsz]; simp
                      have hat : ∀ i, i < cap → ∃ ci y, w.cells? 0 (a.add (i * P.cellsOf e)) (P.cellsOf e) = some ci ∧ DataW.trod enc P w 0 (fun _ => true) true fuel e ci = some y := by
                        intro i hi
                        rcases Nat.lt_or_ge i len with c | c
                        · have := mapM_some_get hel i i (List.getElem?_range c)
                          have hl := mapM_some_length hel
                          simp only [List.length_range] at hl
                          rw [List.getElem?_eq_getElem (by omega)] at this
                          simp only [Option.bind_eq_some_iff] at this
                          obtain ⟨ci, h1, h2⟩ := this
                          exact ⟨ci, _, h1, h2⟩
                        · have := mapM_some_get hrest (i - len) (i - len) (List.getElem?_range (by omega))
                          have hl := mapM_some_length hrest
                          simp only [List.length_range] at hl
                          rw [List.getElem?_eq_getElem (by omega)] at this
                          simp only [Option.bind_eq_some_iff] at this
                          obtain ⟨ci, h1, h2⟩ := this
                          rw [show len + (i - len) = i from by omega] at h1
                          exact ⟨ci, _, h1, h2⟩
                      by_cases hc0 : cap = 0
                      · subst hc0
                        have : len = 0 := by omega
                        subst this
                        refine ⟨[.s (f :: fs).length []], [], ?_, ?_⟩
                        · simp only [RdRec, RdL]
                          exact ⟨_, [], [], [], rfl, ⟨some a, 0, 0, rfl, rfl, Nat.le_refl _, Nat.zero_le _, .inl ⟨rfl, rfl⟩⟩, ⟨rfl, rfl⟩, rfl⟩
                        · simp only [confR, confL]
                          exact ⟨⟨trivial, Nat.zero_le _, fun e h => by cases h⟩, trivial⟩
                      · -- the block
                        obtain ⟨c0, y0, z1, z2⟩ := hat 0 (by omega)
                        have z3 := (cells_at z1).2 0 hszp
                        have hz4 : ∃ v, w.cell? a = some v := by
                          rw [Nat.zero_mul] at z3
                          have : (a.add 0).add 0 = a := rfl
                          rw [this] at z3
                          rw [z3]
                          have := (cells_at z1).1
                          exact ⟨_, List.getElem?_eq_getElem (by omega)⟩
                        obtain ⟨v0, hv0⟩ := hz4
                        have hblk : ∃ cur ty fz, w.heap[a.block]? = some (.cells cur ty fz) ∧ a.spot = none := by
                          unfold World.cell? at hv0
                          split at hv0
                          · rename_i cur ty fz hh
                            refine ⟨cur, ty, fz, hh, ?_⟩
                            cases hsp : a.spot with
                            | none => rfl
                            | some s => simp [hsp] at hv0
                          · cases hv0
                        obtain ⟨cur, ty, fz, hh, hsp⟩ := hblk
                        have hcellat : ∀ j, w.cell? ⟨a.block, j, none⟩ = cur[j]? := by
                          intro j; unfold World.cell?; simp [hh]
                        have hel2 : ∀ i, i < cap → ∃ ci y, ci.length = P.cellsOf e ∧ (∀ kk, kk < P.cellsOf e → cur[a.off + i * P.cellsOf e + kk]? = ci[kk]?) ∧ DataW.trod enc P w 0 (fun _ => true) true fuel e ci = some y := by
                          intro i hi
                          obtain ⟨ci, y, h1, h2⟩ := hat i hi
                          obtain ⟨h3, h4⟩ := cells_at h1
                          refine ⟨ci, y, h3, fun kk hkk => ?_, h2⟩
                          rw [← h4 kk hkk, add_add' a hsp, hcellat]
                        have hfit : a.off + cap * P.cellsOf e ≤ cur.size := by
                          obtain ⟨ci, y, h1, h2, _⟩ := hel2 (cap - 1) (by omega)
                          have := h2 (P.cellsOf e - 1) (by omega)
                          rw [List.getElem?_eq_getElem (by omega)] at this
                          have hlt := (Array.getElem?_eq_some_iff.1 this).1
                          have : cap * P.cellsOf e = (cap - 1) * P.cellsOf e + P.cellsOf e := by
                            rw [← Nat.succ_mul]; congr 1; omega
                          omega
                        have hle : len * P.cellsOf e ≤ cap * P.cellsOf e := Nat.mul_le_mul_right _ hlc
                        obtain ⟨es, S, k1, k2, k3⟩ := rows_of (w := w) (sz := P.cellsOf e) (c := confR (f :: fs)) len ((cur.toList.drop a.off).take (len * P.cellsOf e)) (by simp only [List.length_take, List.length_drop, Array.length_toList]; omega) (fun i hi => by
                          obtain ⟨ci, y, h1, h2, h3⟩ := hel2 i (by omega)
                          obtain ⟨rec, S, r1, r2⟩ := read_trod k e (f :: fs) he fuel ci y h3
                          refine ⟨rec, S, ?_, r2⟩
                          have : (((cur.toList.drop a.off).take (len * P.cellsOf e)).drop (i * P.cellsOf e)).take (P.cellsOf e) = ci := by
                            apply List.ext_getElem?
                            intro kk
                            have hii : (i + 1) * P.cellsOf e ≤ len * P.cellsOf e := Nat.mul_le_mul_right _ hi
                            rw [Nat.succ_mul] at hii
                            simp only [List.getElem?_take, List.getElem?_drop]
                            by_cases ck : kk < P.cellsOf e
                            · rw [if_pos ck, if_pos (by omega), ← h2 kk ck, Array.getElem?_toList]; congr 1; omega
                            · rw [if_neg ck, List.getElem?_eq_none (by omega)]
                          rw [this]; exact r1)
                        refine ⟨[.s (f :: fs).length es], a.block :: S, ?_, ?_⟩
                        · simp only [RdRec, RdL]
                          refine ⟨_, [], a.block :: S, [], rfl, ⟨some a, len, cap, rfl, k1.symm, hlc, hcm, .inr ⟨a.block, a.off, cur, ty, fz, S, ?_, hh, by rw [← hsz]; exact hfit, by rw [← hsz]; exact k2, rfl⟩⟩, ⟨rfl, rfl⟩, by simp⟩
                          obtain ⟨b, o, s⟩ := a; simp only at hsp; subst hsp; rfl
                        · simp only [confR, confL]
                          exact ⟨⟨trivial, by omega, k3⟩, trivial⟩
                    · cases h
                · cases hs
              · cases hr
            · cases hs
      | struct fs =>
        simp only at hs
        generalize hfold : (fs.toList.foldl (fun acc fd => match acc, shape P k fd.type with
          | some acc, some ts => if fd.offset = acc.length ∧ P.cellsOf fd.type = ts.length then some (acc ++ ts) else none
          | _, _ => none) (some [])) = r at hs
        cases r with
        | none => cases hs
        | some ts0 =>
          simp only at hs
          by_cases hc0 : P.cellsOf t = ts0.length
          case neg => rw [if_neg hc0] at hs; cases hs
          rw [if_pos hc0] at hs
          cases hs
          simp only at h
          split at h
          · rename_i hcl
            simp only [Option.map_eq_some_iff] at h
            obtain ⟨xs, hxs, _⟩ := h
            have key : ∀ (l : List Field) (acc : List Ty) (xs : List (DataW H × List MemPlace)), l.foldl (fun acc fd => match acc, shape P k fd.type with
                | some acc, some ts => if fd.offset = acc.length ∧ P.cellsOf fd.type = ts.length then some (acc ++ ts) else none
                | _, _ => none) (some acc) = some ts → l.mapM (fun f => DataW.trod enc P w 0 (fun _ => true) true fuel f.type ((cs.drop f.offset).take (P.cellsOf f.type))) = some xs →
                ∃ tl, ts = acc ++ tl ∧ ∃ rec S, RdRec w rec ((cs.drop acc.length).take tl.length) S ∧ confR tl rec := by
              intro l
              induction l with
              | nil => intro acc xs h _; simp only [List.foldl_nil, Option.some.injEq] at h; exact ⟨[], by simp [h], [], [], by simp [RdRec], by simp [confR]⟩
              | cons fd l ih =>
                intro acc xs h hm
                rw [List.foldl_cons] at h
                cases hsf : shape P k fd.type with
                | none => simp only [hsf] at h; rw [foldl_none (fun _ => rfl)] at h; cases h
                | some us =>
                  simp only [hsf] at h
                  by_cases hc : fd.offset = acc.length ∧ P.cellsOf fd.type = us.length
                  · rw [if_pos hc] at h
                    simp only [List.mapM_cons, Option.bind_eq_bind, Option.bind_eq_some_iff] at hm
                    obtain ⟨y, hy, ys, hys, _⟩ := hm
                    obtain ⟨tl, e1, rec, S, r1, r2⟩ := ih (acc ++ us) ys h hys
                    obtain ⟨rec0, S0, q1, q2⟩ := read_trod k fd.type us hsf fuel _ y hy
                    refine ⟨us ++ tl, by rw [e1, List.append_assoc], rec0 ++ rec, S0 ++ S, ?_, confR_append q2 r2⟩
                    have e2 : (cs.drop acc.length).take (us ++ tl).length = (cs.drop fd.offset).take (P.cellsOf fd.type) ++ (cs.drop (acc ++ us).length).take tl.length := by
                      rw [hc.1, hc.2, List.length_append, List.length_append, List.take_add, List.drop_drop]
                    rw [e2]
                    exact q1.append r1
                  · rw [if_neg hc] at h; rw [foldl_none (fun _ => rfl)] at h; cases h
            obtain ⟨tl, e1, rec, S, r1, r2⟩ := key fs.toList [] xs hfold hxs
            simp only [List.nil_append] at e1
            subst e1
            refine ⟨rec, S, ?_, r2⟩
            rw [hcell] at hcl
            simpa [← hcl] using r1
          · cases h
      | _ => simp at hs

end
end Go.V
