/-
  The value-level condition generator, part 28: what the conditions ask of rows of records, and how it is met.
-/
import Derived.Test.YtlpkkliogonmnaaV27
import Derived.IntWalk
set_option linter.all false

namespace Go.V

/-- A cell of the kind of a zero cell. -/
def fitL : L → L → Bool
  | .v (.int k _), .v (.int k' _) => k == k'
  | .v (.bool _), .v (.bool _) => true
  | .v (.string _), .v (.string _) => true
  | .s sz _, .s sz' _ => sz == sz'
  | _, _ => false
def fitZ : Rec → Rec → Bool
  | [], [] => true
  | z :: zs, x :: xs => fitL z x && fitZ zs xs
  | _, _ => false
/-- All records of a row are of the form of a zero record. -/
def Wf (z : Rec) (es : List Rec) : Prop := ∀ e ∈ es, fitZ z e = true

theorem fitZ_length : ∀ {z e : Rec}, fitZ z e = true → e.length = z.length
  | [], [], _ => rfl
  | [], _ :: _, h => by cases h
  | _ :: _, [], h => by cases h
  | z :: zs, x :: xs, h => by
    simp only [fitZ, Bool.and_eq_true] at h
    simp [fitZ_length h.2]
theorem fitZ_drop : ∀ (o : Nat) {z e : Rec}, fitZ z e = true → fitZ (z.drop o) (e.drop o) = true
  | 0, z, e, h => h
  | o + 1, [], [], h => by simp [fitZ]
  | o + 1, [], _ :: _, h => by cases h
  | o + 1, _ :: _, [], h => by cases h
  | o + 1, z :: zs, x :: xs, h => by
    simp only [fitZ, Bool.and_eq_true] at h
    exact fitZ_drop o h.2
theorem fitZ_take : ∀ (m : Nat) {z e : Rec}, fitZ z e = true → fitZ (z.take m) (e.take m) = true
  | 0, z, e, h => by simp [fitZ]
  | m + 1, [], [], h => by simp [fitZ]
  | m + 1, [], _ :: _, h => by cases h
  | m + 1, _ :: _, [], h => by cases h
  | m + 1, z :: zs, x :: xs, h => by
    simp only [fitZ, Bool.and_eq_true] at h
    simp only [List.take_succ_cons, fitZ, Bool.and_eq_true]
    exact ⟨h.1, fitZ_take m h.2⟩

theorem Wf.at {z : Rec} {es : List Rec} (h : Wf z es) {n : Nat} (hn : n < es.length) : fitZ z (es.getD n []) = true := by
  rw [List.getD_eq_getElem?_getD, List.getElem?_eq_getElem hn]
  exact h _ (List.getElem_mem hn)
theorem Wf.nil {z : Rec} : Wf z [] := fun _ h => by cases h
theorem Wf.cons {z e : Rec} {es : List Rec} (h : fitZ z e = true) (hs : Wf z es) : Wf z (e :: es) := by
  intro x hx
  rcases List.mem_cons.1 hx with rfl | hx
  · exact h
  · exact hs x hx
theorem Wf.append {z : Rec} {es fs : List Rec} (h : Wf z es) (hs : Wf z fs) : Wf z (es ++ fs) := by
  intro x hx
  rcases List.mem_append.1 hx with hx | hx
  · exact h x hx
  · exact hs x hx
theorem Wf.take {z : Rec} {es : List Rec} (h : Wf z es) (n : Nat) : Wf z (es.take n) := fun x hx => h x (List.mem_of_mem_take hx)
theorem Wf.drop {z : Rec} {es : List Rec} (h : Wf z es) (n : Nat) : Wf z (es.drop n) := fun x hx => h x (List.mem_of_mem_drop hx)

/-- The accessors of a cell, by what it is. -/
theorem etaE_fit {es : List Rec} {i : Int} {t : Rec} : ∀ {z : Rec} {j : Nat} {rest : Rec}, fitZ z rest = true → (es.getD i.toNat []).drop j = rest ++ t → etaE stdO es i j z = rest
  | [], j, [], _, _ => rfl
  | [], _, _ :: _, h, _ => by cases h
  | _ :: _, _, [], h, _ => by cases h
  | z :: zs, j, x :: xs, h, e => by
    simp only [fitZ, Bool.and_eq_true] at h
    have hx : (es.getD i.toNat []).getD j .g = x := by
      have : (es.getD i.toNat [])[j]? = some x := by
        have := congrArg (fun l : List L => l[0]?) e
        simpa [List.getElem?_drop] using this
      rw [List.getD_eq_getElem?_getD, this]; rfl
    have hr : (es.getD i.toNat []).drop (j + 1) = xs ++ t := by
      rw [← List.drop_drop, e]; rfl
    have ih := etaE_fit h.2 hr
    cases z with
    | v z => cases z with
      | int k n => cases x with
        | v x => cases x with
          | int k' n' =>
            have : k = k' := by simpa [fitL] using h.1
            subst this
            simp only [etaE, ih]
            congr 3
            exact (show giI es i j = _ by simp only [giI, hx, lfI])
          | _ => simp [fitL] at h
        | _ => simp [fitL] at h
      | bool b => cases x with
        | v x => cases x with
          | bool b' =>
            simp only [etaE, ih]
            congr 3
            exact (show gbI es i j = _ by simp only [gbI, hx, lfB])
          | _ => simp [fitL] at h
        | _ => simp [fitL] at h
      | string b => cases x with
        | v x => cases x with
          | string b' =>
            simp only [etaE, ih]
            congr 3
            exact (show gtI es i j = _ by simp only [gtI, hx, lfT])
          | _ => simp [fitL] at h
        | _ => simp [fitL] at h
      | _ => simp [fitL] at h
    | s sz es0 => cases x with
      | s sz' es' =>
        have : sz = sz' := by simpa [fitL] using h.1
        subst this
        simp only [etaE, ih]
        congr 2
        exact (show gsI es i j = _ by simp only [gsI, hx, lfS])
      | _ => simp [fitL] at h
    | g => simp [fitL] at h

/-- An element of a row that is only read. -/
theorem row_ro {z : Rec} {es : List Rec} {i : Int} (hr : Wf z es) (h0 : 0 ≤ i) (h1 : i < es.length) : 0 ≤ i ∧ i < es.length ∧ es.getD i.toNat [] = etaE stdO es i 0 z :=
  ⟨h0, h1, (etaE_fit (t := []) (hr.at (by omega)) (by simp)).symm⟩

theorem getR_one {sz : Nat} {es : List Rec} {n j : Nat} : getR (.s sz es) [(n, j)] = (es[n]?).map (·, j) := rfl
theorem pi_one {sz : Nat} {es : List Rec} {n j : Nat} : piI (.s sz es) [(n, j)] = giI es n j := by
  simp only [piI, pbI, ptI, giI, gbI, gtI, getV, getR_one, Int.toNat_natCast, List.getD_eq_getElem?_getD]
  cases es[n]? with
  | none => rfl
  | some e =>
    simp only [Option.map_some, Option.getD_some]
    cases e[j]? with
    | none => rfl
    | some x => cases x with
      | v x => cases x <;> rfl
      | _ => rfl
theorem pb_one {sz : Nat} {es : List Rec} {n j : Nat} : pbI (.s sz es) [(n, j)] = gbI es n j := by
  simp only [piI, pbI, ptI, giI, gbI, gtI, getV, getR_one, Int.toNat_natCast, List.getD_eq_getElem?_getD]
  cases es[n]? with
  | none => rfl
  | some e =>
    simp only [Option.map_some, Option.getD_some]
    cases e[j]? with
    | none => rfl
    | some x => cases x with
      | v x => cases x <;> rfl
      | _ => rfl
theorem pt_one {sz : Nat} {es : List Rec} {n j : Nat} : ptI (.s sz es) [(n, j)] = gtI es n j := by
  simp only [piI, pbI, ptI, giI, gbI, gtI, getV, getR_one, Int.toNat_natCast, List.getD_eq_getElem?_getD]
  cases es[n]? with
  | none => rfl
  | some e =>
    simp only [Option.map_some, Option.getD_some]
    cases e[j]? with
    | none => rfl
    | some x => cases x with
      | v x => cases x <;> rfl
      | _ => rfl
theorem ps_one {sz : Nat} {es : List Rec} {n j : Nat} : psI (.s sz es) [(n, j)] = gsI es n j := by
  simp only [psI, gsI, getS, getR_one, Int.toNat_natCast, List.getD_eq_getElem?_getD]
  cases es[n]? with
  | none => rfl
  | some e =>
    simp only [Option.map_some, Option.getD_some]
    cases e[j]? with
    | none => rfl
    | some x => cases x <;> rfl

theorem stdO_pi : stdO.pi = piI := rfl
theorem stdO_pb : stdO.pb = pbI := rfl
theorem stdO_pt : stdO.pt = ptI := rfl
theorem stdO_ps : stdO.ps = psI := rfl
theorem stdO_gi : stdO.gi = giI := rfl
theorem stdO_gb : stdO.gb = gbI := rfl
theorem stdO_gt : stdO.gt = gtI := rfl
theorem stdO_gs : stdO.gs = gsI := rfl
theorem etaP_one {sz : Nat} {es : List Rec} {n o : Nat} : ∀ {z : Rec} {j : Nat}, etaP stdO (.s sz es) [(n, o)] j z = etaE stdO es n (o + j) z
  | [], j => rfl
  | z :: zs, j => by
    have ih : etaP stdO (.s sz es) [(n, o)] (j + 1) zs = etaE stdO es n (o + j + 1) zs := etaP_one
    cases z with
    | v x => cases x <;> simp only [etaP, etaE, adv, stdO_pi, stdO_pb, stdO_pt, stdO_gi, stdO_gb, stdO_gt, pi_one, pb_one, pt_one, ih]
    | s a b => simp only [etaP, etaE, adv, stdO_ps, stdO_gs, ps_one, ih]
    | g => simp only [etaP, etaE, ih]

/-- The cells of an element of a row of the call's own: from the o-th on as many as z has, z0 being the element's zero. -/
theorem row_load {z z0 : Rec} {sz : Nat} {es : List Rec} {n o : Nat} (hr : Wf z0 es) (hn : n < es.length) (hz : (z0.drop o).take z.length = z) (ho : o + z.length ≤ z0.length) :
    ∃ rec o', getR (.s sz es) [(n, o)] = some (rec, o') ∧ o' + z.length ≤ rec.length ∧ (rec.drop o').take z.length = etaP stdO (.s sz es) [(n, o)] 0 z := by
  have hf := hr.at hn
  have e1 : es[n]? = some (es.getD n []) := by rw [List.getD_eq_getElem?_getD, List.getElem?_eq_getElem hn]; rfl
  refine ⟨es.getD n [], o, by rw [getR_one, e1]; rfl, ?_, ?_⟩
  · rw [fitZ_length hf]; exact ho
  · have hf2 : fitZ z (((es.getD n []).drop o).take z.length) = true := by
      have := fitZ_take z.length (fitZ_drop o hf)
      rw [hz] at this; exact this
    rw [etaP_one]
    symm
    exact etaE_fit (t := ((es.getD n []).drop o).drop z.length) hf2 (by rw [Nat.add_zero, Int.toNat_natCast]; exact (List.take_append_drop _ _).symm)

/-- A row of integers. -/
def rowI (xs : List Int) : List Rec := xs.map fun x => [.v (.int .i64 x)]
theorem rowI_wf (xs : List Int) : Wf [.v (.int .i64 0)] (rowI xs) := by
  intro e he
  simp only [rowI, List.mem_map] at he
  obtain ⟨x, _, rfl⟩ := he
  rfl
theorem rowI_length (xs : List Int) : (rowI xs).length = xs.length := by simp [rowI]
theorem rowI_gi (xs : List Int) (i : Int) : giI (rowI xs) i 0 = xs.getD i.toNat 0 := by
  simp only [giI, rowI, List.getD_eq_getElem?_getD, List.getElem?_map]
  cases xs[i.toNat]? <;> rfl

end Go.V
