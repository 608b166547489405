/-
  The law of the reference heap.
-/
import Derived.Test.YtbfhhmjhdimjlaaH20
import Derived.Test.YtbfhhmjhdimjlaaH23

set_option linter.all false
namespace Go.V

def rlX (cs : List (List L)) : Int := arI .add .i64 1 (arI .rem .i64 (giI (dpl cs) 0 0) 9)
def rlK (cs : List (List L)) : Int := arI .rem .i64 (giI (dpl cs) 1 0) 4
def rlV (cs : List (List L)) : Int := arI .rem .i64 (giI (dpl cs) 2 0) 1000
theorem rlX_b {cs : List (List L)} : 1 ≤ rlX cs ∧ rlX cs ≤ 9 := by
  have d := dpl_at (cs := cs) (j := 0) (by omega) (by omega)
  have r := rem_bound (a := giI (dpl cs) 0 0) (n := 9) d.1 (by omega)
  have e : rlX cs = 1 + arI .rem .i64 (giI (dpl cs) 0 0) 9 := add64 (by omega)
  omega
theorem rlK_b {cs : List (List L)} : 0 ≤ rlK cs ∧ rlK cs < 4 := by
  have d := dpl_at (cs := cs) (j := 1) (by omega) (by omega)
  exact rem_bound (a := giI (dpl cs) 1 0) (n := 4) d.1 (by omega)
theorem rlV_b {cs : List (List L)} : 0 ≤ rlV cs ∧ rlV cs < 1000 := by
  have d := dpl_at (cs := cs) (j := 2) (by omega) (by omega)
  exact rem_bound (a := giI (dpl cs) 2 0) (n := 1000) d.1 (by omega)
theorem rlK1 {cs : List (List L)} : arI .add .i64 1 (rlK cs) = rlK cs + 1 := by
  have := rlK_b (cs := cs)
  rw [show arI .add .i64 1 (rlK cs) = 1 + rlK cs from add64 (by omega)]; omega
def zRi : (List L) := [.v (.int .i64 0)]
def rlO1 (cs : List (List L)) : List (List L) := [[.v (.int .i64 1), .s 1 (List.replicate (rlX cs).toNat zRi)]]
def rlO2 (cs : List (List L)) : List (List L) := [[.v (.int .i64 1), .s 1 (List.replicate (rlX cs).toNat zRi)], [.v (.int .i64 2), .s 1 (List.replicate 4 zRi)]]
def rlC (cs : List (List L)) : List (List L) := (List.replicate 4 zRi).set (rlK cs).toNat [.v (.int .i64 (rlV cs))]
def rlO3 (cs : List (List L)) : List (List L) := [[.v (.int .i64 1), .s 1 (List.replicate (rlX cs).toNat zRi)], [.v (.int .i64 2), .s 1 (rlC cs)]]
def rlO4 (cs : List (List L)) : List (List L) := [[.v (.int .i64 2), .s 1 (rlC cs)]]
def rlO5 (cs : List (List L)) : List (List L) := [[.v (.int .i64 2), .s 1 ((rlC cs).take (rlK cs + 1).toNat)]]
theorem rl1 {cs : List (List L)} : raO 1 [] (rlX cs) = rlO1 cs ∧ raN 1 (rlX cs) = 2 ∧ raR 1 (rlX cs) = 1 := by
  have b := rlX_b (cs := cs)
  have q := ra_yes (n := 1) (os := []) (sz := rlX cs) (inR_t.2 (by omega))
  exact ⟨q.2.1, q.1, q.2.2⟩
theorem rl2 {cs : List (List L)} : raO 2 (rlO1 cs) 4 = rlO2 cs ∧ raN 2 4 = 3 ∧ raR 2 4 = 2 := by
  have q := ra_yes (n := 2) (os := rlO1 cs) (sz := 4) (inR_t.2 (by omega))
  exact ⟨q.2.1, q.1, q.2.2⟩
theorem rl3 {cs : List (List L)} : rsB (rlO2 cs) 2 (rlK cs) (rlV cs) = true ∧ rsO (rlO2 cs) 2 (rlK cs) (rlV cs) = rlO3 cs := by
  have b := rlK_b (cs := cs); have c := rlV_b (cs := cs)
  have e : rfI (rlO2 cs) 2 = 1 := rfl
  have q := rs_yes (os := rlO2 cs) (id := 2) (at_ := rlK cs) (v := rlV cs) (by rw [e]; omega) (by rw [e]; exact inR_t.2 ⟨b.1, by show rlK cs ≤ ((4 : Nat) : Int) - 1; omega⟩) (inR_t.2 (by omega))
  rw [e] at q
  exact ⟨q.2, q.1⟩
theorem rl4 {cs : List (List L)} : rdB (rlO3 cs) 1 = true ∧ rdO (rlO3 cs) 1 = rlO4 cs := ⟨rfl, rfl⟩
theorem rl5 {cs : List (List L)} : rdB (rlO4 cs) 1 = false := rfl
theorem rlC_l {cs : List (List L)} : (rlC cs).length = 4 := by unfold rlC; rw [List.length_set, List.length_replicate]
theorem rl6 {cs : List (List L)} : rtB (rlO4 cs) 2 (rlK cs + 1) = true ∧ rtO (rlO4 cs) 2 (rlK cs + 1) = rlO5 cs := by
  have b := rlK_b (cs := cs)
  have e : rfI (rlO4 cs) 2 = 0 := rfl
  have q := rt_yes (os := rlO4 cs) (id := 2) (sz := rlK cs + 1) (by rw [e]; omega) (by rw [e]; refine inR_t.2 ⟨by omega, ?_⟩; show rlK cs + 1 ≤ ((rlC cs).length : Int); rw [rlC_l]; omega)
  rw [e] at q
  exact ⟨q.2, q.1⟩
theorem rw_z {n : Nat} (h : n ≤ 1000) : Rw [tI] (List.replicate n zRi) := by
  refine ⟨by rw [List.length_replicate]; unfold maxLen; omega, fun e he => ?_⟩
  rw [List.eq_of_mem_replicate he]
  exact ⟨⟨rfl, by unfold IntKind.has; decide⟩, trivial⟩
theorem rlC_w {cs : List (List L)} : Rw [tI] (rlC cs) := by
  have c := rlV_b (cs := cs)
  exact (rw_z (n := 4) (by omega)).set (show confR [tI] [.v (.int .i64 _)] from ⟨⟨rfl, by show -9223372036854775808 ≤ _ ∧ _ ≤ (9223372036854775807 : Int); omega⟩, trivial⟩) _
theorem rw_o {n : Int} {c : List (List L)} (hn : 0 ≤ n ∧ n ≤ 10) (h : Rw [tI] c) : confR tO [.v (.int .i64 n), .s 1 c] := ⟨⟨rfl, by show -9223372036854775808 ≤ _ ∧ _ ≤ (9223372036854775807 : Int); omega⟩, ⟨rfl, h⟩, trivial⟩
theorem rl_w {cs : List (List L)} : (Rw tO (rlO1 cs) ∧ cntE (rlO1 cs) ≤ 1099511627776) ∧ (Rw tO (rlO2 cs) ∧ cntE (rlO2 cs) ≤ 1099511627776) ∧ (Rw tO (rlO3 cs) ∧ cntE (rlO3 cs) ≤ 1099511627776) ∧ (Rw tO (rlO4 cs) ∧ cntE (rlO4 cs) ≤ 1099511627776) ∧ (Rw tO (rlO5 cs) ∧ cntE (rlO5 cs) ≤ 1099511627776) := by
  have b := rlX_b (cs := cs)
  have z1 := rw_z (n := (rlX cs).toNat) (by omega)
  have z2 := rw_z (n := 4) (by omega)
  have z3 := rlC_w (cs := cs)
  have z4 : Rw [tI] ((rlC cs).take (rlK cs + 1).toNat) := ⟨by rw [List.length_take]; have := z3.1; omega, fun e he => z3.2 e (List.mem_of_mem_take he)⟩
  have c1 := z1.cnt rfl; have c2 := z2.cnt rfl; have c3 := z3.cnt rfl; have c4 := z4.cnt rfl
  rw [List.length_replicate] at c1 c2
  rw [rlC_l] at c3
  rw [List.length_take, rlC_l] at c4
  have o1 := rw_o (n := 1) (by omega) z1
  have o2 := rw_o (n := 2) (by omega) z2
  have o3 := rw_o (n := 2) (by omega) z3
  have o4 := rw_o (n := 2) (by omega) z4
  refine ⟨⟨⟨by show 1 ≤ maxLen; decide, fun e he => ?_⟩, ?_⟩, ⟨⟨by show 2 ≤ maxLen; decide, fun e he => ?_⟩, ?_⟩, ⟨⟨by show 2 ≤ maxLen; decide, fun e he => ?_⟩, ?_⟩, ⟨⟨by show 1 ≤ maxLen; decide, fun e he => ?_⟩, ?_⟩, ⟨⟨by show 1 ≤ maxLen; decide, fun e he => ?_⟩, ?_⟩⟩
  · simp only [rlO1, List.mem_cons, List.not_mem_nil, or_false] at he; rw [he]; exact o1
  · simp only [rlO1, cntE, cntEs, cntR, cntL, List.length_cons, List.length_nil] at *; omega
  · simp only [rlO2, List.mem_cons, List.not_mem_nil, or_false] at he; rcases he with rfl | rfl <;> first | exact o1 | exact o2
  · simp only [rlO2, cntE, cntEs, cntR, cntL, List.length_cons, List.length_nil] at *; omega
  · simp only [rlO3, List.mem_cons, List.not_mem_nil, or_false] at he; rcases he with rfl | rfl <;> first | exact o1 | exact o3
  · simp only [rlO3, cntE, cntEs, cntR, cntL, List.length_cons, List.length_nil] at *; omega
  · simp only [rlO4, List.mem_cons, List.not_mem_nil, or_false] at he; rw [he]; exact o3
  · simp only [rlO4, cntE, cntEs, cntR, cntL, List.length_cons, List.length_nil] at *; omega
  · simp only [rlO5, List.mem_cons, List.not_mem_nil, or_false] at he; rw [he]; exact o4
  · simp only [rlO5, cntE, cntEs, cntR, cntL, List.length_cons, List.length_nil] at *; omega
theorem rw_nil {fs : List Ty} : Rw fs [] := ⟨Nat.zero_le _, fun e he => by cases he⟩
theorem load_i {l : L} {p : List (Nat × Nat)} {x : Int} (h : getR l p = some ([.v (.int .i64 x)], 0)) (hp : adv p 0 = p) : ∃ rec o, getR l p = some (rec, o) ∧ o + [L.v (Value.int IntKind.i64 0)].length ≤ rec.length ∧ List.take [L.v (Value.int IntKind.i64 0)].length (List.drop o rec) = etaP stdO l p 0 [L.v (Value.int IntKind.i64 0)] := by
  refine ⟨_, 0, h, Nat.le_refl _, ?_⟩
  have e : piI l (adv p 0) = x := by
    rw [hp]; show intOf (getV l p) = x
    unfold getV; rw [h]; rfl
  exact congrArg (fun y => [L.v (.int .i64 y)]) e.symm
theorem rl_gr {cs : List (List L)} : getR (L.s 2 (rlO4 cs)) [(Int.toNat 0, 1), ((rlK cs).toNat, 0)] = some ([.v (.int .i64 (rlV cs))], 0) := by
  have b := rlK_b (cs := cs)
  have e : (rlC cs)[(rlK cs).toNat]? = some [.v (.int .i64 (rlV cs))] := by
    unfold rlC; rw [List.getElem?_set_self (by rw [List.length_replicate]; omega)]
  show getR (L.s 2 [[.v (.int .i64 2), .s 1 (rlC cs)]]) [(0, 1), ((rlK cs).toNat, 0)] = _
  simp only [getR, List.getElem?_cons_zero, List.getElem?_cons_succ, e, Option.map_some]
theorem rl_get {cs : List (List L)} : ∃ rec o, getR (L.s 2 (rlO4 cs)) [(Int.toNat 0, 1), ((rlK cs).toNat, 0)] = some (rec, o) ∧ o + [L.v (Value.int IntKind.i64 0)].length ≤ rec.length ∧ List.take [L.v (Value.int IntKind.i64 0)].length (List.drop o rec) = etaP stdO (L.s 2 (rlO4 cs)) [(Int.toNat 0, 1), ((rlK cs).toNat, 0)] 0 [L.v (Value.int IntKind.i64 0)] :=
  load_i rl_gr rfl
theorem rl_pi {cs : List (List L)} : piI (L.s 2 (rlO4 cs)) [(Int.toNat 0, 1), ((rlK cs).toNat, 0)] = rlV cs := by
  show intOf (getV (L.s 2 (rlO4 cs)) [(Int.toNat 0, 1), ((rlK cs).toNat, 0)]) = _
  unfold getV; rw [rl_gr]; rfl
theorem rl_p4 {cs : List (List L)} : psI (L.s 2 (rlO4 cs)) [(Int.toNat 0, 1)] = rlC cs := rfl
theorem rl_p5 {cs : List (List L)} : psI (L.s 2 (rlO5 cs)) [(Int.toNat 0, 1)] = (rlC cs).take (rlK cs + 1).toNat := rfl
theorem rl_l5 {cs : List (List L)} : (((rlC cs).take (rlK cs + 1).toNat).length : Int) = rlK cs + 1 := by
  have b := rlK_b (cs := cs)
  rw [List.length_take, rlC_l]; omega
theorem rl_e4 {cs : List (List L)} : (rlO4 cs).length = 1 := rfl
theorem rl_e5 {cs : List (List L)} : (rlO5 cs).length = 1 := rfl
end Go.V
