/-
  A fork needs no frame until a write, and one frame for a page that was copied.
-/
import Derived.Test.YtbfhhmjhdimjlaaH29

set_option linter.all false
namespace Go.V

def unN (us : List (List L)) : Nat → Int
  | 0 => 0
  | n + 1 => if gbI us n 0 = true then unN us n + 1 else unN us n
theorem unN_bd {us : List (List L)} : ∀ {n : Nat}, 0 ≤ unN us n ∧ unN us n ≤ n
  | 0 => by simp [unN]
  | n + 1 => by
    have := unN_bd (us := us) (n := n)
    unfold unN; split <;> omega
theorem unI_yes {us : List (List L)} {i : Int} (hi : 0 ≤ i) (h : gbI us i 0 = true) : unN us (i + 1).toNat = unN us i.toNat + 1 := by
  have e : ((i.toNat : Nat) : Int) = i := Int.toNat_of_nonneg hi
  rw [show (i + 1).toNat = i.toNat + 1 from by omega, unN, if_pos (by rw [e]; exact h)]
theorem unI_no {us : List (List L)} {i : Int} (hi : 0 ≤ i) (h : gbI us i 0 = false) : unN us (i + 1).toNat = unN us i.toNat := by
  have e : ((i.toNat : Nat) : Int) = i := Int.toNat_of_nonneg hi
  rw [show (i + 1).toNat = i.toNat + 1 from by omega, unN, if_neg (by rw [e, h]; decide)]
def ufN (cs us : List (List L)) : Int := if framesOk cs us = true then unN us us.length else 0
theorem uf_yes {cs us : List (List L)} {i : Int} (h : framesOk cs us = true) (h0 : i ≤ us.length) (h1 : (us.length : Int) ≤ i) : ufN cs us = unN us i.toNat := by
  unfold ufN; rw [if_pos h, show i.toNat = us.length by omega]
theorem uf_no {cs us : List (List L)} (h : framesOk cs us = false) : ufN cs us = 0 := by unfold ufN; rw [h]; rfl
theorem uf_nil {cs us : List (List L)} {i : Int} (h0 : i ≤ us.length) (h1 : (us.length : Int) ≤ i) (h : i = 0 ∨ framesOk cs us = true) : ufN cs us = unN us i.toNat := by
  rcases h with rfl | h
  · unfold ufN; have : us.length = 0 := by omega
    rw [this]; simp [unN]
  · exact uf_yes h h0 h1
theorem uf_bad {cs us : List (List L)} {i n : Int} (hn : n = unN us i.toNat) (h : i = 0 ∨ framesOk cs us = true) (hf : framesOk cs us = false) : n = ufN cs us := by
  rcases h with rfl | h
  · rw [uf_no hf, hn]; rfl
  · rw [hf] at h; cases h
def ldV (cs us es : List (List L)) (a : Int) : Int := if machOk cs us es = true ∧ leM es a ≠ 0 then giI (gsI cs (leF es a) 0) (leK a) 0 else 0
def ldK (cs us es : List (List L)) (a : Int) : Int := if machOk cs us es = true ∧ leM es a ≠ 0 then 0 else 1
theorem ld_yes {cs us es : List (List L)} {a : Int} (h : machOk cs us es = true) (h1 : leM es a ≠ 0) : ldV cs us es a = giI (gsI cs (leF es a) 0) (leK a) 0 ∧ ldK cs us es a = 0 := by unfold ldV ldK; rw [if_pos ⟨h, h1⟩, if_pos ⟨h, h1⟩]; exact ⟨rfl, rfl⟩
theorem ld_no {cs us es : List (List L)} {a : Int} (h : machOk cs us es = false ∨ leM es a = 0) : ldV cs us es a = 0 ∧ ldK cs us es a = 1 := by
  have : ¬ (machOk cs us es = true ∧ leM es a ≠ 0) := by rintro ⟨x, y⟩; rcases h with q | q; rw [x] at q; cases q; exact y q
  unfold ldV ldK; rw [if_neg this, if_neg this]; exact ⟨rfl, rfl⟩
theorem ld_fr {cs us es : List (List L)} {a : Int} (h : machOk cs us es = true) (h1 : leM es a ≠ 0) : 0 ≤ leF es a ∧ leF es a < cs.length ∧ (gsI cs (leF es a) 0).length = 16 := by
  have t := mc_ok h
  have ha : ¬ a < 0 := fun q => h1 (le_neg q).1
  have p := le_pos (es := es) ha
  rw [p.1] at h1; rw [p.2.1]
  have f := pe_fr t.2.1 h1
  exact ⟨f.1, f.2.1, fr_at t.1 f.1 f.2.1⟩

theorem sh_un {U A B : List (List L)} : ∀ n : Nat, (∀ j : Int, 0 ≤ j → j < n → gbI U j 0 = (mapsB A j && mapsB B j)) → shN A B n = unN U n
  | 0, _ => rfl
  | n + 1, h => by
    have ih := sh_un (U := U) (A := A) (B := B) n (fun j j0 j1 => h j j0 (by omega))
    have e := h n (by omega) (by omega)
    unfold shN unN
    rw [ih]
    cases qa : mapsB A n <;> cases qb : mapsB B n <;> rw [qa, qb] at e <;> rw [e] <;> rfl
theorem sh_un1 {U A B : List (List L)} {f : Int} (f0 : 0 ≤ f) (hu : gbI U f 0 = true) : ∀ n : Nat, (∀ j : Int, 0 ≤ j → j < n → (mapsB A j && mapsB B j) = (gbI U j 0 && decide (j ≠ f))) → shN A B n = unN U n - (if f < n then 1 else 0)
  | 0, _ => by rw [if_neg (by omega)]; rfl
  | n + 1, h => by
    have ih := sh_un1 (U := U) (A := A) (B := B) f0 hu n (fun j j0 j1 => h j j0 (by omega))
    have e := h n (by omega) (by omega)
    unfold shN unN
    rw [ih]
    by_cases c : (n : Int) = f
    · rw [decide_eq_false (by simpa using c), Bool.and_false, Bool.and_eq_false_iff] at e
      have hn : gbI U n 0 = true := by rw [c]; exact hu
      have hl : ¬ f < (n : Int) := by omega
      have hl2 : f < ((n + 1 : Nat) : Int) := by omega
      rw [if_neg (by rintro ⟨x, y⟩; rcases e with q | q <;> simp_all), if_neg hl, if_pos hn, if_pos hl2]; omega
    · rw [decide_eq_true (by simpa using c), Bool.and_true] at e
      by_cases d : gbI U n 0 = true
      · rw [d, Bool.and_eq_true] at e
        rw [if_pos e, if_pos d]
        by_cases g : f < n
        · rw [if_pos g, if_pos (by omega)]; omega
        · rw [if_neg g, if_neg (by omega)]; omega
      · rw [if_neg (by rintro ⟨x, y⟩; rw [x, y] at e; exact d e.symm), if_neg d]
        by_cases g : f < n
        · rw [if_pos g, if_pos (by omega)]
        · rw [if_neg g, if_neg (by omega)]
theorem sh_tw {C U E : List (List L)} (hm : machOk C U E = true) : sharedN C U (twT E) = ufN C U := by
  have t := mc_ok hm
  have l := fr_len t.1
  rw [sh_yes (i := U.length) (cow_tw hm) (by omega) (by omega), uf_yes (i := U.length) t.1 (by omega) (by omega)]
  exact sh_un _ (fun j j0 j1 => by rw [show mapsB (gsI (twT E) 0 0) j = mapsB E j from rfl, show mapsB (gsI (twT E) 1 0) j = mapsB E j from rfl, Bool.and_self]; exact t.2.2 j j0 (by omega))

/-- What the law says of a store that succeeds, right after the fork. -/
structure FfP (C U E C' U' T' : List (List L)) (a : Int) : Prop where
  i0 : isOk C' U' T' 0 = true
  i1 : isOk C' U' T' 1 = true
  d1 : cpC C' U' T' 1 = C ∧ cpU C' U' T' 1 = U ∧ cpT C' U' T' 1 = E
  m0 : machOk (cpC C' U' T' 0) (cpU C' U' T' 0) (cpT C' U' T' 0) = true
  v : ldV (cpC C' U' T' 0) (cpU C' U' T' 0) (cpT C' U' T' 0) a = 5
  sh : sharedN C' U' T' = ufN C U - 1
theorem ff_p {C U E : List (List L)} {a : Int} (hm : machOk C U E = true) (rc : Rw [.sl [tI]] C) (ru : Rw [tB] U) (h : csK C U (twT E) 1 a 5 = 0) :
    FfP C U E (csC C U (twT E) 1 a 5) (csU C U (twT E) 1 a 5) (csT C U (twT E) 1 a 5) a := by
  have P := cs_p h
  have hc := cs_cow P
  have rc' := (cs_c (us := U) (ts := twT E) (w := 1) (a := a) (v := 5) rc).1
  have ru' := (cs_u (cs := C) (ts := twT E) (w := 1) (a := a) (v := 5) ru).1
  have a0 := P.a0; have p1 := P.p1; have md := P.md; have f0 := P.f0; have f1 := P.f1; have hor := P.or
  rw [show gsI (twT E) 1 0 = E from rfl] at p1 md f0 f1 hor
  rw [show gsI (twT E) (1 - 1) 0 = E from rfl] at hor
  have t := mc_ok hm
  have l := fr_len t.1
  have mE : mapsB E (giI E (a / 16) 1) = true := maps_iff.2 ⟨a / 16, by omega, p1, by rw [md]; omega, rfl⟩
  rcases hor with ⟨_, i, i0, i1, iu, e1, e2, e3⟩ | ⟨o1, _⟩
  case inr => rw [mE] at o1; cases o1
  generalize csC C U (twT E) 1 a 5 = C' at *
  generalize csU C U (twT E) 1 a 5 = U' at *
  generalize csT C U (twT E) 1 a 5 = T' at *
  have eA : gsI T' 0 0 = E := by rw [e3]; exact tsW_ne (ts := twT E) (w := 1) (by omega) (by show (1 : Int) < ((2 : Nat) : Int); omega) (by omega)
  have eB : gsI T' 1 0 = rmS E (giI E (a / 16) 1) i E.length := by rw [e3]; exact tsW_at (ts := twT E) (by omega) (by show (1 : Int) < ((2 : Nat) : Int); omega)
  have k0 : isOk C' U' T' 0 = true := is_t.2 ⟨hc.1, by omega⟩
  have k1 : isOk C' U' T' 1 = true := is_t.2 ⟨hc.1, by omega⟩
  have q0 := cp_yes k0
  have q1 := cp_yes k1
  rw [show (1 : Int) - 0 = 1 from rfl, eB] at q0
  rw [show (1 : Int) - 1 = 0 from rfl, eA] at q1
  have cp := CowP.of hc.1
  rw [eA, eB] at cp
  have mi : mapsB E i = false := by rw [← t.2.2 i i0 i1]; exact iu
  have lC : C'.length = C.length := by rw [e1, stNew_len, cpN_len]
  have lU : U'.length = U.length := by rw [e2, List.length_set]
  have hx : 0 ≤ a % 16 ∧ a % 16 < 16 := by omega
  have hrow : ∀ j : Int, 0 ≤ j → gsI C' j 0 = if j = i then (gsI C (giI E (a / 16) 1) 0).set (a % 16).toNat [.v (.int .i64 5)] else gsI C j 0 := by
    intro j j0
    rw [e1, st_row i0 (by rw [cpN_len]; exact i1) j0, cpN_row i0 i1 i0, if_pos rfl, cpN_row i0 i1 j0]
    by_cases c : j = i
    · rw [if_pos c, if_pos c]
    · rw [if_neg c, if_neg c, if_neg c]
  have hus : ∀ j : Int, 0 ≤ j → gbI U' j 0 = if j = i then true else gbI U j 0 := by
    intro j j0
    rw [e2, gB_set i0 (by omega) j0]; rfl
  have mB : ∀ j : Int, mapsB (rmS E (giI E (a / 16) 1) i E.length) j = if j = i then true else if j = giI E (a / 16) 1 then false else mapsB E j := fun j => maps_move mE mi (fun e => by rw [e, mi] at mE; cases mE)
  have hne : i ≠ giI E (a / 16) 1 := fun e => by rw [← e, mi] at mE; cases mE
  refine ⟨k0, k1, ⟨?_, ?_, q1.2.2⟩, ?_, ?_, ?_⟩
  · rw [q1.1]
    refine ext_c (cdC_rw rc') rc (by rw [cdC_len, lC]) (fun j j0 j1 => ?_)
    rw [cdC_len, lC] at j1
    rw [cdC_gi j0 _ (by omega), hrow j j0]
    cases q : mapsB E j
    · rw [if_pos ⟨by omega, rfl⟩, mach_row hm rc j0 j1 (by rw [t.2.2 j j0 j1, q])]
    · rw [if_neg (by rintro ⟨_, c⟩; cases c), if_neg (by intro c; rw [c, mi] at q; cases q)]
  · rw [q1.2.1]
    refine ext_u (cdU_rw ru') ru (by rw [cdU_len, lU]) (fun j j0 j1 => ?_)
    rw [cdU_len, lU] at j1
    rw [cdU_gi j0 _ (by omega), hus j j0, t.2.2 j j0 (by omega)]
    cases q : mapsB E j
    · rw [if_pos ⟨by omega, rfl⟩]
    · rw [if_neg (by rintro ⟨_, c⟩; cases c), if_neg (by intro c; rw [c, mi] at q; cases q)]
  · rw [q0.1, q0.2.1, q0.2.2]; exact drop_mach cp.symm
  · have hm0 : machOk (cpC C' U' T' 0) (cpU C' U' T' 0) (cpT C' U' T' 0) = true := by rw [q0.1, q0.2.1, q0.2.2]; exact drop_mach cp.symm
    have g := rm_all (es := E) (f := giI E (a / 16) 1) (n := i) (p := a / 16) (by omega) p1
    have hin : 0 ≤ a / 16 ∧ a / 16 < (rmS E (giI E (a / 16) 1) i E.length).length := ⟨by omega, by rw [rmS_len]; exact p1⟩
    have lm : leM (cpT C' U' T' 0) a = 2 := by rw [q0.2.2, (le_pos (by omega)).1, (pe_yes hin).1, g.1, md]
    have lf : leF (cpT C' U' T' 0) a = i := by rw [q0.2.2, (le_pos (by omega)).2.1, (pe_yes hin).2, g.2, if_pos ⟨by rw [md]; omega, rfl⟩]
    have lk : leK a = a % 16 := (le_pos (es := E) (by omega)).2.2
    rw [(ld_yes hm0 (by rw [lm]; omega)).1, lf, lk, q0.1, cdC_gi i0 _ (by omega), mB i, if_pos rfl, if_neg (by rintro ⟨_, c⟩; cases c), hrow i i0, if_pos rfl, st_cell (fr_at t.1 f0 f1) hx.1 hx.2 hx.1, if_pos rfl]
  · rw [sh_yes (i := U'.length) hc.1 (by omega) (by omega), eA, eB, uf_yes (i := U.length) t.1 (by omega) (by omega), Int.toNat_natCast, Int.toNat_natCast, lU]
    rw [sh_un1 (U := U) (f := giI E (a / 16) 1) f0 (by rw [t.2.2 _ f0 f1]; exact mE) U.length (fun j j0 j1 => ?_), if_pos (by omega)]
    rw [mB j, t.2.2 j j0 (by omega)]
    by_cases c : j = i
    · rw [if_pos c, c, mi]; rfl
    · rw [if_neg c]
      by_cases d : j = giI E (a / 16) 1
      · rw [if_pos d, decide_eq_false (by simpa using d)]
      · rw [if_neg d, decide_eq_true d, Bool.and_self, Bool.and_true]
theorem dm_facts {cs : List (List L)} : machOk (dmC cs) (dmU cs) (dmE cs) = true ∧ Rw [.sl [tI]] (dmC cs) ∧ Rw [tB] (dmU cs) ∧ Rw [tI, tI] (dmE cs) ∧ cntE (dmC cs) ≤ 1000 ∧ (dmU cs).length ≤ 5 ∧ 1 ≤ (dmE cs).length ∧ (dmE cs).length ≤ 8 := by
  obtain ⟨a, b, c, d⟩ := l7_mach (cs := cs) (h := l01h cs) (Int.le_refl 0) (Int.natCast_nonneg _)
  have sz := l7_sz (cs := cs) (h := l01h cs) (Int.le_refl 0) (Int.natCast_nonneg _)
  have o := l7_ok (cs := cs) (h := l01h cs) (Int.le_refl 0) (Int.natCast_nonneg _)
  exact ⟨a, b, c, d, sz.1, sz.2.2.1, o.1⟩
theorem tw_rw {C U E : List (List L)} (hm : machOk C U E = true) (rc : Rw [.sl [tI]] C) (ru : Rw [tB] U) (re : Rw [tI, tI] E) : Rw [.sl [tI, tI]] (twT E) := by
  have := (cn_wf rc ru re).2.2
  rw [(cn_yes hm).2.2] at this; exact this
theorem tw_cnt {E : List (List L)} (re : Rw [tI, tI] E) : cntE (twT E) = 2 + (E.length + E.length) := by
  have c := re.cnt rfl
  unfold cntE at c ⊢
  simp only [twT, cntEs, cntR, cntL, List.length_cons, List.length_nil]
  omega
def ffA (cs : List (List L)) : Int := arI .rem .i64 (giI (dpl cs) 0 0) (arI .mul .i64 16 ((dmE cs).length : Int))
theorem ffA_b {cs : List (List L)} : arI .mul .i64 16 ((dmE cs).length : Int) = 16 * ((dmE cs).length : Int) ∧ 0 ≤ ffA cs ∧ ffA cs < 16 * ((dmE cs).length : Int) := by
  obtain ⟨_, _, _, _, _, _, e0, e1⟩ := dm_facts (cs := cs)
  have d := dpl_at (cs := cs) (j := 0) (by omega) (by omega)
  have m : arI .mul .i64 16 ((dmE cs).length : Int) = 16 * ((dmE cs).length : Int) := mul64 (by omega)
  have r := rem_bound (a := giI (dpl cs) 0 0) (n := 16 * ((dmE cs).length : Int)) d.1 (by omega)
  refine ⟨m, ?_⟩
  unfold ffA; rw [m]; exact r
end Go.V
