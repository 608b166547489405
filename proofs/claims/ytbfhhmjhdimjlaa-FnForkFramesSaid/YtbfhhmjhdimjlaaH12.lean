/-
  What the constructors of a heap compute, in plain words.
-/
import Derived.Test.YtbfhhmjhdimjlaaH11

set_option linter.all false
namespace Go.V

def zI : L := .v (.int .i64 0)
def zr16 : List (List L) := List.replicate 16 [.v (.int .i64 0)]
def fnC (n : Int) : List (List L) := if inR n 1 32 = true then List.replicate n.toNat [.s 1 zr16] else []
def fnU (n : Int) : List (List L) := if inR n 1 32 = true then List.replicate n.toNat [.v (.bool false)] else []
def tnE (n : Int) : List (List L) := if inR n 1 32 = true then List.replicate n.toNat [.v (.int .i64 0), .v (.int .i64 0)] else []
theorem fn_yes {n : Int} (h : inR n 1 32 = true) : fnC n = List.replicate n.toNat [.s 1 zr16] ∧ fnU n = List.replicate n.toNat [.v (.bool false)] ∧ tnE n = List.replicate n.toNat [.v (.int .i64 0), .v (.int .i64 0)] := by
  unfold fnC fnU tnE; rw [if_pos h, if_pos h, if_pos h]; exact ⟨rfl, rfl, rfl⟩
theorem fn_no {n : Int} (h : inR n 1 32 = false) : fnC n = [] ∧ fnU n = [] ∧ tnE n = [] := by
  unfold fnC fnU tnE; rw [h]; exact ⟨rfl, rfl, rfl⟩
theorem rep_up {r : (List L)} {i : Int} (h : 0 ≤ i) : List.replicate i.toNat r ++ [r] = List.replicate (i + 1).toNat r := by
  rw [show (i + 1).toNat = i.toNat + 1 by omega, List.replicate_succ']
def mnB (p f : Int) : Bool := inR f 1 32 && inR p 1 32
def mnC (p f : Int) : List (List L) := if mnB p f = true then fnC f else []
def mnU (p f : Int) : List (List L) := if mnB p f = true then fnU f else []
def mnE (p f : Int) : List (List L) := if mnB p f = true then tnE p else []
theorem mn_yes {p f : Int} (h : inR f 1 32 = true) (h2 : inR p 1 32 = true) : mnC p f = fnC f ∧ mnU p f = fnU f ∧ mnE p f = tnE p ∧ mnB p f = true := by
  have e : mnB p f = true := by unfold mnB; rw [h, h2]; rfl
  unfold mnC mnU mnE; rw [if_pos e, if_pos e, if_pos e]; exact ⟨rfl, rfl, rfl, e⟩
theorem mn_no {p f : Int} (h : mnB p f = false) : mnC p f = [] ∧ mnU p f = [] ∧ mnE p f = [] ∧ mnB p f = false := by
  unfold mnC mnU mnE; rw [h]; exact ⟨rfl, rfl, rfl, rfl⟩
theorem mn_no1 {p f : Int} (h : inR f 1 32 = false) : mnB p f = false := by unfold mnB; rw [h]; rfl
theorem mn_no2 {p f : Int} (h : inR p 1 32 = false) : mnB p f = false := by unfold mnB; rw [h]; simp
theorem mn_t {p f : Int} (h : mnB p f = true) : inR f 1 32 = true ∧ inR p 1 32 = true := by unfold mnB at h; simpa using h

def nonN (rs : List (List L)) (i : Int) : Bool := decide (0 ≤ giI rs i 0)
def refOk (rs : List (List L)) : Bool := allI (nonN rs) rs.length && decide (rs.length ≤ 40)
def kerOk (cs us es : List (List L)) (c : Int) (rs : List (List L)) : Bool := machOk cs us es && inR c 0 100000 && refOk rs
theorem ref_in {rs : List (List L)} {i : Int} (h : 0 ≤ giI rs i 0) : nonN rs i = true := decide_eq_true h
theorem ref_no {cs us es rs : List (List L)} {c i : Int} (h0 : 0 ≤ i) (h1 : i < rs.length) (h : giI rs i 0 < 0) : kerOk cs us es c rs = false := by
  unfold kerOk refOk; rw [allI_f h0 h1 (by unfold nonN; exact decide_eq_false (by omega))]; simp
theorem ref_yes {rs : List (List L)} {i : Int} (h : upto (nonN rs) i) (hi : (rs.length : Int) ≤ i) (hl : (rs.length : Int) ≤ 40) : refOk rs = true := by
  unfold refOk; rw [allI_of h hi, decide_eq_true (by omega)]; rfl
theorem ref_no2 {rs : List (List L)} (hl : ¬ (rs.length : Int) ≤ 40) : refOk rs = false := by
  unfold refOk; rw [decide_eq_false (by omega)]; simp
theorem ker_yes {cs us es rs : List (List L)} {c : Int} (h1 : machOk cs us es = true) (h2 : inR c 0 100000 = true) (h3 : refOk rs = true) : kerOk cs us es c rs = true := by unfold kerOk; rw [h1, h2, h3]; rfl
theorem ker_no1 {cs us es rs : List (List L)} {c : Int} (h1 : machOk cs us es = false) : kerOk cs us es c rs = false := by unfold kerOk; rw [h1]; rfl
theorem ker_no2 {cs us es rs : List (List L)} {c : Int} (h1 : inR c 0 100000 = false) : kerOk cs us es c rs = false := by unfold kerOk; rw [h1]; simp
theorem ker_no3 {cs us es rs : List (List L)} {c : Int} (h1 : refOk rs = false) : kerOk cs us es c rs = false := by unfold kerOk; rw [h1]; simp
theorem ker_t {cs us es rs : List (List L)} {c : Int} (h : kerOk cs us es c rs = true) : machOk cs us es = true ∧ inR c 0 100000 = true ∧ refOk rs = true := by
  unfold kerOk at h; simp only [Bool.and_eq_true] at h; exact ⟨h.1.1, h.1.2, h.2⟩

theorem rep_getD {r : (List L)} {n : Nat} {i : Int} (h0 : 0 ≤ i) (h1 : i < n) : (List.replicate n r).getD i.toNat [] = r := by
  rw [List.getD_eq_getElem?_getD, List.getElem?_replicate, if_pos (by omega)]; rfl
theorem new_gi {n : Nat} {i : Int} {j : Nat} (h0 : 0 ≤ i) (h1 : i < n) (hj : j < 2) : giI (List.replicate n [.v (.int .i64 0), .v (.int .i64 0)]) i j = 0 := by
  unfold giI; rw [rep_getD h0 h1]; rcases (show j = 0 ∨ j = 1 by omega) with rfl | rfl <;> rfl
theorem new_pages {n : Nat} {f : Int} : pagesOn (List.replicate n [.v (.int .i64 0), .v (.int .i64 0)]) f = [] := by
  have key : ∀ m, m ≤ n → pgN (List.replicate n [.v (.int .i64 0), .v (.int .i64 0)]) f m = [] := by
    intro m
    induction m with
    | zero => intro _; rfl
    | succ m ih =>
      intro h
      rw [pgN_no (.inl (new_gi (by omega) (by omega) (by omega)))]
      exact ih (by omega)
  unfold pagesOn
  exact key _ (by simp)
theorem new_mach {f p : Int} (hf : inR f 1 32 = true) (hp : inR p 1 32 = true) : machOk (fnC f) (fnU f) (tnE p) = true := by
  have h1 := inR_t.1 hf; have h2 := inR_t.1 hp
  rw [(fn_yes hf).1, (fn_yes hf).2.1, (fn_yes hp).2.2]
  have fo : framesOk (List.replicate f.toNat [.s 1 zr16]) (List.replicate f.toNat [.v (.bool false)]) = true := by
    refine fr_yes (i := f) ?_ (by simp) ?_ (by simp; omega)
    · rw [List.length_replicate, inR_t]; omega
    · intro j j0 j1
      have e : gsI (List.replicate f.toNat [.s 1 zr16]) j 0 = zr16 := by unfold gsI; rw [rep_getD j0 (by omega)]; rfl
      refine fr_in (k := 16) (by rw [e]; rfl) ?_ (by omega)
      intro k k0 k1
      have e2 : giI zr16 k 0 = 0 := by unfold giI zr16; rw [rep_getD k0 (by omega)]; rfl
      refine ce_in (by rw [e, e2]; rfl) (.inr (by rw [e, e2]))
  have to : tableOk (List.replicate p.toNat [.v (.int .i64 0), .v (.int .i64 0)]) (List.replicate f.toNat [L.s 1 zr16]).length = true := by
    rw [tb_yes (i := p) ?_ (by simp; omega)]
    · rw [List.length_replicate, inR_t]; omega
    · intro j j0 j1
      refine tb_in ?_
      rw [new_gi j0 (by omega) (by omega), new_gi j0 (by omega) (by omega)]
      omega
  refine mc_yes (i := f) fo ?_ ?_ (by simp; omega)
  · rw [(fr_len fo).1]; exact to
  · intro j j0 j1
    refine mc_in ?_
    have e : gbI (List.replicate f.toNat [.v (.bool false)]) j 0 = false := by unfold gbI; rw [rep_getD j0 (by omega)]; rfl
    rw [e]; unfold mapsB; rw [new_pages]; rfl

def knB (p f : Int) (rs : List (List L)) : Bool := mnB p f && refOk rs
def knC (p f : Int) (rs : List (List L)) : List (List L) := if knB p f rs = true then fnC f else []
def knU (p f : Int) (rs : List (List L)) : List (List L) := if knB p f rs = true then fnU f else []
def knE (p f : Int) (rs : List (List L)) : List (List L) := if knB p f rs = true then tnE p else []
def knR (p f : Int) (rs : List (List L)) : List (List L) := if knB p f rs = true then rs else []
theorem kn_yes {p f : Int} {rs : List (List L)} (h : knB p f rs = true) : knC p f rs = fnC f ∧ knU p f rs = fnU f ∧ knE p f rs = tnE p ∧ knR p f rs = rs := by
  unfold knC knU knE knR; rw [if_pos h, if_pos h, if_pos h, if_pos h]; exact ⟨rfl, rfl, rfl, rfl⟩
theorem kn_no {p f : Int} {rs : List (List L)} (h : knB p f rs = false) : knC p f rs = [] ∧ knU p f rs = [] ∧ knE p f rs = [] ∧ knR p f rs = [] := by
  unfold knC knU knE knR; rw [h]; exact ⟨rfl, rfl, rfl, rfl⟩
theorem has0 : IntKind.has .i64 0 := by unfold IntKind.has; decide
theorem mn_rws {p f : Int} : Rw [.sl [tI]] (mnC p f) ∧ Rw [tB] (mnU p f) ∧ Rw [tI, tI] (mnE p f) := by
  cases h : mnB p f
  · rw [(mn_no h).1, (mn_no h).2.1, (mn_no h).2.2.1]; exact ⟨Rw.nil, Rw.nil, Rw.nil⟩
  · obtain ⟨hf, hp⟩ := mn_t h
    rw [(mn_yes hf hp).1, (mn_yes hf hp).2.1, (mn_yes hf hp).2.2.1, (fn_yes hf).1, (fn_yes hf).2.1, (fn_yes hp).2.2]
    have h1 := inR_t.1 hf; have h2 := inR_t.1 hp
    have z : confR [tI] [L.v (.int .i64 0)] := ⟨⟨rfl, has0⟩, trivial⟩
    refine ⟨Rw.replicate (fs := [.sl [tI]]) ?_ (by unfold maxLen; omega), Rw.replicate (fs := [tB]) ?_ (by unfold maxLen; omega), Rw.replicate (fs := [tI, tI]) ?_ (by unfold maxLen; omega)⟩
    · exact ⟨⟨rfl, Rw.replicate (fs := [tI]) z (by unfold maxLen; omega)⟩, trivial⟩
    · exact ⟨trivial, trivial⟩
    · exact ⟨⟨rfl, has0⟩, ⟨rfl, has0⟩, trivial⟩
theorem mn_mach {p f : Int} (h : mnB p f = true) : machOk (mnC p f) (mnU p f) (mnE p f) = true := by
  obtain ⟨hf, hp⟩ := mn_t h
  rw [(mn_yes hf hp).1, (mn_yes hf hp).2.1, (mn_yes hf hp).2.2.1]; exact new_mach hf hp
theorem kn_ok {p f : Int} {rs : List (List L)} (h : mnB p f = true) (k : kerOk (mnC p f) (mnU p f) (mnE p f) 0 rs = true) : knB p f rs = true := by
  unfold knB; rw [h, (ker_t k).2.2]; rfl
theorem kn_bad {p f : Int} {rs : List (List L)} (h : mnB p f = true) (k : kerOk (mnC p f) (mnU p f) (mnE p f) 0 rs = false) : knB p f rs = false := by
  unfold knB; cases q : refOk rs
  · simp
  · rw [ker_yes (mn_mach h) rfl q] at k; cases k
theorem kn_bad1 {p f : Int} {rs : List (List L)} (h : mnB p f = false) : knB p f rs = false := by unfold knB; rw [h]; rfl
theorem kn_t {p f : Int} {rs : List (List L)} (h : knB p f rs = true) : mnB p f = true := by unfold knB at h; simp only [Bool.and_eq_true] at h; exact h.1

def mwB (t : Int) : List (List L) := if inR t 1 4 = true then List.replicate t.toNat [.s 2 []] else []
def mwI (t : Int) : List (List L) := if inR t 1 4 = true then List.replicate t.toNat [.s 1 []] else []
theorem mw_yes {t : Int} (h : inR t 1 4 = true) : mwB t = List.replicate t.toNat [.s 2 []] ∧ mwI t = List.replicate t.toNat [.s 1 []] := by unfold mwB mwI; rw [if_pos h, if_pos h]; exact ⟨rfl, rfl⟩
theorem mw_no {t : Int} (h : inR t 1 4 = false) : mwB t = [] ∧ mwI t = [] := by unfold mwB mwI; rw [h]; exact ⟨rfl, rfl⟩
def qnR (r : Int) : Int := if inR r 0 500 = true then r else 0
theorem qn_yes {r : Int} (h : inR r 0 500 = true) : qnR r = r := by unfold qnR; rw [if_pos h]
theorem qn_no {r : Int} (h : inR r 0 500 = false) : qnR r = 0 := by unfold qnR; rw [h]; rfl
def cnL : List (List L) := List.replicate 4 [.s 1 []]

def hnB (p f t l : Int) (rs : List (List L)) : Bool := knB p f rs && (inR t 1 4 && inR l 0 1000)
def hnC (p f t l : Int) (rs : List (List L)) : List (List L) := if hnB p f t l rs = true then fnC f else []
def hnU (p f t l : Int) (rs : List (List L)) : List (List L) := if hnB p f t l rs = true then fnU f else []
def hnE (p f t l : Int) (rs : List (List L)) : List (List L) := if hnB p f t l rs = true then tnE p else []
def hnR (p f t l : Int) (rs : List (List L)) : List (List L) := if hnB p f t l rs = true then rs else []
def hnF (p f t l : Int) (rs : List (List L)) : List (List L) := if hnB p f t l rs = true then [[.v (.int .i64 0), .v (.int .i64 p)]] else []
def hnK (p f t l : Int) (rs : List (List L)) : List (List L) := if hnB p f t l rs = true then List.replicate t.toNat [.s 1 cnL] else []
def hnM (p f t l : Int) (rs : List (List L)) : List (List L) := if hnB p f t l rs = true then mwB t else []
def hnI (p f t l : Int) (rs : List (List L)) : List (List L) := if hnB p f t l rs = true then mwI t else []
def hnQ (p f t l : Int) (rs : List (List L)) : Int := if hnB p f t l rs = true then 16 else 0
def hnL (p f t l : Int) (rs : List (List L)) : Int := if hnB p f t l rs = true then l else 0
def hnN (p f t l : Int) (rs : List (List L)) : Int := if hnB p f t l rs = true then 1 else 0
theorem hn_yes {p f t l : Int} {rs : List (List L)} (h : hnB p f t l rs = true) : hnC p f t l rs = fnC f ∧ hnU p f t l rs = fnU f ∧ hnE p f t l rs = tnE p ∧ hnR p f t l rs = rs ∧ hnF p f t l rs = [[.v (.int .i64 0), .v (.int .i64 p)]] ∧
    hnK p f t l rs = List.replicate t.toNat [.s 1 cnL] ∧ hnM p f t l rs = mwB t ∧ hnI p f t l rs = mwI t ∧ hnQ p f t l rs = 16 ∧ hnL p f t l rs = l ∧ hnN p f t l rs = 1 := by
  unfold hnC hnU hnE hnR hnF hnK hnM hnI hnQ hnL hnN; simp only [h, if_true]; exact ⟨trivial, trivial, trivial, trivial, trivial, trivial, trivial, trivial, trivial, trivial, trivial⟩
theorem hn_no {p f t l : Int} {rs : List (List L)} (h : hnB p f t l rs = false) : hnC p f t l rs = [] ∧ hnU p f t l rs = [] ∧ hnE p f t l rs = [] ∧ hnR p f t l rs = [] ∧ hnF p f t l rs = [] ∧
    hnK p f t l rs = [] ∧ hnM p f t l rs = [] ∧ hnI p f t l rs = [] ∧ hnQ p f t l rs = 0 ∧ hnL p f t l rs = 0 ∧ hnN p f t l rs = 0 := by
  unfold hnC hnU hnE hnR hnF hnK hnM hnI hnQ hnL hnN; simp [h]
theorem hn_t {p f t l : Int} {rs : List (List L)} : hnB p f t l rs = true ↔ knB p f rs = true ∧ inR t 1 4 = true ∧ inR l 0 1000 = true := by unfold hnB; simp
theorem hn_f {p f t l : Int} {rs : List (List L)} (h : ¬ (knB p f rs = true ∧ inR t 1 4 = true ∧ inR l 0 1000 = true)) : hnB p f t l rs = false := by
  cases q : hnB p f t l rs
  · rfl
  · exact absurd (hn_t.1 q) h
/-- A heap's leaves: the same, one by one. -/
theorem hp_eq {c u e r fr k m i c' u' e' r' fr' k' m' i' : List (List L)} {q l n q' l' n' : Int} {b b' : Bool} (h1 : c = c') (h2 : u = u') (h3 : e = e') (h4 : r = r') (h5 : fr = fr') (h6 : k = k') (h7 : m = m') (h8 : i = i') (h9 : q = q') (h10 : l = l') (h11 : n = n') (h12 : b = b') :
    [DV.agg [.s 1 c, .s 1 u, .s 2 e, .v (.int .i64 0), .s 1 r, .s 2 fr, .s 3 [], .s 3 [], .s 4 [], .s 1 k, .s 1 m, .s 1 i, .v (.int .i64 q), .s 3 [], .v (.int .i64 0), .v (.int .i64 0), .v (.int .i64 l), .v (.int .i64 n), .v (.bool false), .v (.int .i64 0), .v (.int .i64 0), .s 1 [], .v (.int .i64 0), .v (.int .i64 0)], .one (.v (.bool b))] =
    [DV.agg [.s 1 c', .s 1 u', .s 2 e', .v (.int .i64 0), .s 1 r', .s 2 fr', .s 3 [], .s 3 [], .s 4 [], .s 1 k', .s 1 m', .s 1 i', .v (.int .i64 q'), .s 3 [], .v (.int .i64 0), .v (.int .i64 0), .v (.int .i64 l'), .v (.int .i64 n'), .v (.bool false), .v (.int .i64 0), .v (.int .i64 0), .s 1 [], .v (.int .i64 0), .v (.int .i64 0)], .one (.v (.bool b'))] := by
  subst h1 h2 h3 h4 h5 h6 h7 h8 h9 h10 h11 h12; rfl
theorem rk_eq {c u e r c' u' e' r' : List (List L)} {b b' : Bool} (h1 : c = c') (h2 : u = u') (h3 : e = e') (h4 : r = r') (h5 : b = b') :
    [DV.agg [.s 1 c, .s 1 u, .s 2 e, .v (.int .i64 0), .s 1 r], .one (.v (.bool b))] = [DV.agg [.s 1 c', .s 1 u', .s 2 e', .v (.int .i64 0), .s 1 r'], .one (.v (.bool b'))] := by subst h1 h2 h3 h4 h5; rfl
theorem rm_eq {c u e c' u' e' : List (List L)} {b b' : Bool} (h1 : c = c') (h2 : u = u') (h3 : e = e') (h5 : b = b') :
    [DV.agg [.s 1 c, .s 1 u, .s 2 e], .one (.v (.bool b))] = [DV.agg [.s 1 c', .s 1 u', .s 2 e'], .one (.v (.bool b'))] := by subst h1 h2 h3 h5; rfl
theorem r2_eq {k1 k2 : Nat} {c u c' u' : List (List L)} {b b' : Bool} (h1 : c = c') (h2 : u = u') (h5 : b = b') :
    [DV.agg [.s k1 c, .s k2 u], .one (.v (.bool b))] = [DV.agg [.s k1 c', .s k2 u'], .one (.v (.bool b'))] := by subst h1 h2 h5; rfl
theorem r1_eq {k1 : Nat} {c c' : List (List L)} {b b' : Bool} (h1 : c = c') (h5 : b = b') :
    [DV.agg [.s k1 c], .one (.v (.bool b))] = [DV.agg [.s k1 c'], .one (.v (.bool b'))] := by subst h1 h5; rfl
theorem rq_eq {q q' : Int} {b b' : Bool} (h1 : q = q') (h5 : b = b') :
    [DV.agg [.v (.int .i64 q), .s 3 []], .one (.v (.bool b))] = [DV.agg [.v (.int .i64 q'), .s 3 []], .one (.v (.bool b'))] := by subst h1 h5; rfl
end Go.V
