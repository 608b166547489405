/-
  The rows of a new heap.
-/
import Derived.Test.YtbdgkoalfnehoaaGreatH12

set_option linter.all false
namespace Go.V

theorem cntEs_rep {r : (List L)} : ∀ {n : Nat}, cntEs (List.replicate n r) = n * cntR r
  | 0 => by simp [cntEs]
  | n + 1 => by rw [List.replicate_succ, cntEs, cntEs_rep, Nat.add_mul]; omega
theorem cntE_rep {r : (List L)} {n : Nat} : cntE (List.replicate n r) = n + n * cntR r := by unfold cntE; rw [cntEs_rep, List.length_replicate]
theorem rep_rw {fs : List Ty} {r : (List L)} {n : Nat} (h : confR fs r) (hn : n ≤ 1000) : Rw fs (List.replicate n r) := Rw.replicate h (by unfold maxLen; omega)
theorem z_conf : confR [tI] [L.v (.int .i64 0)] := ⟨⟨rfl, has0⟩, trivial⟩
theorem z16_rw : Rw [tI] zr16 := rep_rw z_conf (by omega)
theorem cnL_rw : Rw [.sl [tI]] cnL := rep_rw ⟨⟨rfl, Rw.nil⟩, trivial⟩ (by omega)
theorem nil_cnt : cntE ([] : List (List L)) = 0 := rfl
theorem fn_rws {n : Int} : Rw [.sl [tI]] (fnC n) ∧ Rw [tB] (fnU n) ∧ Rw [tI, tI] (tnE n) ∧ cntE (fnC n) ≤ 1000 ∧ cntE (fnU n) ≤ 1000 ∧ cntE (tnE n) ≤ 1000 := by
  cases h : inR n 1 32
  · rw [(fn_no h).1, (fn_no h).2.1, (fn_no h).2.2]; exact ⟨Rw.nil, Rw.nil, Rw.nil, by rw [nil_cnt]; omega, by rw [nil_cnt]; omega, by rw [nil_cnt]; omega⟩
  · have h1 := inR_t.1 h
    rw [(fn_yes h).1, (fn_yes h).2.1, (fn_yes h).2.2]
    have c1 : cntR [L.s 1 zr16] = 16 := by decide
    have c2 : cntR [L.v (.bool false)] = 0 := by decide
    have c3 : cntR [L.v (.int .i64 0), L.v (.int .i64 0)] = 0 := by decide
    refine ⟨rep_rw ⟨⟨rfl, z16_rw⟩, trivial⟩ (by omega), rep_rw ⟨trivial, trivial⟩ (by omega), rep_rw ⟨⟨rfl, has0⟩, ⟨rfl, has0⟩, trivial⟩ (by omega), ?_, ?_, ?_⟩
    · rw [cntE_rep, c1]; omega
    · rw [cntE_rep, c2]; omega
    · rw [cntE_rep, c3]; omega
theorem mw_rws {t : Int} : Rw [.sl [tI, tI]] (mwB t) ∧ Rw [.sl [tI]] (mwI t) ∧ cntE (mwB t) ≤ 1000 ∧ cntE (mwI t) ≤ 1000 := by
  cases h : inR t 1 4
  · rw [(mw_no h).1, (mw_no h).2]; exact ⟨Rw.nil, Rw.nil, by rw [nil_cnt]; omega, by rw [nil_cnt]; omega⟩
  · have h1 := inR_t.1 h
    rw [(mw_yes h).1, (mw_yes h).2]
    have c1 : cntR [L.s 2 []] = 0 := by decide
    have c2 : cntR [L.s 1 []] = 0 := by decide
    refine ⟨rep_rw ⟨⟨rfl, Rw.nil⟩, trivial⟩ (by omega), rep_rw ⟨⟨rfl, Rw.nil⟩, trivial⟩ (by omega), ?_, ?_⟩
    · rw [cntE_rep, c1]; omega
    · rw [cntE_rep, c2]; omega
theorem hn_rws {p f t l : Int} {rs : List (List L)} (hr : Rw [tI] rs) (hl : rs.length ≤ 1048576) : Rw [.sl [tI]] (hnC p f t l rs) ∧ Rw [tB] (hnU p f t l rs) ∧ Rw [tI, tI] (hnE p f t l rs) ∧ Rw [tI] (hnR p f t l rs) ∧ Rw [tI, tI] (hnF p f t l rs) ∧
    Rw [.sl [.sl [tI]]] (hnK p f t l rs) ∧ Rw [.sl [tI, tI]] (hnM p f t l rs) ∧ Rw [.sl [tI]] (hnI p f t l rs) ∧
    cntRs [hnC p f t l rs, hnU p f t l rs, hnE p f t l rs, hnR p f t l rs, hnF p f t l rs, [], [], [], hnK p f t l rs, hnM p f t l rs, hnI p f t l rs, [], []] ≤ 1099511627776 := by
  cases h : hnB p f t l rs
  · obtain ⟨e1, e2, e3, e4, e5, e6, e7, e8, _⟩ := hn_no h
    rw [e1, e2, e3, e4, e5, e6, e7, e8]
    exact ⟨Rw.nil, Rw.nil, Rw.nil, Rw.nil, Rw.nil, Rw.nil, Rw.nil, Rw.nil, by decide⟩
  · obtain ⟨e1, e2, e3, e4, e5, e6, e7, e8, _⟩ := hn_yes h
    rw [e1, e2, e3, e4, e5, e6, e7, e8]
    obtain ⟨k1, k2, k3⟩ := hn_t.1 h
    have hp := inR_t.1 (mn_t (kn_t k1)).2
    have ht := inR_t.1 k2
    have a := fn_rws (n := f)
    have b := fn_rws (n := p)
    have m := mw_rws (t := t)
    have c1 : cntR [L.s 1 cnL] = 4 := by decide
    have c2 : cntE [[L.v (.int .i64 0), L.v (.int .i64 p)]] = 1 := rfl
    have hh : IntKind.has .i64 p := by show -9223372036854775808 ≤ p ∧ p ≤ 9223372036854775807; omega
    have hpc : confR [tI, tI] [L.v (.int .i64 0), L.v (.int .i64 p)] := ⟨⟨rfl, has0⟩, ⟨rfl, hh⟩, trivial⟩
    refine ⟨a.1, a.2.1, b.2.2.1, hr, Rw.one hpc, rep_rw ⟨⟨rfl, cnL_rw⟩, trivial⟩ (by omega), m.1, m.2.1, ?_⟩
    have h1 := hr.cnt rfl
    have h2 : cntE (List.replicate t.toNat [L.s 1 cnL]) ≤ 100 := by rw [cntE_rep, c1]; omega
    simp only [cntRs, c2, nil_cnt]
    omega
end Go.V
