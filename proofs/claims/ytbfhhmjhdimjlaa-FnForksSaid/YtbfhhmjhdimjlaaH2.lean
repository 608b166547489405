/-
  What the program's functions on forks compute, in plain words.
-/
import Derived.Test.YtbfhhmjhdimjlaaH1
set_option linter.all false
namespace Go.V
theorem quo64 {a n : Int} (h0 : 0 <= a) (h1 : a <= 9223372036854775807) (hn : 0 < n) : arI .quo .i64 a n = a / n := by
 show IntKind.wrap .i64 (a.tdiv n) = _
 rw [Int.tdiv_eq_ediv_of_nonneg h0]
 have h2 : 0 <= a / n := Int.ediv_nonneg h0 (by omega)
 have h3 : a / n <= a := Int.ediv_le_self _ h0
 exact IntWalk.i64_in _ (by omega)
theorem rem64 {a n : Int} (h0 : 0 <= a) : arI .rem .i64 a n = a % n := Int.tmod_eq_emod_of_nonneg h0
def shN (a b : List (List L)) : Nat -> Int
 | 0 => 0
 | n + 1 => if mapsB a n = true /\ mapsB b n = true then shN a b n + 1 else shN a b n
def sharedN (cs us ts : List (List L)) : Int := if cowOk cs us ts = true then shN (gsI ts 0 0) (gsI ts 1 0) us.length else 0
theorem len_pos {a : List (List L)} {f : Int} : cmpI .gtr (pagesOn a f).length 0 = mapsB a f := b_iff (by rw [mapsB_t]; simp only [SS]; omega)
theorem ag_eq {a b a' b' : Int} (h : a = a') (h' : b = b') : [DV.agg [.v (.int .i64 a), .v (.int .i64 b)]] = [DV.agg [.v (.int .i64 a'), .v (.int .i64 b')]] := by rw [h, h']
theorem ag_eq3 {a b c a' b' c' : Int} (h : a = a') (h' : b = b') (h'' : c = c') : [DV.agg [.v (.int .i64 a), .v (.int .i64 b)], DV.one (.v (.int .i64 c))] = [DV.agg [.v (.int .i64 a'), .v (.int .i64 b')], DV.one (.v (.int .i64 c'))] := by rw [h, h', h'']
theorem dd_eq {a b a' b' : Int} (h : a = a') (h' : b = b') : [DV.one (.v (.int .i64 a)), DV.one (.v (.int .i64 b))] = [DV.one (.v (.int .i64 a')), DV.one (.v (.int .i64 b'))] := by rw [h, h']
theorem di_eq {a b : Int} (h : a = b) : [DV.one (.v (.int .i64 a))] = [DV.one (.v (.int .i64 b))] := by rw [h]
def peM (es : List (List L)) (p : Int) : Int := if 0 <= p /\ p < es.length then giI es p 0 else 0
def peF (es : List (List L)) (p : Int) : Int := if 0 <= p /\ p < es.length then giI es p 1 else 0
theorem pe_yes {es : List (List L)} {p : Int} (h : 0 <= p /\ p < es.length) : peM es p = giI es p 0 /\ peF es p = giI es p 1 := by unfold peM peF; rw [if_pos h, if_pos h]; exact ⟨rfl, rfl⟩
theorem pe_no {es : List (List L)} {p : Int} (h : ¬ (0 <= p /\ p < es.length)) : peM es p = 0 /\ peF es p = 0 := by unfold peM peF; rw [if_neg h, if_neg h]; exact ⟨rfl, rfl⟩
theorem pe_fr {es : List (List L)} {n p : Int} (h : tableOk es n = true) (hm : peM es p ≠ 0) : 0 <= peF es p /\ peF es p < n /\ 1 <= peM es p /\ peM es p <= 2 := by
 by_cases q : 0 <= p /\ p < es.length
 ·rw [(pe_yes q).1] at hm ⊢; rw [(pe_yes q).2]
  have := tb_at h q.1 q.2; omega
 ·exact absurd (pe_no q).1 hm
def leM (es : List (List L)) (a : Int) : Int := if a < 0 then 0 else peM es (a / 16)
def leF (es : List (List L)) (a : Int) : Int := if a < 0 then 0 else peF es (a / 16)
def leK (a : Int) : Int := if a < 0 then 0 else a % 16
theorem le_neg {es : List (List L)} {a : Int} (h : a < 0) : leM es a = 0 /\ leF es a = 0 /\ leK a = 0 := by unfold leM leF leK; rw [if_pos h, if_pos h, if_pos h]; exact ⟨rfl, rfl, rfl⟩
theorem le_pos {es : List (List L)} {a : Int} (h : ¬ a < 0) : leM es a = peM es (a / 16) /\ leF es a = peF es (a / 16) /\ leK a = a % 16 := by unfold leM leF leK; rw [if_neg h, if_neg h, if_neg h]; exact ⟨rfl, rfl, rfl⟩
theorem leK_bd {a : Int} : 0 <= leK a /\ leK a < 16 := by unfold leK; split <;> omega
def isOk (cs us ts : List (List L)) (wh : Int) : Bool := cowOk cs us ts && inR wh 0 1
theorem is_t {cs us ts : List (List L)} {wh : Int} : isOk cs us ts wh = true ↔ cowOk cs us ts = true /\ 0 <= wh /\ wh <= 1 := by simp [isOk, inR]
theorem is_f {cs us ts : List (List L)} {wh : Int} : isOk cs us ts wh = false ↔ cowOk cs us ts = false \/ wh < 0 \/ 1 < wh := by
 unfold isOk; rw [Bool.and_eq_false_iff, inR_f]
def ceM (cs us ts : List (List L)) (wh a : Int) : Int := if isOk cs us ts wh = true then leM (gsI ts wh 0) a else 0
def ceF (cs us ts : List (List L)) (wh a : Int) : Int := if isOk cs us ts wh = true then leF (gsI ts wh 0) a else 0
theorem ce_yes {cs us ts : List (List L)} {wh a : Int} (h : isOk cs us ts wh = true) : ceM cs us ts wh a = leM (gsI ts wh 0) a /\ ceF cs us ts wh a = leF (gsI ts wh 0) a := by unfold ceM ceF; rw [if_pos h, if_pos h]; exact ⟨rfl, rfl⟩
theorem ce_no {cs us ts : List (List L)} {wh a : Int} (h : isOk cs us ts wh = false \/ a < 0) : ceM cs us ts wh a = 0 /\ ceF cs us ts wh a = 0 := by
 unfold ceM ceF
 rcases h with h | h
 ·rw [h]; exact ⟨rfl, rfl⟩
 ·rw [(le_neg h).1, (le_neg (es := gsI ts wh 0) h).2.1]; constructor <;> split <;> rfl
theorem ce_ok {cs us ts : List (List L)} {wh a : Int} (h : ceM cs us ts wh a ≠ 0) : isOk cs us ts wh = true /\ 0 <= a := by
 constructor
 ·cases q : isOk cs us ts wh
  ·exact absurd (ce_no (.inl q)).1 h
  ·rfl
 ·rcases Int.lt_or_le a 0 with q | q
  ·exact absurd (ce_no (.inr q)).1 h
  ·exact q
theorem is_tab {cs us ts : List (List L)} {wh : Int} (h : isOk cs us ts wh = true) : tableOk (gsI ts wh 0) cs.length = true := by
 obtain ⟨h0, h1, h2⟩ := is_t.1 h
 obtain ⟨_, _, h3, h4, _⟩ := co_ok h0
 rcases (show wh = 0 \/ wh = 1 by omega) with rfl | rfl
 ·exact h3
 ·exact h4
theorem ce_fr {cs us ts : List (List L)} {wh a : Int} (h : ceM cs us ts wh a ≠ 0) : 0 <= ceF cs us ts wh a /\ ceF cs us ts wh a < cs.length /\ 1 <= ceM cs us ts wh a /\ ceM cs us ts wh a <= 2 /\ (gsI cs (ceF cs us ts wh a) 0).length = 16 := by
 obtain ⟨h0, h1⟩ := ce_ok h
 rw [(ce_yes h0).1, (le_pos (by omega)).1] at h ⊢; rw [(ce_yes h0).2, (le_pos (by omega)).2.1]
 have hp := pe_fr (is_tab h0) h
 refine ⟨hp.1, hp.2.1, hp.2.2.1, hp.2.2.2, ?_⟩
 exact fr_at (co_ok (is_t.1 h0).1).1 hp.1 hp.2.1
def clV (cs us ts : List (List L)) (wh a : Int) : Int := if ceM cs us ts wh a = 0 then 0 else giI (gsI cs (ceF cs us ts wh a) 0) (a % 16) 0
def clC (cs us ts : List (List L)) (wh a : Int) : Int := if ceM cs us ts wh a = 0 then 1 else 0
end Go.V