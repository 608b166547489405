/-
  A fork needs no frame until a write, and one frame for a page that was copied.
-/
import Derived.Test.YtbfhhmjhdimjlaaH29
import Derived.Test.YtbfhhmjhdimjlaaH54
set_option linter.all false
namespace Go.V
structure FfP (C U E C' U' T' : List (List L)) (a : Int) : Prop where
 i0 : isOk C' U' T' 0 = true
 i1 : isOk C' U' T' 1 = true
 d1 : cpC C' U' T' 1 = C /\ cpU C' U' T' 1 = U /\ cpT C' U' T' 1 = E
 m0 : machOk (cpC C' U' T' 0) (cpU C' U' T' 0) (cpT C' U' T' 0) = true
 v : ldV (cpC C' U' T' 0) (cpU C' U' T' 0) (cpT C' U' T' 0) a = 5
 sh : sharedN C' U' T' = ufN C U - 1
theorem dm_facts {cs : List (List L)} : machOk (dmC cs) (dmU cs) (dmE cs) = true /\ Rw [.sl [tI]] (dmC cs) /\ Rw [tB] (dmU cs) /\ Rw [tI, tI] (dmE cs) /\ cntE (dmC cs) <= 1000 /\ (dmU cs).length <= 5 /\ 1 <= (dmE cs).length /\ (dmE cs).length <= 8 := by
 obtain ⟨a, b, c, d⟩ := l7_mach (cs := cs) (h := l01h cs) (Int.le_refl 0) (Int.natCast_nonneg _)
 have sz := l7_sz (cs := cs) (h := l01h cs) (Int.le_refl 0) (Int.natCast_nonneg _)
 have o := l7_ok (cs := cs) (h := l01h cs) (Int.le_refl 0) (Int.natCast_nonneg _)
 exact ⟨a, b, c, d, sz.1, sz.2.2.1, o.1⟩
theorem tw_rw {C U E : List (List L)} (hm : machOk C U E = true) (rc : Rw [.sl [tI]] C) (ru : Rw [tB] U) (re : Rw [tI, tI] E) : Rw [.sl [tI, tI]] (twT E) := by
 have := (cn_wf rc ru re).2.2
 rw [(cn_yes hm).2.2] at this; exact this
theorem tw_cnt {E : List (List L)} (re : Rw [tI, tI] E) : cntE (twT E) = 2 + (E.length + E.length) := by
 have c := re.cnt rfl
 unfold cntE at c ⊢
 simp only [twT, cntEs, cntR, cntL, List.length_cons, List.length_nil]
 omega
end Go.V