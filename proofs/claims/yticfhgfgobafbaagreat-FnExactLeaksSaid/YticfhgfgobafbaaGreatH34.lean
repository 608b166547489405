/-
  The loops of a layout's check that keeps a map of pages.
-/import Derived.Test.YticfhgfgobafbaaGreatH33
set_option linter.all false
namespace Go.V
structure IsP (sp : List (List L)) (i : Int) (es : List (List L)) : Prop where
 s : SeenB es (spP sp i.toNat)
 nd : (spP sp i.toNat).Nodup
 ok : upto (spA sp) i
structure IlP (sp lg : List (List L)) (j : Int) (es : List (List L)) : Prop where
 s : SeenB es (spP sp sp.length ++ lgP lg j.toNat)
 nd : (spP sp sp.length ++ lgP lg j.toNat).Nodup
 oks : upto (spA sp) sp.length
 ok : upto (lgA lg) j
structure IkP (sp lg : List (List L)) (j k : Int) (es : List (List L)) : Prop where
 s : SeenB es (spP sp sp.length ++ lgP lg j.toNat ++ ptP (giI lg j 0) k.toNat)
 nd : (spP sp sp.length ++ lgP lg j.toNat ++ ptP (giI lg j 0) k.toNat).Nodup
 oks : upto (spA sp) sp.length
 ok : upto (lgA lg) j
theorem seen_f {es : List (List L)} {l : List Int} {n : Int} (h : SeenB es l) (e : mgbI es n = false) : n ∉ l := fun m => by rw [(h.at_ n).2 m] at e; cases e
theorem is_0 {sp : List (List L)} : IsP sp 0 [] := ⟨seen_0, List.nodup_nil, upto_z⟩
theorem is_dup {sp lg es : List (List L)} {i : Int} (h : IsP sp i es) (h0 : 0 <= i) (h1 : i < sp.length) (hh : mgbI es (giI sp i 0) = true) : layOk sp lg = false :=
 lay_no3 h0 h1 ((h.s.at_ _).1 hh)
theorem is_up {sp es : List (List L)} {i : Int} (h : IsP sp i es) (h0 : 0 <= i) (hs : spOk (giI sp i 0) (giI sp i 1) (giI sp i 2) = true) (hh : mgbI es (giI sp i 0) = false) : IsP sp (i + 1) (muT es (giI sp i 0)) :=
 ⟨by rw [spP_up h0]; exact seen_up h.s, by rw [spP_up h0]; exact nd_snoc h.nd (seen_f h.s hh), upto_s h.ok hs⟩
theorem is_end {sp lg es : List (List L)} {i : Int} (h : IsP sp i es) (h1 : i <= sp.length) (h2 : (sp.length : Int) <= i) : IlP sp lg 0 es := by
 have e : i.toNat = sp.length := by omega
 have ei : i = sp.length := by omega
 have q1 := h.s; have q2 := h.nd; have q3 := h.ok
 rw [e] at q1 q2
 rw [ei] at q3
 exact ⟨by simpa [lgP] using q1, by simpa [lgP] using q2, q3, upto_z⟩
theorem ik_0 {sp lg es : List (List L)} {j : Int} (h : IlP sp lg j es) : IkP sp lg j 0 es :=
 ⟨by simpa [ptP] using h.s, by simpa [ptP] using h.nd, h.oks, h.ok⟩
theorem ik_dup {sp lg es : List (List L)} {j k : Int} (h : IkP sp lg j k es) (h0 : 0 <= j) (h1 : j < lg.length) (k0 : 0 <= k) (k1 : k < giI lg j 1) (hh : mgbI es (giI lg j 0 + k) = true) : layOk sp lg = false :=
 lay_no4 h0 h1 k0 k1 ((h.s.at_ _).1 hh)
theorem ik_up {sp lg es : List (List L)} {j k : Int} (h : IkP sp lg j k es) (k0 : 0 <= k) (hh : mgbI es (giI lg j 0 + k) = false) : IkP sp lg j (k + 1) (muT es (giI lg j 0 + k)) := by
 have q : ∀ A : List Int, A ++ ptP (giI lg j 0) (k + 1).toNat = A ++ ptP (giI lg j 0) k.toNat ++ [giI lg j 0 + k] := fun A => by rw [ptP_up k0, List.append_assoc]
 exact ⟨by rw [q]; exact seen_up h.s, by rw [q]; exact nd_snoc h.nd (seen_f h.s hh), h.oks, h.ok⟩
theorem ik_end {sp lg es : List (List L)} {j k : Int} (h : IkP sp lg j k es) (j0 : 0 <= j) (hl : lgOk (giI lg j 0) (giI lg j 1) (giI lg j 2) = true) (k1 : k <= giI lg j 1) (k2 : giI lg j 1 <= k) : IlP sp lg (j + 1) es := by
 have ek : k.toNat = (giI lg j 1).toNat := by omega
 have q1 := h.s; have q2 := h.nd
 rw [ek, List.append_assoc, <- lgP_up j0] at q1 q2
 exact ⟨q1, q2, h.oks, upto_s h.ok hl⟩
theorem il_end {sp lg es : List (List L)} {j : Int} (h : IlP sp lg j es) (j1 : j <= lg.length) (j2 : (lg.length : Int) <= j) : layOk sp lg = true := by
 have e : j.toNat = lg.length := by omega
 have q := h.nd
 rw [e] at q
 exact lay_yes h.oks (Int.le_refl _) h.ok j2 q
theorem nb_f {b : Bool} (h : (!b) = false) : b = true := by cases b <;> simp_all
theorem nb_t {b : Bool} (h : (!b) = true) : b = false := by cases b <;> simp_all
end Go.V