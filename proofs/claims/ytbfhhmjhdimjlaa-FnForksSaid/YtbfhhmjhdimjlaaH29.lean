/-
  A store into a fork: what it does, and what giving up a machine leaves.
-/
import Derived.Test.YtbfhhmjhdimjlaaH28
import Derived.Test.YtbfhhmjhdimjlaaH7
set_option linter.all false
namespace Go.V
structure CsP (C U T : List (List L)) (w a v : Int) : Prop where
 ok : isOk C U T w = true
 a0 : 0 <= a
 p1 : a / 16 < (gsI T w 0).length
 md : giI (gsI T w 0) (a / 16) 0 = 2
 v0 : 0 <= v
 v1 : v <= 999
 f0 : 0 <= giI (gsI T w 0) (a / 16) 1
 f1 : giI (gsI T w 0) (a / 16) 1 < C.length
 or : (mapsB (gsI T (1 - w) 0) (giI (gsI T w 0) (a / 16) 1) = true /\ ∃ i : Int, 0 <= i /\ i < C.length /\ gbI U i 0 = false /\ csC C U T w a v = stNew (cpN C (giI (gsI T w 0) (a / 16) 1) i) i (a % 16) v /\ csU C U T w a v = U.set i.toNat [.v (.bool true)] /\
       csT C U T w a v = tsW T w (rmS (gsI T w 0) (giI (gsI T w 0) (a / 16) 1) i (gsI T w 0).length)) \/
  (mapsB (gsI T (1 - w) 0) (giI (gsI T w 0) (a / 16) 1) = false /\ csC C U T w a v = stNew C (giI (gsI T w 0) (a / 16) 1) (a % 16) v /\ csU C U T w a v = U /\ csT C U T w a v = T)
theorem free_un {us : List (List L)} (h : 0 <= freeI us) : gbI us (freeI us) 0 = false := by
 unfold freeI at h ⊢
 split at h
 ·rename_i j e
  have := List.find?_some e
  simpa using this
 ·omega
theorem cs_p {C U T : List (List L)} {w a v : Int} (h : csK C U T w a v = 0) : CsP C U T w a v := by
 obtain ⟨m0, m1, vv, hft⟩ := cs_in h
 obtain ⟨hok, ha⟩ := ce_ok m0
 have hfr := ce_fr m0
 have e1 : ceM C U T w a = peM (gsI T w 0) (a / 16) := (ce_yes hok).1.trans (le_pos (by omega)).1
 have e2 : ceF C U T w a = peF (gsI T w 0) (a / 16) := (ce_yes hok).2.trans (le_pos (by omega)).2.1
 have hin : 0 <= a / 16 /\ a / 16 < (gsI T w 0).length := by
  by_cases q : 0 <= a / 16 /\ a / 16 < (gsI T w 0).length
  ·exact q
  ·exact absurd (e1.trans (pe_no q).1) m0
 rw [(pe_yes hin).1] at e1
 rw [(pe_yes hin).2] at e2
 have hv := inR_t.1 vv
 refine ⟨hok, ha, hin.2, by omega, hv.1, hv.2, by omega, by omega, ?_⟩
 cases hs : mapsB (gsI T (1 - w) 0) (ceF C U T w a)
 ·right
  have q := cs_6 m0 m1 vv hs
  rw [e2] at q hs
  exact ⟨hs, q.1, q.2.1, q.2.2.1⟩
 ·left
  have hb := hft hs
  have q := cs_5 m0 m1 vv hs hb
  have b := ft_bd hb
  rw [e2] at hs
  refine ⟨hs, ftI C U, b.1, b.2.1, by rw [b.2.2.1]; exact free_un (by omega), ?_, ?_, ?_⟩
  ·rw [q.1, cpF, e2]; rfl
  ·rw [q.2.1, b.2.2.2, b.2.2.1]
  ·rw [q.2.2.1, e2]
theorem tsW_ne {ts es : List (List L)} {w : Int} (h0 : 0 <= w) (h1 : w < ts.length) (h2 : 0 <= 1 - w) : gsI (tsW ts w es) (1 - w) 0 = gsI ts (1 - w) 0 := by
 unfold tsW
 rw [gS_set h0 h1 h2, if_neg (by omega)]
theorem CsP.wr {C U T : List (List L)} {w a v : Int} (h : CsP C U T w a v) : 0 <= w /\ w <= 1 /\ T.length = 2 := by
 have q := is_t.1 h.ok
 exact ⟨q.2.1, q.2.2, (co_ok q.1).2.1⟩
theorem cow_w {C U T : List (List L)} {w : Int} (h : isOk C U T w = true) : CowP C U (gsI T w 0) (gsI T (1 - w) 0) := by
 have q := is_t.1 h
 have c := CowP.of q.1
 rcases (show w = 0 \/ w = 1 by omega) with rfl | rfl
 ·exact c
 ·exact c.symm
theorem cow_w' {C U T : List (List L)} {w : Int} (h : CowP C U (gsI T w 0) (gsI T (1 - w) 0)) (w0 : 0 <= w) (w1 : w <= 1) (hl : T.length = 2) : cowOk C U T = true := by
 rcases (show w = 0 \/ w = 1 by omega) with rfl | rfl
 ·exact h.ok hl
 ·exact CowP.ok (CowP.symm h) hl
theorem cs_cow {C U T : List (List L)} {w a v : Int} (h : CsP C U T w a v) : cowOk (csC C U T w a v) (csU C U T w a v) (csT C U T w a v) = true /\ (csT C U T w a v).length = 2 := by
 obtain ⟨w0, w1, hl⟩ := h.wr
 have c := cow_w h.ok
 have hx : 0 <= a % 16 /\ a % 16 < 16 := by omega
 have mA : mapsB (gsI T w 0) (giI (gsI T w 0) (a / 16) 1) = true := maps_iff.2 ⟨a / 16, by have := h.a0; omega, h.p1, by rw [h.md]; omega, rfl⟩
 rcases h.or with ⟨o1, i, i0, i1, iu, e1, e2, e3⟩ | ⟨o1, e1, e2, e3⟩
 ·rw [e1, e2, e3]
  have d := cow_copy c h.f0 h.f1 mA o1 i0 i1 iu
  have ul := c.fr.u
  have d2 := cow_plain (x := a % 16) (v := v) d i0 (by rw [cpN_len]; exact i1) (by rw [gB_set i0 (by omega) i0, if_pos rfl]; rfl) hx.1 hx.2 h.v0 h.v1
  refine ⟨cow_w' (w := w) ?_ w0 w1 (by rw [tsW_len]; exact hl), by rw [tsW_len]; exact hl⟩
  rw [tsW_at w0 (by omega), tsW_ne w0 (by omega) (by omega)]
  exact d2
 ·rw [e1, e2, e3]
  have hu : gbI U (giI (gsI T w 0) (a / 16) 1) 0 = true := by rw [c.us _ h.f0 h.f1, mA]; rfl
  exact ⟨cow_w' (cow_plain c h.f0 h.f1 hu hx.1 hx.2 h.v0 h.v1) w0 w1 hl, hl⟩
end Go.V