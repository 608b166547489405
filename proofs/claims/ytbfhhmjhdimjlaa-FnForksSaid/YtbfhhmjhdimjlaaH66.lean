/-
  Both machines of a fork behave like independent copies, in plain words.
-/
import Derived.Test.YtbfhhmjhdimjlaaH31
set_option linter.all false
namespace Go.V
theorem tb_nn {W : List (List L)} {n : Int} (h : tableOk W n = true) : ∀ p : Int, 0 <= p -> p < W.length -> giI W p 0 ≠ 0 -> 0 <= giI W p 1 /\ giI W p 1 < n := by
 intro p p0 p1 m
 have q := tb_gi h p0 p1
 exact q.2.2.2 (by omega)
theorem pe_in {E : List (List L)} {p : Int} (h0 : 0 <= p) (h1 : p < E.length) : peM E p = giI E p 0 /\ peF E p = giI E p 1 := pe_yes ⟨h0, h1⟩
theorem mc_mk {D V E : List (List L)} (h1 : framesOk D V = true) (h2 : tableOk E D.length = true) (h3 : ∀ j : Int, 0 <= j -> j < D.length -> gbI V j 0 = mapsB E j) : machOk D V E = true := by
 unfold machOk
 rw [h1, h2, allI_t.2 (fun j j0 j1 => mc_in (h3 j j0 j1))]; rfl
section
variable {C U T D V E : List (List L)} {w a v : Int}
theorem cs_side (h : CsP C U T w a v) (r : Rl C (gsI T w 0) D E) (m : machOk D V E = true) :
 Rl (csC C U T w a v) (gsI (csT C U T w a v) w 0) (stC D V E a v) E /\ stK D V E a v = 0 /\ machOk (stC D V E a v) V E = true := by
 obtain ⟨w0, w1, hl⟩ := h.wr
 have cw := cow_w h.ok
 have a0 := h.a0
 have p1 := h.p1
 have pE : a / 16 < E.length := by rw [<- r.len]; exact p1
 have mdE : giI E (a / 16) 0 = 2 := by rw [<- r.md _ (by omega) pE]; exact h.md
 have mc := mc_ok m
 have sy := sm_yes (a := a) m
 have lp := le_pos (es := E) (a := a) (by omega)
 have pi := pe_in (E := E) (p := a / 16) (by omega) pE
 have e1 : smM D V E a = 2 := by rw [sy.1, lp.1, pi.1]; exact mdE
 have e2 : smF D V E a = giI E (a / 16) 1 := by rw [sy.2, lp.2.1, pi.2]
 have s0 := st_0 (v := v) (by rw [e1]; omega : smM D V E a ≠ 0) (by rw [e1]; omega) (inR_t.2 ⟨h.v0, h.v1⟩)
 have fE := tb_nn mc.2.1
 have hs : ∀ p : Int, 0 <= p -> p < E.length -> giI E p 0 ≠ 0 -> 0 <= giI E p 1 := fun p q0 q1 q2 => (fE p q0 q1 q2).1
 have mE : giI E (a / 16) 0 ≠ 0 := by rw [mdE]; omega
 have g := fE (a / 16) (by omega) pE mE
 have lD := fr_at mc.1 g.1 g.2
 have nW := tb_nn cw.ta
 have hr : ∀ p : Int, 0 <= p -> p < (gsI T w 0).length -> giI (gsI T w 0) p 0 ≠ 0 -> 0 <= giI (gsI T w 0) p 1 := fun p q0 q1 q2 => (nW p q0 q1 q2).1
 have x0 : 0 <= a % 16 := by omega
 have x1 : a % 16 < 16 := by omega
 have frD := FrP.of mc.1
 have uD : gbI V (giI E (a / 16) 1) 0 = true := by
  rw [mc.2.2 _ g.1 g.2]
  exact maps_iff.2 ⟨a / 16, by omega, pE, mE, rfl⟩
 have frN := fr_store frD g.1 g.2 uD x0 x1 h.v0 h.v1
 have mk : machOk (stNew D (giI E (a / 16) 1) (a % 16) v) V E = true :=
  mc_mk frN.ok (by rw [stNew_len]; exact mc.2.1) (fun j j0 j1 => mc.2.2 j j0 (by rw [stNew_len] at j1; exact j1))
 rw [s0.2, e2]
 refine ⟨?_, s0.1, mk⟩
 have rowC := cw.fr.row
 rcases h.or with ⟨o1, i, i0, i1, iu, q1, q2, q3⟩ | ⟨o1, q1, q2, q3⟩
 ·rw [q1, q3, tsW_at w0 (by omega)]
  have us := cw.us i i0 i1
  rw [iu] at us
  have hW : mapsB (gsI T w 0) i = false := by
   cases c : mapsB (gsI T w 0) i with
   | false => rfl
   | true => rw [c] at us; simp at us
  have rm := Rl.move (f := giI (gsI T w 0) (a / 16) 1) r i0 i1 hW hr
  have ga := rm_all (es := gsI T w 0) (f := giI (gsI T w 0) (a / 16) 1) (n := i) (p := a / 16) (by omega) p1
  have gi : giI (rmS (gsI T w 0) (giI (gsI T w 0) (a / 16) 1) i (gsI T w 0).length) (a / 16) 1 = i := by
   rw [ga.2, if_pos ⟨by rw [h.md]; omega, rfl⟩]
  have hr' : ∀ p : Int, 0 <= p -> p < (rmS (gsI T w 0) (giI (gsI T w 0) (a / 16) 1) i (gsI T w 0).length).length -> giI (rmS (gsI T w 0) (giI (gsI T w 0) (a / 16) 1) i (gsI T w 0).length) p 0 ≠ 0 -> 0 <= giI (rmS (gsI T w 0) (giI (gsI T w 0) (a / 16) 1) i (gsI T w 0).length) p 1 := by
   intro p z0 z1 z2
   rw [rmS_len] at z1
   have z := rm_all (es := gsI T w 0) (f := giI (gsI T w 0) (a / 16) 1) (n := i) (p := p) z0 z1
   rw [z.1] at z2
   rw [z.2]
   split
   ·exact i0
   ·exact hr p z0 z1 z2
  have lC : (gsI (cpN C (giI (gsI T w 0) (a / 16) 1) i) i 0).length = 16 := by
   rw [cpN_row i0 i1 i0, if_pos rfl]; exact (rowC _ h.f0 h.f1).1
  have st := Rl.store (p := a / 16) (x := a % 16) (v := v) rm (by omega) pE mE x0 x1 (by rw [gi]; exact i0) (by rw [gi, cpN_len]; exact i1) g.1 g.2 (by rw [gi]; exact lC) lD hr' hs
  rw [gi] at st
  exact st
 ·rw [q1, q3]
  exact Rl.store (p := a / 16) (x := a % 16) (v := v) r (by omega) pE mE x0 x1 h.f0 h.f1 g.1 g.2 (rowC _ h.f0 h.f1).1 lD hr hs
theorem cs_other (h : CsP C U T w a v) (r : Rl C (gsI T (1 - w) 0) D E) : Rl (csC C U T w a v) (gsI (csT C U T w a v) (1 - w) 0) D E := by
 obtain ⟨w0, w1, hl⟩ := h.wr
 have cw := cow_w h.ok
 have nB := tb_nn cw.tb
 have hr : ∀ p : Int, 0 <= p -> p < (gsI T (1 - w) 0).length -> giI (gsI T (1 - w) 0) p 0 ≠ 0 -> 0 <= giI (gsI T (1 - w) 0) p 1 := fun p q0 q1 q2 => (nB p q0 q1 q2).1
 rcases h.or with ⟨o1, i, i0, i1, iu, q1, q2, q3⟩ | ⟨o1, q1, q2, q3⟩
 ·rw [q1, q3, tsW_ne w0 (by omega) (by omega)]
  have us := cw.us i i0 i1
  rw [iu] at us
  have hB : mapsB (gsI T (1 - w) 0) i = false := by
   cases c : mapsB (gsI T (1 - w) 0) i with
   | false => rfl
   | true => rw [c] at us; simp at us
  exact Rl.other (Rl.copy r i0 i1 hB hr) i0 (by rw [cpN_len]; exact i1) hB hr
 ·rw [q1, q3]
  exact Rl.other r h.f0 h.f1 o1 hr
theorem cs_load (ok : isOk C U T w = true) (r : Rl C (gsI T w 0) D E) (m : machOk D V E = true) : clV C U T w a = ldV D V E a /\ clC C U T w a = ldK D V E a := by
 have cy := ce_yes (a := a) ok
 have rl := r.len
 have mM : leM (gsI T w 0) a = leM E a := by
  by_cases c : a < 0
  ·rw [(le_neg c).1, (le_neg c).1]
  ·rw [(le_pos c).1, (le_pos c).1]
   by_cases d : a / 16 < E.length
   ·rw [(pe_in (by omega) d).1, (pe_in (by omega) (by rw [r.len]; exact d)).1]; exact r.md _ (by omega) d
   ·rw [(pe_no (by omega)).1, (pe_no (by have := r.len; omega)).1]
 unfold clV clC
 by_cases z : leM E a = 0
 ·have e : ceM C U T w a = 0 := by rw [cy.1, mM]; exact z
  have q := ld_no (cs := D) (us := V) (es := E) (a := a) (.inr z)
  rw [if_pos e, if_pos e]; exact ⟨q.1.symm, q.2.symm⟩
 ·have e : ceM C U T w a ≠ 0 := by rw [cy.1, mM]; exact z
  have q := ld_yes (cs := D) (us := V) (es := E) (a := a) m z
  rw [if_neg e, if_neg e, q.1, q.2]
  refine ⟨?_, rfl⟩
  have c : ¬ a < 0 := fun c => z (le_neg c).1
  have d : a / 16 < E.length := by
   by_cases d : a / 16 < E.length
   ·exact d
   ·refine absurd ?_ z; rw [(le_pos c).1, (pe_no (by omega)).1]
  rw [cy.2, (le_pos c).2.1, (le_pos c).2.1, (le_pos (es := E) c).2.2, (pe_in (by omega) d).2, (pe_in (by omega) (by rw [r.len]; exact d)).2]
  rw [(le_pos c).1, (pe_in (by omega) d).1] at z
  exact r.cel _ _ (by omega) d z (by omega) (by omega)
end
structure FkP (N : Nat) (i : Int) (C U T P0 P1 P2 Q0 Q1 Q2 : List (List L)) : Prop where
 ok : cowOk C U T = true
 ra : Rl C (gsI T 0 0) P0 P2
 rb : Rl C (gsI T 1 0) Q0 Q2
 ma : machOk P0 P1 P2 = true
 mb : machOk Q0 Q1 Q2 = true
 wC : Rw [.sl [tI]] C
 wU : Rw [tB] U
 wT : Rw [.sl [tI, tI]] T
 wp0 : Rw [.sl [tI]] P0
 wp1 : Rw [tB] P1
 wp2 : Rw [tI, tI] P2
 wq0 : Rw [.sl [tI]] Q0
 wq1 : Rw [tB] Q1
 wq2 : Rw [tI, tI] Q2
 cC : cntE C <= 1000 * 4 ^ i.toNat
 cU : cntE U <= 5
 cT : cntE T <= 100 * 2 ^ i.toNat
 cp0 : cntE P0 <= 1000
 cp1 : cntE P1 <= 5
 cp2 : cntE P2 <= 8
 cq0 : cntE Q0 <= 1000
 cq1 : cntE Q1 <= 5
 cq2 : cntE Q2 <= 8
section
variable {N : Nat} {i a v : Int} {C U T P0 P1 P2 Q0 Q1 Q2 : List (List L)}
theorem fk_bd (h : FkP N i C U T P0 P1 P2 Q0 Q1 Q2) (i6 : i <= 6) : cntE C <= 4096000 /\ cntE T <= 6400 := by
 have a := h.cC; have b := h.cT
 have x : 4 ^ i.toNat <= 4 ^ 6 := Nat.pow_le_pow_right (by omega) (by omega)
 have y : 2 ^ i.toNat <= 2 ^ 6 := Nat.pow_le_pow_right (by omega) (by omega)
 have x' : (4 : Nat) ^ 6 = 4096 := rfl
 have y' : (2 : Nat) ^ 6 = 64 := rfl
 omega
theorem fk_stay (h : FkP N i C U T P0 P1 P2 Q0 Q1 Q2) (i0 : 0 <= i) : FkP N (i + 1) C U T P0 P1 P2 Q0 Q1 Q2 := by
 have e : (i + 1).toNat = i.toNat + 1 := by omega
 have p := Nat.pow_pos (n := i.toNat) (show 0 < 4 by omega)
 have q := Nat.pow_pos (n := i.toNat) (show 0 < 2 by omega)
 exact { h with cC := by rw [e, Nat.pow_succ]; have := h.cC; omega, cT := by rw [e, Nat.pow_succ]; have := h.cT; omega }
theorem st_cnt {D V E : List (List L)} (wd : Rw [.sl [tI]] D) (k : stK D V E a v = 0) (v0 : 0 <= v) (v1 : v <= 999) : cntE (stC D V E a v) = cntE D := by
 have hm : smM D V E a ≠ 0 := fun e => by rw [(st_1 e).1] at k; cases k
 have hf := sm_fr hm
 unfold stC
 rw [if_pos k]
 exact stNew_same wd hf.1 hf.2.1 (by omega)
theorem fk_a (h : FkP N i C U T P0 P1 P2 Q0 Q1 Q2) (i0 : 0 <= i) (k : csK C U T 0 a v = 0) : FkP N (i + 1) (csC C U T 0 a v) (csU C U T 0 a v) (csT C U T 0 a v) (stC P0 P1 P2 a v) P1 P2 Q0 Q1 Q2 := by
 have P := cs_p k
 have s := cs_side P h.ra h.ma
 have o := cs_other P h.rb
 have gc := cs_c (us := U) (ts := T) (w := 0) (a := a) (v := v) h.wC
 have gu := cs_u (cs := C) (ts := T) (w := 0) (a := a) (v := v) h.wU
 have gt := cs_t (cs := C) (us := U) (w := 0) (a := a) (v := v) h.wT
 have e : (i + 1).toNat = i.toNat + 1 := by omega
 exact ⟨(cs_cow P).1, s.1, o, s.2.2, h.mb, gc.1, gu.1, gt.1, stC_rw h.wp0 (by have := P.v0; have := P.v1; omega), h.wp1, h.wp2, h.wq0, h.wq1, h.wq2,
  by rw [e, Nat.pow_succ]; have := h.cC; have := gc.2; omega, by have := h.cU; have := gu.2; omega, by rw [e, Nat.pow_succ]; have := h.cT; have := gt.2; omega,
  by rw [st_cnt h.wp0 s.2.1 P.v0 P.v1]; exact h.cp0, h.cp1, h.cp2, h.cq0, h.cq1, h.cq2⟩
theorem fk_b (h : FkP N i C U T P0 P1 P2 Q0 Q1 Q2) (i0 : 0 <= i) (k : csK C U T 1 a v = 0) : FkP N (i + 1) (csC C U T 1 a v) (csU C U T 1 a v) (csT C U T 1 a v) P0 P1 P2 (stC Q0 Q1 Q2 a v) Q1 Q2 := by
 have P := cs_p k
 have s := cs_side P h.rb h.mb
 have o := cs_other (w := 1) P h.ra
 have gc := cs_c (us := U) (ts := T) (w := 1) (a := a) (v := v) h.wC
 have gu := cs_u (cs := C) (ts := T) (w := 1) (a := a) (v := v) h.wU
 have gt := cs_t (cs := C) (us := U) (w := 1) (a := a) (v := v) h.wT
 have e : (i + 1).toNat = i.toNat + 1 := by omega
 exact ⟨(cs_cow P).1, o, s.1, h.ma, s.2.2, gc.1, gu.1, gt.1, h.wp0, h.wp1, h.wp2, stC_rw h.wq0 (by have := P.v0; have := P.v1; omega), h.wq1, h.wq2,
  by rw [e, Nat.pow_succ]; have := h.cC; have := gc.2; omega, by have := h.cU; have := gu.2; omega, by rw [e, Nat.pow_succ]; have := h.cT; have := gt.2; omega,
  h.cp0, h.cp1, h.cp2, by rw [st_cnt h.wq0 s.2.1 P.v0 P.v1]; exact h.cq0, h.cq1, h.cq2⟩
theorem fk_load (h : FkP N i C U T P0 P1 P2 Q0 Q1 Q2) : (clV C U T 0 a = ldV P0 P1 P2 a /\ clC C U T 0 a = ldK P0 P1 P2 a) /\ (clV C U T 1 a = ldV Q0 Q1 Q2 a /\ clC C U T 1 a = ldK Q0 Q1 Q2 a) :=
 ⟨cs_load (is_t.2 ⟨h.ok, by omega, by omega⟩) h.ra h.ma, cs_load (is_t.2 ⟨h.ok, by omega, by omega⟩) h.rb h.mb⟩
end
theorem fk_0 {cs : List (List L)} : FkP 0 0 (dmC cs) (dmU cs) (twT (dmE cs)) (dmC cs) (dmU cs) (dmE cs) (dmC cs) (dmU cs) (dmE cs) := by
 obtain ⟨dm, rc, ru, re, szc, szu, e0, e1⟩ := dm_facts (cs := cs)
 have rt := tw_rw dm rc ru re
 have ct := tw_cnt re
 have cu := ru.cnt rfl
 have ce := re.cnt rfl
 exact ⟨cow_tw dm, Rl.refl, Rl.refl, dm, dm, rc, ru, rt, rc, ru, re, rc, ru, re, by show _ <= 1000 * 1; omega, by omega, by show _ <= 100 * 1; omega, by omega, by omega, by omega, by omega, by omega, by omega⟩
end Go.V