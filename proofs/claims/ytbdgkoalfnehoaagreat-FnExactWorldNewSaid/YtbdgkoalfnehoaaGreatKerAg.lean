/-
  Contracts of functions, by evaluation of conditions on their code.
-/
import Derived.Test.YtbdgkoalfnehoaaGreatS6
import Derived.Test.YtbdgkoalfnehoaaGreatH12
import Derived.Test.YtbdgkoalfnehoaaGreatHeapBg

set_option linter.all false
namespace Go.V
open Go Go.Proofs
set_option maxRecDepth 1000000
set_option maxHeartbeats 8000000
namespace KA1
structure Fns where
  inR : Int → Int → Int → Bool
def F0 : Fns := ⟨inR⟩
def ct (F : Fns) : CT := fun f ds => match f with
  | 79 => match ds with
    | [.one (.v (.int .i64 x)), .one (.v (.int .i64 a)), .one (.v (.int .i64 b))] => some (fun _ => True, [.one (.v (.bool (F.inR x a b)))])
    | _ => none
  | 74 => match ds with
    | [.one (.v (.int .i64 x)), .one (.v (.int .i64 a)), .one (.v (.int .i64 b))] => some (fun _ => True, [.one (.v (.bool (F.inR x a b)))])
    | _ => none
  | _ => none
theorem ct_ok : CTok Tryz.prog (ct F0) := by
  intro f ds pre res h hp
  unfold ct at h
  split at h
  · split at h
    · cases h; exact c_impl_between _ _ _ hp
    · cases h
  · split at h
    · cases h; exact c_spec_l01In _ _ _ hp
    · cases h
  · cases h
def mt : Fns → MT := noMT
theorem mt_ok : MTok Tryz.prog (mt F0) := noMT_ok
def pt : Fns → PT := noPT
theorem pt_ok : PTok Tryz.prog (pt F0) := noPT_ok
end KA1
theorem c_impl_FramesOk (cs us : List (List L)) (hp : Rw [.sl [tI]] cs ∧ Rw [tB] us) : Ctr Tryz.prog 182 [.agg [.s 1 cs, .s 1 us]] [.one (.v (.bool (framesOk cs us)))] := by
  obtain ⟨hc, hu⟩ := hp
  have hcw := hc.wf; have huw := hu.wf
  have hlen := hc.1; unfold maxLen at hlen
  refine ctr_of (ctF := KA1.ct) (mtF := KA1.mt) (ptF := KA1.pt) (F0 := KA1.F0) tabOk KA1.ct_ok KA1.mt_ok KA1.pt_ok mixed 55 _ [4] [.tmp 2] Tryz.func182 rfl rfl rfl rfl rfl ?_
  intro O r F hO hr hF
  cbv
  repeat' first | refine And.intro ?_ ?_ | (refine caseB_intro (fun hb => ?_) (fun hb => ?_) <;> cbv) | (refine ⟨[1, 22, 23, 24], [1], Int, fun i => [.reg 24 (.one (.v (.int .i64 i)))], fun i => 0 ≤ i ∧ i ≤ ((cs.length : Nat) : Int) ∧ upto (frameOk cs us) i, fun i => (cs.length) - i.toNat, ⟨0, ?_, ?_⟩, ?_⟩; rotate_left; (focus (cbv; done)); intro i hi; replace hi : 0 ≤ i ∧ i ≤ ((cs.length : Nat) : Int) ∧ upto (frameOk cs us) i := hi; obtain ⟨i0, i1, i2⟩ := hi; cbv) | (refine loop_step (O.ar .add .i64 i 1) ?_ ?_ ?_; rotate_left 2; focus (cbv; done)) | (refine ⟨[1, 3, 22, 23, 24, 32, 33, 34], [1], Int, fun k => [.reg 34 (.one (.v (.int .i64 k)))], fun k => 0 ≤ k ∧ k ≤ (((O.gs cs i 0).length : Nat) : Int) ∧ upto (cellOk cs us i) k, fun k => ((O.gs cs i 0).length) - k.toNat, ⟨0, ?_, ?_⟩, ?_⟩; rotate_left; (focus (cbv; done)); intro k hk; replace hk : 0 ≤ k ∧ k ≤ (((O.gs cs i 0).length : Nat) : Int) ∧ upto (cellOk cs us i) k := hk; obtain ⟨k0, k1, k2⟩ := hk; cbv) | (refine loop_step (O.ar .add .i64 k 1) ?_ ?_ ?_; rotate_left 2; focus (cbv; done))
  all_goals ((try subst hos); subst hO hr hF; (try simp only [stdO, SS, sub_all, ad_zero] at *); (try simp only [ncast] at *); (try simp only [Int.ofNat_eq_natCast] at *))
  all_goals (try simp only [KA1.F0] at *)
  all_goals try rw [up64 (by omega) (by omega)]
  all_goals first
    | omega
    | (refine ⟨by omega, by omega, Eq.trans (Rw.eta (fs := _) (by (first | assumption | exact Rw.sub (by first | assumption | exact Rw.sub (by assumption) (by omega) rfl) (by omega) rfl)) (by omega) (by omega)) ?_⟩; rfl)
    | exact upto_z
    | contradiction
    | exact db_eq (fr_no1 (by assumption)).symm
    | exact db_eq (fr_no2 (by omega)).symm
    | exact db_eq (fr_no3 i0 (by omega) (by omega)).symm
    | exact db_eq (fr_no4 i0 (by omega) k0 (by omega) (.inl (by assumption))).symm
    | exact db_eq (fr_no4 i0 (by omega) k0 (by omega) (.inr ⟨by assumption, by assumption⟩)).symm
    | exact db_eq (fr_yes (by assumption) (by omega) i2 (by omega)).symm
    | exact upto_s i2 (fr_in (by omega) k2 (by omega))
    | exact upto_s k2 (ce_in (by assumption) (by first | exact .inl (by assumption) | exact .inr (by assumption)))
    | trace_state
theorem c_spec_FramesOk (cs us : List (List L)) (hp : Rw [.sl [tI]] cs ∧ Rw [tB] us) : Ctr Tryz.prog 180 [.agg [.s 1 cs, .s 1 us]] [.one (.v (.bool (framesOk cs us)))] := by
  obtain ⟨hc, hu⟩ := hp
  have hlen := hc.1; unfold maxLen at hlen
  refine ctr_of (ctF := KA1.ct) (mtF := KA1.mt) (ptF := KA1.pt) (F0 := KA1.F0) tabOk KA1.ct_ok KA1.mt_ok KA1.pt_ok mixed 61 _ [4] [.tmp 2] Tryz.func180 rfl rfl rfl rfl rfl ?_
  intro O r F hO hr hF
  cbv
  repeat' first | refine And.intro ?_ ?_ | (refine caseB_intro (fun hb => ?_) (fun hb => ?_) <;> cbv) | (refine ⟨[1, 3], [1], Int, fun i => [.reg 3 (.one (.v (.int .i64 i)))], fun i => 0 ≤ i ∧ i ≤ ((cs.length : Nat) : Int) ∧ upto (frameOk cs us) i, fun i => (cs.length) - i.toNat, ⟨0, ?_, ?_⟩, ?_⟩; rotate_left; (focus (cbv; done)); intro i hi; replace hi : 0 ≤ i ∧ i ≤ ((cs.length : Nat) : Int) ∧ upto (frameOk cs us) i := hi; obtain ⟨i0, i1, i2⟩ := hi; cbv) | (refine loop_step (O.ar .add .i64 i 1) ?_ ?_ ?_; rotate_left 2; focus (cbv; done)) | (refine ⟨[1, 3, 4], [1], Int, fun k => [.reg 4 (.one (.v (.int .i64 k)))], fun k => 0 ≤ k ∧ k ≤ ((16 : Nat) : Int) ∧ upto (cellOk cs us i) k, fun k => (16) - k.toNat, ⟨0, ?_, ?_⟩, ?_⟩; rotate_left; (focus (cbv; done)); intro k hk; replace hk : 0 ≤ k ∧ k ≤ ((16 : Nat) : Int) ∧ upto (cellOk cs us i) k := hk; obtain ⟨k0, k1, k2⟩ := hk; cbv) | (refine loop_step (O.ar .add .i64 k 1) ?_ ?_ ?_; rotate_left 2; focus (cbv; done))
  all_goals ((try subst hos); subst hO hr hF; (try simp only [stdO, SS, sub_all, ad_zero] at *); (try simp only [ncast] at *); (try simp only [Int.ofNat_eq_natCast] at *))
  all_goals (try simp only [KA1.F0] at *)
  all_goals try rw [up64 (by omega) (by omega)]
  all_goals first
    | omega
    | (refine ⟨by omega, by omega, Eq.trans (Rw.eta (fs := _) (by (first | assumption | exact Rw.sub (by first | assumption | exact Rw.sub (by assumption) (by omega) rfl) (by omega) rfl)) (by omega) (by omega)) ?_⟩; rfl)
    | exact upto_z
    | contradiction
    | exact db_eq (fr_no1 (by assumption)).symm
    | exact db_eq (fr_no2 (by omega)).symm
    | exact db_eq (fr_no3 i0 (by omega) (by omega)).symm
    | exact db_eq (fr_no4 i0 (by omega) k0 (by omega) (.inl (by assumption))).symm
    | exact db_eq (fr_no4 i0 (by omega) k0 (by omega) (.inr ⟨by assumption, by assumption⟩)).symm
    | exact db_eq (fr_yes (by assumption) (by omega) i2 (by omega)).symm
    | exact upto_s i2 (fr_in (by omega) k2 (by omega))
    | exact upto_s k2 (ce_in (by assumption) (by first | exact .inl (by assumption) | exact .inr (by assumption)))
    | trace_state
theorem c_impl_TableOk (es : List (List L)) (n : Int) (hp : Rw [tI, tI] es) : Ctr Tryz.prog 183 [.agg [.s 2 es], .one (.v (.int .i64 n))] [.one (.v (.bool (tableOk es n)))] := by
  have hlen := hp.1; unfold maxLen at hlen
  refine ctr_of (ctF := KA1.ct) (mtF := KA1.mt) (ptF := KA1.pt) (F0 := KA1.F0) tabOk KA1.ct_ok KA1.mt_ok KA1.pt_ok mixed 49 _ [4] [.tmp 4] Tryz.func183 rfl rfl rfl rfl rfl ?_
  intro O r F hO hr hF
  cbv
  repeat' first | refine And.intro ?_ ?_ | (refine caseB_intro (fun hb => ?_) (fun hb => ?_) <;> cbv) | (refine ⟨[1, 2, 8, 9, 10], [2], Int, fun i => [.reg 10 (.one (.v (.int .i64 i)))], fun i => 0 ≤ i ∧ i ≤ ((es.length : Nat) : Int) ∧ upto (entOk es n) i, fun i => (es.length) - i.toNat, ⟨0, ?_, ?_⟩, ?_⟩; rotate_left; (focus (cbv; done)); intro i hi; replace hi : 0 ≤ i ∧ i ≤ ((es.length : Nat) : Int) ∧ upto (entOk es n) i := hi; obtain ⟨i0, i1, i2⟩ := hi; cbv) | (refine loop_step (O.ar .add .i64 i 1) ?_ ?_ ?_; rotate_left 2; focus (cbv; done))
  all_goals ((try subst hos); subst hO hr hF; (try simp only [stdO, SS, sub_all, ad_zero] at *); (try simp only [ncast] at *); (try simp only [Int.ofNat_eq_natCast] at *))
  all_goals (try simp only [KA1.F0] at *)
  all_goals try rw [up64 (by omega) (by omega)]
  all_goals first
    | omega
    | (refine ⟨by omega, by omega, Eq.trans (Rw.eta (fs := _) (by (first | assumption | exact Rw.sub (by first | assumption | exact Rw.sub (by assumption) (by omega) rfl) (by omega) rfl)) (by omega) (by omega)) ?_⟩; rfl)
    | exact upto_z
    | contradiction
    | exact db_eq (tb_yes i2 (by omega)).symm
    | (simp only [inR_t, inR_f] at *; first | exact db_eq (tb_no i0 (by omega) (by omega)).symm | exact upto_s i2 (tb_in (by omega)))
    | trace_state
theorem c_spec_TableOk (es : List (List L)) (n : Int) (hp : Rw [tI, tI] es) : Ctr Tryz.prog 181 [.agg [.s 2 es], .one (.v (.int .i64 n))] [.one (.v (.bool (tableOk es n)))] := by
  have hlen := hp.1; unfold maxLen at hlen
  refine ctr_of (ctF := KA1.ct) (mtF := KA1.mt) (ptF := KA1.pt) (F0 := KA1.F0) tabOk KA1.ct_ok KA1.mt_ok KA1.pt_ok mixed 54 _ [4] [.tmp 4] Tryz.func181 rfl rfl rfl rfl rfl ?_
  intro O r F hO hr hF
  cbv
  repeat' first | refine And.intro ?_ ?_ | (refine caseB_intro (fun hb => ?_) (fun hb => ?_) <;> cbv) | (refine ⟨[1, 2, 5], [2], Int, fun i => [.reg 5 (.one (.v (.int .i64 i)))], fun i => 0 ≤ i ∧ i ≤ ((es.length : Nat) : Int) ∧ upto (entOk es n) i, fun i => (es.length) - i.toNat, ⟨0, ?_, ?_⟩, ?_⟩; rotate_left; (focus (cbv; done)); intro i hi; replace hi : 0 ≤ i ∧ i ≤ ((es.length : Nat) : Int) ∧ upto (entOk es n) i := hi; obtain ⟨i0, i1, i2⟩ := hi; cbv) | (refine loop_step (O.ar .add .i64 i 1) ?_ ?_ ?_; rotate_left 2; focus (cbv; done))
  all_goals ((try subst hos); subst hO hr hF; (try simp only [stdO, SS, sub_all, ad_zero] at *); (try simp only [ncast] at *); (try simp only [Int.ofNat_eq_natCast] at *))
  all_goals (try simp only [KA1.F0] at *)
  all_goals try rw [up64 (by omega) (by omega)]
  all_goals first
    | omega
    | (refine ⟨by omega, by omega, Eq.trans (Rw.eta (fs := _) (by (first | assumption | exact Rw.sub (by first | assumption | exact Rw.sub (by assumption) (by omega) rfl) (by omega) rfl)) (by omega) (by omega)) ?_⟩; rfl)
    | exact upto_z
    | contradiction
    | exact db_eq (tb_yes i2 (by omega)).symm
    | (simp only [inR_t, inR_f] at *; first | exact db_eq (tb_no i0 (by omega) (by omega)).symm | exact upto_s i2 (tb_in (by omega)))
    | trace_state
namespace KD0
structure Fns where
  no : Unit
def F0 : Fns := ⟨()⟩
def ct : Fns → CT := noC
theorem ct_ok : CTok Tryz.prog (ct F0) := noC_ok
def mt : Fns → MT := noMT
theorem mt_ok : MTok Tryz.prog (mt F0) := noMT_ok
def pt : Fns → PT := noPT
theorem pt_ok : PTok Tryz.prog (pt F0) := noPT_ok
end KD0
theorem c_impl_copyInts (es : List (List L)) (hp : Rw [tI] es ∧ es.length ≤ 1099511627776) : Ctr Tryz.prog 132 [.one (.s 1 es)] [.one (.s 1 es)] := by
  obtain ⟨hw, hl⟩ := hp
  have hs := hw.scal rfl
  refine ctr_of (ctF := KD0.ct) (mtF := KD0.mt) (ptF := KD0.pt) (F0 := KD0.F0) tabOk KD0.ct_ok KD0.mt_ok KD0.pt_ok mixed 6 _ [31] [.tmp 2] Tryz.func132 rfl rfl rfl rfl rfl ?_
  intro O r F hO hr hF
  cbv
  repeat' first | refine And.intro ?_ ?_ | (refine caseB_intro (fun hb => ?_) (fun hb => ?_) <;> cbv)
  all_goals ((try subst hos); subst hO hr hF; (try simp only [stdO, SS, sub_all, ad_zero] at *); (try simp only [ncast] at *); (try simp only [Int.ofNat_eq_natCast] at *))
  all_goals first
    | exact hs
    | trivial
    | exact ⟨trivial, trivial⟩
    | omega
    | (simp only [List.length_nil]; omega)
    | exact rfl
    | trace_state
namespace KD4
structure Fns where
  framesOk : List (List L) → List (List L) → Bool
  tableOk : List (List L) → Int → Bool
  pagesOn : List (List L) → Int → List (List L)
def F0 : Fns := ⟨framesOk, tableOk, pagesOn⟩
def ct (F : Fns) : CT := fun f ds => match f with
  | 182 => match ds with
    | [.agg [.s 1 cs, .s 1 us]] => some (fun _ => Rw [.sl [tI]] cs ∧ Rw [tB] us, [.one (.v (.bool (F.framesOk cs us)))])
    | _ => none
  | 183 => match ds with
    | [.agg [.s 2 es], .one (.v (.int .i64 n))] => some (fun _ => Rw [tI, tI] es, [.one (.v (.bool (F.tableOk es n)))])
    | _ => none
  | 55 => match ds with
    | [.agg [.s 2 es], .one (.v (.int .i64 f))] => some (fun _ => Rw [tI, tI] es ∧ es.length ≤ 1099511627776, [.one (.s 1 (F.pagesOn es f))])
    | _ => none
  | _ => none
theorem ct_ok : CTok Tryz.prog (ct F0) := by
  intro f ds pre res h hp
  unfold ct at h
  split at h
  · split at h
    · cases h; exact c_impl_FramesOk _ _ hp
    · cases h
  · split at h
    · cases h; exact c_impl_TableOk _ _ hp
    · cases h
  · split at h
    · cases h; exact c_impl_PagesOn _ _ hp
    · cases h
  · cases h
def mt : Fns → MT := noMT
theorem mt_ok : MTok Tryz.prog (mt F0) := noMT_ok
def pt : Fns → PT := noPT
theorem pt_ok : PTok Tryz.prog (pt F0) := noPT_ok
end KD4
theorem c_impl_MachineOk (cs us es : List (List L)) (hp : Rw [.sl [tI]] cs ∧ Rw [tB] us ∧ Rw [tI, tI] es) : Ctr Tryz.prog 163 [.agg [.s 1 cs, .s 1 us, .s 2 es]] [.one (.v (.bool (machOk cs us es)))] := by
  obtain ⟨hc, hu, ht⟩ := hp
  have hm := hu.1; unfold maxLen at hm
  refine ctr_of (ctF := KD4.ct) (mtF := KD4.mt) (ptF := KD4.pt) (F0 := KD4.F0) tabOk KD4.ct_ok KD4.mt_ok KD4.pt_ok mixed 37 _ [4] [.tmp 2] Tryz.func163 rfl rfl rfl rfl rfl ?_
  intro O r F hO hr hF
  cbv
  repeat' first | refine And.intro ?_ ?_ | (refine caseB_intro (fun hb => ?_) (fun hb => ?_) <;> cbv) | (refine ⟨[1, 21, 22, 23], [1], Int, fun i => [.reg 23 (.one (.v (.int .i64 i)))], fun i => 0 ≤ i ∧ i ≤ ((us.length : Nat) : Int) ∧ upto (machIn us es) i, fun i => (us.length) - i.toNat, ⟨0, ?_, ?_⟩, ?_⟩; rotate_left; (focus (cbv; done)); intro i hi; replace hi : 0 ≤ i ∧ i ≤ ((us.length : Nat) : Int) ∧ upto (machIn us es) i := hi; obtain ⟨i0, i1, i2⟩ := hi; cbv) | (refine loop_step (O.ar .add .i64 i 1) ?_ ?_ ?_; rotate_left 2; focus (cbv; done))
  all_goals ((try subst hos); subst hO hr hF; (try simp only [stdO, SS, sub_all, ad_zero] at *); (try simp only [ncast] at *); (try simp only [Int.ofNat_eq_natCast] at *))
  all_goals (try simp only [KD4.F0, len_pos] at *)
  all_goals try rw [up64 (by omega) (by omega)]
  all_goals try (have hfl := fr_len (cs := cs) (us := us) (by assumption))
  all_goals try (have htl := tb_len (es := es) (n := (us.length : Int)) (by assumption))
  all_goals try (have htl := tb_len (es := es) (n := (cs.length : Int)) (by assumption))
  all_goals first
    | omega
    | (refine ⟨by omega, by omega, Eq.trans (Rw.eta (fs := _) (by (first | assumption | exact Rw.sub (by first | assumption | exact Rw.sub (by assumption) (by omega) rfl) (by omega) rfl)) (by omega) (by omega)) ?_⟩; rfl)
    | (show okOrder _ _ = true; kernel_rfl)
    | exact upto_z
    | contradiction
    | exact ⟨hc, hu⟩
    | exact ht
    | exact ⟨ht, by omega⟩
    | exact db_eq (mc_no (.inl (by assumption))).symm
    | exact db_eq (mc_no (.inr (by assumption))).symm
    | exact db_eq (mc_no2 (by assumption) (by assumption)).symm
    | exact db_eq (mc_no3 i0 (by omega) (by assumption)).symm
    | exact upto_s i2 (mc_in (by assumption))
    | exact db_eq (mc_yes (by assumption) (by assumption) i2 (by omega)).symm
    | (refine db_eq (mc_yes (by assumption) ?_ i2 (by omega)).symm; rw [hfl.1]; assumption)
    | trivial
    | exact rfl
    | trace_state
namespace KD5
structure Fns where
  framesOk : List (List L) → List (List L) → Bool
  tableOk : List (List L) → Int → Bool
  pagesOn : List (List L) → Int → List (List L)
def F0 : Fns := ⟨framesOk, tableOk, pagesOn⟩
def ct (F : Fns) : CT := fun f ds => match f with
  | 180 => match ds with
    | [.agg [.s 1 cs, .s 1 us]] => some (fun _ => Rw [.sl [tI]] cs ∧ Rw [tB] us, [.one (.v (.bool (F.framesOk cs us)))])
    | _ => none
  | 181 => match ds with
    | [.agg [.s 2 es], .one (.v (.int .i64 n))] => some (fun _ => Rw [tI, tI] es, [.one (.v (.bool (F.tableOk es n)))])
    | _ => none
  | 44 => match ds with
    | [.agg [.s 2 es], .one (.v (.int .i64 f))] => some (fun _ => Rw [tI, tI] es ∧ es.length ≤ 1099511627776, [.one (.s 1 (F.pagesOn es f))])
    | _ => none
  | _ => none
theorem ct_ok : CTok Tryz.prog (ct F0) := by
  intro f ds pre res h hp
  unfold ct at h
  split at h
  · split at h
    · cases h; exact c_spec_FramesOk _ _ hp
    · cases h
  · split at h
    · cases h; exact c_spec_TableOk _ _ hp
    · cases h
  · split at h
    · cases h; exact c_spec_PagesOn _ _ hp
    · cases h
  · cases h
def mt : Fns → MT := noMT
theorem mt_ok : MTok Tryz.prog (mt F0) := noMT_ok
def pt : Fns → PT := noPT
theorem pt_ok : PTok Tryz.prog (pt F0) := noPT_ok
end KD5
theorem c_spec_MachineOk (cs us es : List (List L)) (hp : Rw [.sl [tI]] cs ∧ Rw [tB] us ∧ Rw [tI, tI] es) : Ctr Tryz.prog 160 [.agg [.s 1 cs, .s 1 us, .s 2 es]] [.one (.v (.bool (machOk cs us es)))] := by
  obtain ⟨hc, hu, ht⟩ := hp
  have hm := hu.1; unfold maxLen at hm
  refine ctr_of (ctF := KD5.ct) (mtF := KD5.mt) (ptF := KD5.pt) (F0 := KD5.F0) tabOk KD5.ct_ok KD5.mt_ok KD5.pt_ok mixed 39 _ [4] [.tmp 2] Tryz.func160 rfl rfl rfl rfl rfl ?_
  intro O r F hO hr hF
  cbv
  repeat' first | refine And.intro ?_ ?_ | (refine caseB_intro (fun hb => ?_) (fun hb => ?_) <;> cbv) | (refine ⟨[1, 3], [1], Int, fun i => [.reg 3 (.one (.v (.int .i64 i)))], fun i => 0 ≤ i ∧ i ≤ ((us.length : Nat) : Int) ∧ upto (machIn us es) i, fun i => (us.length) - i.toNat, ⟨0, ?_, ?_⟩, ?_⟩; rotate_left; (focus (cbv; done)); intro i hi; replace hi : 0 ≤ i ∧ i ≤ ((us.length : Nat) : Int) ∧ upto (machIn us es) i := hi; obtain ⟨i0, i1, i2⟩ := hi; cbv) | (refine loop_step (O.ar .add .i64 i 1) ?_ ?_ ?_; rotate_left 2; focus (cbv; done))
  all_goals ((try subst hos); subst hO hr hF; (try simp only [stdO, SS, sub_all, ad_zero] at *); (try simp only [ncast] at *); (try simp only [Int.ofNat_eq_natCast] at *))
  all_goals (try simp only [KD5.F0, len_pos] at *)
  all_goals try rw [up64 (by omega) (by omega)]
  all_goals try (have hfl := fr_len (cs := cs) (us := us) (by assumption))
  all_goals try (have htl := tb_len (es := es) (n := (us.length : Int)) (by assumption))
  all_goals try (have htl := tb_len (es := es) (n := (cs.length : Int)) (by assumption))
  all_goals first
    | omega
    | (refine ⟨by omega, by omega, Eq.trans (Rw.eta (fs := _) (by (first | assumption | exact Rw.sub (by first | assumption | exact Rw.sub (by assumption) (by omega) rfl) (by omega) rfl)) (by omega) (by omega)) ?_⟩; rfl)
    | (show okOrder _ _ = true; kernel_rfl)
    | exact upto_z
    | contradiction
    | exact ⟨hc, hu⟩
    | exact ht
    | exact ⟨ht, by omega⟩
    | exact db_eq (mc_no (.inl (by assumption))).symm
    | exact db_eq (mc_no (.inr (by assumption))).symm
    | exact db_eq (mc_no2 (by assumption) (by assumption)).symm
    | exact db_eq (mc_no3 i0 (by omega) (by assumption)).symm
    | exact upto_s i2 (mc_in (by assumption))
    | exact db_eq (mc_yes (by assumption) (by assumption) i2 (by omega)).symm
    | (refine db_eq (mc_yes (by assumption) ?_ i2 (by omega)).symm; rw [hfl.1]; assumption)
    | trivial
    | exact rfl
    | trace_state

end Go.V
