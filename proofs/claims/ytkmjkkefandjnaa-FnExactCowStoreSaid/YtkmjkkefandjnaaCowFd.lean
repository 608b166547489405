/-
  Contracts of functions, by evaluation of conditions on their code.
-/
import Derived.Test.YtkmjkkefandjnaaS4
import Derived.Test.YtkmjkkefandjnaaH5
import Derived.Test.YtkmjkkefandjnaaCowDd

set_option linter.all false
namespace Go.V
open Go Go.Proofs
set_option maxRecDepth 1000000
set_option maxHeartbeats 8000000
namespace F1
structure Fns where
  no : Unit
def F0 : Fns := ⟨()⟩
def ct (F : Fns) : CT := fun f ds => match f, ds with
  | 49, [.agg [.s 1 cs, .s 1 us]] => some (fun _ => Rw [.sl [tI]] cs ∧ Rw [tB] us ∧ cntE cs ≤ 1099511627776 ∧ cntE us ≤ 1099511627776, [.agg [.s 1 cs, .s 1 us]])
  | 50, [.agg [.s 2 es]] => some (fun _ => Rw [tI, tI] es ∧ es.length ≤ 1099511627776, [.agg [.s 2 es]])
  | 78, [.agg [.s 1 cs, .s 1 us]] => some (fun _ => Rw [.sl [tI]] cs ∧ Rw [tB] us ∧ cntE cs ≤ 1099511627776 ∧ cntE us ≤ 1099511627776, [.agg [.s 1 cs, .s 1 us]])
  | 79, [.agg [.s 2 es]] => some (fun _ => Rw [tI, tI] es ∧ es.length ≤ 1099511627776, [.agg [.s 2 es]])
  | _, _ => none
theorem ct_ok : CTok Try.prog (ct F0) := by
  intro f ds pre res h hp
  unfold ct at h
  split at h
  · cases h; exact c_impl_copyFrames _ _ hp
  · cases h; exact c_impl_copyTable _ hp
  · cases h; exact c_spec_l05Copy _ _ hp
  · cases h; exact c_spec_l06Copy _ hp
  · cases h
def mt : Fns → MT := noMT
theorem mt_ok : MTok Try.prog (mt F0) := noMT_ok
def pt : Fns → PT := noPT
theorem pt_ok : PTok Try.prog (pt F0) := noPT_ok
end F1
theorem c_impl_copyMachine (cs us es : List (List L)) (hp : Rw [.sl [tI]] cs ∧ Rw [tB] us ∧ Rw [tI, tI] es ∧ cntE cs ≤ 1099511627776 ∧ cntE us ≤ 1099511627776 ∧ cntE es ≤ 1099511627776) : Ctr Try.prog 89 [.agg [.s 1 cs, .s 1 us, .s 2 es]] [.agg [.s 1 cs, .s 1 us, .s 2 es]] := by
  obtain ⟨hc, hu, he, hn, hm, hk⟩ := hp
  have hl := len_cnt (es := es)
  refine ctr_of (ctF := F1.ct) (mtF := F1.mt) (ptF := F1.pt) (F0 := F1.F0) tabOk F1.ct_ok F1.mt_ok F1.pt_ok mixed 10 _ [32] [.cell 2 32] Try.func89 rfl rfl rfl rfl rfl ?_
  intro O r F hO hr hF
  cbv
  repeat' first | refine And.intro ?_ ?_ | (refine caseB_intro (fun hb => ?_) (fun hb => ?_) <;> cbv)
  all_goals ((try subst hos); subst hO hr hF; (try simp only [stdO, SS, sub_all, ad_zero] at *); (try simp only [ncast] at *); (try simp only [Int.ofNat_eq_natCast] at *))
  all_goals first
    | (show okOrder _ _ = true; kernel_rfl)
    | exact ⟨hc, hu, hn, hm⟩
    | exact ⟨he, by omega⟩
    | exact ⟨trivial, trivial⟩
    | trivial
    | exact rfl
    | trace_state
theorem c_spec_l07Copy (cs us es : List (List L)) (hp : Rw [.sl [tI]] cs ∧ Rw [tB] us ∧ Rw [tI, tI] es ∧ cntE cs ≤ 1099511627776 ∧ cntE us ≤ 1099511627776 ∧ cntE es ≤ 1099511627776) : Ctr Try.prog 61 [.agg [.s 1 cs, .s 1 us, .s 2 es]] [.agg [.s 1 cs, .s 1 us, .s 2 es]] := by
  obtain ⟨hc, hu, he, hn, hm, hk⟩ := hp
  have hl := len_cnt (es := es)
  refine ctr_of (ctF := F1.ct) (mtF := F1.mt) (ptF := F1.pt) (F0 := F1.F0) tabOk F1.ct_ok F1.mt_ok F1.pt_ok mixed 10 _ [32] [.cell 2 32] Try.func61 rfl rfl rfl rfl rfl ?_
  intro O r F hO hr hF
  cbv
  repeat' first | refine And.intro ?_ ?_ | (refine caseB_intro (fun hb => ?_) (fun hb => ?_) <;> cbv)
  all_goals ((try subst hos); subst hO hr hF; (try simp only [stdO, SS, sub_all, ad_zero] at *); (try simp only [ncast] at *); (try simp only [Int.ofNat_eq_natCast] at *))
  all_goals first
    | (show okOrder _ _ = true; kernel_rfl)
    | exact ⟨hc, hu, hn, hm⟩
    | exact ⟨he, by omega⟩
    | exact ⟨trivial, trivial⟩
    | trivial
    | exact rfl
    | trace_state
namespace F2
structure Fns where
  machOk : List (List L) → List (List L) → List (List L) → Bool
  peM : List (List L) → Int → Int
  peF : List (List L) → Int → Int
def F0 : Fns := ⟨machOk, peM, peF⟩
def ct (F : Fns) : CT := fun f ds => match f, ds with
  | 48, [.agg [.s 1 cs, .s 1 us, .s 2 es]] => some (fun _ => Rw [.sl [tI]] cs ∧ Rw [tB] us ∧ Rw [tI, tI] es, [.one (.v (.bool (F.machOk cs us es)))])
  | 99, [.agg [.s 2 es], .one (.v (.int .i64 p))] => some (fun _ => Rw [tI, tI] es, [.agg [.v (.int .i64 (F.peM es p)), .v (.int .i64 (F.peF es p))]])
  | _, _ => none
theorem ct_ok : CTok Try.prog (ct F0) := by
  intro f ds pre res h hp
  unfold ct at h
  split at h
  · cases h; exact c_impl_MachineOk _ _ _ hp
  · cases h; exact c_impl_PageEntry _ _ hp
  · cases h
def mt : Fns → MT := noMT
theorem mt_ok : MTok Try.prog (mt F0) := noMT_ok
def pt : Fns → PT := noPT
theorem pt_ok : PTok Try.prog (pt F0) := noPT_ok
end F2
theorem c_impl_entryAt (cs us es : List (List L)) (a : Int) (hp : Rw [.sl [tI]] cs ∧ Rw [tB] us ∧ Rw [tI, tI] es ∧ (-9223372036854775808 ≤ a ∧ a ≤ 9223372036854775807)) : Ctr Try.prog 120 [.agg [.s 1 cs, .s 1 us, .s 2 es], .one (.v (.int .i64 a))] [.agg [.v (.int .i64 (smM cs us es a)), .v (.int .i64 (smF cs us es a))]] := by
  obtain ⟨hc, hu, he, ha⟩ := hp
  have hq : ¬ a < 0 → arI .quo .i64 a 16 = a / 16 := fun h => quo64 (by omega) (by omega) (by omega)
  refine ctr_of (ctF := F2.ct) (mtF := F2.mt) (ptF := F2.pt) (F0 := F2.F0) tabOk F2.ct_ok F2.mt_ok F2.pt_ok mixed 18 _ [90] [.cell 4 90] Try.func120 rfl rfl rfl rfl rfl ?_
  intro O r F hO hr hF
  cbv
  repeat' first | refine And.intro ?_ ?_ | (refine caseB_intro (fun hb => ?_) (fun hb => ?_) <;> cbv)
  all_goals ((try subst hos); subst hO hr hF; (try simp only [stdO, SS, sub_all, ad_zero] at *); (try simp only [ncast] at *); (try simp only [Int.ofNat_eq_natCast] at *))
  all_goals (try simp only [F2.F0] at *)
  all_goals first
    | (show okOrder _ _ = true; kernel_rfl)
    | exact ⟨hc, hu, he⟩
    | exact he
    | exact ag_eq (sm_no (.inr (by omega))).1.symm (sm_no (.inr (by omega))).2.symm
    | exact ag_eq (sm_no (.inl (by assumption))).1.symm (sm_no (.inl (by assumption))).2.symm
    | (rw [hq (by omega)]; have hi : machOk cs us es = true := (by assumption); exact ag_eq ((sm_yes hi).1.trans (le_pos (by omega)).1).symm ((sm_yes hi).2.trans (le_pos (by omega)).2.1).symm)
    | trivial
    | omega
    | trace_state
namespace F3
structure Fns where
  smM : List (List L) → List (List L) → List (List L) → Int → Int
  smF : List (List L) → List (List L) → List (List L) → Int → Int
  inR : Int → Int → Int → Bool
  leM : List (List L) → Int → Int
  leF : List (List L) → Int → Int
  leK : Int → Int
  machOk : List (List L) → List (List L) → List (List L) → Bool
def F0 : Fns := ⟨smM, smF, inR, leM, leF, leK, machOk⟩
def ct (F : Fns) : CT := fun f ds => match f, ds with
  | 89, [.agg [.s 1 cs, .s 1 us, .s 2 es]] => some (fun _ => Rw [.sl [tI]] cs ∧ Rw [tB] us ∧ Rw [tI, tI] es ∧ cntE cs ≤ 1099511627776 ∧ cntE us ≤ 1099511627776 ∧ cntE es ≤ 1099511627776, [.agg [.s 1 cs, .s 1 us, .s 2 es]])
  | 120, [.agg [.s 1 cs, .s 1 us, .s 2 es], .one (.v (.int .i64 a))] => some (fun _ => Rw [.sl [tI]] cs ∧ Rw [tB] us ∧ Rw [tI, tI] es ∧ (-9223372036854775808 ≤ a ∧ a ≤ 9223372036854775807), [.agg [.v (.int .i64 (F.smM cs us es a)), .v (.int .i64 (F.smF cs us es a))]])
  | 51, [.one (.v (.int .i64 x)), .one (.v (.int .i64 a)), .one (.v (.int .i64 b))] => some (fun _ => True, [.one (.v (.bool (F.inR x a b)))])
  | 61, [.agg [.s 1 cs, .s 1 us, .s 2 es]] => some (fun _ => Rw [.sl [tI]] cs ∧ Rw [tB] us ∧ Rw [tI, tI] es ∧ cntE cs ≤ 1099511627776 ∧ cntE us ≤ 1099511627776 ∧ cntE es ≤ 1099511627776, [.agg [.s 1 cs, .s 1 us, .s 2 es]])
  | 62, [.agg [.s 1 b0, .s 1 b1, .s 2 es], .one (.v (.int .i64 a))] => some (fun _ => Rw [tI, tI] es ∧ (-9223372036854775808 ≤ a ∧ a ≤ 9223372036854775807), [.agg [.v (.int .i64 (F.leM es a)), .v (.int .i64 (F.leF es a))], .one (.v (.int .i64 (F.leK a)))])
  | 33, [.agg [.s 1 cs, .s 1 us, .s 2 es]] => some (fun _ => Rw [.sl [tI]] cs ∧ Rw [tB] us ∧ Rw [tI, tI] es, [.one (.v (.bool (F.machOk cs us es)))])
  | 63, [.one (.v (.int .i64 x)), .one (.v (.int .i64 a)), .one (.v (.int .i64 b))] => some (fun _ => True, [.one (.v (.bool (F.inR x a b)))])
  | _, _ => none
theorem ct_ok : CTok Try.prog (ct F0) := by
  intro f ds pre res h hp
  unfold ct at h
  split at h
  · cases h; exact c_impl_copyMachine _ _ _ hp
  · cases h; exact c_impl_entryAt _ _ _ _ hp
  · cases h; exact c_impl_between _ _ _ hp
  · cases h; exact c_spec_l07Copy _ _ _ hp
  · cases h; exact c_spec_l07Entry _ _ _ _ hp
  · cases h; exact c_spec_MachineOk _ _ _ hp
  · cases h; exact c_spec_l01In _ _ _ hp
  · cases h
def mt : Fns → MT := noMT
theorem mt_ok : MTok Try.prog (mt F0) := noMT_ok
def pt : Fns → PT := noPT
theorem pt_ok : PTok Try.prog (pt F0) := noPT_ok
end F3
theorem c_impl_Store (cs us es : List (List L)) (a v : Int) (hp : Rw [.sl [tI]] cs ∧ Rw [tB] us ∧ Rw [tI, tI] es ∧ cntE cs ≤ 1099511627776 ∧ cntE us ≤ 1099511627776 ∧ cntE es ≤ 1099511627776 ∧ (-9223372036854775808 ≤ a ∧ a ≤ 9223372036854775807)) : Ctr Try.prog 91 [.agg [.s 1 cs, .s 1 us, .s 2 es], .one (.v (.int .i64 a)), .one (.v (.int .i64 v))] [.agg [.s 1 (stC cs us es a v), .s 1 us, .s 2 es], .one (.v (.int .i64 (stK cs us es a v)))] := by
  obtain ⟨hc, hu, he, hn, hm, hk, ha⟩ := hp
  refine ctr_of (ctF := F3.ct) (mtF := F3.mt) (ptF := F3.pt) (F0 := F3.F0) tabOk F3.ct_ok F3.mt_ok F3.pt_ok mixed 42 _ [32, 3] [.cell 6 32, .tmp 7] Try.func91 rfl rfl rfl rfl rfl ?_
  intro O r F hO hr hF
  cbv
  repeat' first | refine And.intro ?_ ?_ | (refine caseB_intro (fun hb => ?_) (fun hb => ?_) <;> cbv)
  all_goals ((try subst hos); subst hO hr hF; (try simp only [stdO, SS, sub_all, ad_zero] at *); (try simp only [ncast] at *); (try simp only [Int.ofNat_eq_natCast] at *))
  all_goals (try simp only [F3.F0, ps_row] at *)
  all_goals try (have hs := sm_fr (cs := cs) (us := us) (es := es) (a := a) (by assumption); have ha0 := (sm_ok (cs := cs) (us := us) (es := es) (a := a) (by assumption)).2)
  all_goals try simp only [rem64 (n := 16) ha0] at *
  all_goals first
    | (show okOrder _ _ = true; kernel_rfl)
    | exact ⟨hc, hu, he, hn, hm, hk⟩
    | exact ⟨hc, hu, he, ha⟩
    | exact st_eq (st_1 (by assumption)).2.symm rfl rfl (st_1 (by assumption)).1.symm
    | exact st_eq (st_2 (by assumption)).2.symm rfl rfl (st_2 (by assumption)).1.symm
    | exact st_eq (st_3 (by assumption) (by assumption) (by assumption)).2.symm rfl rfl (st_3 (by assumption) (by assumption) (by assumption)).1.symm
    | exact st_eq ((up_2 hc hs.1 hs.2.1 (by omega) (by omega)).trans (st_0 (by assumption) (by assumption) (by assumption)).2.symm) rfl rfl (st_0 (by assumption) (by assumption) (by assumption)).1.symm
    | exact get_2 hc hs.1 hs.2.1 (by omega) (by omega)
    | exact get_row hc hs.1 hs.2.1
    | exact ⟨by omega, by omega, gets_row hc hs.1 hs.2.1⟩
    | exact ⟨trivial, trivial⟩
    | trivial
    | omega
    | trace_state
theorem c_spec_Store (cs us es : List (List L)) (a v : Int) (hp : Rw [.sl [tI]] cs ∧ Rw [tB] us ∧ Rw [tI, tI] es ∧ cntE cs ≤ 1099511627776 ∧ cntE us ≤ 1099511627776 ∧ cntE es ≤ 1099511627776 ∧ (-9223372036854775808 ≤ a ∧ a ≤ 9223372036854775807)) : Ctr Try.prog 20 [.agg [.s 1 cs, .s 1 us, .s 2 es], .one (.v (.int .i64 a)), .one (.v (.int .i64 v))] [.agg [.s 1 (stC cs us es a v), .s 1 us, .s 2 es], .one (.v (.int .i64 (stK cs us es a v)))] := by
  obtain ⟨hc, hu, he, hn, hm, hk, ha⟩ := hp
  refine ctr_of (ctF := F3.ct) (mtF := F3.mt) (ptF := F3.pt) (F0 := F3.F0) tabOk F3.ct_ok F3.mt_ok F3.pt_ok mixed 47 _ [32, 3] [.cell 6 32, .tmp 7] Try.func20 rfl rfl rfl rfl rfl ?_
  intro O r F hO hr hF
  cbv
  repeat' first | refine And.intro ?_ ?_ | (refine caseB_intro (fun hb => ?_) (fun hb => ?_) <;> cbv)
  all_goals ((try subst hos); subst hO hr hF; (try simp only [stdO, SS, sub_all, ad_zero] at *); (try simp only [ncast] at *); (try simp only [Int.ofNat_eq_natCast] at *))
  all_goals (try simp only [F3.F0, ps_row] at *)
  all_goals try (have hi : machOk cs us es = true := (by assumption); simp only [← (sm_yes (a := a) hi).1, ← (sm_yes (a := a) hi).2] at *)
  all_goals try (have hk0 : leK a = a % 16 := (le_pos (es := []) (by have := (sm_ok (cs := cs) (us := us) (es := es) (a := a) (by assumption)).2; omega)).2.2; simp only [hk0] at *)
  all_goals try (have hs := sm_fr (cs := cs) (us := us) (es := es) (a := a) (by assumption); have ha0 := (sm_ok (cs := cs) (us := us) (es := es) (a := a) (by assumption)).2)
  all_goals try simp only [rem64 (n := 16) ha0] at *
  all_goals first
    | (show okOrder _ _ = true; kernel_rfl)
    | exact ⟨hc, hu, he, hn, hm, hk⟩
    | exact ⟨hc, hu, he, ha⟩
    | exact ⟨he, ha⟩
    | exact ⟨hc, hu, he⟩
    | exact st_eq (st_1 (sm_no (.inl (by assumption))).1).2.symm rfl rfl (st_1 (sm_no (.inl (by assumption))).1).1.symm
    | exact st_eq (st_1 (by assumption)).2.symm rfl rfl (st_1 (by assumption)).1.symm
    | exact st_eq (st_2 (by assumption)).2.symm rfl rfl (st_2 (by assumption)).1.symm
    | exact st_eq (st_3 (by assumption) (by assumption) (by assumption)).2.symm rfl rfl (st_3 (by assumption) (by assumption) (by assumption)).1.symm
    | exact st_eq ((up_2 hc hs.1 hs.2.1 (by omega) (by omega)).trans (st_0 (by assumption) (by assumption) (by assumption)).2.symm) rfl rfl (st_0 (by assumption) (by assumption) (by assumption)).1.symm
    | exact get_2 hc hs.1 hs.2.1 (by omega) (by omega)
    | exact get_row hc hs.1 hs.2.1
    | exact ⟨by omega, by omega, gets_row hc hs.1 hs.2.1⟩
    | exact ⟨trivial, trivial⟩
    | trivial
    | omega
    | trace_state
namespace F4
structure Fns where
  inR : Int → Int → Int → Bool
def F0 : Fns := ⟨inR⟩
def ct (F : Fns) : CT := fun f ds => match f, ds with
  | 51, [.one (.v (.int .i64 x)), .one (.v (.int .i64 a)), .one (.v (.int .i64 b))] => some (fun _ => True, [.one (.v (.bool (F.inR x a b)))])
  | 63, [.one (.v (.int .i64 x)), .one (.v (.int .i64 a)), .one (.v (.int .i64 b))] => some (fun _ => True, [.one (.v (.bool (F.inR x a b)))])
  | _, _ => none
theorem ct_ok : CTok Try.prog (ct F0) := by
  intro f ds pre res h hp
  unfold ct at h
  split at h
  · cases h; exact c_impl_between _ _ _ hp
  · cases h; exact c_spec_l01In _ _ _ hp
  · cases h
def mt : Fns → MT := noMT
theorem mt_ok : MTok Try.prog (mt F0) := noMT_ok
def pt : Fns → PT := noPT
theorem pt_ok : PTok Try.prog (pt F0) := noPT_ok
end F4
theorem c_impl_classOk (k : Int) (hp : True) : Ctr Try.prog 131 [.one (.v (.int .i64 k))] [.one (.v (.bool (inR k 0 3)))] := by
  refine ctr_of (ctF := F4.ct) (mtF := F4.mt) (ptF := F4.pt) (F0 := F4.F0) tabOk F4.ct_ok F4.mt_ok F4.pt_ok mixed 5 _ [4] [.tmp 2] Try.func131 rfl rfl rfl rfl rfl ?_
  intro O r F hO hr hF
  cbv
  repeat' first | refine And.intro ?_ ?_ | (refine caseB_intro (fun hb => ?_) (fun hb => ?_) <;> cbv)
  all_goals ((try subst hos); subst hO hr hF; (try simp only [stdO, SS, sub_all, ad_zero] at *); (try simp only [ncast] at *); (try simp only [Int.ofNat_eq_natCast] at *))
  all_goals first
    | trivial
    | exact rfl
    | trace_state
namespace F5
structure Fns where
  inR : Int → Int → Int → Bool
def F0 : Fns := ⟨inR⟩
def ct (F : Fns) : CT := fun f ds => match f, ds with
  | 131, [.one (.v (.int .i64 k))] => some (fun _ => True, [.one (.v (.bool (F.inR k 0 3)))])
  | 63, [.one (.v (.int .i64 x)), .one (.v (.int .i64 a)), .one (.v (.int .i64 b))] => some (fun _ => True, [.one (.v (.bool (F.inR x a b)))])
  | _, _ => none
theorem ct_ok : CTok Try.prog (ct F0) := by
  intro f ds pre res h hp
  unfold ct at h
  split at h
  · cases h; exact c_impl_classOk _ hp
  · cases h; exact c_spec_l01In _ _ _ hp
  · cases h
def mt : Fns → MT := noMT
theorem mt_ok : MTok Try.prog (mt F0) := noMT_ok
def pt : Fns → PT := noPT
theorem pt_ok : PTok Try.prog (pt F0) := noPT_ok
end F5
theorem c_impl_ClassSize (k : Int) (hp : True) : Ctr Try.prog 119 [.one (.v (.int .i64 k))] [.one (.v (.int .i64 (clsSz k)))] := by
  refine ctr_of (ctF := F5.ct) (mtF := F5.mt) (ptF := F5.pt) (F0 := F5.F0) tabOk F5.ct_ok F5.mt_ok F5.pt_ok mixed 8 _ [3] [.tmp 2] Try.func119 rfl rfl rfl rfl rfl ?_
  intro O r F hO hr hF
  cbv
  repeat' first | refine And.intro ?_ ?_ | (refine caseB_intro (fun hb => ?_) (fun hb => ?_) <;> cbv)
  all_goals ((try subst hos); subst hO hr hF; (try simp only [stdO, SS, sub_all, ad_zero] at *); (try simp only [ncast] at *); (try simp only [Int.ofNat_eq_natCast] at *))
  all_goals (try simp only [F5.F0] at *)
  all_goals first
    | trivial
    | exact di_eq (cs_no (by assumption)).symm
    | (refine di_eq ?_; rw [cs_sh (by assumption)])
    | (rw [inR_t] at *; omega)
    | trace_state
theorem c_spec_ClassSize (k : Int) (hp : True) : Ctr Try.prog 117 [.one (.v (.int .i64 k))] [.one (.v (.int .i64 (clsSz k)))] := by
  refine ctr_of (ctF := F5.ct) (mtF := F5.mt) (ptF := F5.pt) (F0 := F5.F0) tabOk F5.ct_ok F5.mt_ok F5.pt_ok mixed 9 _ [3] [.tmp 2] Try.func117 rfl rfl rfl rfl rfl ?_
  intro O r F hO hr hF
  cbv
  repeat' first | refine And.intro ?_ ?_ | (refine caseB_intro (fun hb => ?_) (fun hb => ?_) <;> cbv)
  all_goals ((try subst hos); subst hO hr hF; (try simp only [stdO, SS, sub_all, ad_zero] at *); (try simp only [ncast] at *); (try simp only [Int.ofNat_eq_natCast] at *))
  all_goals (try simp only [F5.F0] at *)
  all_goals (try rw [cs_wr (by assumption)] at *)
  all_goals first
    | trivial
    | exact di_eq (cs_no (by assumption)).symm
    | (refine di_eq ?_; rw [cs_sh (by assumption)])
    | (rw [inR_t] at *; omega)
    | trace_state
namespace F6
structure Fns where
  inR : Int → Int → Int → Bool
  clsSz : Int → Int
def F0 : Fns := ⟨inR, clsSz⟩
def ct (F : Fns) : CT := fun f ds => match f, ds with
  | 51, [.one (.v (.int .i64 x)), .one (.v (.int .i64 a)), .one (.v (.int .i64 b))] => some (fun _ => True, [.one (.v (.bool (F.inR x a b)))])
  | 63, [.one (.v (.int .i64 x)), .one (.v (.int .i64 a)), .one (.v (.int .i64 b))] => some (fun _ => True, [.one (.v (.bool (F.inR x a b)))])
  | 119, [.one (.v (.int .i64 k))] => some (fun _ => True, [.one (.v (.int .i64 (F.clsSz k)))])
  | _, _ => none
theorem ct_ok : CTok Try.prog (ct F0) := by
  intro f ds pre res h hp
  unfold ct at h
  split at h
  · cases h; exact c_impl_between _ _ _ hp
  · cases h; exact c_spec_l01In _ _ _ hp
  · cases h; exact c_impl_ClassSize _ hp
  · cases h
def mt : Fns → MT := noMT
theorem mt_ok : MTok Try.prog (mt F0) := noMT_ok
def pt : Fns → PT := noPT
theorem pt_ok : PTok Try.prog (pt F0) := noPT_ok
end F6
theorem c_impl_ClassOf (s : Int) (hp : True) : Ctr Try.prog 118 [.one (.v (.int .i64 s))] [.one (.v (.int .i64 (clsOf s)))] := by
  refine ctr_of (ctF := F6.ct) (mtF := F6.mt) (ptF := F6.pt) (F0 := F6.F0) tabOk F6.ct_ok F6.mt_ok F6.pt_ok mixed 14 _ [3] [.tmp 2] Try.func118 rfl rfl rfl rfl rfl ?_
  intro O r F hO hr hF
  cbv
  repeat' first | refine And.intro ?_ ?_ | (refine caseB_intro (fun hb => ?_) (fun hb => ?_) <;> cbv) | (refine ⟨[0, 3], [], Int, fun k => [.reg 3 (.one (.v (.int .i64 k)))], fun k => 0 ≤ k ∧ k ≤ 3 ∧ (k = 0 ∨ clsSz (k - 1) < s), fun k => (3 - k).toNat, ⟨0, ?_, ?_⟩, ?_⟩; rotate_left; (focus (cbv; done)); intro k hk; replace hk : 0 ≤ k ∧ k ≤ 3 ∧ (k = 0 ∨ clsSz (k - 1) < s) := hk; obtain ⟨k0, k1, k2⟩ := hk; cbv) | (refine loop_step (O.ar .add .i64 k 1) ?_ ?_ ?_; rotate_left 2; focus (cbv; done))
  all_goals ((try subst hos); subst hO hr hF; (try simp only [stdO, SS, sub_all, ad_zero] at *); (try simp only [ncast] at *); (try simp only [Int.ofNat_eq_natCast] at *))
  all_goals (try simp only [F6.F0] at *)
  all_goals (try simp only [inR_t, inR_f] at *)
  all_goals (try rw [up64 (by omega) (by omega)])
  all_goals first
    | trivial
    | omega
    | exact cs_up (by omega) (by assumption) (by omega)
    | (have := cs_up (k := k) (s := s) (by omega) (by assumption) (by omega); omega)
    | exact di_eq (cl_no (by omega)).symm
    | exact di_eq (cl_yes (by omega) (by assumption) (by omega) (by assumption)).symm
    | exact .inl trivial
    | exact .inl rfl
    | (rw [show k + 1 - 1 = k by omega]; exact .inr (by assumption))
    | trace_state
theorem c_spec_ClassOf (s : Int) (hp : True) : Ctr Try.prog 116 [.one (.v (.int .i64 s))] [.one (.v (.int .i64 (clsOf s)))] := by
  refine ctr_of (ctF := F6.ct) (mtF := F6.mt) (ptF := F6.pt) (F0 := F6.F0) tabOk F6.ct_ok F6.mt_ok F6.pt_ok mixed 15 _ [3] [.tmp 2] Try.func116 rfl rfl rfl rfl rfl ?_
  intro O r F hO hr hF
  cbv
  repeat' first | refine And.intro ?_ ?_ | (refine caseB_intro (fun hb => ?_) (fun hb => ?_) <;> cbv) | (refine ⟨[0, 3], [], Int, fun k => [.reg 3 (.one (.v (.int .i64 k)))], fun k => 0 ≤ k ∧ k ≤ 3 ∧ (k = 0 ∨ clsSz (k - 1) < s), fun k => (3 - k).toNat, ⟨0, ?_, ?_⟩, ?_⟩; rotate_left; (focus (cbv; done)); intro k hk; replace hk : 0 ≤ k ∧ k ≤ 3 ∧ (k = 0 ∨ clsSz (k - 1) < s) := hk; obtain ⟨k0, k1, k2⟩ := hk; cbv) | (refine loop_step (O.ar .add .i64 k 1) ?_ ?_ ?_; rotate_left 2; focus (cbv; done))
  all_goals ((try subst hos); subst hO hr hF; (try simp only [stdO, SS, sub_all, ad_zero] at *); (try simp only [ncast] at *); (try simp only [Int.ofNat_eq_natCast] at *))
  all_goals (try simp only [F6.F0] at *)
  all_goals (try rw [cs_wr (k := k) (by rw [inR_t]; omega)] at *)
  all_goals (try rw [cs_sh (k := k) (by rw [inR_t]; omega)] at *)
  all_goals (try simp only [inR_t, inR_f] at *)
  all_goals (try rw [up64 (by omega) (by omega)])
  all_goals first
    | trivial
    | omega
    | exact cs_up (by omega) (by assumption) (by omega)
    | (have := cs_up (k := k) (s := s) (by omega) (by assumption) (by omega); omega)
    | exact di_eq (cl_no (by omega)).symm
    | exact di_eq (cl_yes (by omega) (by assumption) (by omega) (by assumption)).symm
    | exact .inl trivial
    | exact .inl rfl
    | (rw [show k + 1 - 1 = k by omega]; exact .inr (by assumption))
    | trace_state

end Go.V
