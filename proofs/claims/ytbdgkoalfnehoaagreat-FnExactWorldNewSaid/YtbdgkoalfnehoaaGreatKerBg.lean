/-
  Contracts of functions, by evaluation of conditions on their code.
-/
import Derived.Test.YtbdgkoalfnehoaaGreatS6
import Derived.Test.YtbdgkoalfnehoaaGreatH12
import Derived.Test.YtbdgkoalfnehoaaGreatKerAg

set_option linter.all false
namespace Go.V
open Go Go.Proofs
set_option maxRecDepth 1000000
set_option maxHeartbeats 8000000
namespace N1
structure Fns where
  inR : Int → Int → Int → Bool
def F0 : Fns := ⟨inR⟩
def ct (F : Fns) : CT := fun f ds => match f with
  | 79 => match ds with
    | [.one (.v (.int .i64 x)), .one (.v (.int .i64 a)), .one (.v (.int .i64 b))] => some (fun _ => True, [.one (.v (.bool (F.inR x a b)))])
    | _ => none
  | 74 => match ds with
    | [.one (.v (.int .i64 x)), .one (.v (.int .i64 a)), .one (.v (.int .i64 b))] => some (fun _ => True, [.one (.v (.bool (F.inR x a b)))])
    | _ => none
  | _ => none
theorem ct_ok : CTok Tryz.prog (ct F0) := by
  intro f ds pre res h hp
  unfold ct at h
  split at h
  · split at h
    · cases h; exact c_impl_between _ _ _ hp
    · cases h
  · split at h
    · cases h; exact c_spec_l01In _ _ _ hp
    · cases h
  · cases h
def mt : Fns → MT := noMT
theorem mt_ok : MTok Tryz.prog (mt F0) := noMT_ok
def pt : Fns → PT := noPT
theorem pt_ok : PTok Tryz.prog (pt F0) := noPT_ok
end N1
theorem c_impl_FramesNew (n : Int) (hp : True) : Ctr Tryz.prog 161 [.one (.v (.int .i64 n))] [.agg [.s 1 (fnC n), .s 1 (fnU n)], .one (.v (.bool (inR n 1 32)))] := by
  refine ctr_of (ctF := N1.ct) (mtF := N1.mt) (ptF := N1.pt) (F0 := N1.F0) tabOk N1.ct_ok N1.mt_ok N1.pt_ok mixed 25 _ [53, 4] [.cell 2 53, .tmp 3] Tryz.func161 rfl rfl rfl rfl rfl ?_
  intro O r F hO hr hF
  cbv
  repeat' first | refine And.intro ?_ ?_ | (refine caseB_intro (fun hb => ?_) (fun hb => ?_) <;> cbv) | (refine ⟨[0, 2, 4, 5], [2, 4], Int × List (List L), fun s_ => match s_ with | (i, out) => [.reg 5 (.one (.v (.int .i64 i))), .leaf 4 0 ⟨0, 0, none, .own (.s 1 out)⟩], fun s_ => match s_ with | (i, out) => 0 ≤ i ∧ i ≤ n ∧ out = List.replicate i.toNat [.s 1 zr16], fun s_ => match s_ with | (i, out) => (n - i).toNat, ⟨(0, []), ?_, ?_⟩, ?_⟩; rotate_left; (focus (cbv; done)); intro s_ hi; obtain ⟨i, out⟩ := s_; replace hi : 0 ≤ i ∧ i ≤ n ∧ out = List.replicate i.toNat [.s 1 zr16] := hi; obtain ⟨i0, i1, i2⟩ := hi; cbv) | (refine loop_step (O.ar .add .i64 i 1, O.cat out [[.s 1 (O.rep 16 [.v (.int .i64 0)])]]) ?_ ?_ ?_; rotate_left 2; focus (cbv; done))
  all_goals ((try subst hos); subst hO hr hF; (try simp only [stdO, SS, sub_all, ad_zero] at *); (try simp only [ncast] at *); (try simp only [Int.ofNat_eq_natCast] at *))
  all_goals (try simp only [N1.F0] at *)
  all_goals try (have hn := inR_t.1 (‹inR n 1 32 = true›))
  all_goals try rw [up64 (by omega) (by omega)]
  all_goals first
    | (show (_ : List DV) = _
       first
         | (have q := fn_no (‹inR n 1 32 = false›); exact r2_eq q.1.symm q.2.1.symm (by symm; assumption))
         | (have q := fn_yes (‹inR n 1 32 = true›); exact r2_eq (by rw [q.1, i2]; congr 1; omega) q.2.1.symm (by symm; assumption))
         | done)
    | (show (_ : List (List L)) = _
       first
         | (rw [i2]; exact rep_up i0)
         | exact rfl
         | done)
    | omega
    | (show okOrder _ _ = true; kernel_rfl)
    | (rw [i2, List.length_replicate]; exact ⟨by simp only [List.length_cons, List.length_nil]; omega, by simp only [List.length_cons, List.length_nil]; omega⟩)
    | exact ⟨True.intro, True.intro⟩
    | trivial
    | trace_state
theorem c_spec_FramesNew (n : Int) (hp : True) : Ctr Tryz.prog 158 [.one (.v (.int .i64 n))] [.agg [.s 1 (fnC n), .s 1 (fnU n)], .one (.v (.bool (inR n 1 32)))] := by
  refine ctr_of (ctF := N1.ct) (mtF := N1.mt) (ptF := N1.pt) (F0 := N1.F0) tabOk N1.ct_ok N1.mt_ok N1.pt_ok mixed 28 _ [53, 4] [.cell 2 53, .tmp 3] Tryz.func158 rfl rfl rfl rfl rfl ?_
  intro O r F hO hr hF
  cbv
  repeat' first | refine And.intro ?_ ?_ | (refine caseB_intro (fun hb => ?_) (fun hb => ?_) <;> cbv) | (refine ⟨[0, 2, 4, 5], [2, 4], Int × List (List L) × List (List L), fun s_ => match s_ with | (i, out, us) => [.reg 5 (.one (.v (.int .i64 i))), .leaf 4 0 ⟨0, 0, none, .own (.s 1 out)⟩, .leaf 4 1 ⟨0, 0, none, .own (.s 1 us)⟩], fun s_ => match s_ with | (i, out, us) => 0 ≤ i ∧ i ≤ n ∧ out = List.replicate i.toNat [.s 1 zr16] ∧ us = List.replicate i.toNat [.v (.bool false)], fun s_ => match s_ with | (i, out, us) => (n - i).toNat, ⟨(0, [], []), ?_, ?_⟩, ?_⟩; rotate_left; (focus (cbv; done)); intro s_ hi; obtain ⟨i, out, us⟩ := s_; replace hi : 0 ≤ i ∧ i ≤ n ∧ out = List.replicate i.toNat [.s 1 zr16] ∧ us = List.replicate i.toNat [.v (.bool false)] := hi; obtain ⟨i0, i1, i2, i3⟩ := hi; cbv) | (refine loop_step (O.ar .add .i64 i 1, O.cat out [[.s 1 (O.rep 16 [.v (.int .i64 0)])]], O.cat us (O.sub [[.v (.bool false)]] 0 (O.ln [[.v (.bool false)]]))) ?_ ?_ ?_; rotate_left 2; focus (cbv; done))
  all_goals ((try subst hos); subst hO hr hF; (try simp only [stdO, SS, sub_all, ad_zero] at *); (try simp only [ncast] at *); (try simp only [Int.ofNat_eq_natCast] at *))
  all_goals (try simp only [N1.F0] at *)
  all_goals try (have hn := inR_t.1 (‹inR n 1 32 = true›))
  all_goals try rw [up64 (by omega) (by omega)]
  all_goals first
    | (show (_ : List DV) = _
       first
         | (have q := fn_no (‹inR n 1 32 = false›); exact r2_eq q.1.symm q.2.1.symm (by symm; assumption))
         | (have q := fn_yes (‹inR n 1 32 = true›); exact r2_eq (by rw [q.1, i2]; congr 1; omega) (by rw [q.2.1, i3]; congr 1; omega) (by symm; assumption))
         | done)
    | (show (_ : List (List L)) = _
       first
         | (rw [i2]; exact rep_up i0)
         | (rw [i3]; exact rep_up i0)
         | exact rfl
         | done)
    | omega
    | (show okOrder _ _ = true; kernel_rfl)
    | (rw [i2, List.length_replicate]; exact ⟨by simp only [List.length_cons, List.length_nil]; omega, by simp only [List.length_cons, List.length_nil]; omega⟩)
    | (rw [i3, List.length_replicate]; exact ⟨by simp only [List.length_cons, List.length_nil]; omega, by simp only [List.length_cons, List.length_nil]; omega⟩)
    | exact ⟨True.intro, True.intro⟩
    | trivial
    | trace_state
theorem c_impl_TableNew (n : Int) (hp : True) : Ctr Tryz.prog 162 [.one (.v (.int .i64 n))] [.agg [.s 2 (tnE n)], .one (.v (.bool (inR n 1 32)))] := by
  refine ctr_of (ctF := N1.ct) (mtF := N1.mt) (ptF := N1.pt) (F0 := N1.F0) tabOk N1.ct_ok N1.mt_ok N1.pt_ok mixed 11 _ [56, 4] [.cell 2 56, .tmp 3] Tryz.func162 rfl rfl rfl rfl rfl ?_
  intro O r F hO hr hF
  cbv
  repeat' first | refine And.intro ?_ ?_ | (refine caseB_intro (fun hb => ?_) (fun hb => ?_) <;> cbv)
  all_goals ((try subst hos); subst hO hr hF; (try simp only [stdO, SS, sub_all, ad_zero] at *); (try simp only [ncast] at *); (try simp only [Int.ofNat_eq_natCast] at *))
  all_goals (try simp only [N1.F0] at *)
  all_goals try (have hn := inR_t.1 (‹inR n 1 32 = true›))
  all_goals first
    | (show (_ : List DV) = _
       first
         | (have q := fn_no (‹inR n 1 32 = false›); exact r1_eq q.2.2.symm (by symm; assumption))
         | (have q := fn_yes (‹inR n 1 32 = true›); exact r1_eq q.2.2.symm (by symm; assumption))
         | done)
    | omega
    | (show okOrder _ _ = true; kernel_rfl)
    | exact ⟨True.intro, True.intro⟩
    | trivial
    | trace_state
theorem c_spec_TableNew (n : Int) (hp : True) : Ctr Tryz.prog 159 [.one (.v (.int .i64 n))] [.agg [.s 2 (tnE n)], .one (.v (.bool (inR n 1 32)))] := by
  refine ctr_of (ctF := N1.ct) (mtF := N1.mt) (ptF := N1.pt) (F0 := N1.F0) tabOk N1.ct_ok N1.mt_ok N1.pt_ok mixed 11 _ [56, 4] [.cell 2 56, .tmp 3] Tryz.func159 rfl rfl rfl rfl rfl ?_
  intro O r F hO hr hF
  cbv
  repeat' first | refine And.intro ?_ ?_ | (refine caseB_intro (fun hb => ?_) (fun hb => ?_) <;> cbv)
  all_goals ((try subst hos); subst hO hr hF; (try simp only [stdO, SS, sub_all, ad_zero] at *); (try simp only [ncast] at *); (try simp only [Int.ofNat_eq_natCast] at *))
  all_goals (try simp only [N1.F0] at *)
  all_goals try (have hn := inR_t.1 (‹inR n 1 32 = true›))
  all_goals first
    | (show (_ : List DV) = _
       first
         | (have q := fn_no (‹inR n 1 32 = false›); exact r1_eq q.2.2.symm (by symm; assumption))
         | (have q := fn_yes (‹inR n 1 32 = true›); exact r1_eq q.2.2.symm (by symm; assumption))
         | done)
    | omega
    | (show okOrder _ _ = true; kernel_rfl)
    | exact ⟨True.intro, True.intro⟩
    | trivial
    | trace_state
namespace N2
structure Fns where
  fnC : Int → List (List L)
  fnU : Int → List (List L)
  inR : Int → Int → Int → Bool
  tnE : Int → List (List L)
def F0 : Fns := ⟨fnC, fnU, inR, tnE⟩
def ct (F : Fns) : CT := fun f ds => match f with
  | 161 => match ds with
    | [.one (.v (.int .i64 n))] => some (fun _ => True, [.agg [.s 1 (F.fnC n), .s 1 (F.fnU n)], .one (.v (.bool (F.inR n 1 32)))])
    | _ => none
  | 162 => match ds with
    | [.one (.v (.int .i64 n))] => some (fun _ => True, [.agg [.s 2 (F.tnE n)], .one (.v (.bool (F.inR n 1 32)))])
    | _ => none
  | 158 => match ds with
    | [.one (.v (.int .i64 n))] => some (fun _ => True, [.agg [.s 1 (F.fnC n), .s 1 (F.fnU n)], .one (.v (.bool (F.inR n 1 32)))])
    | _ => none
  | 159 => match ds with
    | [.one (.v (.int .i64 n))] => some (fun _ => True, [.agg [.s 2 (F.tnE n)], .one (.v (.bool (F.inR n 1 32)))])
    | _ => none
  | _ => none
theorem ct_ok : CTok Tryz.prog (ct F0) := by
  intro f ds pre res h hp
  unfold ct at h
  split at h
  · split at h
    · cases h; exact c_impl_FramesNew _ hp
    · cases h
  · split at h
    · cases h; exact c_impl_TableNew _ hp
    · cases h
  · split at h
    · cases h; exact c_spec_FramesNew _ hp
    · cases h
  · split at h
    · cases h; exact c_spec_TableNew _ hp
    · cases h
  · cases h
def mt : Fns → MT := noMT
theorem mt_ok : MTok Tryz.prog (mt F0) := noMT_ok
def pt : Fns → PT := noPT
theorem pt_ok : PTok Tryz.prog (pt F0) := noPT_ok
end N2
theorem c_impl_MachineNew (p f : Int) (hp : True) : Ctr Tryz.prog 131 [.one (.v (.int .i64 p)), .one (.v (.int .i64 f))] [.agg [.s 1 (mnC p f), .s 1 (mnU p f), .s 2 (mnE p f)], .one (.v (.bool (mnB p f)))] := by
  refine ctr_of (ctF := N2.ct) (mtF := N2.mt) (ptF := N2.pt) (F0 := N2.F0) tabOk N2.ct_ok N2.mt_ok N2.pt_ok mixed 30 _ [58, 4] [.cell 4 58, .tmp 5] Tryz.func131 rfl rfl rfl rfl rfl ?_
  intro O r F hO hr hF
  cbv
  repeat' first | refine And.intro ?_ ?_ | (refine caseB_intro (fun hb => ?_) (fun hb => ?_) <;> cbv)
  all_goals ((try subst hos); subst hO hr hF; (try simp only [stdO, SS, sub_all, ad_zero] at *); (try simp only [ncast] at *); (try simp only [Int.ofNat_eq_natCast] at *))
  all_goals (try simp only [N2.F0] at *)
  all_goals first
    | (show (_ : List DV) = _
       first
         | (have q := mn_yes (‹inR f 1 32 = true›) (‹inR p 1 32 = true›); exact rm_eq q.1.symm q.2.1.symm q.2.2.1.symm q.2.2.2.symm)
         | (have q := mn_no (mn_no1 (‹inR f 1 32 = false›) : mnB p f = false); exact rm_eq q.1.symm q.2.1.symm q.2.2.1.symm q.2.2.2.symm)
         | (have q := mn_no (mn_no2 (‹inR p 1 32 = false›) : mnB p f = false); exact rm_eq q.1.symm q.2.1.symm q.2.2.1.symm q.2.2.2.symm)
         | done)
    | omega
    | (show okOrder _ _ = true; kernel_rfl)
    | exact ⟨True.intro, True.intro⟩
    | trivial
    | trace_state
theorem c_spec_MachineNew (p f : Int) (hp : True) : Ctr Tryz.prog 129 [.one (.v (.int .i64 p)), .one (.v (.int .i64 f))] [.agg [.s 1 (mnC p f), .s 1 (mnU p f), .s 2 (mnE p f)], .one (.v (.bool (mnB p f)))] := by
  refine ctr_of (ctF := N2.ct) (mtF := N2.mt) (ptF := N2.pt) (F0 := N2.F0) tabOk N2.ct_ok N2.mt_ok N2.pt_ok mixed 30 _ [58, 4] [.cell 4 58, .tmp 5] Tryz.func129 rfl rfl rfl rfl rfl ?_
  intro O r F hO hr hF
  cbv
  repeat' first | refine And.intro ?_ ?_ | (refine caseB_intro (fun hb => ?_) (fun hb => ?_) <;> cbv)
  all_goals ((try subst hos); subst hO hr hF; (try simp only [stdO, SS, sub_all, ad_zero] at *); (try simp only [ncast] at *); (try simp only [Int.ofNat_eq_natCast] at *))
  all_goals (try simp only [N2.F0] at *)
  all_goals first
    | (show (_ : List DV) = _
       first
         | (have q := mn_yes (‹inR f 1 32 = true›) (‹inR p 1 32 = true›); exact rm_eq q.1.symm q.2.1.symm q.2.2.1.symm q.2.2.2.symm)
         | (have q := mn_no (mn_no1 (‹inR f 1 32 = false›) : mnB p f = false); exact rm_eq q.1.symm q.2.1.symm q.2.2.1.symm q.2.2.2.symm)
         | (have q := mn_no (mn_no2 (‹inR p 1 32 = false›) : mnB p f = false); exact rm_eq q.1.symm q.2.1.symm q.2.2.1.symm q.2.2.2.symm)
         | done)
    | omega
    | (show okOrder _ _ = true; kernel_rfl)
    | exact ⟨True.intro, True.intro⟩
    | trivial
    | trace_state
namespace N3
structure Fns where
  inR : Int → Int → Int → Bool
  machOk : List (List L) → List (List L) → List (List L) → Bool
def F0 : Fns := ⟨inR, machOk⟩
def ct (F : Fns) : CT := fun f ds => match f with
  | 79 => match ds with
    | [.one (.v (.int .i64 x)), .one (.v (.int .i64 a)), .one (.v (.int .i64 b))] => some (fun _ => True, [.one (.v (.bool (F.inR x a b)))])
    | _ => none
  | 74 => match ds with
    | [.one (.v (.int .i64 x)), .one (.v (.int .i64 a)), .one (.v (.int .i64 b))] => some (fun _ => True, [.one (.v (.bool (F.inR x a b)))])
    | _ => none
  | 163 => match ds with
    | [.agg [.s 1 cs, .s 1 us, .s 2 es]] => some (fun _ => Rw [.sl [tI]] cs ∧ Rw [tB] us ∧ Rw [tI, tI] es, [.one (.v (.bool (F.machOk cs us es)))])
    | _ => none
  | 160 => match ds with
    | [.agg [.s 1 cs, .s 1 us, .s 2 es]] => some (fun _ => Rw [.sl [tI]] cs ∧ Rw [tB] us ∧ Rw [tI, tI] es, [.one (.v (.bool (F.machOk cs us es)))])
    | _ => none
  | _ => none
theorem ct_ok : CTok Tryz.prog (ct F0) := by
  intro f ds pre res h hp
  unfold ct at h
  split at h
  · split at h
    · cases h; exact c_impl_between _ _ _ hp
    · cases h
  · split at h
    · cases h; exact c_spec_l01In _ _ _ hp
    · cases h
  · split at h
    · cases h; exact c_impl_MachineOk _ _ _ hp
    · cases h
  · split at h
    · cases h; exact c_spec_MachineOk _ _ _ hp
    · cases h
  · cases h
def mt : Fns → MT := noMT
theorem mt_ok : MTok Tryz.prog (mt F0) := noMT_ok
def pt : Fns → PT := noPT
theorem pt_ok : PTok Tryz.prog (pt F0) := noPT_ok
end N3
theorem c_impl_KernelOk (cs us es : List (List L)) (c : Int) (rs : List (List L)) (hp : Rw [.sl [tI]] cs ∧ Rw [tB] us ∧ Rw [tI, tI] es ∧ Rw [tI] rs) : Ctr Tryz.prog 133 [.agg [.s 1 cs, .s 1 us, .s 2 es, .v (.int .i64 c), .s 1 rs]] [.one (.v (.bool (kerOk cs us es c rs)))] := by
  obtain ⟨hc, hu, ht, hr⟩ := hp
  have hm := hr.1; unfold maxLen at hm
  refine ctr_of (ctF := N3.ct) (mtF := N3.mt) (ptF := N3.pt) (F0 := N3.F0) tabOk N3.ct_ok N3.mt_ok N3.pt_ok mixed 29 _ [4] [.tmp 2] Tryz.func133 rfl rfl rfl rfl rfl ?_
  intro O r F hO hr hF
  cbv
  repeat' first | refine And.intro ?_ ?_ | (refine caseB_intro (fun hb => ?_) (fun hb => ?_) <;> cbv) | (refine ⟨[1, 6, 7, 8], [1], Int, fun i => [.reg 8 (.one (.v (.int .i64 i)))], fun i => 0 ≤ i ∧ i ≤ ((rs.length : Nat) : Int) ∧ upto (nonN rs) i, fun i => (rs.length) - i.toNat, ⟨0, ?_, ?_⟩, ?_⟩; rotate_left; (focus (cbv; done)); intro i hi; replace hi : 0 ≤ i ∧ i ≤ ((rs.length : Nat) : Int) ∧ upto (nonN rs) i := hi; obtain ⟨i0, i1, i2⟩ := hi; cbv) | (refine loop_step (O.ar .add .i64 i 1) ?_ ?_ ?_; rotate_left 2; focus (cbv; done))
  all_goals ((try subst hos); subst hO hr hF; (try simp only [stdO, SS, sub_all, ad_zero] at *); (try simp only [ncast] at *); (try simp only [Int.ofNat_eq_natCast] at *))
  all_goals (try simp only [N3.F0] at *)
  all_goals try rw [up64 (by omega) (by omega)]
  all_goals first
    | (show (_ : List DV) = _
       first
         | exact db_eq (ref_no i0 (by assumption) (by assumption)).symm
         | exact db_eq (ker_yes (by assumption) (by assumption) (ref_yes i2 (by omega) (by assumption))).symm
         | exact db_eq (ker_no1 (by assumption)).symm
         | exact db_eq (ker_no2 (by assumption)).symm
         | exact db_eq (ker_no3 (ref_no2 (by omega))).symm
         | (refine db_eq ?_; unfold kerOk; rw [show inR c 0 100000 = true from by assumption, ref_yes i2 (by omega) (by omega)]; simp)
         | (refine db_eq ?_; unfold kerOk refOk; rw [show machOk cs us es = true from by assumption, show inR c 0 100000 = true from by assumption, allI_of i2 (by omega)]; refine b_iff ?_; simp only [SS, Bool.true_and, decide_eq_true_eq]; omega)
         | done)
    | omega
    | (refine ⟨by omega, by omega, Eq.trans (Rw.eta (fs := _) (by (first | assumption | exact Rw.sub (by first | assumption | exact Rw.sub (by assumption) (by omega) rfl) (by omega) rfl)) (by omega) (by omega)) ?_⟩; rfl)
    | (show okOrder _ _ = true; kernel_rfl)
    | exact upto_z
    | exact upto_s i2 (ref_in (by omega))
    | exact ⟨hc, hu, ht⟩
    | exact ⟨True.intro, True.intro⟩
    | trivial
    | trace_state
theorem c_spec_KernelOk (cs us es : List (List L)) (c : Int) (rs : List (List L)) (hp : Rw [.sl [tI]] cs ∧ Rw [tB] us ∧ Rw [tI, tI] es ∧ Rw [tI] rs) : Ctr Tryz.prog 130 [.agg [.s 1 cs, .s 1 us, .s 2 es, .v (.int .i64 c), .s 1 rs]] [.one (.v (.bool (kerOk cs us es c rs)))] := by
  obtain ⟨hc, hu, ht, hr⟩ := hp
  have hm := hr.1; unfold maxLen at hm
  refine ctr_of (ctF := N3.ct) (mtF := N3.mt) (ptF := N3.pt) (F0 := N3.F0) tabOk N3.ct_ok N3.mt_ok N3.pt_ok mixed 31 _ [4] [.tmp 2] Tryz.func130 rfl rfl rfl rfl rfl ?_
  intro O r F hO hr hF
  cbv
  repeat' first | refine And.intro ?_ ?_ | (refine caseB_intro (fun hb => ?_) (fun hb => ?_) <;> cbv) | (refine ⟨[1, 3], [1], Int, fun i => [.reg 3 (.one (.v (.int .i64 i)))], fun i => 0 ≤ i ∧ i ≤ ((rs.length : Nat) : Int) ∧ upto (nonN rs) i, fun i => (rs.length) - i.toNat, ⟨0, ?_, ?_⟩, ?_⟩; rotate_left; (focus (cbv; done)); intro i hi; replace hi : 0 ≤ i ∧ i ≤ ((rs.length : Nat) : Int) ∧ upto (nonN rs) i := hi; obtain ⟨i0, i1, i2⟩ := hi; cbv) | (refine loop_step (O.ar .add .i64 i 1) ?_ ?_ ?_; rotate_left 2; focus (cbv; done))
  all_goals ((try subst hos); subst hO hr hF; (try simp only [stdO, SS, sub_all, ad_zero] at *); (try simp only [ncast] at *); (try simp only [Int.ofNat_eq_natCast] at *))
  all_goals (try simp only [N3.F0] at *)
  all_goals try rw [up64 (by omega) (by omega)]
  all_goals first
    | (show (_ : List DV) = _
       first
         | exact db_eq (ref_no i0 (by assumption) (by assumption)).symm
         | exact db_eq (ker_yes (by assumption) (by assumption) (ref_yes i2 (by omega) (by assumption))).symm
         | exact db_eq (ker_no1 (by assumption)).symm
         | exact db_eq (ker_no2 (by assumption)).symm
         | exact db_eq (ker_no3 (ref_no2 (by omega))).symm
         | (refine db_eq ?_; unfold kerOk; rw [show inR c 0 100000 = true from by assumption, ref_yes i2 (by omega) (by omega)]; simp)
         | (refine db_eq ?_; unfold kerOk refOk; rw [show machOk cs us es = true from by assumption, show inR c 0 100000 = true from by assumption, allI_of i2 (by omega)]; refine b_iff ?_; simp only [SS, Bool.true_and, decide_eq_true_eq]; omega)
         | done)
    | omega
    | (refine ⟨by omega, by omega, Eq.trans (Rw.eta (fs := _) (by (first | assumption | exact Rw.sub (by first | assumption | exact Rw.sub (by assumption) (by omega) rfl) (by omega) rfl)) (by omega) (by omega)) ?_⟩; rfl)
    | (show okOrder _ _ = true; kernel_rfl)
    | exact upto_z
    | exact upto_s i2 (ref_in (by omega))
    | exact ⟨hc, hu, ht⟩
    | exact ⟨True.intro, True.intro⟩
    | trivial
    | trace_state
namespace N4
structure Fns where
  mnC : Int → Int → List (List L)
  mnU : Int → Int → List (List L)
  mnE : Int → Int → List (List L)
  mnB : Int → Int → Bool
  kerOk : List (List L) → List (List L) → List (List L) → Int → List (List L) → Bool
def F0 : Fns := ⟨mnC, mnU, mnE, mnB, kerOk⟩
def ct (F : Fns) : CT := fun f ds => match f with
  | 131 => match ds with
    | [.one (.v (.int .i64 p)), .one (.v (.int .i64 f))] => some (fun _ => True, [.agg [.s 1 (F.mnC p f), .s 1 (F.mnU p f), .s 2 (F.mnE p f)], .one (.v (.bool (F.mnB p f)))])
    | _ => none
  | 129 => match ds with
    | [.one (.v (.int .i64 p)), .one (.v (.int .i64 f))] => some (fun _ => True, [.agg [.s 1 (F.mnC p f), .s 1 (F.mnU p f), .s 2 (F.mnE p f)], .one (.v (.bool (F.mnB p f)))])
    | _ => none
  | 133 => match ds with
    | [.agg [.s 1 cs, .s 1 us, .s 2 es, .v (.int .i64 c), .s 1 rs]] => some (fun _ => Rw [.sl [tI]] cs ∧ Rw [tB] us ∧ Rw [tI, tI] es ∧ Rw [tI] rs, [.one (.v (.bool (F.kerOk cs us es c rs)))])
    | _ => none
  | 130 => match ds with
    | [.agg [.s 1 cs, .s 1 us, .s 2 es, .v (.int .i64 c), .s 1 rs]] => some (fun _ => Rw [.sl [tI]] cs ∧ Rw [tB] us ∧ Rw [tI, tI] es ∧ Rw [tI] rs, [.one (.v (.bool (F.kerOk cs us es c rs)))])
    | _ => none
  | 132 => match ds with
    | [.one (.s 1 es)] => some (fun _ => Rw [tI] es ∧ es.length ≤ 1099511627776, [.one (.s 1 es)])
    | _ => none
  | _ => none
theorem ct_ok : CTok Tryz.prog (ct F0) := by
  intro f ds pre res h hp
  unfold ct at h
  split at h
  · split at h
    · cases h; exact c_impl_MachineNew _ _ hp
    · cases h
  · split at h
    · cases h; exact c_spec_MachineNew _ _ hp
    · cases h
  · split at h
    · cases h; exact c_impl_KernelOk _ _ _ _ _ hp
    · cases h
  · split at h
    · cases h; exact c_spec_KernelOk _ _ _ _ _ hp
    · cases h
  · split at h
    · cases h; exact c_impl_copyInts _ hp
    · cases h
  · cases h
def mt : Fns → MT := noMT
theorem mt_ok : MTok Tryz.prog (mt F0) := noMT_ok
def pt : Fns → PT := noPT
theorem pt_ok : PTok Tryz.prog (pt F0) := noPT_ok
end N4
theorem c_impl_KernelNew (p f : Int) (rs : List (List L)) (hp : Rw [tI] rs ∧ rs.length ≤ 1099511627776) : Ctr Tryz.prog 77 [.one (.v (.int .i64 p)), .one (.v (.int .i64 f)), .one (.s 1 rs)] [.agg [.s 1 (knC p f rs), .s 1 (knU p f rs), .s 2 (knE p f rs), .v (.int .i64 0), .s 1 (knR p f rs)], .one (.v (.bool (knB p f rs)))] := by
  obtain ⟨hr, hl⟩ := hp
  have hs := hr.scal rfl
  refine ctr_of (ctF := N4.ct) (mtF := N4.mt) (ptF := N4.pt) (F0 := N4.F0) tabOk N4.ct_ok N4.mt_ok N4.pt_ok mixed 30 _ [60, 4] [.cell 6 60, .tmp 7] Tryz.func77 rfl rfl rfl rfl rfl ?_
  intro O r F hO hr hF
  cbv
  repeat' first | refine And.intro ?_ ?_ | (refine caseB_intro (fun hb => ?_) (fun hb => ?_) <;> cbv)
  all_goals ((try subst hos); subst hO hr hF; (try simp only [stdO, SS, sub_all, ad_zero] at *); (try simp only [ncast] at *); (try simp only [Int.ofNat_eq_natCast] at *))
  all_goals (try simp only [N4.F0] at *)
  all_goals first
    | (show (_ : List DV) = _
       first
         | (have q := kn_bad1 (rs := rs) (‹mnB p f = false›); have w := kn_no q; exact rk_eq w.1.symm w.2.1.symm w.2.2.1.symm w.2.2.2.symm q.symm)
         | (have q := kn_ok (rs := rs) (‹mnB p f = true›) (by assumption); have w := kn_yes q; have u := mn_t (kn_t q); have z := mn_yes u.1 u.2; exact rk_eq (z.1.trans w.1.symm) (z.2.1.trans w.2.1.symm) (z.2.2.1.trans w.2.2.1.symm) w.2.2.2.symm q.symm)
         | (have q := kn_bad (rs := rs) (‹mnB p f = true›) (by assumption); have w := kn_no q; exact rk_eq w.1.symm w.2.1.symm w.2.2.1.symm w.2.2.2.symm q.symm)
         | done)
    | exact hs
    | exact ⟨hr, by omega⟩
    | exact ⟨mn_rws.1, mn_rws.2.1, mn_rws.2.2, hr⟩
    | omega
    | (show okOrder _ _ = true; kernel_rfl)
    | (simp only [List.length_nil]; omega)
    | exact ⟨True.intro, True.intro⟩
    | trivial
    | trace_state
theorem c_spec_KernelNew (p f : Int) (rs : List (List L)) (hp : Rw [tI] rs ∧ rs.length ≤ 1099511627776) : Ctr Tryz.prog 72 [.one (.v (.int .i64 p)), .one (.v (.int .i64 f)), .one (.s 1 rs)] [.agg [.s 1 (knC p f rs), .s 1 (knU p f rs), .s 2 (knE p f rs), .v (.int .i64 0), .s 1 (knR p f rs)], .one (.v (.bool (knB p f rs)))] := by
  obtain ⟨hr, hl⟩ := hp
  have hs := hr.scal rfl
  refine ctr_of (ctF := N4.ct) (mtF := N4.mt) (ptF := N4.pt) (F0 := N4.F0) tabOk N4.ct_ok N4.mt_ok N4.pt_ok mixed 31 _ [60, 4] [.cell 6 60, .tmp 7] Tryz.func72 rfl rfl rfl rfl rfl ?_
  intro O r F hO hr hF
  cbv
  repeat' first | refine And.intro ?_ ?_ | (refine caseB_intro (fun hb => ?_) (fun hb => ?_) <;> cbv)
  all_goals ((try subst hos); subst hO hr hF; (try simp only [stdO, SS, sub_all, ad_zero] at *); (try simp only [ncast] at *); (try simp only [Int.ofNat_eq_natCast] at *))
  all_goals (try simp only [N4.F0] at *)
  all_goals first
    | (show (_ : List DV) = _
       first
         | (have q := kn_bad1 (rs := rs) (‹mnB p f = false›); have w := kn_no q; exact rk_eq w.1.symm w.2.1.symm w.2.2.1.symm w.2.2.2.symm q.symm)
         | (have q := kn_ok (rs := rs) (‹mnB p f = true›) (by assumption); have w := kn_yes q; have u := mn_t (kn_t q); have z := mn_yes u.1 u.2; exact rk_eq (z.1.trans w.1.symm) (z.2.1.trans w.2.1.symm) (z.2.2.1.trans w.2.2.1.symm) w.2.2.2.symm q.symm)
         | (have q := kn_bad (rs := rs) (‹mnB p f = true›) (by assumption); have w := kn_no q; exact rk_eq w.1.symm w.2.1.symm w.2.2.1.symm w.2.2.2.symm q.symm)
         | done)
    | exact hs
    | exact ⟨hr, by omega⟩
    | exact ⟨mn_rws.1, mn_rws.2.1, mn_rws.2.2, hr⟩
    | omega
    | (show okOrder _ _ = true; kernel_rfl)
    | (simp only [List.length_nil]; omega)
    | exact ⟨True.intro, True.intro⟩
    | trivial
    | trace_state
theorem c_impl_MailNew (t : Int) (hp : True) : Ctr Tryz.prog 78 [.one (.v (.int .i64 t))] [.agg [.s 1 (mwB t), .s 1 (mwI t)], .one (.v (.bool (inR t 1 4)))] := by
  refine ctr_of (ctF := N1.ct) (mtF := N1.mt) (ptF := N1.pt) (F0 := N1.F0) tabOk N1.ct_ok N1.mt_ok N1.pt_ok mixed 13 _ [68, 4] [.cell 2 68, .tmp 3] Tryz.func78 rfl rfl rfl rfl rfl ?_
  intro O r F hO hr hF
  cbv
  repeat' first | refine And.intro ?_ ?_ | (refine caseB_intro (fun hb => ?_) (fun hb => ?_) <;> cbv)
  all_goals ((try subst hos); subst hO hr hF; (try simp only [stdO, SS, sub_all, ad_zero] at *); (try simp only [ncast] at *); (try simp only [Int.ofNat_eq_natCast] at *))
  all_goals (try simp only [N1.F0] at *)
  all_goals try (have hn := inR_t.1 (‹inR t 1 4 = true›))
  all_goals first
    | (show (_ : List DV) = _
       first
         | (have q := mw_no (‹inR t 1 4 = false›); exact r2_eq q.1.symm q.2.symm (by symm; assumption))
         | (have q := mw_yes (‹inR t 1 4 = true›); exact r2_eq q.1.symm q.2.symm (by symm; assumption))
         | done)
    | omega
    | (show okOrder _ _ = true; kernel_rfl)
    | exact ⟨True.intro, True.intro⟩
    | trivial
    | trace_state
theorem c_spec_MailNew (t : Int) (hp : True) : Ctr Tryz.prog 73 [.one (.v (.int .i64 t))] [.agg [.s 1 (mwB t), .s 1 (mwI t)], .one (.v (.bool (inR t 1 4)))] := by
  refine ctr_of (ctF := N1.ct) (mtF := N1.mt) (ptF := N1.pt) (F0 := N1.F0) tabOk N1.ct_ok N1.mt_ok N1.pt_ok mixed 13 _ [68, 4] [.cell 2 68, .tmp 3] Tryz.func73 rfl rfl rfl rfl rfl ?_
  intro O r F hO hr hF
  cbv
  repeat' first | refine And.intro ?_ ?_ | (refine caseB_intro (fun hb => ?_) (fun hb => ?_) <;> cbv)
  all_goals ((try subst hos); subst hO hr hF; (try simp only [stdO, SS, sub_all, ad_zero] at *); (try simp only [ncast] at *); (try simp only [Int.ofNat_eq_natCast] at *))
  all_goals (try simp only [N1.F0] at *)
  all_goals try (have hn := inR_t.1 (‹inR t 1 4 = true›))
  all_goals first
    | (show (_ : List DV) = _
       first
         | (have q := mw_no (‹inR t 1 4 = false›); exact r2_eq q.1.symm q.2.symm (by symm; assumption))
         | (have q := mw_yes (‹inR t 1 4 = true›); exact r2_eq q.1.symm q.2.symm (by symm; assumption))
         | done)
    | omega
    | (show okOrder _ _ = true; kernel_rfl)
    | exact ⟨True.intro, True.intro⟩
    | trivial
    | trace_state
theorem c_impl_QuarNew (q : Int) (hp : True) : Ctr Tryz.prog 80 [.one (.v (.int .i64 q))] [.agg [.v (.int .i64 (qnR q)), .s 3 []], .one (.v (.bool (inR q 0 500)))] := by
  refine ctr_of (ctF := N1.ct) (mtF := N1.mt) (ptF := N1.pt) (F0 := N1.F0) tabOk N1.ct_ok N1.mt_ok N1.pt_ok mixed 10 _ [71, 4] [.cell 2 71, .tmp 3] Tryz.func80 rfl rfl rfl rfl rfl ?_
  intro O r F hO hr hF
  cbv
  repeat' first | refine And.intro ?_ ?_ | (refine caseB_intro (fun hb => ?_) (fun hb => ?_) <;> cbv)
  all_goals ((try subst hos); subst hO hr hF; (try simp only [stdO, SS, sub_all, ad_zero] at *); (try simp only [ncast] at *); (try simp only [Int.ofNat_eq_natCast] at *))
  all_goals (try simp only [N1.F0] at *)
  all_goals first
    | (show (_ : List DV) = _
       first
         | (have w := qn_no (‹inR q 0 500 = false›); exact rq_eq w.symm (by symm; assumption))
         | (have w := qn_yes (‹inR q 0 500 = true›); exact rq_eq w.symm (by symm; assumption))
         | done)
    | (show okOrder _ _ = true; kernel_rfl)
    | exact ⟨True.intro, True.intro⟩
    | trivial
    | trace_state
theorem c_spec_QuarNew (q : Int) (hp : True) : Ctr Tryz.prog 76 [.one (.v (.int .i64 q))] [.agg [.v (.int .i64 (qnR q)), .s 3 []], .one (.v (.bool (inR q 0 500)))] := by
  refine ctr_of (ctF := N1.ct) (mtF := N1.mt) (ptF := N1.pt) (F0 := N1.F0) tabOk N1.ct_ok N1.mt_ok N1.pt_ok mixed 10 _ [71, 4] [.cell 2 71, .tmp 3] Tryz.func76 rfl rfl rfl rfl rfl ?_
  intro O r F hO hr hF
  cbv
  repeat' first | refine And.intro ?_ ?_ | (refine caseB_intro (fun hb => ?_) (fun hb => ?_) <;> cbv)
  all_goals ((try subst hos); subst hO hr hF; (try simp only [stdO, SS, sub_all, ad_zero] at *); (try simp only [ncast] at *); (try simp only [Int.ofNat_eq_natCast] at *))
  all_goals (try simp only [N1.F0] at *)
  all_goals first
    | (show (_ : List DV) = _
       first
         | (have w := qn_no (‹inR q 0 500 = false›); exact rq_eq w.symm (by symm; assumption))
         | (have w := qn_yes (‹inR q 0 500 = true›); exact rq_eq w.symm (by symm; assumption))
         | done)
    | (show okOrder _ _ = true; kernel_rfl)
    | exact ⟨True.intro, True.intro⟩
    | trivial
    | trace_state
namespace N0
structure Fns where
  no : Unit
def F0 : Fns := ⟨()⟩
def ct : Fns → CT := noC
theorem ct_ok : CTok Tryz.prog (ct F0) := noC_ok
def mt : Fns → MT := noMT
theorem mt_ok : MTok Tryz.prog (mt F0) := noMT_ok
def pt : Fns → PT := noPT
theorem pt_ok : PTok Tryz.prog (pt F0) := noPT_ok
end N0
theorem c_impl_CacheNew (hp : True) : Ctr Tryz.prog 81 [] [.agg [.s 1 (cnL)]] := by
  refine ctr_of (ctF := N0.ct) (mtF := N0.mt) (ptF := N0.pt) (F0 := N0.F0) tabOk N0.ct_ok N0.mt_ok N0.pt_ok mixed 3 _ [154] [.cell 0 154] Tryz.func81 rfl rfl rfl rfl rfl ?_
  intro O r F hO hr hF
  cbv
  repeat' first | refine And.intro ?_ ?_ | (refine caseB_intro (fun hb => ?_) (fun hb => ?_) <;> cbv)
  all_goals ((try subst hos); subst hO hr hF; (try simp only [stdO, SS, sub_all, ad_zero] at *); (try simp only [ncast] at *); (try simp only [Int.ofNat_eq_natCast] at *))
  all_goals first
    | exact True.intro
    | exact ⟨True.intro, True.intro⟩
    | omega
    | (show okOrder _ _ = true; kernel_rfl)
    | exact rfl
    | trace_state
theorem c_spec_CacheNew (hp : True) : Ctr Tryz.prog 75 [] [.agg [.s 1 (cnL)]] := by
  refine ctr_of (ctF := N0.ct) (mtF := N0.mt) (ptF := N0.pt) (F0 := N0.F0) tabOk N0.ct_ok N0.mt_ok N0.pt_ok mixed 3 _ [154] [.cell 0 154] Tryz.func75 rfl rfl rfl rfl rfl ?_
  intro O r F hO hr hF
  cbv
  repeat' first | refine And.intro ?_ ?_ | (refine caseB_intro (fun hb => ?_) (fun hb => ?_) <;> cbv)
  all_goals ((try subst hos); subst hO hr hF; (try simp only [stdO, SS, sub_all, ad_zero] at *); (try simp only [ncast] at *); (try simp only [Int.ofNat_eq_natCast] at *))
  all_goals first
    | exact True.intro
    | exact ⟨True.intro, True.intro⟩
    | omega
    | (show okOrder _ _ = true; kernel_rfl)
    | exact rfl
    | trace_state
theorem c_impl_RefNew (hp : True) : Ctr Tryz.prog 95 [] [.agg [.v (.int .i64 1), .s 2 []]] := by
  refine ctr_of (ctF := N0.ct) (mtF := N0.mt) (ptF := N0.pt) (F0 := N0.F0) tabOk N0.ct_ok N0.mt_ok N0.pt_ok mixed 2 _ [96] [.cell 0 96] Tryz.func95 rfl rfl rfl rfl rfl ?_
  intro O r F hO hr hF
  cbv
  repeat' first | refine And.intro ?_ ?_ | (refine caseB_intro (fun hb => ?_) (fun hb => ?_) <;> cbv)
  all_goals ((try subst hos); subst hO hr hF; (try simp only [stdO, SS, sub_all, ad_zero] at *); (try simp only [ncast] at *); (try simp only [Int.ofNat_eq_natCast] at *))
  all_goals first
    | exact True.intro
    | exact ⟨True.intro, True.intro⟩
    | (show okOrder _ _ = true; kernel_rfl)
    | exact rfl
    | trace_state
theorem c_spec_RefNew (hp : True) : Ctr Tryz.prog 94 [] [.agg [.v (.int .i64 1), .s 2 []]] := by
  refine ctr_of (ctF := N0.ct) (mtF := N0.mt) (ptF := N0.pt) (F0 := N0.F0) tabOk N0.ct_ok N0.mt_ok N0.pt_ok mixed 2 _ [96] [.cell 0 96] Tryz.func94 rfl rfl rfl rfl rfl ?_
  intro O r F hO hr hF
  cbv
  repeat' first | refine And.intro ?_ ?_ | (refine caseB_intro (fun hb => ?_) (fun hb => ?_) <;> cbv)
  all_goals ((try subst hos); subst hO hr hF; (try simp only [stdO, SS, sub_all, ad_zero] at *); (try simp only [ncast] at *); (try simp only [Int.ofNat_eq_natCast] at *))
  all_goals first
    | exact True.intro
    | exact ⟨True.intro, True.intro⟩
    | (show okOrder _ _ = true; kernel_rfl)
    | exact rfl
    | trace_state

end Go.V
