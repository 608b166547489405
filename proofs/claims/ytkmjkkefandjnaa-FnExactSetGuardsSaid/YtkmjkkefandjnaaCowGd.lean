/-
  Contracts of functions, by evaluation of conditions on their code.
-/
import Derived.Test.YtkmjkkefandjnaaS4
import Derived.Test.YtkmjkkefandjnaaH6
import Derived.Test.YtkmjkkefandjnaaCowFd

set_option linter.all false
namespace Go.V
open Go Go.Proofs
set_option maxRecDepth 1000000
set_option maxHeartbeats 8000000
namespace G1
structure Fns where
  clsOf : Int → Int
  clsSz : Int → Int
  inR : Int → Int → Int → Bool
def F0 : Fns := ⟨clsOf, clsSz, inR⟩
def ct (F : Fns) : CT := fun f ds => match f, ds with
  | 118, [.one (.v (.int .i64 s))] => some (fun _ => True, [.one (.v (.int .i64 (F.clsOf s)))])
  | 119, [.one (.v (.int .i64 k))] => some (fun _ => True, [.one (.v (.int .i64 (F.clsSz k)))])
  | 51, [.one (.v (.int .i64 x)), .one (.v (.int .i64 a)), .one (.v (.int .i64 b))] => some (fun _ => True, [.one (.v (.bool (F.inR x a b)))])
  | 116, [.one (.v (.int .i64 s))] => some (fun _ => True, [.one (.v (.int .i64 (F.clsOf s)))])
  | 117, [.one (.v (.int .i64 k))] => some (fun _ => True, [.one (.v (.int .i64 (F.clsSz k)))])
  | 63, [.one (.v (.int .i64 x)), .one (.v (.int .i64 a)), .one (.v (.int .i64 b))] => some (fun _ => True, [.one (.v (.bool (F.inR x a b)))])
  | _, _ => none
theorem ct_ok : CTok Try.prog (ct F0) := by
  intro f ds pre res h hp
  unfold ct at h
  split at h
  · cases h; exact c_impl_ClassOf _ hp
  · cases h; exact c_impl_ClassSize _ hp
  · cases h; exact c_impl_between _ _ _ hp
  · cases h; exact c_spec_ClassOf _ hp
  · cases h; exact c_spec_ClassSize _ hp
  · cases h; exact c_spec_l01In _ _ _ hp
  · cases h
def mt : Fns → MT := noMT
theorem mt_ok : MTok Try.prog (mt F0) := noMT_ok
def pt : Fns → PT := noPT
theorem pt_ok : PTok Try.prog (pt F0) := noPT_ok
end G1
theorem c_impl_GuardCells (a s : Int) (hp : True) : Ctr Try.prog 90 [.one (.v (.int .i64 a)), .one (.v (.int .i64 s))] [.one (.s 1 (gdC a s))] := by
  refine ctr_of (ctF := G1.ct) (mtF := G1.mt) (ptF := G1.pt) (F0 := G1.F0) tabOk G1.ct_ok G1.mt_ok G1.pt_ok mixed 39 _ [42] [.tmp 4] Try.func90 rfl rfl rfl rfl rfl ?_
  intro O r F hO hr hF
  cbv
  repeat' first | refine And.intro ?_ ?_ | (refine caseB_intro (fun hb => ?_) (fun hb => ?_) <;> cbv) | (refine ⟨[0, 5, 6, 7], [6], Int × List (List L), fun s_ => match s_ with | (i, out) => [.reg 7 (.one (.v (.int .i64 i))), .reg 6 (.one (.vw 6 0 0 0 (O.ln out))), .leaf 6 0 ⟨0, 0, none, .own (.s 1 out)⟩], fun s_ => match s_ with | (i, out) => s ≤ i ∧ i ≤ clsSz (clsOf s) ∧ out = gdN a s (i - s).toNat, fun s_ => match s_ with | (i, out) => (clsSz (clsOf s) - i).toNat, ⟨(s, []), ?_, ?_⟩, ?_⟩; rotate_left; (focus (cbv; done)); intro s_ hi; obtain ⟨i, out⟩ := s_; replace hi : s ≤ i ∧ i ≤ clsSz (clsOf s) ∧ out = gdN a s (i - s).toNat := hi; obtain ⟨i0, i1, i2⟩ := hi; cbv) | (refine loop_step (O.ar .add .i64 i 1, O.cat out (O.sub [[.v (.int .i64 (O.ar .add .i64 a i))]] 0 (O.ln [[.v (.int .i64 (O.ar .add .i64 a i))]]))) ?_ ?_ ?_; rotate_left 2; focus (cbv; done))
  all_goals ((try subst hos); subst hO hr hF; (try simp only [stdO, SS, sub_all, ad_zero] at *); (try simp only [ncast] at *); (try simp only [Int.ofNat_eq_natCast] at *))
  all_goals (try simp only [G1.F0] at *)
  all_goals try (have hcb := cl_bd (s := s) (by omega); have ha := inR_t.1 (‹inR a 0 511 = true›); have hrm : arI .rem .i64 a (clsSz (clsOf s)) = a % clsSz (clsOf s) := rem64 (by omega); simp only [hrm] at *)
  all_goals try (have hcb := cl_bd (s := s) (by omega))
  all_goals try (have hai : arI .add .i64 a i = a + i := add64 (by omega); simp only [hai] at *)
  all_goals try (have hol : out.length = (i - s).toNat := (by rw [i2]; exact gdN_len))
  all_goals (try rw [up64 (i := i) (by omega) (by omega)])
  all_goals first
    | exact ⟨trivial, trivial⟩
    | exact row_eq (gd_no (by rintro ⟨q, _, _⟩; omega)).symm
    | exact row_eq (gd_no (by rintro ⟨_, q, _⟩; rw [q] at hb; cases hb)).symm
    | exact row_eq (gd_no (by rintro ⟨_, _, q⟩; exact hb q)).symm
    | omega
    | (simp [scalRecs, scalRec, scal]; done)
    | (simp only [List.length_cons, List.length_nil]; omega)
    | (rw [gdN_up i0, ← i2])
    | (rw [show i - i = 0 by omega]; exact rfl)
    | (rw [show s - s = 0 by omega]; exact rfl)
    | exact row_eq (by rw [gd_yes (by assumption) (by assumption) (by assumption), i2, show i = clsSz (clsOf s) by omega])
    | trivial
    | exact rfl
    | trace_state
theorem c_spec_GuardCells (a s : Int) (hp : True) : Ctr Try.prog 88 [.one (.v (.int .i64 a)), .one (.v (.int .i64 s))] [.one (.s 1 (gdC a s))] := by
  refine ctr_of (ctF := G1.ct) (mtF := G1.mt) (ptF := G1.pt) (F0 := G1.F0) tabOk G1.ct_ok G1.mt_ok G1.pt_ok mixed 40 _ [42] [.tmp 4] Try.func88 rfl rfl rfl rfl rfl ?_
  intro O r F hO hr hF
  cbv
  repeat' first | refine And.intro ?_ ?_ | (refine caseB_intro (fun hb => ?_) (fun hb => ?_) <;> cbv) | (refine ⟨[0, 5, 6, 7], [5], Int × List (List L), fun s_ => match s_ with | (i, out) => [.reg 7 (.one (.v (.int .i64 i))), .reg 5 (.one (.vw 5 0 0 0 (O.ln out))), .leaf 5 0 ⟨0, 0, none, .own (.s 1 out)⟩], fun s_ => match s_ with | (i, out) => s ≤ i ∧ i ≤ clsSz (clsOf s) ∧ out = gdN a s (i - s).toNat, fun s_ => match s_ with | (i, out) => (clsSz (clsOf s) - i).toNat, ⟨(s, []), ?_, ?_⟩, ?_⟩; rotate_left; (focus (cbv; done)); intro s_ hi; obtain ⟨i, out⟩ := s_; replace hi : s ≤ i ∧ i ≤ clsSz (clsOf s) ∧ out = gdN a s (i - s).toNat := hi; obtain ⟨i0, i1, i2⟩ := hi; cbv) | (refine loop_step (O.ar .add .i64 i 1, O.cat out (O.sub [[.v (.int .i64 (O.ar .add .i64 a i))]] 0 (O.ln [[.v (.int .i64 (O.ar .add .i64 a i))]]))) ?_ ?_ ?_; rotate_left 2; focus (cbv; done))
  all_goals ((try subst hos); subst hO hr hF; (try simp only [stdO, SS, sub_all, ad_zero] at *); (try simp only [ncast] at *); (try simp only [Int.ofNat_eq_natCast] at *))
  all_goals (try simp only [G1.F0] at *)
  all_goals try (have hcb := cl_bd (s := s) (by omega); have ha := inR_t.1 (‹inR a 0 511 = true›); have hrm : arI .rem .i64 a (clsSz (clsOf s)) = a % clsSz (clsOf s) := rem64 (by omega); simp only [hrm] at *)
  all_goals try (have hcb := cl_bd (s := s) (by omega))
  all_goals try (have hai : arI .add .i64 a i = a + i := add64 (by omega); simp only [hai] at *)
  all_goals try (have hol : out.length = (i - s).toNat := (by rw [i2]; exact gdN_len))
  all_goals (try rw [up64 (i := i) (by omega) (by omega)])
  all_goals first
    | exact ⟨trivial, trivial⟩
    | exact row_eq (gd_no (by rintro ⟨q, _, _⟩; omega)).symm
    | exact row_eq (gd_no (by rintro ⟨_, q, _⟩; rw [q] at hb; cases hb)).symm
    | exact row_eq (gd_no (by rintro ⟨_, _, q⟩; exact hb q)).symm
    | omega
    | (simp [scalRecs, scalRec, scal]; done)
    | (simp only [List.length_cons, List.length_nil]; omega)
    | (rw [gdN_up i0, ← i2])
    | (rw [show i - i = 0 by omega]; exact rfl)
    | (rw [show s - s = 0 by omega]; exact rfl)
    | exact row_eq (by rw [gd_yes (by assumption) (by assumption) (by assumption), i2, show i = clsSz (clsOf s) by omega])
    | trivial
    | exact rfl
    | trace_state
namespace G2
structure Fns where
  gdC : Int → Int → List (List L)
  stC : List (List L) → List (List L) → List (List L) → Int → Int → List (List L)
  stK : List (List L) → List (List L) → List (List L) → Int → Int → Int
def F0 : Fns := ⟨gdC, stC, stK⟩
def ct (F : Fns) : CT := fun f ds => match f, ds with
  | 89, [.agg [.s 1 cs, .s 1 us, .s 2 es]] => some (fun _ => Rw [.sl [tI]] cs ∧ Rw [tB] us ∧ Rw [tI, tI] es ∧ cntE cs ≤ 1099511627776 ∧ cntE us ≤ 1099511627776 ∧ cntE es ≤ 1099511627776, [.agg [.s 1 cs, .s 1 us, .s 2 es]])
  | 90, [.one (.v (.int .i64 a)), .one (.v (.int .i64 s))] => some (fun _ => True, [.one (.s 1 (F.gdC a s))])
  | 91, [.agg [.s 1 cs, .s 1 us, .s 2 es], .one (.v (.int .i64 a)), .one (.v (.int .i64 v))] => some (fun _ => Rw [.sl [tI]] cs ∧ Rw [tB] us ∧ Rw [tI, tI] es ∧ cntE cs ≤ 1099511627776 ∧ cntE us ≤ 1099511627776 ∧ cntE es ≤ 1099511627776 ∧ (-9223372036854775808 ≤ a ∧ a ≤ 9223372036854775807), [.agg [.s 1 (F.stC cs us es a v), .s 1 us, .s 2 es], .one (.v (.int .i64 (F.stK cs us es a v)))])
  | 61, [.agg [.s 1 cs, .s 1 us, .s 2 es]] => some (fun _ => Rw [.sl [tI]] cs ∧ Rw [tB] us ∧ Rw [tI, tI] es ∧ cntE cs ≤ 1099511627776 ∧ cntE us ≤ 1099511627776 ∧ cntE es ≤ 1099511627776, [.agg [.s 1 cs, .s 1 us, .s 2 es]])
  | 88, [.one (.v (.int .i64 a)), .one (.v (.int .i64 s))] => some (fun _ => True, [.one (.s 1 (F.gdC a s))])
  | 20, [.agg [.s 1 cs, .s 1 us, .s 2 es], .one (.v (.int .i64 a)), .one (.v (.int .i64 v))] => some (fun _ => Rw [.sl [tI]] cs ∧ Rw [tB] us ∧ Rw [tI, tI] es ∧ cntE cs ≤ 1099511627776 ∧ cntE us ≤ 1099511627776 ∧ cntE es ≤ 1099511627776 ∧ (-9223372036854775808 ≤ a ∧ a ≤ 9223372036854775807), [.agg [.s 1 (F.stC cs us es a v), .s 1 us, .s 2 es], .one (.v (.int .i64 (F.stK cs us es a v)))])
  | _, _ => none
theorem ct_ok : CTok Try.prog (ct F0) := by
  intro f ds pre res h hp
  unfold ct at h
  split at h
  · cases h; exact c_impl_copyMachine _ _ _ hp
  · cases h; exact c_impl_GuardCells _ _ hp
  · cases h; exact c_impl_Store _ _ _ _ _ hp
  · cases h; exact c_spec_l07Copy _ _ _ hp
  · cases h; exact c_spec_GuardCells _ _ hp
  · cases h; exact c_spec_Store _ _ _ _ _ hp
  · cases h
def mt : Fns → MT := noMT
theorem mt_ok : MTok Try.prog (mt F0) := noMT_ok
def pt : Fns → PT := noPT
theorem pt_ok : PTok Try.prog (pt F0) := noPT_ok
end G2
theorem c_impl_SetGuards (cs us es : List (List L)) (a s : Int) (hp : Rw [.sl [tI]] cs ∧ Rw [tB] us ∧ Rw [tI, tI] es ∧ cntE cs ≤ 1099511627776 ∧ cntE us ≤ 1099511627776 ∧ cntE es ≤ 1099511627776) : Ctr Try.prog 44 [.agg [.s 1 cs, .s 1 us, .s 2 es], .one (.v (.int .i64 a)), .one (.v (.int .i64 s))] [.agg [.s 1 (sgC cs us es (gdC a s)), .s 1 us, .s 2 es], .one (.v (.bool (sgB cs us es (gdC a s))))] := by
  obtain ⟨hc, hu, he, hn, hm, hk⟩ := hp
  obtain ⟨hgr, hgl⟩ := gd_ok (a := a) (s := s)
  refine ctr_of (ctF := G2.ct) (mtF := G2.mt) (ptF := G2.pt) (F0 := G2.F0) tabOk G2.ct_ok G2.mt_ok G2.pt_ok mixed 36 _ [32, 4] [.cell 6 32, .tmp 7] Try.func44 rfl rfl rfl rfl rfl ?_
  intro O r F hO hr hF
  cbv
  repeat' first | refine And.intro ?_ ?_ | (refine caseB_intro (fun hb => ?_) (fun hb => ?_) <;> cbv) | (refine ⟨[3, 6, 8, 17, 18, 19], [3, 6, 8, 17], Int × List (List L), fun s_ => match s_ with | (i, c) => [.reg 19 (.one (.v (.int .i64 i))), .leaf 8 0 ⟨0, 0, none, .own (.s 1 c)⟩, .leaf 8 1 ⟨0, 0, none, .own (.s 1 us)⟩, .leaf 8 2 ⟨0, 0, none, .own (.s 2 es)⟩], fun s_ => match s_ with | (i, c) => 0 ≤ i ∧ i ≤ ((gdC a s).length : Int) ∧ c = sgR cs us es (gdC a s) i.toNat ∧ upto (sgIn cs us es (gdC a s)) i, fun s_ => match s_ with | (i, c) => (gdC a s).length - i.toNat, ⟨(0, cs), ?_, ?_⟩, ?_⟩; rotate_left; (focus (cbv; done)); intro s_ hi; obtain ⟨i, c⟩ := s_; replace hi : 0 ≤ i ∧ i ≤ ((gdC a s).length : Int) ∧ c = sgR cs us es (gdC a s) i.toNat ∧ upto (sgIn cs us es (gdC a s)) i := hi; obtain ⟨i0, i1, i2, i3⟩ := hi; cbv) | (refine loop_step (O.ar .add .i64 i 1, F.stC c us es (O.pi (.s 1 (F.gdC a s)) [(O.ad 0 i, 0)]) 777) ?_ ?_ ?_; rotate_left 2; focus (cbv; subst hO; simp only [stdO, SS, sub_all, and_self]; done))
  all_goals ((try subst hos); subst hO hr hF; (try simp only [stdO, SS, sub_all, ad_zero] at *); (try simp only [ncast] at *); (try simp only [Int.ofNat_eq_natCast] at *))
  all_goals (try simp only [G2.F0] at *)
  all_goals try (have hcr := sgR_ok (us := us) (es := es) (l := gdC a s) hc (n := i.toNat); rw [← i2] at hcr)
  all_goals try (have hpr := pi_row (l := gdC a s) (i := i) i0; simp only [hpr] at *)
  all_goals try (have hgs := gd_ok (a := a) (s := s))
  all_goals try rw [up64 (by omega) (by omega)]
  all_goals first
    | (show (_ : List DV) = _
       first
         | (have q := sg_no (cs := cs) (us := us) (es := es) (l := gdC a s) i0 (by assumption) (by rw [← i2]; assumption); exact mw_eq q.2.symm rfl rfl q.1.symm)
         | (have q := sg_yes (cs := cs) (us := us) (es := es) (l := gdC a s) i3 i1 (by omega); exact mw_eq (i2.trans q.2.symm) rfl rfl q.1.symm)
         | done)
    | (show (_ : List (List L)) = _
       first
         | (rw [sgR_up i0, ← i2]; done)
         | (with_reducible rfl)
         | exact (rfl : cs = sgR cs us es (gdC a s) 0)
         | done)
    | omega
    | (show okOrder _ _ = true; kernel_rfl)
    | (refine ⟨by omega, by omega, Eq.trans (Rw.eta (fs := _) (by (first | assumption | exact Rw.sub (by first | assumption | exact Rw.sub (by assumption) (by omega) rfl) (by omega) rfl)) (by omega) (by omega)) ?_⟩; rfl)
    | exact upto_z
    | exact get_int hgr i0 (by assumption)
    | exact ⟨hc, hu, he, hn, hm, hk⟩
    | exact ⟨hcr.1, hu, he, by omega, hm, hk, gi_has hgr i0 (by assumption)⟩
    | exact upto_s i3 (sg_in (by rw [← i2]; assumption))
    | exact ⟨trivial, trivial⟩
    | trivial
    | trace_state
theorem c_spec_SetGuards (cs us es : List (List L)) (a s : Int) (hp : Rw [.sl [tI]] cs ∧ Rw [tB] us ∧ Rw [tI, tI] es ∧ cntE cs ≤ 1099511627776 ∧ cntE us ≤ 1099511627776 ∧ cntE es ≤ 1099511627776) : Ctr Try.prog 43 [.agg [.s 1 cs, .s 1 us, .s 2 es], .one (.v (.int .i64 a)), .one (.v (.int .i64 s))] [.agg [.s 1 (sgC cs us es (gdC a s)), .s 1 us, .s 2 es], .one (.v (.bool (sgB cs us es (gdC a s))))] := by
  obtain ⟨hc, hu, he, hn, hm, hk⟩ := hp
  obtain ⟨hgr, hgl⟩ := gd_ok (a := a) (s := s)
  refine ctr_of (ctF := G2.ct) (mtF := G2.mt) (ptF := G2.pt) (F0 := G2.F0) tabOk G2.ct_ok G2.mt_ok G2.pt_ok mixed 39 _ [32, 4] [.cell 6 32, .tmp 7] Try.func43 rfl rfl rfl rfl rfl ?_
  intro O r F hO hr hF
  cbv
  repeat' first | refine And.intro ?_ ?_ | (refine caseB_intro (fun hb => ?_) (fun hb => ?_) <;> cbv) | (refine ⟨[3, 6, 8, 9, 10], [3, 6, 8, 9], Int × List (List L), fun s_ => match s_ with | (i, c) => [.reg 10 (.one (.v (.int .i64 i))), .leaf 8 0 ⟨0, 0, none, .own (.s 1 c)⟩, .leaf 8 1 ⟨0, 0, none, .own (.s 1 us)⟩, .leaf 8 2 ⟨0, 0, none, .own (.s 2 es)⟩], fun s_ => match s_ with | (i, c) => 0 ≤ i ∧ i ≤ ((gdC a s).length : Int) ∧ c = sgR cs us es (gdC a s) i.toNat ∧ upto (sgIn cs us es (gdC a s)) i, fun s_ => match s_ with | (i, c) => (gdC a s).length - i.toNat, ⟨(0, cs), ?_, ?_⟩, ?_⟩; rotate_left; (focus (cbv; done)); intro s_ hi; obtain ⟨i, c⟩ := s_; replace hi : 0 ≤ i ∧ i ≤ ((gdC a s).length : Int) ∧ c = sgR cs us es (gdC a s) i.toNat ∧ upto (sgIn cs us es (gdC a s)) i := hi; obtain ⟨i0, i1, i2, i3⟩ := hi; cbv) | (refine loop_step (O.ar .add .i64 i 1, F.stC c us es (O.pi (.s 1 (F.gdC a s)) [(O.ad 0 i, 0)]) 777) ?_ ?_ ?_; rotate_left 2; focus (cbv; subst hO; simp only [stdO, SS, sub_all, and_self]; done))
  all_goals ((try subst hos); subst hO hr hF; (try simp only [stdO, SS, sub_all, ad_zero] at *); (try simp only [ncast] at *); (try simp only [Int.ofNat_eq_natCast] at *))
  all_goals (try simp only [G2.F0] at *)
  all_goals try (have hcr := sgR_ok (us := us) (es := es) (l := gdC a s) hc (n := i.toNat); rw [← i2] at hcr)
  all_goals try (have hpr := pi_row (l := gdC a s) (i := i) i0; simp only [hpr] at *)
  all_goals try (have hgs := gd_ok (a := a) (s := s))
  all_goals try rw [up64 (by omega) (by omega)]
  all_goals first
    | (show (_ : List DV) = _
       first
         | (have q := sg_no (cs := cs) (us := us) (es := es) (l := gdC a s) i0 (by assumption) (by rw [← i2]; assumption); exact mw_eq q.2.symm rfl rfl q.1.symm)
         | (have q := sg_yes (cs := cs) (us := us) (es := es) (l := gdC a s) i3 i1 (by omega); exact mw_eq (i2.trans q.2.symm) rfl rfl q.1.symm)
         | done)
    | (show (_ : List (List L)) = _
       first
         | (rw [sgR_up i0, ← i2]; done)
         | (with_reducible rfl)
         | exact (rfl : cs = sgR cs us es (gdC a s) 0)
         | done)
    | omega
    | (show okOrder _ _ = true; kernel_rfl)
    | (refine ⟨by omega, by omega, Eq.trans (Rw.eta (fs := _) (by (first | assumption | exact Rw.sub (by first | assumption | exact Rw.sub (by assumption) (by omega) rfl) (by omega) rfl)) (by omega) (by omega)) ?_⟩; rfl)
    | exact upto_z
    | exact get_int hgr i0 (by assumption)
    | exact ⟨hc, hu, he, hn, hm, hk⟩
    | exact ⟨hcr.1, hu, he, by omega, hm, hk, gi_has hgr i0 (by assumption)⟩
    | exact upto_s i3 (sg_in (by rw [← i2]; assumption))
    | exact ⟨trivial, trivial⟩
    | trivial
    | trace_state

end Go.V
