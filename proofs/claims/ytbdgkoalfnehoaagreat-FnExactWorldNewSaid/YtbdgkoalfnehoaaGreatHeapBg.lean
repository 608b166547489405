/-
  Contracts of functions, by evaluation of conditions on their code.
-/
import Derived.Test.YtbdgkoalfnehoaaGreatS6
import Derived.Test.YtbdgkoalfnehoaaGreatH10
import Derived.Test.YtbdgkoalfnehoaaGreatHeapAg

set_option linter.all false
namespace Go.V
open Go Go.Proofs
set_option maxRecDepth 1000000
set_option maxHeartbeats 8000000
namespace B0
structure Fns where
  no : Unit
def F0 : Fns := ⟨()⟩
def ct : Fns → CT := noC
theorem ct_ok : CTok Tryz.prog (ct F0) := noC_ok
def mt : Fns → MT := noMT
theorem mt_ok : MTok Tryz.prog (mt F0) := noMT_ok
def pt : Fns → PT := noPT
theorem pt_ok : PTok Tryz.prog (pt F0) := noPT_ok
end B0
theorem c_impl_PagesOn (es : List (List L)) (f : Int) (hp : Rw [tI, tI] es ∧ es.length ≤ 1099511627776) : Ctr Tryz.prog 55 [.agg [.s 2 es], .one (.v (.int .i64 f))] [.one (.s 1 (pagesOn es f))] := by
  obtain ⟨hw, hlen⟩ := hp
  refine ctr_of (ctF := B0.ct) (mtF := B0.mt) (ptF := B0.pt) (F0 := B0.F0) tabOk B0.ct_ok B0.mt_ok B0.pt_ok mixed 32 _ [31] [.tmp 4] Tryz.func55 rfl rfl rfl rfl rfl ?_
  intro O r F hO hr hF
  cbv
  repeat' first | refine And.intro ?_ ?_ | (refine caseB_intro (fun hb => ?_) (fun hb => ?_) <;> cbv) | (refine ⟨[1, 5, 10, 11, 12], [5], Int × List (List L), fun s_ => match s_ with | (i, out) => [.reg 12 (.one (.v (.int .i64 i))), .reg 5 (.one (.vw 5 0 0 0 (O.ln out))), .leaf 5 0 ⟨0, 0, none, .own (.s 1 out)⟩], fun s_ => match s_ with | (i, out) => 0 ≤ i ∧ i ≤ (es.length : Int) ∧ out = pgN es f i.toNat, fun s_ => match s_ with | (i, out) => es.length - i.toNat, ⟨(0, []), ?_, ?_⟩, ?_⟩; rotate_left; (focus (cbv; done)); intro s_ hi; obtain ⟨i, out⟩ := s_; replace hi : 0 ≤ i ∧ i ≤ (es.length : Int) ∧ out = pgN es f i.toNat := hi; obtain ⟨i0, i1, i2⟩ := hi; cbv) | (refine loop_step (O.ar .add .i64 i 1, O.cat out (O.sub [[.v (.int .i64 i)]] 0 (O.ln [[.v (.int .i64 i)]]))) ?_ ?_ ?_; rotate_left 2; focus (cbv; done)) | (refine loop_step (O.ar .add .i64 i 1, out) ?_ ?_ ?_; rotate_left 2; focus (cbv; done))
  all_goals ((try subst hos); subst hO hr hF; (try simp only [stdO, SS, sub_all, ad_zero] at *); (try simp only [ncast] at *); (try simp only [Int.ofNat_eq_natCast] at *))
  all_goals try rw [up64 (by omega) (by omega)]
  all_goals try (have hpl := pgN_len (es := es) (f := f) (n := i.toNat); rw [← i2] at hpl)
  all_goals first
    | omega
    | (refine ⟨by omega, by omega, Eq.trans (Rw.eta (fs := _) (by (first | assumption | exact Rw.sub (by first | assumption | exact Rw.sub (by assumption) (by omega) rfl) (by omega) rfl)) (by omega) (by omega)) ?_⟩; rfl)
    | contradiction
    | (exact ⟨trivial, trivial⟩)
    | rfl
    | (simp [scalRecs, scalRec, scal]; done)
    | (simp only [List.length_cons, List.length_nil]; omega)
    | (rw [pgI_yes i0 (by assumption) (by assumption), ← i2])
    | (rw [pgI_no i0 (.inl (by assumption)), ← i2])
    | (rw [pgI_no i0 (.inr (by assumption)), ← i2])
    | exact row_eq (by rw [i2, show i.toNat = es.length from by omega]; rfl)
    | trace_state
theorem c_spec_PagesOn (es : List (List L)) (f : Int) (hp : Rw [tI, tI] es ∧ es.length ≤ 1099511627776) : Ctr Tryz.prog 44 [.agg [.s 2 es], .one (.v (.int .i64 f))] [.one (.s 1 (pagesOn es f))] := by
  obtain ⟨hw, hlen⟩ := hp
  refine ctr_of (ctF := B0.ct) (mtF := B0.mt) (ptF := B0.pt) (F0 := B0.F0) tabOk B0.ct_ok B0.mt_ok B0.pt_ok mixed 37 _ [31] [.tmp 4] Tryz.func44 rfl rfl rfl rfl rfl ?_
  intro O r F hO hr hF
  cbv
  repeat' first | refine And.intro ?_ ?_ | (refine caseB_intro (fun hb => ?_) (fun hb => ?_) <;> cbv) | (refine ⟨[1, 2, 5, 6], [2, 5], Int × List (List L), fun s_ => match s_ with | (i, out) => [.reg 6 (.one (.v (.int .i64 i))), .reg 5 (.one (.vw 5 0 0 0 (O.ln out))), .leaf 5 0 ⟨0, 0, none, .own (.s 1 out)⟩], fun s_ => match s_ with | (i, out) => 0 ≤ i ∧ i ≤ (es.length : Int) ∧ out = pgN es f i.toNat, fun s_ => match s_ with | (i, out) => es.length - i.toNat, ⟨(0, []), ?_, ?_⟩, ?_⟩; rotate_left; (focus (cbv; done)); intro s_ hi; obtain ⟨i, out⟩ := s_; replace hi : 0 ≤ i ∧ i ≤ (es.length : Int) ∧ out = pgN es f i.toNat := hi; obtain ⟨i0, i1, i2⟩ := hi; cbv) | (refine loop_step (O.ar .add .i64 i 1, O.cat out (O.sub [[.v (.int .i64 i)]] 0 (O.ln [[.v (.int .i64 i)]]))) ?_ ?_ ?_; rotate_left 2; focus (cbv; done)) | (refine loop_step (O.ar .add .i64 i 1, out) ?_ ?_ ?_; rotate_left 2; focus (cbv; done))
  all_goals ((try subst hos); subst hO hr hF; (try simp only [stdO, SS, sub_all, ad_zero] at *); (try simp only [ncast] at *); (try simp only [Int.ofNat_eq_natCast] at *))
  all_goals try rw [up64 (by omega) (by omega)]
  all_goals try (have hpl := pgN_len (es := es) (f := f) (n := i.toNat); rw [← i2] at hpl)
  all_goals first
    | omega
    | (refine ⟨by omega, by omega, Eq.trans (Rw.eta (fs := _) (by (first | assumption | exact Rw.sub (by first | assumption | exact Rw.sub (by assumption) (by omega) rfl) (by omega) rfl)) (by omega) (by omega)) ?_⟩; rfl)
    | contradiction
    | (exact ⟨trivial, trivial⟩)
    | rfl
    | (simp [scalRecs, scalRec, scal]; done)
    | (simp only [List.length_cons, List.length_nil]; omega)
    | (rw [pgI_yes i0 (by assumption) (by assumption), ← i2])
    | (rw [pgI_no i0 (.inl (by assumption)), ← i2])
    | (rw [pgI_no i0 (.inr (by assumption)), ← i2])
    | exact row_eq (by rw [i2, show i.toNat = es.length from by omega]; rfl)
    | trace_state
namespace B1
structure Fns where
  inR : Int → Int → Int → Bool
def F0 : Fns := ⟨inR⟩
def ct (F : Fns) : CT := fun f ds => match f with
  | 79 => match ds with
    | [.one (.v (.int .i64 x)), .one (.v (.int .i64 a)), .one (.v (.int .i64 b))] => some (fun _ => True, [.one (.v (.bool (F.inR x a b)))])
    | _ => none
  | 74 => match ds with
    | [.one (.v (.int .i64 x)), .one (.v (.int .i64 a)), .one (.v (.int .i64 b))] => some (fun _ => True, [.one (.v (.bool (F.inR x a b)))])
    | _ => none
  | _ => none
theorem ct_ok : CTok Tryz.prog (ct F0) := by
  intro f ds pre res h hp
  unfold ct at h
  split at h
  · split at h
    · cases h; exact c_impl_between _ _ _ hp
    · cases h
  · split at h
    · cases h; exact c_spec_l01In _ _ _ hp
    · cases h
  · cases h
def mt : Fns → MT := noMT
theorem mt_ok : MTok Tryz.prog (mt F0) := noMT_ok
def pt : Fns → PT := noPT
theorem pt_ok : PTok Tryz.prog (pt F0) := noPT_ok
end B1
theorem c_impl_PageEntry (es : List (List L)) (p : Int) (hp : Rw [tI, tI] es) : Ctr Tryz.prog 54 [.agg [.s 2 es], .one (.v (.int .i64 p))] [.agg [.v (.int .i64 (peM es p)), .v (.int .i64 (peF es p))]] := by
  have hm := hp.1; unfold maxLen at hm
  have hsb : arI .sub .i64 (es.length : Int) 1 = es.length - 1 := sub64 (by omega)
  refine ctr_of (ctF := B1.ct) (mtF := B1.mt) (ptF := B1.pt) (F0 := B1.F0) tabOk B1.ct_ok B1.mt_ok B1.pt_ok mixed 18 _ [118] [.cell 4 118] Tryz.func54 rfl rfl rfl rfl rfl ?_
  intro O r F hO hr hF
  cbv
  repeat' first | refine And.intro ?_ ?_ | (refine caseB_intro (fun hb => ?_) (fun hb => ?_) <;> cbv)
  all_goals ((try subst hos); subst hO hr hF; (try simp only [stdO, SS, sub_all, ad_zero] at *); (try simp only [ncast] at *); (try simp only [Int.ofNat_eq_natCast] at *))
  all_goals (try simp only [B1.F0, hsb] at *)
  all_goals (try simp only [inR_t, inR_f] at *)
  all_goals first
    | exact ag_eq (pe_no (by omega)).1.symm (pe_no (by omega)).2.symm
    | exact ag_eq (pe_yes (by omega)).1.symm (pe_yes (by omega)).2.symm
    | omega
    | (refine ⟨by omega, by omega, Eq.trans (Rw.eta (fs := _) (by (first | assumption | exact Rw.sub (by first | assumption | exact Rw.sub (by assumption) (by omega) rfl) (by omega) rfl)) (by omega) (by omega)) ?_⟩; rfl)
    | trivial
    | trace_state
theorem c_spec_PageEntry (es : List (List L)) (p : Int) (hp : Rw [tI, tI] es) : Ctr Tryz.prog 43 [.agg [.s 2 es], .one (.v (.int .i64 p))] [.agg [.v (.int .i64 (peM es p)), .v (.int .i64 (peF es p))]] := by
  have hm := hp.1; unfold maxLen at hm
  have hsb : arI .sub .i64 (es.length : Int) 1 = es.length - 1 := sub64 (by omega)
  refine ctr_of (ctF := B1.ct) (mtF := B1.mt) (ptF := B1.pt) (F0 := B1.F0) tabOk B1.ct_ok B1.mt_ok B1.pt_ok mixed 18 _ [118] [.cell 4 118] Tryz.func43 rfl rfl rfl rfl rfl ?_
  intro O r F hO hr hF
  cbv
  repeat' first | refine And.intro ?_ ?_ | (refine caseB_intro (fun hb => ?_) (fun hb => ?_) <;> cbv)
  all_goals ((try subst hos); subst hO hr hF; (try simp only [stdO, SS, sub_all, ad_zero] at *); (try simp only [ncast] at *); (try simp only [Int.ofNat_eq_natCast] at *))
  all_goals (try simp only [B1.F0, hsb] at *)
  all_goals (try simp only [inR_t, inR_f] at *)
  all_goals first
    | exact ag_eq (pe_no (by omega)).1.symm (pe_no (by omega)).2.symm
    | exact ag_eq (pe_yes (by omega)).1.symm (pe_yes (by omega)).2.symm
    | omega
    | (refine ⟨by omega, by omega, Eq.trans (Rw.eta (fs := _) (by (first | assumption | exact Rw.sub (by first | assumption | exact Rw.sub (by assumption) (by omega) rfl) (by omega) rfl)) (by omega) (by omega)) ?_⟩; rfl)
    | trivial
    | trace_state
namespace B2
structure Fns where
  peM : List (List L) → Int → Int
  peF : List (List L) → Int → Int
  pagesOn : List (List L) → Int → List (List L)
def F0 : Fns := ⟨peM, peF, pagesOn⟩
def ct (F : Fns) : CT := fun f ds => match f with
  | 54 => match ds with
    | [.agg [.s 2 es], .one (.v (.int .i64 p))] => some (fun _ => Rw [tI, tI] es, [.agg [.v (.int .i64 (F.peM es p)), .v (.int .i64 (F.peF es p))]])
    | _ => none
  | 55 => match ds with
    | [.agg [.s 2 es], .one (.v (.int .i64 f))] => some (fun _ => Rw [tI, tI] es ∧ es.length ≤ 1099511627776, [.one (.s 1 (F.pagesOn es f))])
    | _ => none
  | 43 => match ds with
    | [.agg [.s 2 es], .one (.v (.int .i64 p))] => some (fun _ => Rw [tI, tI] es, [.agg [.v (.int .i64 (F.peM es p)), .v (.int .i64 (F.peF es p))]])
    | _ => none
  | 44 => match ds with
    | [.agg [.s 2 es], .one (.v (.int .i64 f))] => some (fun _ => Rw [tI, tI] es ∧ es.length ≤ 1099511627776, [.one (.s 1 (F.pagesOn es f))])
    | _ => none
  | _ => none
theorem ct_ok : CTok Tryz.prog (ct F0) := by
  intro f ds pre res h hp
  unfold ct at h
  split at h
  · split at h
    · cases h; exact c_impl_PageEntry _ _ hp
    · cases h
  · split at h
    · cases h; exact c_impl_PagesOn _ _ hp
    · cases h
  · split at h
    · cases h; exact c_spec_PageEntry _ _ hp
    · cases h
  · split at h
    · cases h; exact c_spec_PagesOn _ _ hp
    · cases h
  · cases h
def mt : Fns → MT := noMT
theorem mt_ok : MTok Tryz.prog (mt F0) := noMT_ok
def pt : Fns → PT := noPT
theorem pt_ok : PTok Tryz.prog (pt F0) := noPT_ok
end B2
theorem c_impl_FramePages (a0 : List (List L)) (a1 : List (List L)) (a2 : List (List L)) (a3 : Int) (a4 : List (List L)) (a5 : List (List L)) (a6 : List (List L)) (a7 : List (List L)) (a8 : List (List L)) (a9 : List (List L)) (a10 : List (List L)) (a11 : List (List L)) (a12 : Int) (a13 : List (List L)) (a14 : Int) (a15 : Int) (a16 : Int) (a17 : Int) (a18 : Bool) (a19 : Int) (a20 : Int) (a21 : List (List L)) (a22 : Int) (a23 : Int) (pg : Int) (hp : Rw [tI, tI] a2 ∧ a2.length ≤ 1099511627776) : Ctr Tryz.prog 10 [.agg [.s 1 a0, .s 1 a1, .s 2 a2, .v (.int .i64 a3), .s 1 a4, .s 2 a5, .s 3 a6, .s 3 a7, .s 4 a8, .s 1 a9, .s 1 a10, .s 1 a11, .v (.int .i64 a12), .s 3 a13, .v (.int .i64 a14), .v (.int .i64 a15), .v (.int .i64 a16), .v (.int .i64 a17), .v (.bool a18), .v (.int .i64 a19), .v (.int .i64 a20), .s 1 a21, .v (.int .i64 a22), .v (.int .i64 a23)], .one (.v (.int .i64 pg))] [.one (.s 1 (fpg a2 pg))] := by
  obtain ⟨hw, hn⟩ := hp
  refine ctr_of (ctF := B2.ct) (mtF := B2.mt) (ptF := B2.pt) (F0 := B2.F0) tabOk B2.ct_ok B2.mt_ok B2.pt_ok mixed 22 _ [31] [.tmp 4] Tryz.func10 rfl rfl rfl rfl rfl ?_
  intro O r F hO hr hF
  cbv
  repeat' first | refine And.intro ?_ ?_ | (refine caseB_intro (fun hb => ?_) (fun hb => ?_) <;> cbv)
  all_goals ((try subst hos); subst hO hr hF; (try simp only [stdO, SS, sub_all, ad_zero] at *); (try simp only [ncast] at *); (try simp only [Int.ofNat_eq_natCast] at *))
  all_goals (try simp only [B2.F0] at *)
  all_goals first
    | (show (_ : List DV) = _
       first
         | exact row_eq (fpg_no (by assumption)).symm
         | exact row_eq (fpg_yes (by assumption)).symm
         | done)
    | exact ⟨hw, hn⟩
    | exact hw
    | exact True.intro
    | exact ⟨True.intro, True.intro⟩
    | trace_state
theorem c_spec_FramePages (a0 : List (List L)) (a1 : List (List L)) (a2 : List (List L)) (a3 : Int) (a4 : List (List L)) (a5 : List (List L)) (a6 : List (List L)) (a7 : List (List L)) (a8 : List (List L)) (a9 : List (List L)) (a10 : List (List L)) (a11 : List (List L)) (a12 : Int) (a13 : List (List L)) (a14 : Int) (a15 : Int) (a16 : Int) (a17 : Int) (a18 : Bool) (a19 : Int) (a20 : Int) (a21 : List (List L)) (a22 : Int) (a23 : Int) (pg : Int) (hp : Rw [tI, tI] a2 ∧ a2.length ≤ 1099511627776) : Ctr Tryz.prog 8 [.agg [.s 1 a0, .s 1 a1, .s 2 a2, .v (.int .i64 a3), .s 1 a4, .s 2 a5, .s 3 a6, .s 3 a7, .s 4 a8, .s 1 a9, .s 1 a10, .s 1 a11, .v (.int .i64 a12), .s 3 a13, .v (.int .i64 a14), .v (.int .i64 a15), .v (.int .i64 a16), .v (.int .i64 a17), .v (.bool a18), .v (.int .i64 a19), .v (.int .i64 a20), .s 1 a21, .v (.int .i64 a22), .v (.int .i64 a23)], .one (.v (.int .i64 pg))] [.one (.s 1 (fpg a2 pg))] := by
  obtain ⟨hw, hn⟩ := hp
  refine ctr_of (ctF := B2.ct) (mtF := B2.mt) (ptF := B2.pt) (F0 := B2.F0) tabOk B2.ct_ok B2.mt_ok B2.pt_ok mixed 23 _ [31] [.tmp 4] Tryz.func8 rfl rfl rfl rfl rfl ?_
  intro O r F hO hr hF
  cbv
  repeat' first | refine And.intro ?_ ?_ | (refine caseB_intro (fun hb => ?_) (fun hb => ?_) <;> cbv)
  all_goals ((try subst hos); subst hO hr hF; (try simp only [stdO, SS, sub_all, ad_zero] at *); (try simp only [ncast] at *); (try simp only [Int.ofNat_eq_natCast] at *))
  all_goals (try simp only [B2.F0] at *)
  all_goals first
    | (show (_ : List DV) = _
       first
         | exact row_eq (fpg_no (by assumption)).symm
         | exact row_eq (fpg_yes (by assumption)).symm
         | done)
    | exact ⟨hw, hn⟩
    | exact hw
    | exact True.intro
    | exact ⟨True.intro, True.intro⟩
    | trace_state
namespace B3
structure Fns where
  no : Unit
def F0 : Fns := ⟨()⟩
def ct : Fns → CT := noC
theorem ct_ok : CTok Tryz.prog (ct F0) := noC_ok
def mt : Fns → MT := noMT
theorem mt_ok : MTok Tryz.prog (mt F0) := noMT_ok
def pt : Fns → PT := noPT
theorem pt_ok : PTok Tryz.prog (pt F0) := noPT_ok
end B3
namespace B4
structure Fns where
  inR : Int → Int → Int → Bool
  fpg : List (List L) → Int → List (List L)
def F0 : Fns := ⟨inR, fpg⟩
def ct (F : Fns) : CT := fun f ds => match f with
  | 79 => match ds with
    | [.one (.v (.int .i64 x)), .one (.v (.int .i64 a)), .one (.v (.int .i64 b))] => some (fun _ => True, [.one (.v (.bool (F.inR x a b)))])
    | _ => none
  | 10 => match ds with
    | [.agg [.s 1 a0, .s 1 a1, .s 2 a2, .v (.int .i64 a3), .s 1 a4, .s 2 a5, .s 3 a6, .s 3 a7, .s 4 a8, .s 1 a9, .s 1 a10, .s 1 a11, .v (.int .i64 a12), .s 3 a13, .v (.int .i64 a14), .v (.int .i64 a15), .v (.int .i64 a16), .v (.int .i64 a17), .v (.bool a18), .v (.int .i64 a19), .v (.int .i64 a20), .s 1 a21, .v (.int .i64 a22), .v (.int .i64 a23)], .one (.v (.int .i64 pg))] => some (fun _ => Rw [tI, tI] a2 ∧ a2.length ≤ 1099511627776, [.one (.s 1 (F.fpg a2 pg))])
    | _ => none
  | 74 => match ds with
    | [.one (.v (.int .i64 x)), .one (.v (.int .i64 a)), .one (.v (.int .i64 b))] => some (fun _ => True, [.one (.v (.bool (F.inR x a b)))])
    | _ => none
  | 8 => match ds with
    | [.agg [.s 1 a0, .s 1 a1, .s 2 a2, .v (.int .i64 a3), .s 1 a4, .s 2 a5, .s 3 a6, .s 3 a7, .s 4 a8, .s 1 a9, .s 1 a10, .s 1 a11, .v (.int .i64 a12), .s 3 a13, .v (.int .i64 a14), .v (.int .i64 a15), .v (.int .i64 a16), .v (.int .i64 a17), .v (.bool a18), .v (.int .i64 a19), .v (.int .i64 a20), .s 1 a21, .v (.int .i64 a22), .v (.int .i64 a23)], .one (.v (.int .i64 pg))] => some (fun _ => Rw [tI, tI] a2 ∧ a2.length ≤ 1099511627776, [.one (.s 1 (F.fpg a2 pg))])
    | _ => none
  | _ => none
theorem ct_ok : CTok Tryz.prog (ct F0) := by
  intro f ds pre res h hp
  unfold ct at h
  split at h
  · split at h
    · cases h; exact c_impl_between _ _ _ hp
    · cases h
  · split at h
    · cases h; exact c_impl_FramePages _ _ _ _ _ _ _ _ _ _ _ _ _ _ _ _ _ _ _ _ _ _ _ _ _ hp
    · cases h
  · split at h
    · cases h; exact c_spec_l01In _ _ _ hp
    · cases h
  · split at h
    · cases h; exact c_spec_FramePages _ _ _ _ _ _ _ _ _ _ _ _ _ _ _ _ _ _ _ _ _ _ _ _ _ hp
    · cases h
  · cases h
def mt : Fns → MT := noMT
theorem mt_ok : MTok Tryz.prog (mt F0) := noMT_ok
def pt : Fns → PT := noPT
theorem pt_ok : PTok Tryz.prog (pt F0) := noPT_ok
end B4
end Go.V
