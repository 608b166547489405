/-
  Contracts of functions, by evaluation of conditions on their code.
-/
import Derived.Test.YtbdgkoalfnehoaaGreatS6
import Derived.Test.YtbdgkoalfnehoaaGreatH11
import Derived.Test.YtbdgkoalfnehoaaGreatHeapBg

set_option linter.all false
namespace Go.V
open Go Go.Proofs
set_option maxRecDepth 1000000
set_option maxHeartbeats 8000000
namespace C1
structure Fns where
  inR : Int → Int → Int → Bool
def F0 : Fns := ⟨inR⟩
def ct (F : Fns) : CT := fun f ds => match f with
  | 79 => match ds with
    | [.one (.v (.int .i64 x)), .one (.v (.int .i64 a)), .one (.v (.int .i64 b))] => some (fun _ => True, [.one (.v (.bool (F.inR x a b)))])
    | _ => none
  | 74 => match ds with
    | [.one (.v (.int .i64 x)), .one (.v (.int .i64 a)), .one (.v (.int .i64 b))] => some (fun _ => True, [.one (.v (.bool (F.inR x a b)))])
    | _ => none
  | _ => none
theorem ct_ok : CTok Tryz.prog (ct F0) := by
  intro f ds pre res h hp
  unfold ct at h
  split at h
  · split at h
    · cases h; exact c_impl_between _ _ _ hp
    · cases h
  · split at h
    · cases h; exact c_spec_l01In _ _ _ hp
    · cases h
  · cases h
def mt : Fns → MT := noMT
theorem mt_ok : MTok Tryz.prog (mt F0) := noMT_ok
def pt : Fns → PT := noPT
theorem pt_ok : PTok Tryz.prog (pt F0) := noPT_ok
end C1
theorem c_impl_slotOk (b i : Int) (hp : True) : Ctr Tryz.prog 168 [.one (.v (.int .i64 b)), .one (.v (.int .i64 i))] [.one (.v (.bool (slB b i)))] := by
  refine ctr_of (ctF := C1.ct) (mtF := C1.mt) (ptF := C1.pt) (F0 := C1.F0) tabOk C1.ct_ok C1.mt_ok C1.pt_ok mixed 11 _ [4] [.tmp 4] Tryz.func168 rfl rfl rfl rfl rfl ?_
  intro O r F hO hr hF
  cbv
  repeat' first | refine And.intro ?_ ?_ | (refine caseB_intro (fun hb => ?_) (fun hb => ?_) <;> cbv)
  all_goals ((try subst hos); subst hO hr hF; (try simp only [stdO, SS, sub_all, ad_zero] at *); (try simp only [ncast] at *); (try simp only [Int.ofNat_eq_natCast] at *))
  all_goals (try simp only [C1.F0] at *)
  all_goals first
    | exact True.intro
    | (show (_ : List DV) = _
       first
         | exact db_eq (by unfold slB; rw [decide_eq_true (by assumption)]; rfl)
         | exact db_eq (by unfold slB; rw [decide_eq_false (by omega)]; rfl)
         | done)
    | trace_state
theorem c_spec_l02Bit (b i : Int) (hp : True) : Ctr Tryz.prog 167 [.one (.v (.int .i64 b)), .one (.v (.int .i64 i))] [.one (.v (.bool (slB b i)))] := by
  refine ctr_of (ctF := C1.ct) (mtF := C1.mt) (ptF := C1.pt) (F0 := C1.F0) tabOk C1.ct_ok C1.mt_ok C1.pt_ok mixed 11 _ [4] [.tmp 4] Tryz.func167 rfl rfl rfl rfl rfl ?_
  intro O r F hO hr hF
  cbv
  repeat' first | refine And.intro ?_ ?_ | (refine caseB_intro (fun hb => ?_) (fun hb => ?_) <;> cbv)
  all_goals ((try subst hos); subst hO hr hF; (try simp only [stdO, SS, sub_all, ad_zero] at *); (try simp only [ncast] at *); (try simp only [Int.ofNat_eq_natCast] at *))
  all_goals (try simp only [C1.F0] at *)
  all_goals first
    | exact True.intro
    | (show (_ : List DV) = _
       first
         | exact db_eq (by unfold slB; rw [decide_eq_true (by assumption)]; rfl)
         | exact db_eq (by unfold slB; rw [decide_eq_false (by omega)]; rfl)
         | done)
    | trace_state
namespace C2
structure Fns where
  slB : Int → Int → Bool
def F0 : Fns := ⟨slB⟩
def ct (F : Fns) : CT := fun f ds => match f with
  | 168 => match ds with
    | [.one (.v (.int .i64 b)), .one (.v (.int .i64 i))] => some (fun _ => True, [.one (.v (.bool (F.slB b i)))])
    | _ => none
  | 167 => match ds with
    | [.one (.v (.int .i64 b)), .one (.v (.int .i64 i))] => some (fun _ => True, [.one (.v (.bool (F.slB b i)))])
    | _ => none
  | _ => none
theorem ct_ok : CTok Tryz.prog (ct F0) := by
  intro f ds pre res h hp
  unfold ct at h
  split at h
  · split at h
    · cases h; exact c_impl_slotOk _ _ hp
    · cases h
  · split at h
    · cases h; exact c_spec_l02Bit _ _ hp
    · cases h
  · cases h
def mt : Fns → MT := noMT
theorem mt_ok : MTok Tryz.prog (mt F0) := noMT_ok
def pt : Fns → PT := noPT
theorem pt_ok : PTok Tryz.prog (pt F0) := noPT_ok
end C2
theorem c_impl_HasSlot (b i : Int) (hp : True) : Ctr Tryz.prog 140 [.one (.v (.int .i64 b)), .one (.v (.int .i64 i))] [.one (.v (.bool (hsB b i)))] := by
  refine ctr_of (ctF := C2.ct) (mtF := C2.mt) (ptF := C2.pt) (F0 := C2.F0) tabOk C2.ct_ok C2.mt_ok C2.pt_ok mixed 15 _ [4] [.tmp 4] Tryz.func140 rfl rfl rfl rfl rfl ?_
  intro O r F hO hr hF
  cbv
  repeat' first | refine And.intro ?_ ?_ | (refine caseB_intro (fun hb => ?_) (fun hb => ?_) <;> cbv)
  all_goals ((try subst hos); subst hO hr hF; (try simp only [stdO, SS, sub_all, ad_zero] at *); (try simp only [ncast] at *); (try simp only [Int.ofNat_eq_natCast] at *))
  all_goals (try simp only [C2.F0] at *)
  all_goals try (have hs := sl_t.1 (‹slB b i = true›); have hw := wr_small hs.2.1 hs.2.2; simp only [hw] at *)
  all_goals first
    | exact True.intro
    | exact ⟨True.intro, True.intro⟩
    | (show (_ : List DV) = _
       first
         | exact db_eq (hs_no (by assumption)).symm
         | exact db_eq (hs_yes (by assumption) (by assumption)).symm
         | exact db_eq (hs_not (by assumption)).symm
         | (refine db_eq (b_iff ?_); unfold hsB; rw [show slB b i = true from by assumption, Bool.true_and, decide_eq_true_eq]; simp only [SS])
         | done)
    | omega
    | trace_state
theorem c_spec_HasSlot (b i : Int) (hp : True) : Ctr Tryz.prog 139 [.one (.v (.int .i64 b)), .one (.v (.int .i64 i))] [.one (.v (.bool (hsB b i)))] := by
  refine ctr_of (ctF := C2.ct) (mtF := C2.mt) (ptF := C2.pt) (F0 := C2.F0) tabOk C2.ct_ok C2.mt_ok C2.pt_ok mixed 16 _ [4] [.tmp 4] Tryz.func139 rfl rfl rfl rfl rfl ?_
  intro O r F hO hr hF
  cbv
  repeat' first | refine And.intro ?_ ?_ | (refine caseB_intro (fun hb => ?_) (fun hb => ?_) <;> cbv)
  all_goals ((try subst hos); subst hO hr hF; (try simp only [stdO, SS, sub_all, ad_zero] at *); (try simp only [ncast] at *); (try simp only [Int.ofNat_eq_natCast] at *))
  all_goals (try simp only [C2.F0] at *)
  all_goals try (have hs := sl_t.1 (‹slB b i = true›); have hw := wr_small hs.2.1 hs.2.2; simp only [hw] at *)
  all_goals first
    | exact True.intro
    | exact ⟨True.intro, True.intro⟩
    | (show (_ : List DV) = _
       first
         | exact db_eq (hs_no (by assumption)).symm
         | exact db_eq (hs_yes (by assumption) (by assumption)).symm
         | exact db_eq (hs_not (by assumption)).symm
         | (refine db_eq (b_iff ?_); unfold hsB; rw [show slB b i = true from by assumption, Bool.true_and, decide_eq_true_eq]; simp only [SS])
         | done)
    | omega
    | trace_state
namespace C3
structure Fns where
  hsB : Int → Int → Bool
def F0 : Fns := ⟨hsB⟩
def ct (F : Fns) : CT := fun f ds => match f with
  | 140 => match ds with
    | [.one (.v (.int .i64 b)), .one (.v (.int .i64 i))] => some (fun _ => True, [.one (.v (.bool (F.hsB b i)))])
    | _ => none
  | 139 => match ds with
    | [.one (.v (.int .i64 b)), .one (.v (.int .i64 i))] => some (fun _ => True, [.one (.v (.bool (F.hsB b i)))])
    | _ => none
  | _ => none
theorem ct_ok : CTok Tryz.prog (ct F0) := by
  intro f ds pre res h hp
  unfold ct at h
  split at h
  · split at h
    · cases h; exact c_impl_HasSlot _ _ hp
    · cases h
  · split at h
    · cases h; exact c_spec_HasSlot _ _ hp
    · cases h
  · cases h
def mt : Fns → MT := noMT
theorem mt_ok : MTok Tryz.prog (mt F0) := noMT_ok
def pt : Fns → PT := noPT
theorem pt_ok : PTok Tryz.prog (pt F0) := noPT_ok
end C3
theorem c_impl_CountSlots (b : Int) (hp : True) : Ctr Tryz.prog 91 [.one (.v (.int .i64 b))] [.one (.v (.int .i64 (ctI b)))] := by
  refine ctr_of (ctF := C3.ct) (mtF := C3.mt) (ptF := C3.pt) (F0 := C3.F0) tabOk C3.ct_ok C3.mt_ok C3.pt_ok mixed 15 _ [3] [.tmp 2] Tryz.func91 rfl rfl rfl rfl rfl ?_
  intro O r F hO hr hF
  cbv
  repeat' first | refine And.intro ?_ ?_ | (refine caseB_intro (fun hb => ?_) (fun hb => ?_) <;> cbv) | (refine ⟨[0, 3, 4], [], Int × Int, fun s_ => match s_ with | (i, n) => [.reg 4 (.one (.v (.int .i64 i))), .reg 3 (.one (.v (.int .i64 n)))], fun s_ => match s_ with | (i, n) => 0 ≤ i ∧ i ≤ 16 ∧ n = ctN b i.toNat, fun s_ => match s_ with | (i, n) => (16 - i).toNat, ⟨(0, 0), ?_, ?_⟩, ?_⟩; rotate_left; (focus (cbv; done)); intro s_ hi; obtain ⟨i, n⟩ := s_; replace hi : 0 ≤ i ∧ i ≤ 16 ∧ n = ctN b i.toNat := hi; obtain ⟨i0, i1, i2⟩ := hi; cbv) | (refine loop_step (O.ar .add .i64 i 1, n) ?_ ?_ ?_; rotate_left 2; focus (cbv; done)) | (refine loop_step (O.ar .add .i64 i 1, O.ar .add .i64 n 1) ?_ ?_ ?_; rotate_left 2; focus (cbv; done))
  all_goals ((try subst hos); subst hO hr hF; (try simp only [stdO, SS, sub_all, ad_zero] at *); (try simp only [ncast] at *); (try simp only [Int.ofNat_eq_natCast] at *))
  all_goals (try simp only [C3.F0] at *)
  all_goals (try rw [up64 (i := i) (by omega) (by omega)])
  all_goals first
    | (show (_ : List DV) = _
       first
         | exact di_eq (i2.trans (by rw [show i = 16 by omega]; rfl))
         | done)
    | (show (_ : Int) = _
       first
         | (rw [ct_yes i0 (by assumption), ← i2])
         | (rw [ct_no i0 (by assumption), ← i2])
         | exact (rfl : (0 : Int) = ctN b 0)
         | done)
    | omega
    | exact True.intro
    | exact ⟨True.intro, True.intro⟩
    | trace_state
theorem c_spec_CountSlots (b : Int) (hp : True) : Ctr Tryz.prog 90 [.one (.v (.int .i64 b))] [.one (.v (.int .i64 (ctI b)))] := by
  refine ctr_of (ctF := C3.ct) (mtF := C3.mt) (ptF := C3.pt) (F0 := C3.F0) tabOk C3.ct_ok C3.mt_ok C3.pt_ok mixed 15 _ [3] [.tmp 2] Tryz.func90 rfl rfl rfl rfl rfl ?_
  intro O r F hO hr hF
  cbv
  repeat' first | refine And.intro ?_ ?_ | (refine caseB_intro (fun hb => ?_) (fun hb => ?_) <;> cbv) | (refine ⟨[0, 3, 4], [], Int × Int, fun s_ => match s_ with | (i, n) => [.reg 4 (.one (.v (.int .i64 i))), .reg 3 (.one (.v (.int .i64 n)))], fun s_ => match s_ with | (i, n) => 0 ≤ i ∧ i ≤ 16 ∧ n = ctN b i.toNat, fun s_ => match s_ with | (i, n) => (16 - i).toNat, ⟨(0, 0), ?_, ?_⟩, ?_⟩; rotate_left; (focus (cbv; done)); intro s_ hi; obtain ⟨i, n⟩ := s_; replace hi : 0 ≤ i ∧ i ≤ 16 ∧ n = ctN b i.toNat := hi; obtain ⟨i0, i1, i2⟩ := hi; cbv) | (refine loop_step (O.ar .add .i64 i 1, n) ?_ ?_ ?_; rotate_left 2; focus (cbv; done)) | (refine loop_step (O.ar .add .i64 i 1, O.ar .add .i64 n 1) ?_ ?_ ?_; rotate_left 2; focus (cbv; done))
  all_goals ((try subst hos); subst hO hr hF; (try simp only [stdO, SS, sub_all, ad_zero] at *); (try simp only [ncast] at *); (try simp only [Int.ofNat_eq_natCast] at *))
  all_goals (try simp only [C3.F0] at *)
  all_goals (try rw [up64 (i := i) (by omega) (by omega)])
  all_goals first
    | (show (_ : List DV) = _
       first
         | exact di_eq (i2.trans (by rw [show i = 16 by omega]; rfl))
         | done)
    | (show (_ : Int) = _
       first
         | (rw [ct_yes i0 (by assumption), ← i2])
         | (rw [ct_no i0 (by assumption), ← i2])
         | exact (rfl : (0 : Int) = ctN b 0)
         | done)
    | omega
    | exact True.intro
    | exact ⟨True.intro, True.intro⟩
    | trace_state
namespace C4
structure Fns where
  ctI : Int → Int
  fpg : List (List L) → Int → List (List L)
def F0 : Fns := ⟨ctI, fpg⟩
def ct (F : Fns) : CT := fun f ds => match f with
  | 91 => match ds with
    | [.one (.v (.int .i64 b))] => some (fun _ => True, [.one (.v (.int .i64 (F.ctI b)))])
    | _ => none
  | 10 => match ds with
    | [.agg [.s 1 a0, .s 1 a1, .s 2 a2, .v (.int .i64 a3), .s 1 a4, .s 2 a5, .s 3 a6, .s 3 a7, .s 4 a8, .s 1 a9, .s 1 a10, .s 1 a11, .v (.int .i64 a12), .s 3 a13, .v (.int .i64 a14), .v (.int .i64 a15), .v (.int .i64 a16), .v (.int .i64 a17), .v (.bool a18), .v (.int .i64 a19), .v (.int .i64 a20), .s 1 a21, .v (.int .i64 a22), .v (.int .i64 a23)], .one (.v (.int .i64 pg))] => some (fun _ => Rw [tI, tI] a2 ∧ a2.length ≤ 1099511627776, [.one (.s 1 (F.fpg a2 pg))])
    | _ => none
  | 90 => match ds with
    | [.one (.v (.int .i64 b))] => some (fun _ => True, [.one (.v (.int .i64 (F.ctI b)))])
    | _ => none
  | 8 => match ds with
    | [.agg [.s 1 a0, .s 1 a1, .s 2 a2, .v (.int .i64 a3), .s 1 a4, .s 2 a5, .s 3 a6, .s 3 a7, .s 4 a8, .s 1 a9, .s 1 a10, .s 1 a11, .v (.int .i64 a12), .s 3 a13, .v (.int .i64 a14), .v (.int .i64 a15), .v (.int .i64 a16), .v (.int .i64 a17), .v (.bool a18), .v (.int .i64 a19), .v (.int .i64 a20), .s 1 a21, .v (.int .i64 a22), .v (.int .i64 a23)], .one (.v (.int .i64 pg))] => some (fun _ => Rw [tI, tI] a2 ∧ a2.length ≤ 1099511627776, [.one (.s 1 (F.fpg a2 pg))])
    | _ => none
  | _ => none
theorem ct_ok : CTok Tryz.prog (ct F0) := by
  intro f ds pre res h hp
  unfold ct at h
  split at h
  · split at h
    · cases h; exact c_impl_CountSlots _ hp
    · cases h
  · split at h
    · cases h; exact c_impl_FramePages _ _ _ _ _ _ _ _ _ _ _ _ _ _ _ _ _ _ _ _ _ _ _ _ _ hp
    · cases h
  · split at h
    · cases h; exact c_spec_CountSlots _ hp
    · cases h
  · split at h
    · cases h; exact c_spec_FramePages _ _ _ _ _ _ _ _ _ _ _ _ _ _ _ _ _ _ _ _ _ _ _ _ _ hp
    · cases h
  · cases h
def mt : Fns → MT := noMT
theorem mt_ok : MTok Tryz.prog (mt F0) := noMT_ok
def pt : Fns → PT := noPT
theorem pt_ok : PTok Tryz.prog (pt F0) := noPT_ok
end C4
theorem c_impl_MeshSpans (a0 : List (List L)) (a1 : List (List L)) (a2 : List (List L)) (a3 : Int) (a4 : List (List L)) (a5 : List (List L)) (a6 : List (List L)) (a7 : List (List L)) (a8 : List (List L)) (a9 : List (List L)) (a10 : List (List L)) (a11 : List (List L)) (a12 : Int) (a13 : List (List L)) (a14 : Int) (a15 : Int) (a16 : Int) (a17 : Int) (a18 : Bool) (a19 : Int) (a20 : Int) (a21 : List (List L)) (a22 : Int) (a23 : Int) (hp : Rw [tI, tI] a2 ∧ Rw [tI, tI, tI] a6 ∧ a2.length ≤ 1099511627776 ∧ a6.length ≤ 1099511627776) : Ctr Tryz.prog 21 [.agg [.s 1 a0, .s 1 a1, .s 2 a2, .v (.int .i64 a3), .s 1 a4, .s 2 a5, .s 3 a6, .s 3 a7, .s 4 a8, .s 1 a9, .s 1 a10, .s 1 a11, .v (.int .i64 a12), .s 3 a13, .v (.int .i64 a14), .v (.int .i64 a15), .v (.int .i64 a16), .v (.int .i64 a17), .v (.bool a18), .v (.int .i64 a19), .v (.int .i64 a20), .s 1 a21, .v (.int .i64 a22), .v (.int .i64 a23)]] [.one (.s 3 (msS a2 a6))] := by
  obtain ⟨he, hw, hm, hn⟩ := hp
  refine ctr_of (ctF := C4.ct) (mtF := C4.mt) (ptF := C4.pt) (F0 := C4.F0) tabOk C4.ct_ok C4.mt_ok C4.pt_ok mixed 32 _ [62] [.tmp 2] Tryz.func21 rfl rfl rfl rfl rfl ?_
  intro O r F hO hr hF
  cbv
  repeat' first | refine And.intro ?_ ?_ | (refine caseB_intro (fun hb => ?_) (fun hb => ?_) <;> cbv) | (refine ⟨[1, 3, 8, 9, 10], [1, 3], Int × List (List L), fun s_ => match s_ with | (i, out) => [.reg 10 (.one (.v (.int .i64 i))), .reg 3 (.one (.vw 3 0 0 0 (O.ln out))), .leaf 3 0 ⟨0, 0, none, .own (.s 3 out)⟩], fun s_ => match s_ with | (i, out) => 0 ≤ i ∧ i ≤ (a6.length : Int) ∧ out = msN a2 a6 i.toNat, fun s_ => match s_ with | (i, out) => a6.length - i.toNat, ⟨(0, []), ?_, ?_⟩, ?_⟩; rotate_left; (focus (cbv; done)); intro s_ hi; obtain ⟨i, out⟩ := s_; replace hi : 0 ≤ i ∧ i ≤ (a6.length : Int) ∧ out = msN a2 a6 i.toNat := hi; obtain ⟨i0, i1, i2⟩ := hi; cbv) | (refine loop_step (O.ar .add .i64 i 1, O.cat out (O.sub [[.v (.int .i64 (O.gi a6 i 0)), .v (.int .i64 (O.gi a6 i 1)), .v (.int .i64 (O.gi a6 i 2))]] 0 (O.ln [[.v (.int .i64 (O.gi a6 i 0)), .v (.int .i64 (O.gi a6 i 1)), .v (.int .i64 (O.gi a6 i 2))]]))) ?_ ?_ ?_; rotate_left 2; focus (cbv; done)) | (refine loop_step (O.ar .add .i64 i 1, out) ?_ ?_ ?_; rotate_left 2; focus (cbv; done))
  all_goals ((try subst hos); subst hO hr hF; (try simp only [stdO, SS, sub_all, ad_zero] at *); (try simp only [ncast] at *); (try simp only [Int.ofNat_eq_natCast] at *))
  all_goals (try simp only [C4.F0] at *)
  all_goals try rw [up64 (by omega) (by omega)]
  all_goals try (have hpl := msN_len (es := a2) (ss := a6) (n := i.toNat); rw [← i2] at hpl)
  all_goals first
    | (show (_ : List DV) = _
       first
         | exact row_eq (by rw [i2, show i.toNat = a6.length by omega]; rfl)
         | done)
    | (show (_ : List (List L)) = _
       first
         | (rw [ms_yes i0 (by omega) (by omega), ← i2]; rfl)
         | (rw [ms_no i0 (by omega), ← i2])
         | exact (rfl : [] = msN a2 a6 0)
         | done)
    | omega
    | (show okOrder _ _ = true; kernel_rfl)
    | (refine ⟨by omega, by omega, Eq.trans (Rw.eta (fs := _) (by (first | assumption | exact Rw.sub (by first | assumption | exact Rw.sub (by assumption) (by omega) rfl) (by omega) rfl)) (by omega) (by omega)) ?_⟩; rfl)
    | exact ⟨he, hm⟩
    | (simp [scalRecs, scalRec, scal]; done)
    | (simp only [List.length_cons, List.length_nil]; omega)
    | exact ⟨True.intro, True.intro⟩
    | exact True.intro
    | trace_state
theorem c_spec_MeshSpans (a0 : List (List L)) (a1 : List (List L)) (a2 : List (List L)) (a3 : Int) (a4 : List (List L)) (a5 : List (List L)) (a6 : List (List L)) (a7 : List (List L)) (a8 : List (List L)) (a9 : List (List L)) (a10 : List (List L)) (a11 : List (List L)) (a12 : Int) (a13 : List (List L)) (a14 : Int) (a15 : Int) (a16 : Int) (a17 : Int) (a18 : Bool) (a19 : Int) (a20 : Int) (a21 : List (List L)) (a22 : Int) (a23 : Int) (hp : Rw [tI, tI] a2 ∧ Rw [tI, tI, tI] a6 ∧ a2.length ≤ 1099511627776 ∧ a6.length ≤ 1099511627776) : Ctr Tryz.prog 20 [.agg [.s 1 a0, .s 1 a1, .s 2 a2, .v (.int .i64 a3), .s 1 a4, .s 2 a5, .s 3 a6, .s 3 a7, .s 4 a8, .s 1 a9, .s 1 a10, .s 1 a11, .v (.int .i64 a12), .s 3 a13, .v (.int .i64 a14), .v (.int .i64 a15), .v (.int .i64 a16), .v (.int .i64 a17), .v (.bool a18), .v (.int .i64 a19), .v (.int .i64 a20), .s 1 a21, .v (.int .i64 a22), .v (.int .i64 a23)]] [.one (.s 3 (msS a2 a6))] := by
  obtain ⟨he, hw, hm, hn⟩ := hp
  refine ctr_of (ctF := C4.ct) (mtF := C4.mt) (ptF := C4.pt) (F0 := C4.F0) tabOk C4.ct_ok C4.mt_ok C4.pt_ok mixed 42 _ [62] [.tmp 2] Tryz.func20 rfl rfl rfl rfl rfl ?_
  intro O r F hO hr hF
  cbv
  repeat' first | refine And.intro ?_ ?_ | (refine caseB_intro (fun hb => ?_) (fun hb => ?_) <;> cbv) | (refine ⟨[1, 3, 4], [1, 3], Int × List (List L), fun s_ => match s_ with | (i, out) => [.reg 4 (.one (.v (.int .i64 i))), .reg 3 (.one (.vw 3 0 0 0 (O.ln out))), .leaf 3 0 ⟨0, 0, none, .own (.s 3 out)⟩], fun s_ => match s_ with | (i, out) => 0 ≤ i ∧ i ≤ (a6.length : Int) ∧ out = msN a2 a6 i.toNat, fun s_ => match s_ with | (i, out) => a6.length - i.toNat, ⟨(0, []), ?_, ?_⟩, ?_⟩; rotate_left; (focus (cbv; done)); intro s_ hi; obtain ⟨i, out⟩ := s_; replace hi : 0 ≤ i ∧ i ≤ (a6.length : Int) ∧ out = msN a2 a6 i.toNat := hi; obtain ⟨i0, i1, i2⟩ := hi; cbv) | (refine loop_step (O.ar .add .i64 i 1, O.cat out (O.sub [[.v (.int .i64 (O.gi a6 i 0)), .v (.int .i64 (O.gi a6 i 1)), .v (.int .i64 (O.gi a6 i 2))]] 0 (O.ln [[.v (.int .i64 (O.gi a6 i 0)), .v (.int .i64 (O.gi a6 i 1)), .v (.int .i64 (O.gi a6 i 2))]]))) ?_ ?_ ?_; rotate_left 2; focus (cbv; done)) | (refine loop_step (O.ar .add .i64 i 1, out) ?_ ?_ ?_; rotate_left 2; focus (cbv; done))
  all_goals ((try subst hos); subst hO hr hF; (try simp only [stdO, SS, sub_all, ad_zero] at *); (try simp only [ncast] at *); (try simp only [Int.ofNat_eq_natCast] at *))
  all_goals (try simp only [C4.F0] at *)
  all_goals try rw [up64 (by omega) (by omega)]
  all_goals try (have hpl := msN_len (es := a2) (ss := a6) (n := i.toNat); rw [← i2] at hpl)
  all_goals first
    | (show (_ : List DV) = _
       first
         | exact row_eq (by rw [i2, show i.toNat = a6.length by omega]; rfl)
         | done)
    | (show (_ : List (List L)) = _
       first
         | (rw [ms_yes i0 (by omega) (by omega), ← i2]; rfl)
         | (rw [ms_no i0 (by omega), ← i2])
         | exact (rfl : [] = msN a2 a6 0)
         | done)
    | omega
    | (show okOrder _ _ = true; kernel_rfl)
    | (refine ⟨by omega, by omega, Eq.trans (Rw.eta (fs := _) (by (first | assumption | exact Rw.sub (by first | assumption | exact Rw.sub (by assumption) (by omega) rfl) (by omega) rfl)) (by omega) (by omega)) ?_⟩; rfl)
    | exact ⟨he, hm⟩
    | (simp [scalRecs, scalRec, scal]; done)
    | (simp only [List.length_cons, List.length_nil]; omega)
    | exact ⟨True.intro, True.intro⟩
    | exact True.intro
    | trace_state

end Go.V
