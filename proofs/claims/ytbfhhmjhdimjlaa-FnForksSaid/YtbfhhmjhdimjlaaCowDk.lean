/-
  Contracts, by evaluation.
-/
import Derived.Test.YtbfhhmjhdimjlaaS8
import Derived.Test.YtbfhhmjhdimjlaaH3
import Derived.Test.YtbfhhmjhdimjlaaCowCk
set_option linter.all false
namespace Go.V
open Go Go.Proofs
set_option maxRecDepth 1000000
set_option maxHeartbeats 8000000
namespace D0
structure Fns where
 no : Unit
def F0 : Fns := ⟨()⟩
def B : TB Try.prog := {Φ := Fns, F0 := F0}
end D0
theorem c_impl_copyInts (es : List (List L)) (hp : Rw [tI] es /\ es.length <= 1099511627776) : Ctr Try.prog 68 [.one (.s 1 es)] [.one (.s 1 es)] := by
 obtain ⟨hw, hl⟩ := hp
 have hs := hw.scal rfl
 refine ctr_b D0.B tabOk mixed 6 _ [24] [.tmp 2] Try.func68 rfl rfl rfl rfl rfl ?_
 intro O r (F : D0.Fns) hO hr (hF : F = D0.F0)
 cbv
 repeat' first | refine And.intro ?_ ?_ | (refine cbi (fun hb => ?_) (fun hb => ?_) <;> cbv)
 all_goals (subst hO hr hF; (try simp only [stdO, SS, sa, az] at *); (try simp only [nc] at *); (try simp only [onc] at *))
 all_goals first | exact hs | trivial | exact ⟨trivial, trivial⟩ | omega | (simp only [List.length_nil]; omega) | exact rfl | trace_state
namespace D1
structure Fns where
 no : Unit
def F0 : Fns := ⟨()⟩
def ct (F : Fns) : CT := fun f ds => match f with
 | 68 => match ds with
   | [.one (.s 1 es)] => some (fun _ => Rw [tI] es /\ es.length <= 1099511627776, [.one (.s 1 es)])
   | _ => none
 | _ => none
theorem ct_ok : CTok Try.prog (ct F0) := by
 intro f ds pre res h hp
 unfold ct at h
 split at h <;> (try split at h) <;> cases h
 exact c_impl_copyInts _ hp
def B : TB Try.prog := tb ct_ok
end D1
theorem c_impl_copyFrames (cs us : List (List L)) (hp : Rw [.sl [tI]] cs /\ Rw [tB] us /\ cntE cs <= 1099511627776 /\ cntE us <= 1099511627776) : Ctr Try.prog 60 [.agg [.s 1 cs, .s 1 us]] [.agg [.s 1 cs, .s 1 us]] := by
 obtain ⟨hc, hu, hn, hm⟩ := hp
 have hs := hu.scal rfl
 have hl1 := len_cnt (es := cs); have hl2 := len_cnt (es := us)
 refine ctr_b D1.B tabOk mixed 27 _ [56] [.cell 2 56] Try.func60 rfl rfl rfl rfl rfl ?_
 intro O r (F : D1.Fns) hO hr (hF : F = D1.F0)
 cbv
 repeat' first | refine And.intro ?_ ?_ | (refine cbi (fun hb => ?_) (fun hb => ?_) <;> cbv) | (refine ⟨[2, 3, 12, 13, 14], [2, 3], Int × List (List L), fun s_ => match s_ with | (i, out) => [.reg 14 (.one (.v (.int .i64 i))), .leaf 3 0 ⟨0, 0, none, .own (.s 1 out)⟩], fun s_ => match s_ with | (i, out) => 0 <= i /\ i <= (cs.length : Int) /\ out = cs.take i.toNat, fun s_ => match s_ with | (i, out) => cs.length - i.toNat, ⟨(0, []), ?_, ?_⟩, ?_⟩; rotate_left; (focus (cbv; done)); intro s_ hi; obtain ⟨i, out⟩ := s_; replace hi : 0 <= i /\ i <= (cs.length : Int) /\ out = cs.take i.toNat := hi; obtain ⟨i0, i1, i2⟩ := hi; cbv) | (refine loop_step (O.ar .add .i64 i 1, O.cat out [[.s 1 (O.gs cs i 0)]]) ?_ ?_ ?_; rotate_left 2; focus (cbv; done))
 all_goals (subst hO hr hF; (try simp only [stdO, SS, sa, az] at *); (try simp only [nc] at *); (try simp only [onc] at *))
 all_goals try rw [up64 (by omega) (by omega)]
 all_goals try (have hol : out.length = i.toNat := (by rw [i2, List.length_take]; omega))
 all_goals try (have hsc := sub_cnt hc i0 (by assumption); have hsl := len_cnt (es := gsI cs i 0))
 all_goals first | exact hs | omega | (refine ⟨by omega, by omega, (Rw.eta (by first | assumption | exact Rw.sub (by first | assumption | exact Rw.sub (by assumption) (by omega) rfl) (by omega) rfl) (by omega) (by omega)).trans ?_⟩; rfl) | (show okOrder _ _ = true; kernel_rfl) | exact ⟨by (first | assumption | exact Rw.sub (by first | assumption | exact Rw.sub (by assumption) (by omega) rfl) (by omega) rfl), by omega⟩ | (simp only [List.length_nil, List.length_cons]; omega) | (rw [i2]; exact (take_row hc i0 (by assumption)).symm) | (rw [i2, take_end (by omega)]; rfl) | exact ⟨trivial, trivial⟩ | trivial | exact rfl | trace_state
theorem c_spec_l05Copy (cs us : List (List L)) (hp : Rw [.sl [tI]] cs /\ Rw [tB] us /\ cntE cs <= 1099511627776 /\ cntE us <= 1099511627776) : Ctr Try.prog 91 [.agg [.s 1 cs, .s 1 us]] [.agg [.s 1 cs, .s 1 us]] := by
 obtain ⟨hc, hu, hn, hm⟩ := hp
 have hs := hu.scal rfl
 have hl1 := len_cnt (es := cs); have hl2 := len_cnt (es := us)
 refine ctr_b D0.B tabOk mixed 30 _ [56] [.cell 2 56] Try.func91 rfl rfl rfl rfl rfl ?_
 intro O r (F : D0.Fns) hO hr (hF : F = D0.F0)
 cbv
 repeat' first | refine And.intro ?_ ?_ | (refine cbi (fun hb => ?_) (fun hb => ?_) <;> cbv) | (refine ⟨[1, 2, 3, 4], [1, 2, 3], Int × List (List L), fun s_ => match s_ with | (i, out) => [.reg 4 (.one (.v (.int .i64 i))), .leaf 3 0 ⟨0, 0, none, .own (.s 1 out)⟩], fun s_ => match s_ with | (i, out) => 0 <= i /\ i <= (cs.length : Int) /\ out = cs.take i.toNat, fun s_ => match s_ with | (i, out) => cs.length - i.toNat, ⟨(0, []), ?_, ?_⟩, ?_⟩; rotate_left; (focus (cbv; done)); intro s_ hi; obtain ⟨i, out⟩ := s_; replace hi : 0 <= i /\ i <= (cs.length : Int) /\ out = cs.take i.toNat := hi; obtain ⟨i0, i1, i2⟩ := hi; cbv) | (refine loop_step (O.ar .add .i64 i 1, O.cat out [[.s 1 (O.gs cs i 0)]]) ?_ ?_ ?_; rotate_left 2; focus (cbv; done)) | (refine loop_step (O.ar .add .i64 i 1, O.cat out [[.s 1 (O.cat [] (O.gs cs i 0))]]) ?_ ?_ ?_; rotate_left 2; focus (cbv; done))
 all_goals (subst hO hr hF; (try simp only [stdO, SS, sa, az] at *); (try simp only [nc] at *); (try simp only [onc] at *))
 all_goals try rw [up64 (by omega) (by omega)]
 all_goals try (have hol : out.length = i.toNat := (by rw [i2, List.length_take]; omega))
 all_goals try (have hsc := sub_cnt hc i0 (by assumption); have hsl := len_cnt (es := gsI cs i 0))
 all_goals first | exact hs | exact Rw.scal (fs := [tI]) (by (first | assumption | exact Rw.sub (by first | assumption | exact Rw.sub (by assumption) (by omega) rfl) (by omega) rfl)) rfl | omega | (refine ⟨by omega, by omega, (Rw.eta (by first | assumption | exact Rw.sub (by first | assumption | exact Rw.sub (by assumption) (by omega) rfl) (by omega) rfl) (by omega) (by omega)).trans ?_⟩; rfl) | (show okOrder _ _ = true; kernel_rfl) | exact ⟨by (first | assumption | exact Rw.sub (by first | assumption | exact Rw.sub (by assumption) (by omega) rfl) (by omega) rfl), by omega⟩ | (simp only [List.length_nil, List.length_cons]; omega) | (rw [i2]; exact (take_row hc i0 (by assumption)).symm) | (rw [i2, List.nil_append]; exact (take_row hc i0 (by assumption)).symm) | (rw [i2, take_end (by omega)]; rfl) | exact ⟨trivial, trivial⟩ | trivial | exact rfl | trace_state
theorem c_impl_copyTable (es : List (List L)) (hp : Rw [tI, tI] es /\ es.length <= 1099511627776) : Ctr Try.prog 61 [.agg [.s 2 es]] [.agg [.s 2 es]] := by
 obtain ⟨hw, hl⟩ := hp
 have hs := hw.scal rfl
 refine ctr_b D0.B tabOk mixed 8 _ [59] [.cell 2 59] Try.func61 rfl rfl rfl rfl rfl ?_
 intro O r (F : D0.Fns) hO hr (hF : F = D0.F0)
 cbv
 repeat' first | refine And.intro ?_ ?_ | (refine cbi (fun hb => ?_) (fun hb => ?_) <;> cbv)
 all_goals (subst hO hr hF; (try simp only [stdO, SS, sa, az] at *); (try simp only [nc] at *); (try simp only [onc] at *))
 all_goals first | exact hs | trivial | exact ⟨trivial, trivial⟩ | omega | (simp only [List.length_nil]; omega) | exact rfl | trace_state
theorem c_spec_l06Copy (es : List (List L)) (hp : Rw [tI, tI] es /\ es.length <= 1099511627776) : Ctr Try.prog 92 [.agg [.s 2 es]] [.agg [.s 2 es]] := by
 obtain ⟨hw, hl⟩ := hp
 have hs := hw.scal rfl
 refine ctr_b D0.B tabOk mixed 8 _ [59] [.cell 2 59] Try.func92 rfl rfl rfl rfl rfl ?_
 intro O r (F : D0.Fns) hO hr (hF : F = D0.F0)
 cbv
 repeat' first | refine And.intro ?_ ?_ | (refine cbi (fun hb => ?_) (fun hb => ?_) <;> cbv)
 all_goals (subst hO hr hF; (try simp only [stdO, SS, sa, az] at *); (try simp only [nc] at *); (try simp only [onc] at *))
 all_goals first | exact hs | trivial | exact ⟨trivial, trivial⟩ | omega | (simp only [List.length_nil]; omega) | exact rfl | trace_state
namespace D2
structure Fns where
 no : Unit
def F0 : Fns := ⟨()⟩
def ct (F : Fns) : CT := fun f ds => match f with
 | 60 => match ds with
   | [.agg [.s 1 cs, .s 1 us]] => some (fun _ => Rw [.sl [tI]] cs /\ Rw [tB] us /\ cntE cs <= 1099511627776 /\ cntE us <= 1099511627776, [.agg [.s 1 cs, .s 1 us]])
   | _ => none
 | 61 => match ds with
   | [.agg [.s 2 es]] => some (fun _ => Rw [tI, tI] es /\ es.length <= 1099511627776, [.agg [.s 2 es]])
   | _ => none
 | _ => none
theorem ct_ok : CTok Try.prog (ct F0) := by
 intro f ds pre res h hp
 unfold ct at h
 split at h <;> (try split at h) <;> cases h
 exact c_impl_copyFrames _ _ hp
 exact c_impl_copyTable _ hp
def B : TB Try.prog := tb ct_ok
end D2
theorem c_impl_copyCow (cs us ts : List (List L)) (hp : Rw [.sl [tI]] cs /\ Rw [tB] us /\ Rw [.sl [tI, tI]] ts /\ cntE cs <= 1099511627776 /\ cntE us <= 1099511627776 /\ cntE ts <= 1099511627776) : Ctr Try.prog 65 [.agg [.s 1 cs, .s 1 us, .s 1 ts]] [.agg [.s 1 cs, .s 1 us, .s 1 ts]] := by
 obtain ⟨hc, hu, ht, hn, hm, hk⟩ := hp
 have hl1 := len_cnt (es := cs); have hl2 := len_cnt (es := us); have hl3 := len_cnt (es := ts)
 refine ctr_b D2.B tabOk mixed 26 _ [65] [.cell 2 65] Try.func65 rfl rfl rfl rfl rfl ?_
 intro O r (F : D2.Fns) hO hr (hF : F = D2.F0)
 cbv
 repeat' first | refine And.intro ?_ ?_ | (refine cbi (fun hb => ?_) (fun hb => ?_) <;> cbv) | (refine ⟨[2, 3, 11, 12, 13], [2, 3], Int × List (List L), fun s_ => match s_ with | (i, out) => [.reg 13 (.one (.v (.int .i64 i))), .leaf 3 2 ⟨0, 0, none, .own (.s 1 out)⟩], fun s_ => match s_ with | (i, out) => 0 <= i /\ i <= (ts.length : Int) /\ out = ts.take i.toNat, fun s_ => match s_ with | (i, out) => ts.length - i.toNat, ⟨(0, []), ?_, ?_⟩, ?_⟩; rotate_left; (focus (cbv; done)); intro s_ hi; obtain ⟨i, out⟩ := s_; replace hi : 0 <= i /\ i <= (ts.length : Int) /\ out = ts.take i.toNat := hi; obtain ⟨i0, i1, i2⟩ := hi; cbv) | (refine loop_step (O.ar .add .i64 i 1, O.cat out [[.s 2 (O.gs ts i 0)]]) ?_ ?_ ?_; rotate_left 2; focus (cbv; done))
 all_goals (subst hO hr hF; (try simp only [stdO, SS, sa, az] at *); (try simp only [nc] at *); (try simp only [onc] at *))
 all_goals try rw [up64 (by omega) (by omega)]
 all_goals try (have hol : out.length = i.toNat := (by rw [i2, List.length_take]; omega))
 all_goals try (have hsc := sub_cnt ht i0 (by assumption); have hsl := len_cnt (es := gsI ts i 0))
 all_goals first | omega | (refine ⟨by omega, by omega, (Rw.eta (by first | assumption | exact Rw.sub (by first | assumption | exact Rw.sub (by assumption) (by omega) rfl) (by omega) rfl) (by omega) (by omega)).trans ?_⟩; rfl) | (show okOrder _ _ = true; kernel_rfl) | exact ⟨hc, hu, hn, hm⟩ | exact ⟨by (first | assumption | exact Rw.sub (by first | assumption | exact Rw.sub (by assumption) (by omega) rfl) (by omega) rfl), by omega⟩ | (simp only [List.length_nil, List.length_cons]; omega) | (rw [i2]; exact (take_row ht i0 (by assumption)).symm) | (rw [i2, take_end (by omega)]; rfl) | exact ⟨trivial, trivial⟩ | trivial | exact rfl | trace_state
namespace D4
structure Fns where
 framesOk : List (List L) -> List (List L) -> Bool
 tableOk : List (List L) -> Int -> Bool
 pagesOn : List (List L) -> Int -> List (List L)
def F0 : Fns := ⟨framesOk, tableOk, pagesOn⟩
def ct (F : Fns) : CT := fun f ds => match f with
 | 72 => match ds with
   | [.agg [.s 1 cs, .s 1 us]] => some (fun _ => Rw [.sl [tI]] cs /\ Rw [tB] us, [.one (.v (.bool (F.framesOk cs us)))])
   | _ => none
 | 73 => match ds with
   | [.agg [.s 2 es], .one (.v (.int .i64 n))] => some (fun _ => Rw [tI, tI] es, [.one (.v (.bool (F.tableOk es n)))])
   | _ => none
 | 69 => match ds with
   | [.agg [.s 2 es], .one (.v (.int .i64 f))] => some (fun _ => Rw [tI, tI] es /\ es.length <= 1099511627776, [.one (.s 1 (F.pagesOn es f))])
   | _ => none
 | _ => none
theorem ct_ok : CTok Try.prog (ct F0) := by
 intro f ds pre res h hp
 unfold ct at h
 split at h <;> (try split at h) <;> cases h
 exact c_impl_FramesOk _ _ hp
 exact c_impl_TableOk _ _ hp
 exact c_impl_PagesOn _ _ hp
def B : TB Try.prog := tb ct_ok
end D4
theorem c_impl_MachineOk (cs us es : List (List L)) (hp : Rw [.sl [tI]] cs /\ Rw [tB] us /\ Rw [tI, tI] es) : Ctr Try.prog 59 [.agg [.s 1 cs, .s 1 us, .s 2 es]] [.one (.v (.bool (machOk cs us es)))] := by
 obtain ⟨hc, hu, ht⟩ := hp
 have hm := hu.1; unfold maxLen at hm
 refine ctr_b D4.B tabOk mixed 37 _ [4] [.tmp 2] Try.func59 rfl rfl rfl rfl rfl ?_
 intro O r (F : D4.Fns) hO hr (hF : F = D4.F0)
 cbv
 repeat' first | refine And.intro ?_ ?_ | (refine cbi (fun hb => ?_) (fun hb => ?_) <;> cbv) | (refine ⟨[1, 21, 22, 23], [1], Int, fun i => [.reg 23 (.one (.v (.int .i64 i)))], fun i => 0 <= i /\ i <= ((us.length : Nat) : Int) /\ upto (machIn us es) i, fun i => (us.length) - i.toNat, ⟨0, ?_, ?_⟩, ?_⟩; rotate_left; (focus (cbv; done)); intro i hi; replace hi : 0 <= i /\ i <= ((us.length : Nat) : Int) /\ upto (machIn us es) i := hi; obtain ⟨i0, i1, i2⟩ := hi; cbv) | (refine loop_step (O.ar .add .i64 i 1) ?_ ?_ ?_; rotate_left 2; focus (cbv; done))
 all_goals (subst hO hr hF; (try simp only [stdO, SS, sa, az] at *); (try simp only [nc] at *); (try simp only [onc] at *))
 all_goals (try simp only [D4.F0, len_pos] at *)
 all_goals try rw [up64 (by omega) (by omega)]
 all_goals try (have hfl := fr_len (cs := cs) (us := us) (by assumption))
 all_goals try (have htl := tb_len (es := es) (n := (us.length : Int)) (by assumption))
 all_goals try (have htl := tb_len (es := es) (n := (cs.length : Int)) (by assumption))
 all_goals first | omega | (refine ⟨by omega, by omega, (Rw.eta (by first | assumption | exact Rw.sub (by first | assumption | exact Rw.sub (by assumption) (by omega) rfl) (by omega) rfl) (by omega) (by omega)).trans ?_⟩; rfl) | (show okOrder _ _ = true; kernel_rfl) | exact upto_z | contradiction | exact ⟨hc, hu⟩ | exact ht | exact ⟨ht, by omega⟩ | exact db_eq (mc_no (.inl (by assumption))).symm | exact db_eq (mc_no (.inr (by assumption))).symm | exact db_eq (mc_no2 (by assumption) (by assumption)).symm | exact db_eq (mc_no3 i0 (by omega) (by assumption)).symm | exact upto_s i2 (mc_in (by assumption)) | exact db_eq (mc_yes (by assumption) (by assumption) i2 (by omega)).symm | (refine db_eq (mc_yes (by assumption) ?_ i2 (by omega)).symm; rw [hfl.1]; assumption) | trivial | exact rfl | trace_state
namespace D5
structure Fns where
 framesOk : List (List L) -> List (List L) -> Bool
 tableOk : List (List L) -> Int -> Bool
 pagesOn : List (List L) -> Int -> List (List L)
def F0 : Fns := ⟨framesOk, tableOk, pagesOn⟩
def ct (F : Fns) : CT := fun f ds => match f with
 | 74 => match ds with
   | [.agg [.s 1 cs, .s 1 us]] => some (fun _ => Rw [.sl [tI]] cs /\ Rw [tB] us, [.one (.v (.bool (F.framesOk cs us)))])
   | _ => none
 | 76 => match ds with
   | [.agg [.s 2 es], .one (.v (.int .i64 n))] => some (fun _ => Rw [tI, tI] es, [.one (.v (.bool (F.tableOk es n)))])
   | _ => none
 | 77 => match ds with
   | [.agg [.s 2 es], .one (.v (.int .i64 f))] => some (fun _ => Rw [tI, tI] es /\ es.length <= 1099511627776, [.one (.s 1 (F.pagesOn es f))])
   | _ => none
 | _ => none
theorem ct_ok : CTok Try.prog (ct F0) := by
 intro f ds pre res h hp
 unfold ct at h
 split at h <;> (try split at h) <;> cases h
 exact c_spec_FramesOk _ _ hp
 exact c_spec_TableOk _ _ hp
 exact c_spec_PagesOn _ _ hp
def B : TB Try.prog := tb ct_ok
end D5
theorem c_spec_MachineOk (cs us es : List (List L)) (hp : Rw [.sl [tI]] cs /\ Rw [tB] us /\ Rw [tI, tI] es) : Ctr Try.prog 42 [.agg [.s 1 cs, .s 1 us, .s 2 es]] [.one (.v (.bool (machOk cs us es)))] := by
 obtain ⟨hc, hu, ht⟩ := hp
 have hm := hu.1; unfold maxLen at hm
 refine ctr_b D5.B tabOk mixed 39 _ [4] [.tmp 2] Try.func42 rfl rfl rfl rfl rfl ?_
 intro O r (F : D5.Fns) hO hr (hF : F = D5.F0)
 cbv
 repeat' first | refine And.intro ?_ ?_ | (refine cbi (fun hb => ?_) (fun hb => ?_) <;> cbv) | (refine ⟨[1, 3], [1], Int, fun i => [.reg 3 (.one (.v (.int .i64 i)))], fun i => 0 <= i /\ i <= ((us.length : Nat) : Int) /\ upto (machIn us es) i, fun i => (us.length) - i.toNat, ⟨0, ?_, ?_⟩, ?_⟩; rotate_left; (focus (cbv; done)); intro i hi; replace hi : 0 <= i /\ i <= ((us.length : Nat) : Int) /\ upto (machIn us es) i := hi; obtain ⟨i0, i1, i2⟩ := hi; cbv) | (refine loop_step (O.ar .add .i64 i 1) ?_ ?_ ?_; rotate_left 2; focus (cbv; done))
 all_goals (subst hO hr hF; (try simp only [stdO, SS, sa, az] at *); (try simp only [nc] at *); (try simp only [onc] at *))
 all_goals (try simp only [D5.F0, len_pos] at *)
 all_goals try rw [up64 (by omega) (by omega)]
 all_goals try (have hfl := fr_len (cs := cs) (us := us) (by assumption))
 all_goals try (have htl := tb_len (es := es) (n := (us.length : Int)) (by assumption))
 all_goals try (have htl := tb_len (es := es) (n := (cs.length : Int)) (by assumption))
 all_goals first | omega | (refine ⟨by omega, by omega, (Rw.eta (by first | assumption | exact Rw.sub (by first | assumption | exact Rw.sub (by assumption) (by omega) rfl) (by omega) rfl) (by omega) (by omega)).trans ?_⟩; rfl) | (show okOrder _ _ = true; kernel_rfl) | exact upto_z | contradiction | exact ⟨hc, hu⟩ | exact ht | exact ⟨ht, by omega⟩ | exact db_eq (mc_no (.inl (by assumption))).symm | exact db_eq (mc_no (.inr (by assumption))).symm | exact db_eq (mc_no2 (by assumption) (by assumption)).symm | exact db_eq (mc_no3 i0 (by omega) (by assumption)).symm | exact upto_s i2 (mc_in (by assumption)) | exact db_eq (mc_yes (by assumption) (by assumption) i2 (by omega)).symm | (refine db_eq (mc_yes (by assumption) ?_ i2 (by omega)).symm; rw [hfl.1]; assumption) | trivial | exact rfl | trace_state
namespace D6
structure Fns where
 machOk : List (List L) -> List (List L) -> List (List L) -> Bool
def F0 : Fns := ⟨machOk⟩
def ct (F : Fns) : CT := fun f ds => match f with
 | 59 => match ds with
   | [.agg [.s 1 cs, .s 1 us, .s 2 es]] => some (fun _ => Rw [.sl [tI]] cs /\ Rw [tB] us /\ Rw [tI, tI] es, [.one (.v (.bool (F.machOk cs us es)))])
   | _ => none
 | 60 => match ds with
   | [.agg [.s 1 cs, .s 1 us]] => some (fun _ => Rw [.sl [tI]] cs /\ Rw [tB] us /\ cntE cs <= 1099511627776 /\ cntE us <= 1099511627776, [.agg [.s 1 cs, .s 1 us]])
   | _ => none
 | 61 => match ds with
   | [.agg [.s 2 es]] => some (fun _ => Rw [tI, tI] es /\ es.length <= 1099511627776, [.agg [.s 2 es]])
   | _ => none
 | _ => none
theorem ct_ok : CTok Try.prog (ct F0) := by
 intro f ds pre res h hp
 unfold ct at h
 split at h <;> (try split at h) <;> cases h
 exact c_impl_MachineOk _ _ _ hp
 exact c_impl_copyFrames _ _ hp
 exact c_impl_copyTable _ hp
def B : TB Try.prog := tb ct_ok
end D6
theorem c_impl_CowNew (cs us es : List (List L)) (hp : Rw [.sl [tI]] cs /\ Rw [tB] us /\ Rw [tI, tI] es /\ cntE cs <= 1099511627776) : Ctr Try.prog 31 [.agg [.s 1 cs, .s 1 us, .s 2 es]] [.agg [.s 1 (cnC cs us es), .s 1 (cnU cs us es), .s 1 (cnT cs us es)], .one (.v (.bool (machOk cs us es)))] := by
 obtain ⟨hc, hu, ht, hn⟩ := hp
 have huc := hu.cnt rfl
 refine ctr_b D6.B tabOk mixed 19 _ [65, 4] [.cell 2 65, .tmp 3] Try.func31 rfl rfl rfl rfl rfl ?_
 intro O r (F : D6.Fns) hO hr (hF : F = D6.F0)
 cbv
 repeat' first | refine And.intro ?_ ?_ | (refine cbi (fun hb => ?_) (fun hb => ?_) <;> cbv)
 all_goals (subst hO hr hF; (try simp only [stdO, SS, sa, az] at *); (try simp only [nc] at *); (try simp only [onc] at *))
 all_goals (try simp only [D6.F0] at *)
 all_goals try (have hmo := mc_ok (cs := cs) (us := us) (es := es) (by assumption); have hfl := fr_len hmo.1; have htl := tb_len hmo.2.1)
 all_goals first | exact ⟨hc, hu, ht⟩ | exact cw_eq (cn_no (by assumption)).1.symm (cn_no (by assumption)).2.1.symm (cn_no (by assumption)).2.2.symm (by simp only [*]) | exact cw_eq (cn_yes (by assumption)).1.symm (cn_yes (by assumption)).2.1.symm (cn_yes (by assumption)).2.2.symm (by simp only [*]) | (show okOrder _ _ = true; kernel_rfl) | exact ⟨hc, hu, hn, by omega⟩ | exact ⟨ht, by omega⟩ | omega | trivial | exact ⟨trivial, trivial⟩ | exact rfl | trace_state
end Go.V