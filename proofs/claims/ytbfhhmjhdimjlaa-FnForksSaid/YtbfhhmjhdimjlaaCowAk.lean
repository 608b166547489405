/-
  Contracts, by evaluation.
-/
import Derived.Test.YtbfhhmjhdimjlaaS8
import Derived.Test.YtbfhhmjhdimjlaaH1
set_option linter.all false
namespace Go.V
open Go Go.Proofs
set_option maxRecDepth 1000000
set_option maxHeartbeats 8000000
namespace A0
structure Fns where
 no : Unit
def F0 : Fns := ⟨()⟩
def B : TB Try.prog := {Φ := Fns, F0 := F0}
end A0
theorem c_impl_between (x a b : Int) (hp : True) : Ctr Try.prog 46 [.one (.v (.int .i64 x)), .one (.v (.int .i64 a)), .one (.v (.int .i64 b))] [.one (.v (.bool (inR x a b)))] := by
 refine ctr_b A0.B tabOk mixed 15 _ [4] [.tmp 6] Try.func46 rfl rfl rfl rfl rfl ?_
 intro O r (F : A0.Fns) hO hr (hF : F = A0.F0)
 cbv
 repeat' first | refine And.intro ?_ ?_ | (refine cbi (fun hb => ?_) (fun hb => ?_) <;> cbv)
 all_goals (subst hO hr hF; (try simp only [stdO, SS, sa, az] at *); (try simp only [nc] at *); (try simp only [onc] at *))
 all_goals refine db_eq ?_
 ·exact b_iff (by rw [inR_t]; simp only [SS]; omega)
 ·exact (inR_f.2 (by omega)).symm
theorem c_spec_l01In (x a b : Int) (hp : True) : Ctr Try.prog 53 [.one (.v (.int .i64 x)), .one (.v (.int .i64 a)), .one (.v (.int .i64 b))] [.one (.v (.bool (inR x a b)))] := by
 refine ctr_b A0.B tabOk mixed 15 _ [4] [.tmp 6] Try.func53 rfl rfl rfl rfl rfl ?_
 intro O r (F : A0.Fns) hO hr (hF : F = A0.F0)
 cbv
 repeat' first | refine And.intro ?_ ?_ | (refine cbi (fun hb => ?_) (fun hb => ?_) <;> cbv)
 all_goals (subst hO hr hF; (try simp only [stdO, SS, sa, az] at *); (try simp only [nc] at *); (try simp only [onc] at *))
 all_goals refine db_eq ?_
 ·exact b_iff (by rw [inR_t]; simp only [SS]; omega)
 ·exact (inR_f.2 (by omega)).symm
namespace A1
structure Fns where
 inR : Int -> Int -> Int -> Bool
def F0 : Fns := ⟨inR⟩
def ct (F : Fns) : CT := fun f ds => match f with
 | 46 => match ds with
   | [.one (.v (.int .i64 x)), .one (.v (.int .i64 a)), .one (.v (.int .i64 b))] => some (fun _ => True, [.one (.v (.bool (F.inR x a b)))])
   | _ => none
 | 53 => match ds with
   | [.one (.v (.int .i64 x)), .one (.v (.int .i64 a)), .one (.v (.int .i64 b))] => some (fun _ => True, [.one (.v (.bool (F.inR x a b)))])
   | _ => none
 | _ => none
theorem ct_ok : CTok Try.prog (ct F0) := by
 intro f ds pre res h hp
 unfold ct at h
 split at h <;> (try split at h) <;> cases h
 exact c_impl_between _ _ _ hp
 exact c_spec_l01In _ _ _ hp
def B : TB Try.prog := tb ct_ok
end A1
theorem c_impl_FramesOk (cs us : List (List L)) (hp : Rw [.sl [tI]] cs /\ Rw [tB] us) : Ctr Try.prog 72 [.agg [.s 1 cs, .s 1 us]] [.one (.v (.bool (framesOk cs us)))] := by
 obtain ⟨hc, hu⟩ := hp
 have hcw := hc.wf; have huw := hu.wf
 have hlen := hc.1; unfold maxLen at hlen
 refine ctr_b A1.B tabOk mixed 55 _ [4] [.tmp 2] Try.func72 rfl rfl rfl rfl rfl ?_
 intro O r (F : A1.Fns) hO hr (hF : F = A1.F0)
 cbv
 repeat' first | refine And.intro ?_ ?_ | (refine cbi (fun hb => ?_) (fun hb => ?_) <;> cbv) | (refine ⟨[1, 22, 23, 24], [1], Int, fun i => [.reg 24 (.one (.v (.int .i64 i)))], fun i => 0 <= i /\ i <= ((cs.length : Nat) : Int) /\ upto (frameOk cs us) i, fun i => (cs.length) - i.toNat, ⟨0, ?_, ?_⟩, ?_⟩; rotate_left; (focus (cbv; done)); intro i hi; replace hi : 0 <= i /\ i <= ((cs.length : Nat) : Int) /\ upto (frameOk cs us) i := hi; obtain ⟨i0, i1, i2⟩ := hi; cbv) | (refine loop_step (O.ar .add .i64 i 1) ?_ ?_ ?_; rotate_left 2; focus (cbv; done)) | (refine ⟨[1, 3, 22, 23, 24, 32, 33, 34], [1], Int, fun k => [.reg 34 (.one (.v (.int .i64 k)))], fun k => 0 <= k /\ k <= (((O.gs cs i 0).length : Nat) : Int) /\ upto (cellOk cs us i) k, fun k => ((O.gs cs i 0).length) - k.toNat, ⟨0, ?_, ?_⟩, ?_⟩; rotate_left; (focus (cbv; done)); intro k hk; replace hk : 0 <= k /\ k <= (((O.gs cs i 0).length : Nat) : Int) /\ upto (cellOk cs us i) k := hk; obtain ⟨k0, k1, k2⟩ := hk; cbv) | (refine loop_step (O.ar .add .i64 k 1) ?_ ?_ ?_; rotate_left 2; focus (cbv; done))
 all_goals (subst hO hr hF; (try simp only [stdO, SS, sa, az] at *); (try simp only [nc] at *); (try simp only [onc] at *))
 all_goals (try simp only [A1.F0] at *)
 all_goals try rw [up64 (by omega) (by omega)]
 all_goals first | omega | (refine ⟨by omega, by omega, (Rw.eta (by first | assumption | exact Rw.sub (by first | assumption | exact Rw.sub (by assumption) (by omega) rfl) (by omega) rfl) (by omega) (by omega)).trans ?_⟩; rfl) | exact upto_z | contradiction | exact db_eq (fr_no1 (by assumption)).symm | exact db_eq (fr_no2 (by omega)).symm | exact db_eq (fr_no3 i0 (by omega) (by omega)).symm | exact db_eq (fr_no4 i0 (by omega) k0 (by omega) (.inl (by assumption))).symm | exact db_eq (fr_no4 i0 (by omega) k0 (by omega) (.inr ⟨by assumption, by assumption⟩)).symm | exact db_eq (fr_yes (by assumption) (by omega) i2 (by omega)).symm | exact upto_s i2 (fr_in (by omega) k2 (by omega)) | exact upto_s k2 (ce_in (by assumption) (by first | exact .inl (by assumption) | exact .inr (by assumption))) | trace_state
theorem c_spec_FramesOk (cs us : List (List L)) (hp : Rw [.sl [tI]] cs /\ Rw [tB] us) : Ctr Try.prog 74 [.agg [.s 1 cs, .s 1 us]] [.one (.v (.bool (framesOk cs us)))] := by
 obtain ⟨hc, hu⟩ := hp
 have hlen := hc.1; unfold maxLen at hlen
 refine ctr_b A1.B tabOk mixed 61 _ [4] [.tmp 2] Try.func74 rfl rfl rfl rfl rfl ?_
 intro O r (F : A1.Fns) hO hr (hF : F = A1.F0)
 cbv
 repeat' first | refine And.intro ?_ ?_ | (refine cbi (fun hb => ?_) (fun hb => ?_) <;> cbv) | (refine ⟨[1, 3], [1], Int, fun i => [.reg 3 (.one (.v (.int .i64 i)))], fun i => 0 <= i /\ i <= ((cs.length : Nat) : Int) /\ upto (frameOk cs us) i, fun i => (cs.length) - i.toNat, ⟨0, ?_, ?_⟩, ?_⟩; rotate_left; (focus (cbv; done)); intro i hi; replace hi : 0 <= i /\ i <= ((cs.length : Nat) : Int) /\ upto (frameOk cs us) i := hi; obtain ⟨i0, i1, i2⟩ := hi; cbv) | (refine loop_step (O.ar .add .i64 i 1) ?_ ?_ ?_; rotate_left 2; focus (cbv; done)) | (refine ⟨[1, 3, 4], [1], Int, fun k => [.reg 4 (.one (.v (.int .i64 k)))], fun k => 0 <= k /\ k <= ((16 : Nat) : Int) /\ upto (cellOk cs us i) k, fun k => (16) - k.toNat, ⟨0, ?_, ?_⟩, ?_⟩; rotate_left; (focus (cbv; done)); intro k hk; replace hk : 0 <= k /\ k <= ((16 : Nat) : Int) /\ upto (cellOk cs us i) k := hk; obtain ⟨k0, k1, k2⟩ := hk; cbv) | (refine loop_step (O.ar .add .i64 k 1) ?_ ?_ ?_; rotate_left 2; focus (cbv; done))
 all_goals (subst hO hr hF; (try simp only [stdO, SS, sa, az] at *); (try simp only [nc] at *); (try simp only [onc] at *))
 all_goals (try simp only [A1.F0] at *)
 all_goals try rw [up64 (by omega) (by omega)]
 all_goals first | omega | (refine ⟨by omega, by omega, (Rw.eta (by first | assumption | exact Rw.sub (by first | assumption | exact Rw.sub (by assumption) (by omega) rfl) (by omega) rfl) (by omega) (by omega)).trans ?_⟩; rfl) | exact upto_z | contradiction | exact db_eq (fr_no1 (by assumption)).symm | exact db_eq (fr_no2 (by omega)).symm | exact db_eq (fr_no3 i0 (by omega) (by omega)).symm | exact db_eq (fr_no4 i0 (by omega) k0 (by omega) (.inl (by assumption))).symm | exact db_eq (fr_no4 i0 (by omega) k0 (by omega) (.inr ⟨by assumption, by assumption⟩)).symm | exact db_eq (fr_yes (by assumption) (by omega) i2 (by omega)).symm | exact upto_s i2 (fr_in (by omega) k2 (by omega)) | exact upto_s k2 (ce_in (by assumption) (by first | exact .inl (by assumption) | exact .inr (by assumption))) | trace_state
theorem c_impl_TableOk (es : List (List L)) (n : Int) (hp : Rw [tI, tI] es) : Ctr Try.prog 73 [.agg [.s 2 es], .one (.v (.int .i64 n))] [.one (.v (.bool (tableOk es n)))] := by
 have hlen := hp.1; unfold maxLen at hlen
 refine ctr_b A1.B tabOk mixed 49 _ [4] [.tmp 4] Try.func73 rfl rfl rfl rfl rfl ?_
 intro O r (F : A1.Fns) hO hr (hF : F = A1.F0)
 cbv
 repeat' first | refine And.intro ?_ ?_ | (refine cbi (fun hb => ?_) (fun hb => ?_) <;> cbv) | (refine ⟨[1, 2, 8, 9, 10], [2], Int, fun i => [.reg 10 (.one (.v (.int .i64 i)))], fun i => 0 <= i /\ i <= ((es.length : Nat) : Int) /\ upto (entOk es n) i, fun i => (es.length) - i.toNat, ⟨0, ?_, ?_⟩, ?_⟩; rotate_left; (focus (cbv; done)); intro i hi; replace hi : 0 <= i /\ i <= ((es.length : Nat) : Int) /\ upto (entOk es n) i := hi; obtain ⟨i0, i1, i2⟩ := hi; cbv) | (refine loop_step (O.ar .add .i64 i 1) ?_ ?_ ?_; rotate_left 2; focus (cbv; done))
 all_goals (subst hO hr hF; (try simp only [stdO, SS, sa, az] at *); (try simp only [nc] at *); (try simp only [onc] at *))
 all_goals (try simp only [A1.F0] at *)
 all_goals try rw [up64 (by omega) (by omega)]
 all_goals first | omega | (refine ⟨by omega, by omega, (Rw.eta (by first | assumption | exact Rw.sub (by first | assumption | exact Rw.sub (by assumption) (by omega) rfl) (by omega) rfl) (by omega) (by omega)).trans ?_⟩; rfl) | exact upto_z | contradiction | exact db_eq (tb_yes i2 (by omega)).symm | (simp only [inR_t, inR_f] at *; first | exact db_eq (tb_no i0 (by omega) (by omega)).symm | exact upto_s i2 (tb_in (by omega))) | trace_state
theorem c_spec_TableOk (es : List (List L)) (n : Int) (hp : Rw [tI, tI] es) : Ctr Try.prog 76 [.agg [.s 2 es], .one (.v (.int .i64 n))] [.one (.v (.bool (tableOk es n)))] := by
 have hlen := hp.1; unfold maxLen at hlen
 refine ctr_b A1.B tabOk mixed 54 _ [4] [.tmp 4] Try.func76 rfl rfl rfl rfl rfl ?_
 intro O r (F : A1.Fns) hO hr (hF : F = A1.F0)
 cbv
 repeat' first | refine And.intro ?_ ?_ | (refine cbi (fun hb => ?_) (fun hb => ?_) <;> cbv) | (refine ⟨[1, 2, 5], [2], Int, fun i => [.reg 5 (.one (.v (.int .i64 i)))], fun i => 0 <= i /\ i <= ((es.length : Nat) : Int) /\ upto (entOk es n) i, fun i => (es.length) - i.toNat, ⟨0, ?_, ?_⟩, ?_⟩; rotate_left; (focus (cbv; done)); intro i hi; replace hi : 0 <= i /\ i <= ((es.length : Nat) : Int) /\ upto (entOk es n) i := hi; obtain ⟨i0, i1, i2⟩ := hi; cbv) | (refine loop_step (O.ar .add .i64 i 1) ?_ ?_ ?_; rotate_left 2; focus (cbv; done))
 all_goals (subst hO hr hF; (try simp only [stdO, SS, sa, az] at *); (try simp only [nc] at *); (try simp only [onc] at *))
 all_goals (try simp only [A1.F0] at *)
 all_goals try rw [up64 (by omega) (by omega)]
 all_goals first | omega | (refine ⟨by omega, by omega, (Rw.eta (by first | assumption | exact Rw.sub (by first | assumption | exact Rw.sub (by assumption) (by omega) rfl) (by omega) rfl) (by omega) (by omega)).trans ?_⟩; rfl) | exact upto_z | contradiction | exact db_eq (tb_yes i2 (by omega)).symm | (simp only [inR_t, inR_f] at *; first | exact db_eq (tb_no i0 (by omega) (by omega)).symm | exact upto_s i2 (tb_in (by omega))) | trace_state
theorem c_impl_PagesOn (es : List (List L)) (f : Int) (hp : Rw [tI, tI] es /\ es.length <= 1099511627776) : Ctr Try.prog 69 [.agg [.s 2 es], .one (.v (.int .i64 f))] [.one (.s 1 (pagesOn es f))] := by
 obtain ⟨hw, hlen⟩ := hp
 refine ctr_b A0.B tabOk mixed 32 _ [24] [.tmp 4] Try.func69 rfl rfl rfl rfl rfl ?_
 intro O r (F : A0.Fns) hO hr (hF : F = A0.F0)
 cbv
 repeat' first | refine And.intro ?_ ?_ | (refine cbi (fun hb => ?_) (fun hb => ?_) <;> cbv) | (refine ⟨[1, 5, 10, 11, 12], [5], Int × List (List L), fun s_ => match s_ with | (i, out) => [.reg 12 (.one (.v (.int .i64 i))), .reg 5 (.one (.vw 5 0 0 0 (O.ln out))), .leaf 5 0 ⟨0, 0, none, .own (.s 1 out)⟩], fun s_ => match s_ with | (i, out) => 0 <= i /\ i <= (es.length : Int) /\ out = pgN es f i.toNat, fun s_ => match s_ with | (i, out) => es.length - i.toNat, ⟨(0, []), ?_, ?_⟩, ?_⟩; rotate_left; (focus (cbv; done)); intro s_ hi; obtain ⟨i, out⟩ := s_; replace hi : 0 <= i /\ i <= (es.length : Int) /\ out = pgN es f i.toNat := hi; obtain ⟨i0, i1, i2⟩ := hi; cbv) | (refine loop_step (O.ar .add .i64 i 1, O.cat out (O.sub [[.v (.int .i64 i)]] 0 (O.ln [[.v (.int .i64 i)]]))) ?_ ?_ ?_; rotate_left 2; focus (cbv; done)) | (refine loop_step (O.ar .add .i64 i 1, out) ?_ ?_ ?_; rotate_left 2; focus (cbv; done))
 all_goals (subst hO hr hF; (try simp only [stdO, SS, sa, az] at *); (try simp only [nc] at *); (try simp only [onc] at *))
 all_goals try rw [up64 (by omega) (by omega)]
 all_goals try (have hpl := pgN_len (es := es) (f := f) (n := i.toNat); rw [<- i2] at hpl)
 all_goals first | omega | (refine ⟨by omega, by omega, (Rw.eta (by first | assumption | exact Rw.sub (by first | assumption | exact Rw.sub (by assumption) (by omega) rfl) (by omega) rfl) (by omega) (by omega)).trans ?_⟩; rfl) | contradiction | (exact ⟨trivial, trivial⟩) | rfl | (simp [scalRecs, scalRec, scal]; done) | (simp only [List.length_cons, List.length_nil]; omega) | (rw [pgI_yes i0 (by assumption) (by assumption), <- i2]) | (rw [pgI_no i0 (.inl (by assumption)), <- i2]) | (rw [pgI_no i0 (.inr (by assumption)), <- i2]) | exact row_eq (by rw [i2, show i.toNat = es.length from by omega]; rfl) | trace_state
theorem c_spec_PagesOn (es : List (List L)) (f : Int) (hp : Rw [tI, tI] es /\ es.length <= 1099511627776) : Ctr Try.prog 77 [.agg [.s 2 es], .one (.v (.int .i64 f))] [.one (.s 1 (pagesOn es f))] := by
 obtain ⟨hw, hlen⟩ := hp
 refine ctr_b A0.B tabOk mixed 37 _ [24] [.tmp 4] Try.func77 rfl rfl rfl rfl rfl ?_
 intro O r (F : A0.Fns) hO hr (hF : F = A0.F0)
 cbv
 repeat' first | refine And.intro ?_ ?_ | (refine cbi (fun hb => ?_) (fun hb => ?_) <;> cbv) | (refine ⟨[1, 2, 5, 6], [2, 5], Int × List (List L), fun s_ => match s_ with | (i, out) => [.reg 6 (.one (.v (.int .i64 i))), .reg 5 (.one (.vw 5 0 0 0 (O.ln out))), .leaf 5 0 ⟨0, 0, none, .own (.s 1 out)⟩], fun s_ => match s_ with | (i, out) => 0 <= i /\ i <= (es.length : Int) /\ out = pgN es f i.toNat, fun s_ => match s_ with | (i, out) => es.length - i.toNat, ⟨(0, []), ?_, ?_⟩, ?_⟩; rotate_left; (focus (cbv; done)); intro s_ hi; obtain ⟨i, out⟩ := s_; replace hi : 0 <= i /\ i <= (es.length : Int) /\ out = pgN es f i.toNat := hi; obtain ⟨i0, i1, i2⟩ := hi; cbv) | (refine loop_step (O.ar .add .i64 i 1, O.cat out (O.sub [[.v (.int .i64 i)]] 0 (O.ln [[.v (.int .i64 i)]]))) ?_ ?_ ?_; rotate_left 2; focus (cbv; done)) | (refine loop_step (O.ar .add .i64 i 1, out) ?_ ?_ ?_; rotate_left 2; focus (cbv; done))
 all_goals (subst hO hr hF; (try simp only [stdO, SS, sa, az] at *); (try simp only [nc] at *); (try simp only [onc] at *))
 all_goals try rw [up64 (by omega) (by omega)]
 all_goals try (have hpl := pgN_len (es := es) (f := f) (n := i.toNat); rw [<- i2] at hpl)
 all_goals first | omega | (refine ⟨by omega, by omega, (Rw.eta (by first | assumption | exact Rw.sub (by first | assumption | exact Rw.sub (by assumption) (by omega) rfl) (by omega) rfl) (by omega) (by omega)).trans ?_⟩; rfl) | contradiction | (exact ⟨trivial, trivial⟩) | rfl | (simp [scalRecs, scalRec, scal]; done) | (simp only [List.length_cons, List.length_nil]; omega) | (rw [pgI_yes i0 (by assumption) (by assumption), <- i2]) | (rw [pgI_no i0 (.inl (by assumption)), <- i2]) | (rw [pgI_no i0 (.inr (by assumption)), <- i2]) | exact row_eq (by rw [i2, show i.toNat = es.length from by omega]; rfl) | trace_state
end Go.V