/-
  Contracts, by evaluation.
-/import Derived.Test.YticfhgfgobafbaaGreatS9
import Derived.Test.YticfhgfgobafbaaGreatHA
import Derived.Test.YticfhgfgobafbaaGreatHeapBm
set_option linter.all false
namespace Go.V
open Go Go.Proofs
set_option maxRecDepth 1000000
set_option maxHeartbeats 8000000
namespace KA1
structure Fns where
 inR : Int -> Int -> Int -> Bool
def F0 : Fns := ⟨inR⟩
def ct (F : Fns) : CT := fun f ds => match f with
 | 87 => match ds with
   | [.one (.v (.int .i64 x)), .one (.v (.int .i64 a)), .one (.v (.int .i64 b))] => some (fun _ => True, [.one (.v (.bool (F.inR x a b)))])
   | _ => none
 | 71 => match ds with
   | [.one (.v (.int .i64 x)), .one (.v (.int .i64 a)), .one (.v (.int .i64 b))] => some (fun _ => True, [.one (.v (.bool (F.inR x a b)))])
   | _ => none
 | _ => none
theorem ct_ok : CTok Tryz.prog (ct F0) := by
 intro f ds pre res h hp
 unfold ct at h
 split at h <;> (try split at h) <;> cases h
 exact c_impl_between _ _ _ hp
 exact c_spec_l01In _ _ _ hp
def B : TB Tryz.prog := tb ct_ok
end KA1
theorem c_impl_FramesOk (cs us : List (List L)) (hp : Rw [.sl [tI]] cs /\ Rw [tB] us) : Ctr Tryz.prog 203 [.agg [.s 1 cs, .s 1 us]] [.one (.v (.bool (framesOk cs us)))] := by
 obtain ⟨hc, hu⟩ := hp
 have hcw := hc.wf; have huw := hu.wf
 have hlen := hc.1; unfold maxLen at hlen
 refine ctr_b KA1.B tabOk mixed 55 _ [4] [.tmp 2] Tryz.func203 rfl rfl rfl rfl rfl ?_
 intro O r (F : KA1.Fns) hO hr (hF : F = KA1.F0)
 cbv
 repeat' first | refine And.intro ?_ ?_ | (refine cbi (fun hb => ?_) (fun hb => ?_) <;> cbv) | (refine ⟨[1, 22, 23, 24], [1], Int, fun i => [.reg 24 (.one (.v (.int .i64 i)))], fun i => 0 <= i /\ i <= ((cs.length : Nat) : Int) /\ upto (frameOk cs us) i, fun i => (cs.length) - i.toNat, ⟨0, ?_, ?_⟩, ?_⟩; rotate_left; (focus (cbv; done)); intro i hi; replace hi : 0 <= i /\ i <= ((cs.length : Nat) : Int) /\ upto (frameOk cs us) i := hi; obtain ⟨i0, i1, i2⟩ := hi; cbv) | (refine loop_step (O.ar .add .i64 i 1) ?_ ?_ ?_; rotate_left 2; focus (cbv; done)) | (refine ⟨[1, 3, 22, 23, 24, 32, 33, 34], [1], Int, fun k => [.reg 34 (.one (.v (.int .i64 k)))], fun k => 0 <= k /\ k <= (((O.gs cs i 0).length : Nat) : Int) /\ upto (cellOk cs us i) k, fun k => ((O.gs cs i 0).length) - k.toNat, ⟨0, ?_, ?_⟩, ?_⟩; rotate_left; (focus (cbv; done)); intro k hk; replace hk : 0 <= k /\ k <= (((O.gs cs i 0).length : Nat) : Int) /\ upto (cellOk cs us i) k := hk; obtain ⟨k0, k1, k2⟩ := hk; cbv) | (refine loop_step (O.ar .add .i64 k 1) ?_ ?_ ?_; rotate_left 2; focus (cbv; done))
 all_goals (subst hO hr hF; (try simp only [stdO, SS, sa, az] at *); (try simp only [nc] at *); (try simp only [onc] at *))
 all_goals (try simp only [KA1.F0] at *)
 all_goals try rw [up64 (by omega) (by omega)]
 all_goals first | omega | (refine ⟨by omega, by omega, (Rw.eta (by first | assumption | exact Rw.sub (by first | assumption | exact Rw.sub (by assumption) (by omega) rfl) (by omega) rfl) (by omega) (by omega)).trans ?_⟩; rfl) | exact upto_z | contradiction | exact db_eq (fr_no1 (by assumption)).symm | exact db_eq (fr_no2 (by omega)).symm | exact db_eq (fr_no3 i0 (by omega) (by omega)).symm | exact db_eq (fr_no4 i0 (by omega) k0 (by omega) (.inl (by assumption))).symm | exact db_eq (fr_no4 i0 (by omega) k0 (by omega) (.inr ⟨by assumption, by assumption⟩)).symm | exact db_eq (fr_yes (by assumption) (by omega) i2 (by omega)).symm | exact upto_s i2 (fr_in (by omega) k2 (by omega)) | exact upto_s k2 (ce_in (by assumption) (by first | exact .inl (by assumption) | exact .inr (by assumption))) | trace_state
theorem c_spec_FramesOk (cs us : List (List L)) (hp : Rw [.sl [tI]] cs /\ Rw [tB] us) : Ctr Tryz.prog 196 [.agg [.s 1 cs, .s 1 us]] [.one (.v (.bool (framesOk cs us)))] := by
 obtain ⟨hc, hu⟩ := hp
 have hlen := hc.1; unfold maxLen at hlen
 refine ctr_b KA1.B tabOk mixed 61 _ [4] [.tmp 2] Tryz.func196 rfl rfl rfl rfl rfl ?_
 intro O r (F : KA1.Fns) hO hr (hF : F = KA1.F0)
 cbv
 repeat' first | refine And.intro ?_ ?_ | (refine cbi (fun hb => ?_) (fun hb => ?_) <;> cbv) | (refine ⟨[1, 3], [1], Int, fun i => [.reg 3 (.one (.v (.int .i64 i)))], fun i => 0 <= i /\ i <= ((cs.length : Nat) : Int) /\ upto (frameOk cs us) i, fun i => (cs.length) - i.toNat, ⟨0, ?_, ?_⟩, ?_⟩; rotate_left; (focus (cbv; done)); intro i hi; replace hi : 0 <= i /\ i <= ((cs.length : Nat) : Int) /\ upto (frameOk cs us) i := hi; obtain ⟨i0, i1, i2⟩ := hi; cbv) | (refine loop_step (O.ar .add .i64 i 1) ?_ ?_ ?_; rotate_left 2; focus (cbv; done)) | (refine ⟨[1, 3, 4], [1], Int, fun k => [.reg 4 (.one (.v (.int .i64 k)))], fun k => 0 <= k /\ k <= ((16 : Nat) : Int) /\ upto (cellOk cs us i) k, fun k => (16) - k.toNat, ⟨0, ?_, ?_⟩, ?_⟩; rotate_left; (focus (cbv; done)); intro k hk; replace hk : 0 <= k /\ k <= ((16 : Nat) : Int) /\ upto (cellOk cs us i) k := hk; obtain ⟨k0, k1, k2⟩ := hk; cbv) | (refine loop_step (O.ar .add .i64 k 1) ?_ ?_ ?_; rotate_left 2; focus (cbv; done))
 all_goals (subst hO hr hF; (try simp only [stdO, SS, sa, az] at *); (try simp only [nc] at *); (try simp only [onc] at *))
 all_goals (try simp only [KA1.F0] at *)
 all_goals try rw [up64 (by omega) (by omega)]
 all_goals first | omega | (refine ⟨by omega, by omega, (Rw.eta (by first | assumption | exact Rw.sub (by first | assumption | exact Rw.sub (by assumption) (by omega) rfl) (by omega) rfl) (by omega) (by omega)).trans ?_⟩; rfl) | exact upto_z | contradiction | exact db_eq (fr_no1 (by assumption)).symm | exact db_eq (fr_no2 (by omega)).symm | exact db_eq (fr_no3 i0 (by omega) (by omega)).symm | exact db_eq (fr_no4 i0 (by omega) k0 (by omega) (.inl (by assumption))).symm | exact db_eq (fr_no4 i0 (by omega) k0 (by omega) (.inr ⟨by assumption, by assumption⟩)).symm | exact db_eq (fr_yes (by assumption) (by omega) i2 (by omega)).symm | exact upto_s i2 (fr_in (by omega) k2 (by omega)) | exact upto_s k2 (ce_in (by assumption) (by first | exact .inl (by assumption) | exact .inr (by assumption))) | trace_state
theorem c_impl_TableOk (es : List (List L)) (n : Int) (hp : Rw [tI, tI] es) : Ctr Tryz.prog 204 [.agg [.s 2 es], .one (.v (.int .i64 n))] [.one (.v (.bool (tableOk es n)))] := by
 have hlen := hp.1; unfold maxLen at hlen
 refine ctr_b KA1.B tabOk mixed 49 _ [4] [.tmp 4] Tryz.func204 rfl rfl rfl rfl rfl ?_
 intro O r (F : KA1.Fns) hO hr (hF : F = KA1.F0)
 cbv
 repeat' first | refine And.intro ?_ ?_ | (refine cbi (fun hb => ?_) (fun hb => ?_) <;> cbv) | (refine ⟨[1, 2, 8, 9, 10], [2], Int, fun i => [.reg 10 (.one (.v (.int .i64 i)))], fun i => 0 <= i /\ i <= ((es.length : Nat) : Int) /\ upto (entOk es n) i, fun i => (es.length) - i.toNat, ⟨0, ?_, ?_⟩, ?_⟩; rotate_left; (focus (cbv; done)); intro i hi; replace hi : 0 <= i /\ i <= ((es.length : Nat) : Int) /\ upto (entOk es n) i := hi; obtain ⟨i0, i1, i2⟩ := hi; cbv) | (refine loop_step (O.ar .add .i64 i 1) ?_ ?_ ?_; rotate_left 2; focus (cbv; done))
 all_goals (subst hO hr hF; (try simp only [stdO, SS, sa, az] at *); (try simp only [nc] at *); (try simp only [onc] at *))
 all_goals (try simp only [KA1.F0] at *)
 all_goals try rw [up64 (by omega) (by omega)]
 all_goals first | omega | (refine ⟨by omega, by omega, (Rw.eta (by first | assumption | exact Rw.sub (by first | assumption | exact Rw.sub (by assumption) (by omega) rfl) (by omega) rfl) (by omega) (by omega)).trans ?_⟩; rfl) | exact upto_z | contradiction | exact db_eq (tb_yes i2 (by omega)).symm | (simp only [inR_t, inR_f] at *; first | exact db_eq (tb_no i0 (by omega) (by omega)).symm | exact upto_s i2 (tb_in (by omega))) | trace_state
theorem c_spec_TableOk (es : List (List L)) (n : Int) (hp : Rw [tI, tI] es) : Ctr Tryz.prog 197 [.agg [.s 2 es], .one (.v (.int .i64 n))] [.one (.v (.bool (tableOk es n)))] := by
 have hlen := hp.1; unfold maxLen at hlen
 refine ctr_b KA1.B tabOk mixed 54 _ [4] [.tmp 4] Tryz.func197 rfl rfl rfl rfl rfl ?_
 intro O r (F : KA1.Fns) hO hr (hF : F = KA1.F0)
 cbv
 repeat' first | refine And.intro ?_ ?_ | (refine cbi (fun hb => ?_) (fun hb => ?_) <;> cbv) | (refine ⟨[1, 2, 5], [2], Int, fun i => [.reg 5 (.one (.v (.int .i64 i)))], fun i => 0 <= i /\ i <= ((es.length : Nat) : Int) /\ upto (entOk es n) i, fun i => (es.length) - i.toNat, ⟨0, ?_, ?_⟩, ?_⟩; rotate_left; (focus (cbv; done)); intro i hi; replace hi : 0 <= i /\ i <= ((es.length : Nat) : Int) /\ upto (entOk es n) i := hi; obtain ⟨i0, i1, i2⟩ := hi; cbv) | (refine loop_step (O.ar .add .i64 i 1) ?_ ?_ ?_; rotate_left 2; focus (cbv; done))
 all_goals (subst hO hr hF; (try simp only [stdO, SS, sa, az] at *); (try simp only [nc] at *); (try simp only [onc] at *))
 all_goals (try simp only [KA1.F0] at *)
 all_goals try rw [up64 (by omega) (by omega)]
 all_goals first | omega | (refine ⟨by omega, by omega, (Rw.eta (by first | assumption | exact Rw.sub (by first | assumption | exact Rw.sub (by assumption) (by omega) rfl) (by omega) rfl) (by omega) (by omega)).trans ?_⟩; rfl) | exact upto_z | contradiction | exact db_eq (tb_yes i2 (by omega)).symm | (simp only [inR_t, inR_f] at *; first | exact db_eq (tb_no i0 (by omega) (by omega)).symm | exact upto_s i2 (tb_in (by omega))) | trace_state
namespace KD4
structure Fns where
 framesOk : List (List L) -> List (List L) -> Bool
 tableOk : List (List L) -> Int -> Bool
 pagesOn : List (List L) -> Int -> List (List L)
def F0 : Fns := ⟨framesOk, tableOk, pagesOn⟩
def ct (F : Fns) : CT := fun f ds => match f with
 | 203 => match ds with
   | [.agg [.s 1 cs, .s 1 us]] => some (fun _ => Rw [.sl [tI]] cs /\ Rw [tB] us, [.one (.v (.bool (F.framesOk cs us)))])
   | _ => none
 | 204 => match ds with
   | [.agg [.s 2 es], .one (.v (.int .i64 n))] => some (fun _ => Rw [tI, tI] es, [.one (.v (.bool (F.tableOk es n)))])
   | _ => none
 | 205 => match ds with
   | [.agg [.s 2 es], .one (.v (.int .i64 f))] => some (fun _ => Rw [tI, tI] es /\ es.length <= 1099511627776, [.one (.s 1 (F.pagesOn es f))])
   | _ => none
 | _ => none
theorem ct_ok : CTok Tryz.prog (ct F0) := by
 intro f ds pre res h hp
 unfold ct at h
 split at h <;> (try split at h) <;> cases h
 exact c_impl_FramesOk _ _ hp
 exact c_impl_TableOk _ _ hp
 exact c_impl_PagesOn _ _ hp
def B : TB Tryz.prog := tb ct_ok
end KD4
theorem c_impl_MachineOk (cs us es : List (List L)) (hp : Rw [.sl [tI]] cs /\ Rw [tB] us /\ Rw [tI, tI] es) : Ctr Tryz.prog 150 [.agg [.s 1 cs, .s 1 us, .s 2 es]] [.one (.v (.bool (machOk cs us es)))] := by
 obtain ⟨hc, hu, ht⟩ := hp
 have hm := hu.1; unfold maxLen at hm
 refine ctr_b KD4.B tabOk mixed 37 _ [4] [.tmp 2] Tryz.func150 rfl rfl rfl rfl rfl ?_
 intro O r (F : KD4.Fns) hO hr (hF : F = KD4.F0)
 cbv
 repeat' first | refine And.intro ?_ ?_ | (refine cbi (fun hb => ?_) (fun hb => ?_) <;> cbv) | (refine ⟨[1, 21, 22, 23], [1], Int, fun i => [.reg 23 (.one (.v (.int .i64 i)))], fun i => 0 <= i /\ i <= ((us.length : Nat) : Int) /\ upto (machIn us es) i, fun i => (us.length) - i.toNat, ⟨0, ?_, ?_⟩, ?_⟩; rotate_left; (focus (cbv; done)); intro i hi; replace hi : 0 <= i /\ i <= ((us.length : Nat) : Int) /\ upto (machIn us es) i := hi; obtain ⟨i0, i1, i2⟩ := hi; cbv) | (refine loop_step (O.ar .add .i64 i 1) ?_ ?_ ?_; rotate_left 2; focus (cbv; done))
 all_goals (subst hO hr hF; (try simp only [stdO, SS, sa, az] at *); (try simp only [nc] at *); (try simp only [onc] at *))
 all_goals (try simp only [KD4.F0, len_pos] at *)
 all_goals try rw [up64 (by omega) (by omega)]
 all_goals try (have hfl := fr_len (cs := cs) (us := us) (by assumption))
 all_goals try (have htl := tb_len (es := es) (n := (us.length : Int)) (by assumption))
 all_goals try (have htl := tb_len (es := es) (n := (cs.length : Int)) (by assumption))
 all_goals first | omega | (refine ⟨by omega, by omega, (Rw.eta (by first | assumption | exact Rw.sub (by first | assumption | exact Rw.sub (by assumption) (by omega) rfl) (by omega) rfl) (by omega) (by omega)).trans ?_⟩; rfl) | (show okOrder _ _ = true; kernel_rfl) | exact upto_z | contradiction | exact ⟨hc, hu⟩ | exact ht | exact ⟨ht, by omega⟩ | exact db_eq (mc_no (.inl (by assumption))).symm | exact db_eq (mc_no (.inr (by assumption))).symm | exact db_eq (mc_no2 (by assumption) (by assumption)).symm | exact db_eq (mc_no3 i0 (by omega) (by assumption)).symm | exact upto_s i2 (mc_in (by assumption)) | exact db_eq (mc_yes (by assumption) (by assumption) i2 (by omega)).symm | (refine db_eq (mc_yes (by assumption) ?_ i2 (by omega)).symm; rw [hfl.1]; assumption) | trivial | exact rfl | trace_state
namespace KD5
structure Fns where
 framesOk : List (List L) -> List (List L) -> Bool
 tableOk : List (List L) -> Int -> Bool
 pagesOn : List (List L) -> Int -> List (List L)
def F0 : Fns := ⟨framesOk, tableOk, pagesOn⟩
def ct (F : Fns) : CT := fun f ds => match f with
 | 196 => match ds with
   | [.agg [.s 1 cs, .s 1 us]] => some (fun _ => Rw [.sl [tI]] cs /\ Rw [tB] us, [.one (.v (.bool (F.framesOk cs us)))])
   | _ => none
 | 197 => match ds with
   | [.agg [.s 2 es], .one (.v (.int .i64 n))] => some (fun _ => Rw [tI, tI] es, [.one (.v (.bool (F.tableOk es n)))])
   | _ => none
 | 198 => match ds with
   | [.agg [.s 2 es], .one (.v (.int .i64 f))] => some (fun _ => Rw [tI, tI] es /\ es.length <= 1099511627776, [.one (.s 1 (F.pagesOn es f))])
   | _ => none
 | _ => none
theorem ct_ok : CTok Tryz.prog (ct F0) := by
 intro f ds pre res h hp
 unfold ct at h
 split at h <;> (try split at h) <;> cases h
 exact c_spec_FramesOk _ _ hp
 exact c_spec_TableOk _ _ hp
 exact c_spec_PagesOn _ _ hp
def B : TB Tryz.prog := tb ct_ok
end KD5
theorem c_spec_MachineOk (cs us es : List (List L)) (hp : Rw [.sl [tI]] cs /\ Rw [tB] us /\ Rw [tI, tI] es) : Ctr Tryz.prog 136 [.agg [.s 1 cs, .s 1 us, .s 2 es]] [.one (.v (.bool (machOk cs us es)))] := by
 obtain ⟨hc, hu, ht⟩ := hp
 have hm := hu.1; unfold maxLen at hm
 refine ctr_b KD5.B tabOk mixed 39 _ [4] [.tmp 2] Tryz.func136 rfl rfl rfl rfl rfl ?_
 intro O r (F : KD5.Fns) hO hr (hF : F = KD5.F0)
 cbv
 repeat' first | refine And.intro ?_ ?_ | (refine cbi (fun hb => ?_) (fun hb => ?_) <;> cbv) | (refine ⟨[1, 3], [1], Int, fun i => [.reg 3 (.one (.v (.int .i64 i)))], fun i => 0 <= i /\ i <= ((us.length : Nat) : Int) /\ upto (machIn us es) i, fun i => (us.length) - i.toNat, ⟨0, ?_, ?_⟩, ?_⟩; rotate_left; (focus (cbv; done)); intro i hi; replace hi : 0 <= i /\ i <= ((us.length : Nat) : Int) /\ upto (machIn us es) i := hi; obtain ⟨i0, i1, i2⟩ := hi; cbv) | (refine loop_step (O.ar .add .i64 i 1) ?_ ?_ ?_; rotate_left 2; focus (cbv; done))
 all_goals (subst hO hr hF; (try simp only [stdO, SS, sa, az] at *); (try simp only [nc] at *); (try simp only [onc] at *))
 all_goals (try simp only [KD5.F0, len_pos] at *)
 all_goals try rw [up64 (by omega) (by omega)]
 all_goals try (have hfl := fr_len (cs := cs) (us := us) (by assumption))
 all_goals try (have htl := tb_len (es := es) (n := (us.length : Int)) (by assumption))
 all_goals try (have htl := tb_len (es := es) (n := (cs.length : Int)) (by assumption))
 all_goals first | omega | (refine ⟨by omega, by omega, (Rw.eta (by first | assumption | exact Rw.sub (by first | assumption | exact Rw.sub (by assumption) (by omega) rfl) (by omega) rfl) (by omega) (by omega)).trans ?_⟩; rfl) | (show okOrder _ _ = true; kernel_rfl) | exact upto_z | contradiction | exact ⟨hc, hu⟩ | exact ht | exact ⟨ht, by omega⟩ | exact db_eq (mc_no (.inl (by assumption))).symm | exact db_eq (mc_no (.inr (by assumption))).symm | exact db_eq (mc_no2 (by assumption) (by assumption)).symm | exact db_eq (mc_no3 i0 (by omega) (by assumption)).symm | exact upto_s i2 (mc_in (by assumption)) | exact db_eq (mc_yes (by assumption) (by assumption) i2 (by omega)).symm | (refine db_eq (mc_yes (by assumption) ?_ i2 (by omega)).symm; rw [hfl.1]; assumption) | trivial | exact rfl | trace_state
end Go.V