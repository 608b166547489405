/-
  Contracts, by evaluation.
-/
import Derived.Test.YtbfhhmjhdimjlaaS8
import Derived.Test.YtbfhhmjhdimjlaaCowAk
set_option linter.all false
namespace Go.V
open Go Go.Proofs
set_option maxRecDepth 1000000
set_option maxHeartbeats 8000000
namespace B0
structure Fns where
 pagesOn : List (List L) -> Int -> List (List L)
def F0 : Fns := ⟨pagesOn⟩
def ct (F : Fns) : CT := fun f ds => match f with
 | 69 => match ds with
   | [.agg [.s 2 es], .one (.v (.int .i64 f))] => some (fun _ => Rw [tI, tI] es /\ es.length <= 1099511627776, [.one (.s 1 (F.pagesOn es f))])
   | _ => none
 | _ => none
theorem ct_ok : CTok Try.prog (ct F0) := by
 intro f ds pre res h hp
 unfold ct at h
 split at h <;> (try split at h) <;> cases h
 exact c_impl_PagesOn _ _ hp
def B : TB Try.prog := tb ct_ok
end B0
theorem c_impl_maps (es : List (List L)) (f : Int) (hp : Rw [tI, tI] es /\ es.length <= 1099511627776) : Ctr Try.prog 62 [.agg [.s 2 es], .one (.v (.int .i64 f))] [.one (.v (.bool (mapsB es f)))] := by
 refine ctr_b B0.B tabOk mixed 10 _ [4] [.tmp 4] Try.func62 rfl rfl rfl rfl rfl ?_
 intro O r (F : B0.Fns) hO hr (hF : F = B0.F0)
 cbv
 repeat' first | refine And.intro ?_ ?_ | (refine cbi (fun hb => ?_) (fun hb => ?_) <;> cbv)
 all_goals (subst hO hr hF; (try simp only [stdO, SS, sa, az] at *); (try simp only [nc] at *); (try simp only [onc] at *))
 all_goals first | exact hp | exact ⟨trivial, trivial⟩ | trivial | (refine db_eq (b_iff ?_); simp only [B0.F0, mapsB_t, SS]; omega) | trace_state
namespace B1
structure Fns where
 framesOk : List (List L) -> List (List L) -> Bool
 tableOk : List (List L) -> Int -> Bool
 mapsB : List (List L) -> Int -> Bool
def F0 : Fns := ⟨framesOk, tableOk, mapsB⟩
def ct (F : Fns) : CT := fun f ds => match f with
 | 72 => match ds with
   | [.agg [.s 1 cs, .s 1 us]] => some (fun _ => Rw [.sl [tI]] cs /\ Rw [tB] us, [.one (.v (.bool (F.framesOk cs us)))])
   | _ => none
 | 73 => match ds with
   | [.agg [.s 2 es], .one (.v (.int .i64 n))] => some (fun _ => Rw [tI, tI] es, [.one (.v (.bool (F.tableOk es n)))])
   | _ => none
 | 62 => match ds with
   | [.agg [.s 2 es], .one (.v (.int .i64 f))] => some (fun _ => Rw [tI, tI] es /\ es.length <= 1099511627776, [.one (.v (.bool (F.mapsB es f)))])
   | _ => none
 | _ => none
theorem ct_ok : CTok Try.prog (ct F0) := by
 intro f ds pre res h hp
 unfold ct at h
 split at h <;> (try split at h) <;> cases h
 exact c_impl_FramesOk _ _ hp
 exact c_impl_TableOk _ _ hp
 exact c_impl_maps _ _ hp
def B : TB Try.prog := tb ct_ok
end B1
theorem c_impl_CowOk (cs us ts : List (List L)) (hp : Rw [.sl [tI]] cs /\ Rw [tB] us /\ Rw [.sl [tI, tI]] ts) : Ctr Try.prog 38 [.agg [.s 1 cs, .s 1 us, .s 1 ts]] [.one (.v (.bool (cowOk cs us ts)))] := by
 obtain ⟨hc, hu, ht⟩ := hp
 have hlen := hc.1; unfold maxLen at hlen
 refine ctr_b B1.B tabOk mixed 73 _ [4] [.tmp 2] Try.func38 rfl rfl rfl rfl rfl ?_
 intro O r (F : B1.Fns) hO hr (hF : F = B1.F0)
 cbv
 repeat' first | refine And.intro ?_ ?_ | (refine cbi (fun hb => ?_) (fun hb => ?_) <;> cbv) | (refine ⟨[1, 33, 34, 35], [1], Int, fun i => [.reg 35 (.one (.v (.int .i64 i)))], fun i => 0 <= i /\ i <= ((ts.length : Nat) : Int) /\ upto (tbsOk ts us.length) i, fun i => (ts.length) - i.toNat, ⟨0, ?_, ?_⟩, ?_⟩; rotate_left; (focus (cbv; done)); intro i hi; replace hi : 0 <= i /\ i <= ((ts.length : Nat) : Int) /\ upto (tbsOk ts us.length) i := hi; obtain ⟨i0, i1, i2⟩ := hi; cbv) | (refine loop_step (O.ar .add .i64 i 1) ?_ ?_ ?_; rotate_left 2; focus (cbv; done)) | (refine ⟨[1, 49, 50, 51], [1], Int, fun k => [.reg 51 (.one (.v (.int .i64 k)))], fun k => 0 <= k /\ k <= ((us.length : Nat) : Int) /\ upto (fitOk us (gsI ts 0 0) (gsI ts 1 0)) k, fun k => (us.length) - k.toNat, ⟨0, ?_, ?_⟩, ?_⟩; rotate_left; (focus (cbv; done)); intro k hk; replace hk : 0 <= k /\ k <= ((us.length : Nat) : Int) /\ upto (fitOk us (gsI ts 0 0) (gsI ts 1 0)) k := hk; obtain ⟨k0, k1, k2⟩ := hk; cbv) | (refine loop_step (O.ar .add .i64 k 1) ?_ ?_ ?_; rotate_left 2; focus (cbv; done))
 all_goals (subst hO hr hF; (try simp only [stdO, SS, sa, az] at *); (try simp only [nc] at *); (try simp only [onc] at *))
 all_goals (try simp only [B1.F0] at *)
 all_goals try (have hfl := fr_len (cs := cs) (us := us) (by assumption))
 all_goals try (have ht0 : tableOk (gsI ts 0 0) us.length = true := i2 0 (by omega) (by omega); have ht1 : tableOk (gsI ts 1 0) us.length = true := i2 1 (by omega) (by omega))
 all_goals try (have hl0 := tb_len ht0; have hl1 := tb_len ht1)
 all_goals try rw [up64 (by omega) (by omega)]
 all_goals first | omega | (refine ⟨by omega, by omega, (Rw.eta (by first | assumption | exact Rw.sub (by first | assumption | exact Rw.sub (by assumption) (by omega) rfl) (by omega) rfl) (by omega) (by omega)).trans ?_⟩; rfl) | exact upto_z | contradiction | (first | assumption | exact Rw.sub (by first | assumption | exact Rw.sub (by assumption) (by omega) rfl) (by omega) rfl) | exact ⟨by (first | assumption | exact Rw.sub (by first | assumption | exact Rw.sub (by assumption) (by omega) rfl) (by omega) rfl), by (first | assumption | exact Rw.sub (by first | assumption | exact Rw.sub (by assumption) (by omega) rfl) (by omega) rfl)⟩ | exact ⟨by (first | assumption | exact Rw.sub (by first | assumption | exact Rw.sub (by assumption) (by omega) rfl) (by omega) rfl), by omega⟩ | (show okOrder _ _ = true; kernel_rfl) | (refine db_eq (co_no ?_).symm; rintro ⟨q, _⟩; rw [q] at hb; cases hb; done) | (refine db_eq (co_no ?_).symm; rintro ⟨_, q, _, _, q'⟩; omega) | exact db_eq (co_no2 (by assumption) (by omega) i0 (by omega) (by assumption)).symm | exact upto_s i2 (co_in2 (by assumption)) | (refine db_eq (co_no3 k0 (by omega) ?_).symm; rw [‹mapsB (gsI ts 0 0) k = false›, Bool.false_or]; assumption) | (refine db_eq (co_no3 k0 (by omega) ?_).symm; rw [‹mapsB (gsI ts 0 0) k = true›, Bool.true_or]; assumption) | (refine upto_s k2 (co_in ?_); rw [‹mapsB (gsI ts 0 0) k = false›, Bool.false_or]; assumption) | (refine upto_s k2 (co_in ?_); rw [‹mapsB (gsI ts 0 0) k = true›, Bool.true_or]; assumption) | exact db_eq (co_yes2 (by assumption) (by omega) i2 (by omega) (by omega) k2 (by omega)).symm | trace_state
end Go.V