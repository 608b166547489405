/-
  Contracts, by evaluation.
-/import Derived.Test.YticfhgfgobafbaaGreatS9
import Derived.Test.YticfhgfgobafbaaGreatHA
import Derived.Test.YticfhgfgobafbaaGreatKerAm
set_option linter.all false
namespace Go.V
open Go Go.Proofs
set_option maxRecDepth 1000000
set_option maxHeartbeats 8000000
namespace N3
structure Fns where
 inR : Int -> Int -> Int -> Bool
 machOk : List (List L) -> List (List L) -> List (List L) -> Bool
def F0 : Fns := ⟨inR, machOk⟩
def ct (F : Fns) : CT := fun f ds => match f with
 | 87 => match ds with
   | [.one (.v (.int .i64 x)), .one (.v (.int .i64 a)), .one (.v (.int .i64 b))] => some (fun _ => True, [.one (.v (.bool (F.inR x a b)))])
   | _ => none
 | 71 => match ds with
   | [.one (.v (.int .i64 x)), .one (.v (.int .i64 a)), .one (.v (.int .i64 b))] => some (fun _ => True, [.one (.v (.bool (F.inR x a b)))])
   | _ => none
 | 150 => match ds with
   | [.agg [.s 1 cs, .s 1 us, .s 2 es]] => some (fun _ => Rw [.sl [tI]] cs /\ Rw [tB] us /\ Rw [tI, tI] es, [.one (.v (.bool (F.machOk cs us es)))])
   | _ => none
 | 136 => match ds with
   | [.agg [.s 1 cs, .s 1 us, .s 2 es]] => some (fun _ => Rw [.sl [tI]] cs /\ Rw [tB] us /\ Rw [tI, tI] es, [.one (.v (.bool (F.machOk cs us es)))])
   | _ => none
 | _ => none
theorem ct_ok : CTok Tryz.prog (ct F0) := by
 intro f ds pre res h hp
 unfold ct at h
 split at h <;> (try split at h) <;> cases h
 exact c_impl_between _ _ _ hp
 exact c_spec_l01In _ _ _ hp
 exact c_impl_MachineOk _ _ _ hp
 exact c_spec_MachineOk _ _ _ hp
def B : TB Tryz.prog := tb ct_ok
end N3
theorem c_impl_KernelOk (cs us es : List (List L)) (c : Int) (rs : List (List L)) (hp : Rw [.sl [tI]] cs /\ Rw [tB] us /\ Rw [tI, tI] es /\ Rw [tI] rs) : Ctr Tryz.prog 77 [.agg [.s 1 cs, .s 1 us, .s 2 es, .v (.int .i64 c), .s 1 rs]] [.one (.v (.bool (kerOk cs us es c rs)))] := by
 obtain ⟨hc, hu, ht, hr⟩ := hp
 have hm := hr.1; unfold maxLen at hm
 refine ctr_b N3.B tabOk mixed 29 _ [4] [.tmp 2] Tryz.func77 rfl rfl rfl rfl rfl ?_
 intro O r (F : N3.Fns) hO hr (hF : F = N3.F0)
 cbv
 repeat' first | refine And.intro ?_ ?_ | (refine cbi (fun hb => ?_) (fun hb => ?_) <;> cbv) | (refine ⟨[1, 6, 7, 8], [1], Int, fun i => [.reg 8 (.one (.v (.int .i64 i)))], fun i => 0 <= i /\ i <= ((rs.length : Nat) : Int) /\ upto (nonN rs) i, fun i => (rs.length) - i.toNat, ⟨0, ?_, ?_⟩, ?_⟩; rotate_left; (focus (cbv; done)); intro i hi; replace hi : 0 <= i /\ i <= ((rs.length : Nat) : Int) /\ upto (nonN rs) i := hi; obtain ⟨i0, i1, i2⟩ := hi; cbv) | (refine loop_step (O.ar .add .i64 i 1) ?_ ?_ ?_; rotate_left 2; focus (cbv; done))
 all_goals (subst hO hr hF; (try simp only [stdO, SS, sa, az] at *); (try simp only [nc] at *); (try simp only [onc] at *))
 all_goals (try simp only [N3.F0] at *)
 all_goals try rw [up64 (by omega) (by omega)]
 all_goals first
  | (show (_ : List DV) = _
     first
      | exact db_eq (ref_no i0 (by assumption) (by assumption)).symm
      | exact db_eq (ker_yes (by assumption) (by assumption) (ref_yes i2 (by omega) (by assumption))).symm
      | exact db_eq (ker_no1 (by assumption)).symm
      | exact db_eq (ker_no2 (by assumption)).symm
      | exact db_eq (ker_no3 (ref_no2 (by omega))).symm
      | (refine db_eq ?_; unfold kerOk; rw [show inR c 0 100000 = true from by assumption, ref_yes i2 (by omega) (by omega)]; simp)
      | (refine db_eq ?_; unfold kerOk refOk; rw [show machOk cs us es = true from by assumption, show inR c 0 100000 = true from by assumption, allI_of i2 (by omega)]; refine b_iff ?_; simp only [SS, Bool.true_and, decide_eq_true_eq]; omega)
      | done)
  | omega
  | (refine ⟨by omega, by omega, (Rw.eta (by first | assumption | exact Rw.sub (by first | assumption | exact Rw.sub (by assumption) (by omega) rfl) (by omega) rfl) (by omega) (by omega)).trans ?_⟩; rfl)
  | (show okOrder _ _ = true; kernel_rfl)
  | exact upto_z
  | exact upto_s i2 (ref_in (by omega))
  | exact ⟨hc, hu, ht⟩
  | exact ⟨True.intro, True.intro⟩
  | trivial
  | trace_state
theorem c_spec_KernelOk (cs us es : List (List L)) (c : Int) (rs : List (List L)) (hp : Rw [.sl [tI]] cs /\ Rw [tB] us /\ Rw [tI, tI] es /\ Rw [tI] rs) : Ctr Tryz.prog 63 [.agg [.s 1 cs, .s 1 us, .s 2 es, .v (.int .i64 c), .s 1 rs]] [.one (.v (.bool (kerOk cs us es c rs)))] := by
 obtain ⟨hc, hu, ht, hr⟩ := hp
 have hm := hr.1; unfold maxLen at hm
 refine ctr_b N3.B tabOk mixed 31 _ [4] [.tmp 2] Tryz.func63 rfl rfl rfl rfl rfl ?_
 intro O r (F : N3.Fns) hO hr (hF : F = N3.F0)
 cbv
 repeat' first | refine And.intro ?_ ?_ | (refine cbi (fun hb => ?_) (fun hb => ?_) <;> cbv) | (refine ⟨[1, 3], [1], Int, fun i => [.reg 3 (.one (.v (.int .i64 i)))], fun i => 0 <= i /\ i <= ((rs.length : Nat) : Int) /\ upto (nonN rs) i, fun i => (rs.length) - i.toNat, ⟨0, ?_, ?_⟩, ?_⟩; rotate_left; (focus (cbv; done)); intro i hi; replace hi : 0 <= i /\ i <= ((rs.length : Nat) : Int) /\ upto (nonN rs) i := hi; obtain ⟨i0, i1, i2⟩ := hi; cbv) | (refine loop_step (O.ar .add .i64 i 1) ?_ ?_ ?_; rotate_left 2; focus (cbv; done))
 all_goals (subst hO hr hF; (try simp only [stdO, SS, sa, az] at *); (try simp only [nc] at *); (try simp only [onc] at *))
 all_goals (try simp only [N3.F0] at *)
 all_goals try rw [up64 (by omega) (by omega)]
 all_goals first
  | (show (_ : List DV) = _
     first
      | exact db_eq (ref_no i0 (by assumption) (by assumption)).symm
      | exact db_eq (ker_yes (by assumption) (by assumption) (ref_yes i2 (by omega) (by assumption))).symm
      | exact db_eq (ker_no1 (by assumption)).symm
      | exact db_eq (ker_no2 (by assumption)).symm
      | exact db_eq (ker_no3 (ref_no2 (by omega))).symm
      | (refine db_eq ?_; unfold kerOk; rw [show inR c 0 100000 = true from by assumption, ref_yes i2 (by omega) (by omega)]; simp)
      | (refine db_eq ?_; unfold kerOk refOk; rw [show machOk cs us es = true from by assumption, show inR c 0 100000 = true from by assumption, allI_of i2 (by omega)]; refine b_iff ?_; simp only [SS, Bool.true_and, decide_eq_true_eq]; omega)
      | done)
  | omega
  | (refine ⟨by omega, by omega, (Rw.eta (by first | assumption | exact Rw.sub (by first | assumption | exact Rw.sub (by assumption) (by omega) rfl) (by omega) rfl) (by omega) (by omega)).trans ?_⟩; rfl)
  | (show okOrder _ _ = true; kernel_rfl)
  | exact upto_z
  | exact upto_s i2 (ref_in (by omega))
  | exact ⟨hc, hu, ht⟩
  | exact ⟨True.intro, True.intro⟩
  | trivial
  | trace_state
end Go.V