/-
  Contracts, by evaluation.
-/import Derived.Test.YticfhgfgobafbaaGreatS9
import Derived.Test.YticfhgfgobafbaaGreatHA
import Derived.Test.YticfhgfgobafbaaGreatLayBm
set_option linter.all false
namespace Go.V
open Go Go.Proofs
set_option maxRecDepth 1000000
set_option maxHeartbeats 8000000
namespace Lc1
structure Fns where
 spOk : Int -> Int -> Int -> Bool
 lgOk : Int -> Int -> Int -> Bool
 mgbI : List (List L) -> Int -> Bool
 muT : List (List L) -> Int -> List (List L)
def F0 : Fns := ⟨spOk, lgOk, mgbI, muT⟩
def ct (F : Fns) : CT := fun f ds => match f with
 | 153 => match ds with
   | [.agg [.v (.int .i64 p), .v (.int .i64 k), .v (.int .i64 b)]] => some (fun _ => True, [.one (.v (.bool (F.spOk p k b)))])
   | _ => none
 | 154 => match ds with
   | [.agg [.v (.int .i64 p), .v (.int .i64 n), .v (.int .i64 s)]] => some (fun _ => True, [.one (.v (.bool (F.lgOk p n s)))])
   | _ => none
 | _ => none
theorem ct_ok : CTok Tryz.prog (ct F0) := by
 intro f ds pre res h hp
 unfold ct at h
 split at h <;> (try split at h) <;> cases h
 exact c_impl_SpanOk _ _ _ hp
 exact c_impl_LargeOk _ _ _ hp
def pt (F : Fns) : PT := fun f => match f with
 | 152 => some fun ds => match ds with
   | [.one (.v (.int .i64 pg)), .mp [.own (.m true es)]] => some (fun _ => True, [[.own (.m true (F.muT es pg))]], [.one (.v (.bool (!(F.mgbI es pg))))])
   | _ => none
 | _ => none
theorem pt_ok : PTok Tryz.prog (pt F0) := by
 intro f mk h ds pre outs res hm hp
 unfold pt at h
 split at h
 ·cases h; dsimp only at hm; split at hm
  ·cases hm; exact c_impl_LayoutOk_1 _ _ hp
  ·cases hm
 ·cases h
def B : TB Tryz.prog := {Φ := Fns, F0 := F0, ct := ct, hc := ct_ok, pt := pt, hp := pt_ok}
end Lc1
theorem c_impl_LayoutOk (sp lg : List (List L)) (hp : Rw [tI, tI, tI] sp /\ Rw [tI, tI, tI] lg /\ sp.length <= 1073741824 /\ lg.length <= 1073741824) : Ctr Tryz.prog 79 [.one (.s 3 sp), .one (.s 3 lg)] [.one (.v (.bool (layOk sp lg)))] := by
 obtain ⟨hs, hl, ns, nl⟩ := hp
 refine ctr_b Lc1.B tabOk mixed 54 _ [4] [.tmp 4] Tryz.func79 rfl rfl rfl rfl rfl ?_
 intro O r (F : Lc1.Fns) hO hr (hF : F = Lc1.F0)
 cbv
 repeat' first | refine And.intro ?_ ?_ | (refine cbi (fun hb => ?_) (fun hb => ?_) <;> cbv) | (refine ⟨[1, 6, 14, 15, 16], [5], Int × List (List L), fun s_ => match s_ with | (i, es) => [.reg 16 (.one (.v (.int .i64 i))), .leaf 5 0 ⟨0, 0, none, .own (.m true es)⟩], fun s_ => match s_ with | (i, es) => 0 <= i /\ i <= (sp.length : Int) /\ IsP sp i es, fun s_ => match s_ with | (i, es) => sp.length - i.toNat, ⟨(0, []), ?_, ?_⟩, ?_⟩; rotate_left; (focus (cbv; done)); intro s_ hi; obtain ⟨i, es⟩ := s_; replace hi : 0 <= i /\ i <= (sp.length : Int) /\ IsP sp i es := hi; obtain ⟨i0, i1, i2⟩ := hi; cbv) | (refine ⟨[6, 31, 32, 33], [5], Int × List (List L), fun s_ => match s_ with | (j, es1) => [.reg 33 (.one (.v (.int .i64 j))), .leaf 5 0 ⟨0, 0, none, .own (.m true es1)⟩], fun s_ => match s_ with | (j, es1) => 0 <= j /\ j <= (lg.length : Int) /\ IlP sp lg j es1, fun s_ => match s_ with | (j, es1) => lg.length - j.toNat, ⟨(0, es), ?_, ?_⟩, ?_⟩; rotate_left; (focus (cbv; done)); intro s_ hj; obtain ⟨j, es1⟩ := s_; replace hj : 0 <= j /\ j <= (lg.length : Int) /\ IlP sp lg j es1 := hj; obtain ⟨j0, j1, j2⟩ := hj; cbv) | (refine ⟨[6, 10, 11, 31, 32, 33], [5, 10], Int × List (List L), fun s_ => match s_ with | (k, es2) => [.reg 11 (.one (.v (.int .i64 k))), .leaf 5 0 ⟨0, 0, none, .own (.m true es2)⟩], fun s_ => match s_ with | (k, es2) => 0 <= k /\ k <= giI lg j 1 /\ IkP sp lg j k es2, fun s_ => match s_ with | (k, es2) => (giI lg j 1 - k).toNat, ⟨(0, es1), ?_, ?_⟩, ?_⟩; rotate_left; (focus (cbv; done)); intro s_ hk; obtain ⟨k, es2⟩ := s_; replace hk : 0 <= k /\ k <= giI lg j 1 /\ IkP sp lg j k es2 := hk; obtain ⟨k0, k1, k2⟩ := hk; cbv) | (refine loop_step (O.ar .add .i64 k 1, F.muT es2 (O.ar .add .i64 (O.gi lg j 0) k)) ?_ ?_ ?_; rotate_left 2; focus (cbv; done)) | (refine loop_step (O.ar .add .i64 j 1, es2) ?_ ?_ ?_; rotate_left 2; focus (cbv; done)) | (refine loop_step (O.ar .add .i64 i 1, F.muT es (O.gi sp i 0)) ?_ ?_ ?_; rotate_left 2; focus (cbv; done))
 all_goals (subst hO hr hF; (try simp only [stdO, SS, sa, az] at *); (try simp only [nc] at *); (try simp only [onc] at *))
 all_goals (try simp only [Lc1.F0] at *)
 all_goals try rw [up64 (by omega) (by omega)]
 all_goals (try have z := (lg_p (k := k) (by assumption) k0 (by assumption)))
 all_goals (try (obtain ⟨z1, z2, z3, z4, z5⟩ := z))
 all_goals (try have z6 : arI .add .i64 k 1 = k + 1 := add64 (by omega))
 all_goals (try simp only [z3] at *)
 all_goals (try simp only [z6] at *)
 all_goals first
  | (show (_ : List DV) = _
     first
      | (refine db_eq ?_; symm; exact is_dup i2 i0 (by assumption) (nb_f (b := mgbI es (giI sp i 0)) hb))
      | (refine db_eq ?_; symm; exact ik_dup k2 j0 (by assumption) k0 (by assumption) (nb_f (b := mgbI es2 (giI lg j 0 + k)) hb))
      | (refine db_eq ?_; symm; exact lay_no1 i0 (by assumption) (by assumption))
      | (refine db_eq ?_; symm; exact lay_no2 j0 (by assumption) (by assumption))
      | (refine db_eq ?_; symm; exact il_end j2 j1 (by assumption))
      | done)
  | omega
  | (refine ⟨by omega, by omega, (Rw.eta (by first | assumption | exact Rw.sub (by first | assumption | exact Rw.sub (by assumption) (by omega) rfl) (by omega) rfl) (by omega) (by omega)).trans ?_⟩; rfl)
  | (show okOrder _ _ = true; kernel_rfl)
  | exact is_up i2 i0 (by assumption) (nb_t (b := mgbI es (giI sp i 0)) hb)
  | exact ik_up k2 k0 (nb_t (b := mgbI es2 (giI lg j 0 + k)) hb)
  | exact ik_end k2 j0 (by assumption) k1 (by assumption)
  | exact ik_0 j2
  | exact is_end i2 i1 (by assumption)
  | exact is_0
  | exact ⟨True.intro, True.intro⟩
  | exact True.intro
  | (have t := lg_t (by assumption); have b := pf_b t.1; omega)
  | done
end Go.V