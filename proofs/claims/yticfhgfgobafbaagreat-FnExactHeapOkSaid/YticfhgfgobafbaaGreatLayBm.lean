/-
  Contracts, by evaluation.
-/import Derived.Test.YticfhgfgobafbaaGreatS9
import Derived.Test.YticfhgfgobafbaaGreatHA
import Derived.Test.YticfhgfgobafbaaGreatLayAm
set_option linter.all false
namespace Go.V
open Go Go.Proofs
set_option maxRecDepth 1000000
set_option maxHeartbeats 8000000
namespace Lb0
structure Fns where
 no : Unit
def F0 : Fns := ⟨()⟩
def B : TB Tryz.prog := {Φ := Fns, F0 := F0}
end Lb0
theorem c_spec_l08Has (l : List (List L)) (x : Int) (hp : Rw [tI] l) : Ctr Tryz.prog 27 [.one (.s 1 l), .one (.v (.int .i64 x))] [.one (.v (.bool (hasB l x)))] := by
 have hw := hp
 have hm := hw.1; unfold maxLen at hm
 refine ctr_b Lb0.B tabOk mixed 18 _ [4] [.tmp 4] Tryz.func27 rfl rfl rfl rfl rfl ?_
 intro O r (F : Lb0.Fns) hO hr (hF : F = Lb0.F0)
 cbv
 repeat' first | refine And.intro ?_ ?_ | (refine cbi (fun hb => ?_) (fun hb => ?_) <;> cbv) | (refine ⟨[0, 1, 5], [], Int, fun i => [.reg 5 (.one (.v (.int .i64 i)))], fun i => 0 <= i /\ i <= ((l.length : Nat) : Int) /\ upto (notB (isX l x)) i, fun i => (l.length) - i.toNat, ⟨0, ?_, ?_⟩, ?_⟩; rotate_left; (focus (cbv; done)); intro i hi; replace hi : 0 <= i /\ i <= ((l.length : Nat) : Int) /\ upto (notB (isX l x)) i := hi; obtain ⟨i0, i1, i2⟩ := hi; cbv) | (refine loop_step (O.ar .add .i64 i 1) ?_ ?_ ?_; rotate_left 2; focus (cbv; done))
 all_goals (subst hO hr hF; (try simp only [stdO, SS, sa, az] at *); (try simp only [nc] at *); (try simp only [onc] at *))
 all_goals try rw [up64 (by omega) (by omega)]
 all_goals first
  | (show (_ : List DV) = _
     first
      | (refine db_eq ?_; symm; rw [has_t]; exact ⟨i.toNat, by omega, by rw [Int.toNat_of_nonneg i0]; assumption⟩)
      | (refine db_eq ?_; symm; exact has_no i2 (by omega))
      | done)
  | omega
  | (refine ⟨by omega, by omega, (Rw.eta (by first | assumption | exact Rw.sub (by first | assumption | exact Rw.sub (by assumption) (by omega) rfl) (by omega) rfl) (by omega) (by omega)).trans ?_⟩; rfl)
  | (show okOrder _ _ = true; kernel_rfl)
  | exact upto_z
  | exact upto_s i2 (by unfold notB isX; rw [eqB_f (fun e => absurd e.symm (by assumption))]; rfl)
  | exact Int.natCast_nonneg _
  | exact True.intro
  | done
theorem c_impl_LayoutOk_1 (pg : Int) (es : List (List L)) (hp : True) : PCtr Tryz.prog 152 [.one (.v (.int .i64 pg)), .mp [.own (.m true es)]] [[.own (.m true (muT es pg))]] [.one (.v (.bool (!(mgbI es pg))))] := by
 refine pctr_b Lb0.B tabOk mixed 12 _ [4] [.tmp 3] Tryz.func152 rfl rfl rfl rfl rfl rfl rfl ?_
 intro O r os (F : Lb0.Fns) hO hr hos (hF : F = Lb0.F0)
 cbv
 repeat' first | refine And.intro ?_ ?_ | (refine cbi (fun hb => ?_) (fun hb => ?_) <;> cbv)
 all_goals ((try subst hos); subst hO hr hF; (try simp only [stdO, SS, sa, az] at *); (try simp only [nc] at *); (try simp only [onc] at *))
 all_goals first | (show (_ : List DV) = _; exact rfl) | (show (_ : List H) = _; exact rfl) | exact True.intro | (show okOrder _ _ = true; kernel_rfl) | done
namespace Lb1
structure Fns where
 spOk : Int -> Int -> Int -> Bool
 lgOk : Int -> Int -> Int -> Bool
 hasB : List (List L) -> Int -> Bool
def F0 : Fns := ⟨spOk, lgOk, hasB⟩
def ct (F : Fns) : CT := fun f ds => match f with
 | 138 => match ds with
   | [.agg [.v (.int .i64 p), .v (.int .i64 k), .v (.int .i64 b)]] => some (fun _ => True, [.one (.v (.bool (F.spOk p k b)))])
   | _ => none
 | 139 => match ds with
   | [.agg [.v (.int .i64 p), .v (.int .i64 n), .v (.int .i64 s)]] => some (fun _ => True, [.one (.v (.bool (F.lgOk p n s)))])
   | _ => none
 | 27 => match ds with
   | [.one (.s 1 l), .one (.v (.int .i64 x))] => some (fun _ => Rw [tI] l, [.one (.v (.bool (F.hasB l x)))])
   | _ => none
 | _ => none
theorem ct_ok : CTok Tryz.prog (ct F0) := by
 intro f ds pre res h hp
 unfold ct at h
 split at h <;> (try split at h) <;> cases h
 exact c_spec_SpanOk _ _ _ hp
 exact c_spec_LargeOk _ _ _ hp
 exact c_spec_l08Has _ _ hp
def B : TB Tryz.prog := tb ct_ok
end Lb1
theorem c_spec_LayoutOk (sp lg : List (List L)) (hp : Rw [tI, tI, tI] sp /\ Rw [tI, tI, tI] lg /\ sp.length <= 1073741824 /\ lg.length <= 1073741824) : Ctr Tryz.prog 65 [.one (.s 3 sp), .one (.s 3 lg)] [.one (.v (.bool (layOk sp lg)))] := by
 obtain ⟨hs, hl, ns, nl⟩ := hp
 refine ctr_b Lb1.B tabOk mixed 79 _ [4] [.tmp 4] Tryz.func65 rfl rfl rfl rfl rfl ?_
 intro O r (F : Lb1.Fns) hO hr (hF : F = Lb1.F0)
 cbv
 repeat' first | refine And.intro ?_ ?_ | (refine cbi (fun hb => ?_) (fun hb => ?_) <;> cbv) | (refine ⟨[0, 1, 5, 6], [5], Int × List (List L), fun s_ => match s_ with | (i, o) => [.reg 6 (.one (.v (.int .i64 i))), .reg 5 (.one (.vw 5 0 0 0 (O.ln o))), .leaf 5 0 ⟨0, 0, none, .own (.s 1 o)⟩], fun s_ => match s_ with | (i, o) => 0 <= i /\ i <= (sp.length : Int) /\ LsP sp i o, fun s_ => match s_ with | (i, o) => sp.length - i.toNat, ⟨(0, []), ?_, ?_⟩, ?_⟩; rotate_left; (focus (cbv; done)); intro s_ hi; obtain ⟨i, o⟩ := s_; replace hi : 0 <= i /\ i <= (sp.length : Int) /\ LsP sp i o := hi; obtain ⟨i0, i1, i2⟩ := hi; cbv) | (refine ⟨[1, 5, 7], [5], Int × List (List L), fun s_ => match s_ with | (j, o1) => [.reg 7 (.one (.v (.int .i64 j))), .reg 5 (.one (.vw 5 0 0 0 (O.ln o1))), .leaf 5 0 ⟨0, 0, none, .own (.s 1 o1)⟩], fun s_ => match s_ with | (j, o1) => 0 <= j /\ j <= (lg.length : Int) /\ LlP sp lg j o1, fun s_ => match s_ with | (j, o1) => lg.length - j.toNat, ⟨(0, o), ?_, ?_⟩, ?_⟩; rotate_left; (focus (cbv; done)); intro s_ hj; obtain ⟨j, o1⟩ := s_; replace hj : 0 <= j /\ j <= (lg.length : Int) /\ LlP sp lg j o1 := hj; obtain ⟨j0, j1, j2⟩ := hj; cbv) | (refine ⟨[1, 5, 7, 8], [5], Int × List (List L), fun s_ => match s_ with | (k, o2) => [.reg 8 (.one (.v (.int .i64 k))), .reg 5 (.one (.vw 5 0 0 0 (O.ln o2))), .leaf 5 0 ⟨0, 0, none, .own (.s 1 o2)⟩], fun s_ => match s_ with | (k, o2) => 0 <= k /\ k <= giI lg j 1 /\ LkP sp lg j k o2, fun s_ => match s_ with | (k, o2) => (giI lg j 1 - k).toNat, ⟨(0, o1), ?_, ?_⟩, ?_⟩; rotate_left; (focus (cbv; done)); intro s_ hk; obtain ⟨k, o2⟩ := s_; replace hk : 0 <= k /\ k <= giI lg j 1 /\ LkP sp lg j k o2 := hk; obtain ⟨k0, k1, k2⟩ := hk; cbv) | (refine loop_step (O.ar .add .i64 k 1, O.cat o2 (O.sub [[.v (.int .i64 (O.ar .add .i64 (O.gi lg j 0) k))]] 0 (O.ln [[.v (.int .i64 (O.ar .add .i64 (O.gi lg j 0) k))]]))) ?_ ?_ ?_; rotate_left 2; focus (cbv; done)) | (refine loop_step (O.ar .add .i64 j 1, o2) ?_ ?_ ?_; rotate_left 2; focus (cbv; done)) | (refine loop_step (O.ar .add .i64 i 1, O.cat o (O.sub [[.v (.int .i64 (O.gi sp i 0))]] 0 (O.ln [[.v (.int .i64 (O.gi sp i 0))]]))) ?_ ?_ ?_; rotate_left 2; focus (cbv; done))
 all_goals (subst hO hr hF; (try simp only [stdO, SS, sa, az] at *); (try simp only [nc] at *); (try simp only [onc] at *))
 all_goals (try simp only [Lb1.F0] at *)
 all_goals try rw [up64 (by omega) (by omega)]
 all_goals (try have z := (lg_p (k := k) (by assumption) k0 (by assumption)))
 all_goals (try (obtain ⟨z1, z2, z3, z4, z5⟩ := z))
 all_goals (try have z6 : arI .add .i64 k 1 = k + 1 := add64 (by omega))
 all_goals (try simp only [z3] at *)
 all_goals (try simp only [z6] at *)
 all_goals first
  | (show (_ : List DV) = _
     first
      | (refine db_eq ?_; symm; exact lay_no1 i0 (by assumption) (by assumption))
      | (refine db_eq ?_; symm; exact ls_dup i2 i0 (by assumption) (by assumption))
      | (refine db_eq ?_; symm; exact lay_no2 j0 (by assumption) (by assumption))
      | (refine db_eq ?_; symm; exact lk_dup k2 j0 (by assumption) k0 (by assumption) (by assumption))
      | (refine db_eq ?_; symm; exact ll_end j2 j1 (by assumption))
      | done)
  | omega
  | (refine ⟨by omega, by omega, (Rw.eta (by first | assumption | exact Rw.sub (by first | assumption | exact Rw.sub (by assumption) (by omega) rfl) (by omega) rfl) (by omega) (by omega)).trans ?_⟩; rfl)
  | (show okOrder _ _ = true; kernel_rfl)
  | exact ls_rw i2 (by omega)
  | exact lk_rw k2 (by omega) (by omega) (by omega)
  | exact scal_one
  | (have q := ls_len i2; constructor <;> (simp only [List.length_cons, List.length_nil]; omega))
  | (have q := lk_len k2; constructor <;> (simp only [List.length_cons, List.length_nil]; omega))
  | exact ls_up i2 i0 (by assumption) (by assumption)
  | exact lk_up k2 k0 (by omega) (by assumption)
  | exact lk_end k2 j0 (by assumption) k0 k1 (by assumption)
  | exact lk_0 j2
  | exact ls_end i2 i1 (by assumption)
  | exact ls_0
  | exact ⟨True.intro, True.intro⟩
  | exact True.intro
  | (have t := lg_t (by assumption); have b := pf_b t.1; omega)
  | done
end Go.V