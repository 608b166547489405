/-
  Contracts of functions, by evaluation of conditions on their code.
-/
import Derived.Test.YtbfhhmjhdimjlaaS8
import Derived.Test.YtbfhhmjhdimjlaaH7

set_option linter.all false
namespace Go.V
open Go Go.Proofs
set_option maxRecDepth 1000000
set_option maxHeartbeats 8000000
namespace Sm0
structure Fns where
  no : Unit
def F0 : Fns := ⟨()⟩
def ct : Fns → CT := noC
theorem ct_ok : CTok Try.prog (ct F0) := noC_ok
def mt : Fns → MT := noMT
theorem mt_ok : MTok Try.prog (mt F0) := noMT_ok
def pt : Fns → PT := noPT
theorem pt_ok : PTok Try.prog (pt F0) := noPT_ok
def nt : Fns → NT := noNT
theorem nt_ok : NTok Try.prog (nt F0) := noNT_ok
def ot : Fns → OT := noOT
theorem ot_ok : OTok Try.prog (ot F0) := noOT_ok
end Sm0
theorem c_laws_sameInts (a b : List (List L)) (hp : a = b ∧ Rw [tI] a) : Ctr Try.prog 99 [.one (.s 1 a), .one (.s 1 b)] [.one (.v (.bool true))] := by
  obtain ⟨rfl, hw⟩ := hp
  have hm := hw.1; unfold maxLen at hm
  refine ctr_of (ctF := Sm0.ct) (mtF := Sm0.mt) (ptF := Sm0.pt) (ntF := Sm0.nt) (otF := Sm0.ot) (F0 := Sm0.F0) tabOk Sm0.ct_ok Sm0.mt_ok Sm0.pt_ok Sm0.nt_ok Sm0.ot_ok mixed 26 _ [4] [.tmp 4] Try.func99 rfl rfl rfl rfl rfl ?_
  intro O r F hO hr hF
  cbv
  repeat' first | refine And.intro ?_ ?_ | (refine caseB_intro (fun hb => ?_) (fun hb => ?_) <;> cbv) | (refine ⟨[0, 1, 5], [], Int, fun i => [.reg 5 (.one (.v (.int .i64 i)))], fun i => 0 ≤ i ∧ i ≤ (a.length : Int), fun i => a.length - i.toNat, ⟨0, ?_, ?_⟩, ?_⟩; rotate_left; (focus (cbv; done)); intro i hi; replace hi : 0 ≤ i ∧ i ≤ (a.length : Int) := hi; obtain ⟨i0, i1⟩ := hi; cbv) | (refine loop_step (O.ar .add .i64 i 1) ?_ ?_ ?_; rotate_left 2; focus (cbv; done))
  all_goals ((try subst hos); subst hO hr hF; (try simp only [stdO, SS, sub_all, ad_zero] at *); (try simp only [ncast] at *); (try simp only [Int.ofNat_eq_natCast] at *))
  all_goals try rw [up64 (by omega) (by omega)]
  all_goals first
    | (show (_ : List DV) = _
       first
         | exact rfl
         | (exfalso; simp_all; done)
         | (exfalso; simp_all [selI, cmpI, bnI]; done)
         | done)
    | omega
    | (refine ⟨by omega, by omega, Eq.trans (Rw.eta (fs := _) (by (first | assumption | exact Rw.sub (by first | assumption | exact Rw.sub (by assumption) (by omega) rfl) (by omega) rfl)) (by omega) (by omega)) ?_⟩; rfl)
    | (show okOrder _ _ = true; kernel_rfl)
    | exact Int.natCast_nonneg _
    | exact True.intro
    | done
theorem c_laws_sameBools (a b : List (List L)) (hp : a = b ∧ Rw [tB] a) : Ctr Try.prog 89 [.one (.s 1 a), .one (.s 1 b)] [.one (.v (.bool true))] := by
  obtain ⟨rfl, hw⟩ := hp
  have hm := hw.1; unfold maxLen at hm
  refine ctr_of (ctF := Sm0.ct) (mtF := Sm0.mt) (ptF := Sm0.pt) (ntF := Sm0.nt) (otF := Sm0.ot) (F0 := Sm0.F0) tabOk Sm0.ct_ok Sm0.mt_ok Sm0.pt_ok Sm0.nt_ok Sm0.ot_ok mixed 26 _ [4] [.tmp 4] Try.func89 rfl rfl rfl rfl rfl ?_
  intro O r F hO hr hF
  cbv
  repeat' first | refine And.intro ?_ ?_ | (refine caseB_intro (fun hb => ?_) (fun hb => ?_) <;> cbv) | (refine ⟨[0, 1, 5], [], Int, fun i => [.reg 5 (.one (.v (.int .i64 i)))], fun i => 0 ≤ i ∧ i ≤ (a.length : Int), fun i => a.length - i.toNat, ⟨0, ?_, ?_⟩, ?_⟩; rotate_left; (focus (cbv; done)); intro i hi; replace hi : 0 ≤ i ∧ i ≤ (a.length : Int) := hi; obtain ⟨i0, i1⟩ := hi; cbv) | (refine loop_step (O.ar .add .i64 i 1) ?_ ?_ ?_; rotate_left 2; focus (cbv; done))
  all_goals ((try subst hos); subst hO hr hF; (try simp only [stdO, SS, sub_all, ad_zero] at *); (try simp only [ncast] at *); (try simp only [Int.ofNat_eq_natCast] at *))
  all_goals try rw [up64 (by omega) (by omega)]
  all_goals first
    | (show (_ : List DV) = _
       first
         | exact rfl
         | (exfalso; simp_all; done)
         | (exfalso; simp_all [selI, cmpI, bnI]; done)
         | done)
    | omega
    | (refine ⟨by omega, by omega, Eq.trans (Rw.eta (fs := _) (by (first | assumption | exact Rw.sub (by first | assumption | exact Rw.sub (by assumption) (by omega) rfl) (by omega) rfl)) (by omega) (by omega)) ?_⟩; rfl)
    | (show okOrder _ _ = true; kernel_rfl)
    | exact Int.natCast_nonneg _
    | exact True.intro
    | done
theorem c_laws_sameEntries (a b : List (List L)) (hp : a = b ∧ Rw [tI, tI] a) : Ctr Try.prog 64 [.one (.s 2 a), .one (.s 2 b)] [.one (.v (.bool true))] := by
  obtain ⟨rfl, hw⟩ := hp
  have hm := hw.1; unfold maxLen at hm
  refine ctr_of (ctF := Sm0.ct) (mtF := Sm0.mt) (ptF := Sm0.pt) (ntF := Sm0.nt) (otF := Sm0.ot) (F0 := Sm0.F0) tabOk Sm0.ct_ok Sm0.mt_ok Sm0.pt_ok Sm0.nt_ok Sm0.ot_ok mixed 26 _ [4] [.tmp 4] Try.func64 rfl rfl rfl rfl rfl ?_
  intro O r F hO hr hF
  cbv
  repeat' first | refine And.intro ?_ ?_ | (refine caseB_intro (fun hb => ?_) (fun hb => ?_) <;> cbv) | (refine ⟨[0, 1, 5], [], Int, fun i => [.reg 5 (.one (.v (.int .i64 i)))], fun i => 0 ≤ i ∧ i ≤ (a.length : Int), fun i => a.length - i.toNat, ⟨0, ?_, ?_⟩, ?_⟩; rotate_left; (focus (cbv; done)); intro i hi; replace hi : 0 ≤ i ∧ i ≤ (a.length : Int) := hi; obtain ⟨i0, i1⟩ := hi; cbv) | (refine loop_step (O.ar .add .i64 i 1) ?_ ?_ ?_; rotate_left 2; focus (cbv; done))
  all_goals ((try subst hos); subst hO hr hF; (try simp only [stdO, SS, sub_all, ad_zero] at *); (try simp only [ncast] at *); (try simp only [Int.ofNat_eq_natCast] at *))
  all_goals try rw [up64 (by omega) (by omega)]
  all_goals first
    | (show (_ : List DV) = _
       first
         | exact rfl
         | (exfalso; simp_all; done)
         | (exfalso; simp_all [selI, cmpI, bnI]; done)
         | done)
    | omega
    | (refine ⟨by omega, by omega, Eq.trans (Rw.eta (fs := _) (by (first | assumption | exact Rw.sub (by first | assumption | exact Rw.sub (by assumption) (by omega) rfl) (by omega) rfl)) (by omega) (by omega)) ?_⟩; rfl)
    | (show okOrder _ _ = true; kernel_rfl)
    | exact Int.natCast_nonneg _
    | exact True.intro
    | done
namespace Sm1
structure Fns where
  no : Unit
def F0 : Fns := ⟨()⟩
def ct (F : Fns) : CT := fun f ds => match f with
  | 99 => match ds with
    | [.one (.s 1 a), .one (.s 1 b)] => some (fun _ => a = b ∧ Rw [tI] a, [.one (.v (.bool true))])
    | _ => none
  | _ => none
theorem ct_ok : CTok Try.prog (ct F0) := by
  intro f ds pre res h hp
  unfold ct at h
  split at h
  · split at h
    · cases h; exact c_laws_sameInts _ _ hp
    · cases h
  · cases h
def mt : Fns → MT := noMT
theorem mt_ok : MTok Try.prog (mt F0) := noMT_ok
def pt : Fns → PT := noPT
theorem pt_ok : PTok Try.prog (pt F0) := noPT_ok
def nt : Fns → NT := noNT
theorem nt_ok : NTok Try.prog (nt F0) := noNT_ok
def ot : Fns → OT := noOT
theorem ot_ok : OTok Try.prog (ot F0) := noOT_ok
end Sm1
theorem c_laws_sameLists (a b : List (List L)) (hp : a = b ∧ Rw [.sl [tI]] a) : Ctr Try.prog 88 [.one (.s 1 a), .one (.s 1 b)] [.one (.v (.bool true))] := by
  obtain ⟨rfl, hw⟩ := hp
  have hm := hw.1; unfold maxLen at hm
  refine ctr_of (ctF := Sm1.ct) (mtF := Sm1.mt) (ptF := Sm1.pt) (ntF := Sm1.nt) (otF := Sm1.ot) (F0 := Sm1.F0) tabOk Sm1.ct_ok Sm1.mt_ok Sm1.pt_ok Sm1.nt_ok Sm1.ot_ok mixed 27 _ [4] [.tmp 4] Try.func88 rfl rfl rfl rfl rfl ?_
  intro O r F hO hr hF
  cbv
  repeat' first | refine And.intro ?_ ?_ | (refine caseB_intro (fun hb => ?_) (fun hb => ?_) <;> cbv) | (refine ⟨[0, 1, 5], [], Int, fun i => [.reg 5 (.one (.v (.int .i64 i)))], fun i => 0 ≤ i ∧ i ≤ (a.length : Int), fun i => a.length - i.toNat, ⟨0, ?_, ?_⟩, ?_⟩; rotate_left; (focus (cbv; done)); intro i hi; replace hi : 0 ≤ i ∧ i ≤ (a.length : Int) := hi; obtain ⟨i0, i1⟩ := hi; cbv) | (refine loop_step (O.ar .add .i64 i 1) ?_ ?_ ?_; rotate_left 2; focus (cbv; done))
  all_goals ((try subst hos); subst hO hr hF; (try simp only [stdO, SS, sub_all, ad_zero] at *); (try simp only [ncast] at *); (try simp only [Int.ofNat_eq_natCast] at *))
  all_goals (try simp only [Sm1.F0] at *)
  all_goals try rw [up64 (by omega) (by omega)]
  all_goals first
    | (show (_ : List DV) = _
       first
         | exact rfl
         | (exfalso; simp_all; done)
         | (exfalso; simp_all [selI, cmpI, bnI]; done)
         | done)
    | omega
    | (refine ⟨by omega, by omega, Eq.trans (Rw.eta (fs := _) (by (first | assumption | exact Rw.sub (by first | assumption | exact Rw.sub (by assumption) (by omega) rfl) (by omega) rfl)) (by omega) (by omega)) ?_⟩; rfl)
    | (show okOrder _ _ = true; kernel_rfl)
    | exact ⟨True.intro, Rw.sub (fs := [.sl [tI]]) hw (by omega) rfl⟩
    | exact Int.natCast_nonneg _
    | exact True.intro
    | done
namespace Sm2
structure Fns where
  no : Unit
def F0 : Fns := ⟨()⟩
def ct (F : Fns) : CT := fun f ds => match f with
  | 88 => match ds with
    | [.one (.s 1 a), .one (.s 1 b)] => some (fun _ => a = b ∧ Rw [.sl [tI]] a, [.one (.v (.bool true))])
    | _ => none
  | 89 => match ds with
    | [.one (.s 1 a), .one (.s 1 b)] => some (fun _ => a = b ∧ Rw [tB] a, [.one (.v (.bool true))])
    | _ => none
  | _ => none
theorem ct_ok : CTok Try.prog (ct F0) := by
  intro f ds pre res h hp
  unfold ct at h
  split at h
  · split at h
    · cases h; exact c_laws_sameLists _ _ hp
    · cases h
  · split at h
    · cases h; exact c_laws_sameBools _ _ hp
    · cases h
  · cases h
def mt : Fns → MT := noMT
theorem mt_ok : MTok Try.prog (mt F0) := noMT_ok
def pt : Fns → PT := noPT
theorem pt_ok : PTok Try.prog (pt F0) := noPT_ok
def nt : Fns → NT := noNT
theorem nt_ok : NTok Try.prog (nt F0) := noNT_ok
def ot : Fns → OT := noOT
theorem ot_ok : OTok Try.prog (ot F0) := noOT_ok
end Sm2
theorem c_laws_sameFrames (a u b v : List (List L)) (hp : a = b ∧ u = v ∧ Rw [.sl [tI]] a ∧ Rw [tB] u) : Ctr Try.prog 63 [.agg [.s 1 a, .s 1 u], .agg [.s 1 b, .s 1 v]] [.one (.v (.bool true))] := by
  obtain ⟨rfl, rfl, hw, hu⟩ := hp
  refine ctr_of (ctF := Sm2.ct) (mtF := Sm2.mt) (ptF := Sm2.pt) (ntF := Sm2.nt) (otF := Sm2.ot) (F0 := Sm2.F0) tabOk Sm2.ct_ok Sm2.mt_ok Sm2.pt_ok Sm2.nt_ok Sm2.ot_ok mixed 17 _ [4] [.tmp 4] Try.func63 rfl rfl rfl rfl rfl ?_
  intro O r F hO hr hF
  cbv
  repeat' first | refine And.intro ?_ ?_ | (refine caseB_intro (fun hb => ?_) (fun hb => ?_) <;> cbv)
  all_goals ((try subst hos); subst hO hr hF; (try simp only [stdO, SS, sub_all, ad_zero] at *); (try simp only [ncast] at *); (try simp only [Int.ofNat_eq_natCast] at *))
  all_goals first
    | (show (_ : List DV) = _
       first
         | exact rfl
         | (exfalso; simp_all; done)
         | (exfalso; simp_all [selI, cmpI, bnI]; done)
         | done)
    | (show okOrder _ _ = true; kernel_rfl)
    | exact ⟨rfl, hw⟩
    | exact ⟨rfl, hu⟩
    | exact ⟨trivial, hw⟩
    | exact ⟨trivial, hu⟩
    | exact True.intro
    | done
namespace Sm3
structure Fns where
  no : Unit
def F0 : Fns := ⟨()⟩
def ct (F : Fns) : CT := fun f ds => match f with
  | 63 => match ds with
    | [.agg [.s 1 a, .s 1 u], .agg [.s 1 b, .s 1 v]] => some (fun _ => a = b ∧ u = v ∧ Rw [.sl [tI]] a ∧ Rw [tB] u, [.one (.v (.bool true))])
    | _ => none
  | 64 => match ds with
    | [.one (.s 2 a), .one (.s 2 b)] => some (fun _ => a = b ∧ Rw [tI, tI] a, [.one (.v (.bool true))])
    | _ => none
  | _ => none
theorem ct_ok : CTok Try.prog (ct F0) := by
  intro f ds pre res h hp
  unfold ct at h
  split at h
  · split at h
    · cases h; exact c_laws_sameFrames _ _ _ _ hp
    · cases h
  · split at h
    · cases h; exact c_laws_sameEntries _ _ hp
    · cases h
  · cases h
def mt : Fns → MT := noMT
theorem mt_ok : MTok Try.prog (mt F0) := noMT_ok
def pt : Fns → PT := noPT
theorem pt_ok : PTok Try.prog (pt F0) := noPT_ok
def nt : Fns → NT := noNT
theorem nt_ok : NTok Try.prog (nt F0) := noNT_ok
def ot : Fns → OT := noOT
theorem ot_ok : OTok Try.prog (ot F0) := noOT_ok
end Sm3
theorem c_laws_sameMachine (a u t b v s : List (List L)) (hp : a = b ∧ u = v ∧ t = s ∧ Rw [.sl [tI]] a ∧ Rw [tB] u ∧ Rw [tI, tI] t) : Ctr Try.prog 33 [.agg [.s 1 a, .s 1 u, .s 2 t], .agg [.s 1 b, .s 1 v, .s 2 s]] [.one (.v (.bool true))] := by
  obtain ⟨rfl, rfl, rfl, hw, hu, ht⟩ := hp
  refine ctr_of (ctF := Sm3.ct) (mtF := Sm3.mt) (ptF := Sm3.pt) (ntF := Sm3.nt) (otF := Sm3.ot) (F0 := Sm3.F0) tabOk Sm3.ct_ok Sm3.mt_ok Sm3.pt_ok Sm3.nt_ok Sm3.ot_ok mixed 19 _ [4] [.tmp 4] Try.func33 rfl rfl rfl rfl rfl ?_
  intro O r F hO hr hF
  cbv
  repeat' first | refine And.intro ?_ ?_ | (refine caseB_intro (fun hb => ?_) (fun hb => ?_) <;> cbv)
  all_goals ((try subst hos); subst hO hr hF; (try simp only [stdO, SS, sub_all, ad_zero] at *); (try simp only [ncast] at *); (try simp only [Int.ofNat_eq_natCast] at *))
  all_goals first
    | (show (_ : List DV) = _
       first
         | exact rfl
         | (exfalso; simp_all; done)
         | (exfalso; simp_all [selI, cmpI, bnI]; done)
         | done)
    | (show okOrder _ _ = true; kernel_rfl)
    | exact ⟨rfl, rfl, hw, hu⟩
    | exact ⟨rfl, ht⟩
    | exact ⟨trivial, trivial, hw, hu⟩
    | exact ⟨trivial, ht⟩
    | exact True.intro
    | done

end Go.V
