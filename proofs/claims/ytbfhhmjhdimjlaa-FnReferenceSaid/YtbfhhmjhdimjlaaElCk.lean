/-
  Contracts of functions, by evaluation of conditions on their code.
-/
import Derived.Test.YtbfhhmjhdimjlaaS8
import Derived.Test.YtbfhhmjhdimjlaaH24
import Derived.Test.YtbfhhmjhdimjlaaDrawk
import Derived.Test.YtbfhhmjhdimjlaaRefFk

set_option linter.all false
namespace Go.V
open Go Go.Proofs
set_option maxRecDepth 1000000
set_option maxHeartbeats 8000000
namespace L0
structure Fns where
  no : Unit
def F0 : Fns := ⟨()⟩
def ct : Fns → CT := noC
theorem ct_ok : CTok Try.prog (ct F0) := noC_ok
def mt : Fns → MT := noMT
theorem mt_ok : MTok Try.prog (mt F0) := noMT_ok
def pt : Fns → PT := noPT
theorem pt_ok : PTok Try.prog (pt F0) := noPT_ok
def nt : Fns → NT := noNT
theorem nt_ok : NTok Try.prog (nt F0) := noNT_ok
def ot : Fns → OT := noOT
theorem ot_ok : OTok Try.prog (ot F0) := noOT_ok
end L0
theorem c_impl_RefNew (hp : True) : Ctr Try.prog 18 [] [.agg [.v (.int .i64 1), .s 2 []]] := by
  refine ctr_of (ctF := L0.ct) (mtF := L0.mt) (ptF := L0.pt) (ntF := L0.nt) (otF := L0.ot) (F0 := L0.F0) tabOk L0.ct_ok L0.mt_ok L0.pt_ok L0.nt_ok L0.ot_ok mixed 2 _ [34] [.cell 0 34] Try.func18 rfl rfl rfl rfl rfl ?_
  intro O r F hO hr hF
  cbv
  repeat' first | refine And.intro ?_ ?_ | (refine caseB_intro (fun hb => ?_) (fun hb => ?_) <;> cbv)
  all_goals ((try subst hos); subst hO hr hF; (try simp only [stdO, SS, sub_all, ad_zero] at *); (try simp only [ncast] at *); (try simp only [Int.ofNat_eq_natCast] at *))
  all_goals first
    | exact True.intro
    | exact ⟨True.intro, True.intro⟩
    | (show okOrder _ _ = true; kernel_rfl)
    | exact rfl
theorem c_laws_big (cs : List (List L)) (hp : cs.length ≤ maxLen) : Ctr Try.prog 11 [.one (.s 1 cs)] [.one (.v (.bool (bgB cs)))] := by
  refine ctr_of (ctF := L0.ct) (mtF := L0.mt) (ptF := L0.pt) (ntF := L0.nt) (otF := L0.ot) (F0 := L0.F0) tabOk L0.ct_ok L0.mt_ok L0.pt_ok L0.nt_ok L0.ot_ok mixed 6 _ [4] [.tmp 2] Try.func11 rfl rfl rfl rfl rfl ?_
  intro O r F hO hr hF
  cbv
  repeat' first | refine And.intro ?_ ?_ | (refine caseB_intro (fun hb => ?_) (fun hb => ?_) <;> cbv)
  all_goals ((try subst hos); subst hO hr hF; (try simp only [stdO, SS, sub_all, ad_zero] at *); (try simp only [ncast] at *); (try simp only [Int.ofNat_eq_natCast] at *))
  all_goals first
    | (show (_ : List DV) = _
       first
         | exact db_eq (b_iff (by unfold bgB; simp only [SS, decide_eq_true_eq]))
         | done)
    | exact hp
    | exact True.intro
    | done
namespace L3
structure Fns where
  bgB : List (List L) → Bool
  dpl : List (List L) → List (List L)
  raN : Int → Int → Int
  raO : Int → List (List L) → Int → List (List L)
  raR : Int → Int → Int
  rsO : List (List L) → Int → Int → Int → List (List L)
  rsB : List (List L) → Int → Int → Int → Bool
  rdO : List (List L) → Int → List (List L)
  rdB : List (List L) → Int → Bool
  rtO : List (List L) → Int → Int → List (List L)
  rtB : List (List L) → Int → Int → Bool
def F0 : Fns := ⟨bgB, dpl, raN, raO, raR, rsO, rsB, rdO, rdB, rtO, rtB⟩
def ct (F : Fns) : CT := fun f ds => match f with
  | 11 => match ds with
    | [.one (.s 1 cs)] => some (fun _ => cs.length ≤ maxLen, [.one (.v (.bool (F.bgB cs)))])
    | _ => none
  | 13 => match ds with
    | [.one (.s 1 cs)] => some (fun _ => Rw [tU] cs ∧ cs.length ≤ 1048576, [.one (.s 1 (F.dpl cs))])
    | _ => none
  | 18 => match ds with
    | [] => some (fun _ => True, [.agg [.v (.int .i64 1), .s 2 []]])
    | _ => none
  | 19 => match ds with
    | [.agg [.v (.int .i64 n), .s 2 os], .one (.v (.int .i64 sz))] => some (fun _ => Rw tO os ∧ cntE os ≤ 1099511627776, [.agg [.v (.int .i64 (F.raN n sz)), .s 2 (F.raO n os sz)], .one (.v (.int .i64 (F.raR n sz)))])
    | _ => none
  | 20 => match ds with
    | [.agg [.v (.int .i64 n), .s 2 os], .one (.v (.int .i64 id)), .one (.v (.int .i64 k)), .one (.v (.int .i64 v))] => some (fun _ => Rw tO os ∧ cntE os ≤ 1099511627776, [.agg [.v (.int .i64 n), .s 2 (F.rsO os id k v)], .one (.v (.bool (F.rsB os id k v)))])
    | _ => none
  | 21 => match ds with
    | [.agg [.v (.int .i64 n), .s 2 os], .one (.v (.int .i64 id))] => some (fun _ => Rw tO os ∧ cntE os ≤ 1099511627776, [.agg [.v (.int .i64 n), .s 2 (F.rdO os id)], .one (.v (.bool (F.rdB os id)))])
    | _ => none
  | 22 => match ds with
    | [.agg [.v (.int .i64 n), .s 2 os], .one (.v (.int .i64 id)), .one (.v (.int .i64 sz))] => some (fun _ => Rw tO os ∧ cntE os ≤ 1099511627776, [.agg [.v (.int .i64 n), .s 2 (F.rtO os id sz)], .one (.v (.bool (F.rtB os id sz)))])
    | _ => none
  | _ => none
theorem ct_ok : CTok Try.prog (ct F0) := by
  intro f ds pre res h hp
  unfold ct at h
  split at h
  · split at h
    · cases h; exact c_laws_big _ hp
    · cases h
  · split at h
    · cases h; exact c_spec_DrawPlaces _ hp
    · cases h
  · split at h
    · cases h; exact c_impl_RefNew  hp
    · cases h
  · split at h
    · cases h; exact c_impl_RefAlloc _ _ _ hp
    · cases h
  · split at h
    · cases h; exact c_impl_RefStore _ _ _ _ _ hp
    · cases h
  · split at h
    · cases h; exact c_impl_RefFree _ _ _ hp
    · cases h
  · split at h
    · cases h; exact c_impl_RefTrim _ _ _ _ hp
    · cases h
  · cases h
def mt : Fns → MT := noMT
theorem mt_ok : MTok Try.prog (mt F0) := noMT_ok
def pt : Fns → PT := noPT
theorem pt_ok : PTok Try.prog (pt F0) := noPT_ok
def nt : Fns → NT := noNT
theorem nt_ok : NTok Try.prog (nt F0) := noNT_ok
def ot : Fns → OT := noOT
theorem ot_ok : OTok Try.prog (ot F0) := noOT_ok
end L3
theorem c_laws_FnReference (cs : List (List L)) (hp : Rw [tU] cs) : Ctr Try.prog 5 [.one (.s 1 cs)] [.one (.v (.bool true))] := by
  have hw := hp
  have hml := hw.1
  have hd := dpl_len (cs := cs)
  have hr := dpl_rw (cs := cs)
  have r1 := rl1 (cs := cs); have r2 := rl2 (cs := cs); have r3 := rl3 (cs := cs); have r4 := rl4 (cs := cs); have r5 := rl5 (cs := cs); have r6 := rl6 (cs := cs); have rk := rlK1 (cs := cs)
  have rw_ := rl_w (cs := cs)
  have bk := rlK_b (cs := cs)
  have p4 := rl_p4 (cs := cs); have p5 := rl_p5 (cs := cs); have l5 := rl_l5 (cs := cs); have e4 := rl_e4 (cs := cs); have e5 := rl_e5 (cs := cs); have lc := rlC_l (cs := cs); have pi4 := rl_pi (cs := cs)
  refine ctr_of (ctF := L3.ct) (mtF := L3.mt) (ptF := L3.pt) (ntF := L3.nt) (otF := L3.ot) (F0 := L3.F0) tabOk L3.ct_ok L3.mt_ok L3.pt_ok L3.nt_ok L3.ot_ok mixed 142 _ [4] [.tmp 2] Try.func5 rfl rfl rfl rfl rfl ?_
  intro O r F hO hr hF
  cbv
  repeat' first | refine And.intro ?_ ?_ | (refine caseB_intro (fun hb => ?_) (fun hb => ?_) <;> cbv)
  all_goals ((try subst hos); subst hO hr hF; (try simp only [stdO, SS, sub_all, ad_zero] at *); (try simp only [ncast] at *); (try simp only [Int.ofNat_eq_natCast] at *))
  all_goals (try simp only [L3.F0] at *)
  all_goals (try simp only [show piI (L.s 1 (dpl cs)) [(Int.toNat 0, 0)] = giI (dpl cs) 0 0 from pi_at (by omega), show piI (L.s 1 (dpl cs)) [(Int.toNat 1, 0)] = giI (dpl cs) 1 0 from pi_at (by omega), show piI (L.s 1 (dpl cs)) [(Int.toNat 2, 0)] = giI (dpl cs) 2 0 from pi_at (by omega)] at *)
  all_goals (try simp only [show arI .add .i64 1 (arI .rem .i64 (giI (dpl cs) 0 0) 9) = rlX cs from rfl, show arI .rem .i64 (giI (dpl cs) 1 0) 4 = rlK cs from rfl, show arI .rem .i64 (giI (dpl cs) 2 0) 1000 = rlV cs from rfl] at *)
  all_goals (try simp only [r1.1, r1.2.1, r1.2.2, r2.1, r2.2.1, r2.2.2, r3.1, r3.2, r4.1, r4.2, r5, rk, r6.1, r6.2])
  all_goals first
    | exact hml
    | exact ⟨hw, bg_no (by assumption)⟩
    | exact ⟨True.intro, True.intro⟩
    | exact ⟨trivial, trivial⟩
    | (show okOrder _ _ = true; kernel_rfl)
    | exact get_int hr (by omega) (by omega)
    | (rw [hd]; omega)
    | exact ⟨rw_nil, by decide⟩
    | exact rw_.1
    | exact rw_.2.1
    | exact rw_.2.2.1
    | exact rw_.2.2.2.1
    | exact rw_.2.2.2.2
    | (rw [e4]; exact ⟨by omega, by omega⟩)
    | (rw [e5]; exact ⟨by omega, by omega⟩)
    | exact get_o rw_.2.2.2.1.1 (by omega) (by rw [e4]; omega)
    | exact get_o rw_.2.2.2.2.1 (by omega) (by rw [e5]; omega)
    | (rw [getS_o rw_.2.2.2.1.1 (by omega) (by rw [e4]; omega)]; rfl)
    | (rw [getS_o rw_.2.2.2.2.1 (by omega) (by rw [e5]; omega)]; rfl)
    | exact ⟨bk.1, by rw [p4, lc]; omega, _, getS_o rw_.2.2.2.1.1 (by omega) (by rw [e4]; omega)⟩
    | exact rl_get
    | (refine dbt ?_; rw [p5]; simp only [cmpI]; exact beq_iff_eq.2 l5)
    | (exfalso; simp only [r1.1, r1.2.1, r1.2.2, r2.1, r2.2.1, r2.2.2, r3.1, r3.2, r4.1, r4.2, r5, rk, r6.1, r6.2, p4, p5, pi4, e4, e5, lc, l5] at *; first | contradiction | omega | (rename_i q; exact absurd rfl q))
    | omega
    | trace_state
theorem r_FnReference (recs : List (List L)) (h : confs [(false, [.sl [tU]])] recs) : Ctr Try.prog 5 (argDVs [(false, [.sl [tU]])] recs) [.one (.v (.bool true))] := by
  match recs, h with
  | [[.s _ a0]], h =>
    simp only [confs, confR, confL] at h
    obtain ⟨⟨⟨rfl, ha0, ka0⟩, _⟩, _⟩ := h
    exact c_laws_FnReference a0 ⟨ha0, ka0⟩

end Go.V
