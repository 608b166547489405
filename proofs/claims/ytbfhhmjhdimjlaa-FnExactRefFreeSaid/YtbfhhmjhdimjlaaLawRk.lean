/-
  Contracts of functions, by evaluation of conditions on their code.
-/
import Derived.Test.YtbfhhmjhdimjlaaS8
import Derived.Test.YtbfhhmjhdimjlaaVE

set_option linter.all false
namespace Go.V
open Go Go.Proofs
set_option maxRecDepth 1000000
set_option maxHeartbeats 8000000
namespace LIntS
structure Fns where
  no : Unit
def F0 : Fns := ⟨()⟩
def B : TB Try.prog := {Φ := Fns, F0 := F0}
end LIntS
theorem c_laws_szIntS (es : List (List L)) (left : Int) (hp : Rw [tI] es ∧ 0 ≤ left ∧ left ≤ 1048576) : Ctr Try.prog 94 [.one (.s 1 es), .one (.v (.int .i64 left))] [.one (.v (.int .i64 (szN0 [es] left)))] := by
  obtain ⟨hw, h0, h1⟩ := hp
  have hc : cntE es = es.length := hw.cnt rfl
  have hm := hw.1; unfold maxLen at hm
  have hs : arI .sub .i64 left es.length = left - es.length := sub64 (by omega)
  have hn : szN0 [es] left = if left < es.length then -1 else left - es.length := by unfold szN0; rw [cntRs_one, hc]
  refine ctr_b LIntS.B tabOk mixed 12 _ [3] [.tmp 4] Try.func94 rfl rfl rfl rfl rfl ?_
  intro O r (F : LIntS.Fns) hO hr (hF : F = LIntS.F0)
  cbv
  repeat' first | refine And.intro ?_ ?_ | (refine caseB_intro (fun hb => ?_) (fun hb => ?_) <;> cbv)
  all_goals ((try subst hos); subst hO hr hF; (try simp only [stdO, SS, sub_all, ad_zero] at *); (try simp only [ncast] at *); (try simp only [onc] at *))
  all_goals (try simp only [hs, LIntS.F0] at *)
  all_goals first | trivial | (rw [hn, if_pos (by omega)]) | (rw [hn, if_neg (by omega)])
theorem c_laws_toIntS (es : List (List L)) (hp : Rw [tI] es ∧ cntE es ≤ 1048576) : Ctr Try.prog 95 [.one (.s 1 es)] [.one (.s 1 es)] := by
  obtain ⟨hw, hlim⟩ := hp
  have hwf : Wf [.v (.int .i64 0)] es := hw.wf
  have hlen : es.length ≤ 1048576 := Nat.le_trans (Nat.le_add_right _ _) hlim
  refine ctr_b LIntS.B tabOk mixed 22 _ [24] [.tmp 2] Try.func95 rfl rfl rfl rfl rfl ?_
  intro O r (F : LIntS.Fns) hO hr (hF : F = LIntS.F0)
  cbv
  have h0z : fillR es [.v (.int .i64 0)] 0 = O.rep (O.zi (O.ln es)) [.v (.int .i64 0)] := by
    subst hO
    rw [fillR_zero]; rfl
  refine ⟨?_, ?_, [0, 3, 4], [3], Int × List (List L), fun s => [.reg 4 (.one (.v (.int .i64 s.1))), .leaf 3 0 ⟨0, 0, none, .own (.s 1 s.2)⟩], fun s => 0 ≤ s.1 ∧ s.1.toNat ≤ es.length ∧ s.2 = fillR es [.v (.int .i64 0)] s.1.toNat, fun s => es.length - s.1.toNat, ⟨(0, O.rep (O.zi (O.ln es)) [.v (.int .i64 0)]), ?_, ?_⟩, ?_⟩
  · subst hO
    exact mk_ok (b := 8) (show es.length * _ ≤ _ by omega) (show es.length ≤ _ by omega)
  · subst hO
    exact ⟨rfl, rfl⟩
  · exact ⟨by omega, Nat.zero_le _, h0z.symm⟩
  · cbv
  · rintro ⟨i, m⟩ hi
    replace hi : 0 ≤ i ∧ i.toNat ≤ es.length ∧ m = fillR es [.v (.int .i64 0)] i.toNat := hi
    obtain ⟨g0, g1, hm⟩ := hi
    cbv
    repeat' first | refine And.intro ?_ ?_ | (refine caseB_intro (fun hb => ?_) (fun hb => ?_) <;> cbv) | (refine loop_step (O.ar .add .i64 i 1, O.up (.s 1 m) [(O.ad 0 i, 0)] [.v (.int .i64 (O.gi es i 0))]) ?_ ?_ ?_; rotate_left 2; focus (cbv; done))
    all_goals ((try subst hos); subst hO hr hF; (try simp only [stdO, SS, sub_all, ad_zero] at *); (try simp only [ncast] at *); (try simp only [onc] at *))
    all_goals (try simp only [LIntS.F0, repI, List.length_replicate, Int.toNat_natCast] at *)
    all_goals try have hlt : i < es.length := by assumption
    all_goals try rw [inc64 (n := es.length) g0 hlt (by omega)]
    all_goals try have he : es.getD i.toNat [] = [.v (.int .i64 (giI es i 0))] := (etaE_whole hwf g0 hlt).symm
    all_goals try have hct := cntE_at (es := es) (n := i.toNat) (by omega); rw [he] at hct; simp only [cntR, cntL, Nat.add_zero, Nat.zero_add] at hct
    all_goals have hle1 := cntEs_take_le (es := es) (n := i.toNat + 1)
    all_goals have hcE : cntE es = es.length + cntEs es := rfl
    all_goals first
      | exact row_ro hwf g0 hlt
      | exact ⟨g0, hlt⟩
      | (rw [hm]; exact getR_some (by rw [fillR_length g1]; omega) (by rw [fillR_getD (by omega)]; exact Nat.le_refl _))
      | omega
      | (rw [show (i + 1).toNat = i.toNat + 1 from by omega, ← fillR_set (by omega), ← hm, upI_one (by rw [hm, fillR_getD (by omega)]; rfl), he])
      | (rw [hm, fillR_length g1]; exact ⟨trivial, rfl⟩)
      | (rw [hm, show i.toNat = es.length from by omega, fillR_all])
      | trivial
      | exact ⟨trivial, trivial⟩
      | (refine ⟨?_⟩; simp only [cntRs, cntE, Nat.add_zero]; omega)
      | trace_state
theorem c_laws_eqIntS (es : List (List L)) (d : DV) (hp : d = .one (.s 1 es) ∧ Rw [tI] es ∧ cntE es ≤ 1099511627776) : Ctr Try.prog 96 [.one (.s 1 es), d] [.one (.v (.bool true))] := by
  obtain ⟨rfl, hw, hlim⟩ := hp
  have hwf : Wf [.v (.int .i64 0)] es := hw.wf
  have hlen : es.length ≤ 1099511627776 := Nat.le_trans (Nat.le_add_right _ _) hlim
  refine ctr_b LIntS.B tabOk mixed 26 _ [4] [.tmp 4] Try.func96 rfl rfl rfl rfl rfl ?_
  intro O r (F : LIntS.Fns) hO hr (hF : F = LIntS.F0)
  cbv
  refine caseB_intro (fun hb => ?_) (fun hb => ?_) <;> cbv
  · ((try subst hos); subst hO hr hF; (try simp only [stdO, SS, sub_all, ad_zero] at *); (try simp only [ncast] at *); (try simp only [onc] at *)); exact absurd rfl hb
  · clear hb
    refine ⟨[0, 1, 5], [], Int, fun i => [.reg 5 (.one (.v (.int .i64 i)))], fun i => 0 ≤ i ∧ i.toNat ≤ es.length, fun i => es.length - i.toNat, ⟨0, ?_, ?_⟩, ?_⟩
    · exact ⟨by omega, Nat.zero_le _⟩
    · cbv
    · rintro i hi
      replace hi : 0 ≤ i ∧ i.toNat ≤ es.length := hi
      obtain ⟨g0, g1⟩ := hi
      cbv
      repeat' first | refine And.intro ?_ ?_ | (refine caseB_intro (fun hb => ?_) (fun hb => ?_) <;> cbv) | (refine loop_step (O.ar .add .i64 i 1) ?_ ?_ ?_; rotate_left 2; focus (cbv; done))
      all_goals ((try subst hos); subst hO hr hF; (try simp only [stdO, SS, sub_all, ad_zero] at *); (try simp only [ncast] at *); (try simp only [onc] at *))
      all_goals (try simp only [LIntS.F0] at *)
      all_goals try have hlt : i < es.length := by assumption
      all_goals try rw [inc64 (n := es.length) g0 hlt (by omega)]
      all_goals try have he : es.getD i.toNat [] = [.v (.int .i64 (giI es i 0))] := (etaE_whole hwf g0 hlt).symm
      all_goals try have hct := cntE_at (es := es) (n := i.toNat) (by omega); rw [he] at hct; simp only [cntR, cntL, Nat.add_zero, Nat.zero_add] at hct
      all_goals have hle1 := cntEs_take_le (es := es) (n := i.toNat + 1)
      all_goals have hcE : cntE es = es.length + cntEs es := rfl
      all_goals first
        | omega
        | exact row_ro hwf g0 hlt
        | exact absurd rfl hb
        | exact absurd rfl (by assumption)
        | trivial
        | kernel_rfl
        | exact ⟨trivial, trivial⟩
        | (refine ⟨trivial, ?_⟩; simp only [cntRs, cntE, Nat.add_zero]; omega)
        | trace_state
theorem c_laws_markIntS (es : List (List L)) (k : Int) (hp : Rw [tI] es ∧ cntE es ≤ 1099511627776 ∧ 0 ≤ k ∧ kN0 [es] k ≤ 1152921504606846976) : MCtr Try.prog 84 [.one (.s 1 es), .one (.v (.int .i64 k))] [.s 1 (mkN0 es k)] [.one (.v (.int .i64 (kN0 [es] k)))] := by
  obtain ⟨hw, hlim, hk0, hkb⟩ := hp
  have hwf : Wf [.v (.int .i64 0)] es := hw.wf
  have hlen : es.length ≤ 1099511627776 := Nat.le_trans (Nat.le_add_right _ _) hlim
  refine mctr_b LIntS.B tabOk mixed 19 _ [3] [.tmp 4] [(0, 0)] Try.func84 rfl rfl rfl rfl rfl rfl rfl ?_
  intro O r os (F : LIntS.Fns) hO hr hos (hF : F = LIntS.F0)
  cbv
  refine ⟨[0, 1, 5], [0], Int × Int × List (List L), fun s => match s with | (i, k', cur) => [.reg 5 (.one (.v (.int .i64 i))), .reg 1 (.one (.v (.int .i64 k'))), .leaf 0 0 ⟨0, 0, some 0, .own (.s 1 cur)⟩], fun s => 0 ≤ s.1 ∧ s.1.toNat ≤ es.length ∧ s.2.1 = kTo es k s.1.toNat ∧ s.2.2 = mkTo es k s.1.toNat, fun s => es.length - s.1.toNat, ⟨(0, k, es), ?_, ?_⟩, ?_⟩
  · exact ⟨by omega, Nat.zero_le _, kTo_zero.symm, mkTo_zero.symm⟩
  · cbv
  · rintro ⟨i, k', cur⟩ hi
    replace hi : 0 ≤ i ∧ i.toNat ≤ es.length ∧ k' = kTo es k i.toNat ∧ cur = mkTo es k i.toNat := hi
    obtain ⟨g0, g1, hk', hc⟩ := hi
    cbv
    repeat' first | refine And.intro ?_ ?_ | (refine caseB_intro (fun hb => ?_) (fun hb => ?_) <;> cbv) | (refine loop_step (O.ar .add .i64 i 1, O.ar .add .i64 (k') 1, O.up (.s 1 (cur)) [(O.ad 0 i, 0)] [.v (.int .i64 (k'))]) ?_ ?_ ?_; rotate_left 2; focus (cbv; done))
    all_goals ((try subst hos); subst hO hr hF; (try simp only [stdO, SS, sub_all, ad_zero] at *); (try simp only [ncast] at *); (try simp only [onc] at *))
    all_goals (try simp only [LIntS.F0] at *)
    all_goals try have hlt : i < es.length := by assumption
    all_goals try rw [inc64 (n := es.length) g0 hlt (by omega)]
    all_goals try have hlt' : i.toNat < es.length := by omega
    all_goals try have he : es.getD i.toNat [] = [.v (.int .i64 (giI es i 0))] := (etaE_whole hwf g0 hlt).symm
    all_goals try have hct := cntE_at (es := es) (n := i.toNat) (by omega); rw [he] at hct; simp only [cntR, cntL, Nat.add_zero, Nat.zero_add] at hct
    all_goals try have hks := kTo_succ (es := es) (k := k) hlt'; rw [he] at hks; simp only [msR, msL] at hks
    all_goals try have hms := mkTo_set (es := es) (k := k) hlt'; rw [he] at hms; simp only [msR, msL] at hms
    all_goals have hle1 := cntEs_take_le (es := es) (n := i.toNat + 1)
    all_goals have hcE : cntE es = es.length + cntEs es := rfl
    all_goals have hk1 := kTo_k (es := es) (k := k) (n := i.toNat)
    all_goals have hk2 := kTo_k (es := es) (k := k) (n := i.toNat + 1)
    all_goals have hk3 := kTo_all (es := es) (k := k)
    all_goals have hk4 := kTo_k (es := es) (k := k) (n := es.length)
    all_goals have hk5 := kTo_le (es := es) (m := 0) (n := i.toNat) g1 (Nat.zero_le _)
    all_goals have hk6 := kTo_le (es := es) (m := i.toNat) (n := es.length) (Nat.le_refl _) g1
    all_goals try have hk7 := kTo_le (es := es) (m := i.toNat + 1) (n := es.length) (Nat.le_refl _) hlt'
    all_goals rw [kTo_zero] at hk5
    all_goals try have hk8 := kTo_mono (es := es) (n := i.toNat) hlt'
    all_goals try have hcl : i.toNat < cur.length := by rw [hc, mkTo_length g1]; exact hlt'
    all_goals try have hcg : cur.getD i.toNat [] = [.v (.int .i64 (giI es i 0))] := by rw [hc, mkTo_getD g1]; exact he
    all_goals have ha1 : arI .add .i64 k' 1 = k' + 1 := add64 (by omega)
    all_goals have ha2 : arI .add .i64 (k' + 1) 1 = k' + 1 + 1 := add64 (by omega)
    all_goals have ha3 : arI .add .i64 (k' + 1 + 1) 1 = k' + 1 + 1 + 1 := add64 (by omega)
    all_goals have ha4 : arI .add .i64 (k' + 1 + 1 + 1) 1 = k' + 1 + 1 + 1 + 1 := add64 (by omega)
    all_goals try simp only [ha1, ha2, ha3, ha4]
    all_goals try simp only [ad_zero]
    all_goals try simp only [upI_cell, hcg, List.take, List.drop, List.length_cons, List.length_nil, List.nil_append, List.cons_append, List.append_nil, Nat.zero_add, Nat.reduceAdd, getD_set_same hcl, List.set_set, List.append_assoc]
    all_goals try simp only [psI_one, hcg, getD_set_same hcl, List.getD_cons_zero, List.getD_cons_succ, lfS]
    all_goals try simp only [getR_at hcl, getR_set hcl, getS_at hcl, getS_set hcl, hcg, List.getElem?_cons_zero, List.getElem?_cons_succ]
    all_goals first
      | exact ⟨g0, hlt⟩
      | (refine ⟨_, _, rfl, ?_⟩; simp; done)
      | (refine ⟨_, _, rfl, ?_, rfl⟩; simp; done)
      | (refine ⟨_, _, rfl, by simp, ?_⟩; show List.take _ (List.drop _ _) = [L.s _ (psI _ _)]; simp only [adv, psI_one, hcg, getD_set_same hcl, List.getD_cons_zero, List.getD_cons_succ, Nat.add_zero, lfS]; rfl)
      | exact ⟨trivial, _, rfl, rfl⟩
      | exact ⟨_, rfl⟩
      | omega
      | (rw [hk', show i.toNat = es.length from by omega, hk3]; done)
      | (rw [hc, show i.toNat = es.length from by omega, mkTo_all]; rfl)
      | (rw [show (i + 1).toNat = i.toNat + 1 from by omega, hks, hk']; done)
      | (rw [show (i + 1).toNat = i.toNat + 1 from by omega, hks, hk']; rfl)
      | (rw [show (i + 1).toNat = i.toNat + 1 from by omega, ← hms, hc, hk']; done)
      | (rw [show (i + 1).toNat = i.toNat + 1 from by omega, ← hms, hc, hk']; rfl)
      | (refine ⟨?_, ?_, ?_⟩ <;> (try simp only [cntE, kN0]) <;> first | omega | (rw [hk']; omega))
      | trivial
      | trace_state
theorem c_laws_heldIntS (ms : List (List L)) (k : Int) (hp : ∃ es, ms = mkN0 es k ∧ Rw [tI] es ∧ cntE es ≤ 1099511627776 ∧ 0 ≤ k ∧ kN0 [ms] k ≤ 1152921504606846976) : Ctr Try.prog 85 [.one (.s 1 ms), .one (.v (.int .i64 k))] [.one (.v (.int .i64 (kN0 [ms] k)))] := by
  obtain ⟨es, hms, hw, hlim, hk0, hkb⟩ := hp
  have hlen : es.length ≤ 1099511627776 := Nat.le_trans (Nat.le_add_right _ _) hlim
  have hml : ms.length = es.length := by rw [hms]; exact mkN_length
  have hkk : kN0 [ms] k = kN0 [es] k := by rw [hms]; exact kN_mk
  have hwm : Wf [.v (.int .i64 0)] ms := by rw [hms]; exact conf_mk_wf hw
  have hwf : Wf [.v (.int .i64 0)] es := hw.wf
  have hat : ∀ n, n < es.length → ms.getD n [] = (msR (es.getD n []) (kTo es k n)).1 := fun n hn => by rw [hms]; exact mkN_at hn
  refine ctr_b LIntS.B tabOk mixed 21 _ [3] [.tmp 4] Try.func85 rfl rfl rfl rfl rfl ?_
  intro O r (F : LIntS.Fns) hO hr (hF : F = LIntS.F0)
  cbv
  refine ⟨[0, 1, 5], [], Int × Int, fun s => match s with | (i, k') => [.reg 5 (.one (.v (.int .i64 i))), .reg 1 (.one (.v (.int .i64 k')))], fun s => 0 ≤ s.1 ∧ s.1.toNat ≤ es.length ∧ s.2 = kTo es k s.1.toNat, fun s => es.length - s.1.toNat, ⟨(0, k), ?_, ?_⟩, ?_⟩
  · exact ⟨by omega, Nat.zero_le _, kTo_zero.symm⟩
  · cbv
  · rintro ⟨i, k'⟩ hi
    replace hi : 0 ≤ i ∧ i.toNat ≤ es.length ∧ k' = kTo es k i.toNat := hi
    obtain ⟨g0, g1, hk'⟩ := hi
    cbv
    repeat' first | refine And.intro ?_ ?_ | (refine caseB_intro (fun hb => ?_) (fun hb => ?_) <;> cbv) | (refine loop_step (O.ar .add .i64 i 1, O.ar .add .i64 (k') 1) ?_ ?_ ?_; rotate_left 2; focus (cbv; done))
    all_goals ((try subst hos); subst hO hr hF; (try simp only [stdO, SS, sub_all, ad_zero] at *); (try simp only [ncast] at *); (try simp only [onc] at *))
    all_goals (try simp only [LIntS.F0] at *)
    all_goals try have hltm : i < ms.length := by assumption
    all_goals try have hlt : i < es.length := by omega
    all_goals try rw [inc64 (n := es.length) g0 hlt (by omega)]
    all_goals try have hlt' : i.toNat < es.length := by omega
    all_goals try have he : es.getD i.toNat [] = [.v (.int .i64 (giI es i 0))] := (etaE_whole hwf g0 hlt).symm
    all_goals try have hct := cntE_at (es := es) (n := i.toNat) (by omega); rw [he] at hct; simp only [cntR, cntL, Nat.add_zero, Nat.zero_add] at hct
    all_goals try have hks := kTo_succ (es := es) (k := k) hlt'; rw [he] at hks; simp only [msR, msL] at hks
    all_goals try have hem : ([.v (.int .i64 (giI ms i 0))] : (List L)) = _ := (etaE_whole hwm g0 hltm).trans (hat i.toNat hlt'); rw [he] at hem; simp only [msR, msL, List.cons.injEq, L.v.injEq, Value.int.injEq, Value.bool.injEq, L.s.injEq, true_and, and_true] at hem
    all_goals have hle1 := cntEs_take_le (es := es) (n := i.toNat + 1)
    all_goals have hcE : cntE es = es.length + cntEs es := rfl
    all_goals have hk1 := kTo_k (es := es) (k := k) (n := i.toNat)
    all_goals have hk2 := kTo_k (es := es) (k := k) (n := i.toNat + 1)
    all_goals have hk3 := kTo_all (es := es) (k := k)
    all_goals have hk4 := kTo_k (es := es) (k := k) (n := es.length)
    all_goals have hk5 := kTo_le (es := es) (m := 0) (n := i.toNat) g1 (Nat.zero_le _)
    all_goals have hk6 := kTo_le (es := es) (m := i.toNat) (n := es.length) (Nat.le_refl _) g1
    all_goals try have hk7 := kTo_le (es := es) (m := i.toNat + 1) (n := es.length) (Nat.le_refl _) hlt'
    all_goals rw [kTo_zero] at hk5
    all_goals try have hk8 := kTo_mono (es := es) (n := i.toNat) hlt'
    all_goals try rw [← hk'] at hem hks
    all_goals have ha1 : arI .add .i64 k' 1 = k' + 1 := add64 (by omega)
    all_goals have ha2 : arI .add .i64 (k' + 1) 1 = k' + 1 + 1 := add64 (by omega)
    all_goals have ha3 : arI .add .i64 (k' + 1 + 1) 1 = k' + 1 + 1 + 1 := add64 (by omega)
    all_goals have ha4 : arI .add .i64 (k' + 1 + 1 + 1) 1 = k' + 1 + 1 + 1 + 1 := add64 (by omega)
    all_goals try simp only [ha1, ha2, ha3, ha4] at *
    all_goals first
      | exact row_ro hwm g0 hltm
      | omega
      | (exfalso; revert hb; simp only [hem, cmpI, arI]; simp; done)
      | (rw [hk', show i.toNat = es.length from by omega, hk3, hkk]; done)
      | (rw [show (i + 1).toNat = i.toNat + 1 from by omega, hks]; done)
      | (rw [show (i + 1).toNat = i.toNat + 1 from by omega, hks, hem]; simp only [kN0, msEs_mk]; done)
      | (rw [show (i + 1).toNat = i.toNat + 1 from by omega, hks, hem.2]; simp only [kN0, msEs_mk]; done)
      | (refine ⟨_, by first | exact hem | exact hem.2 | exact hem.1 | rfl, ?_, ?_, ?_⟩ <;> (try simp only [kN0, msEs_mk, cntE]) <;> omega)
      | (refine ⟨_, by first | exact hem | exact hem.2 | exact hem.1 | rfl, ?_, ?_, ?_⟩ <;> (try rw [hem]) <;> (try rw [hem.2]) <;> (try simp only [kN0, msEs_mk, cntE]) <;> omega)
      | (exfalso; simp only [kN0, msEs_mk] at hb; omega)
      | (exfalso; (first | rw [hem] at hb | rw [hem.2] at hb); simp only [kN0, msEs_mk] at hb; omega)
      | trivial
      | trace_state
namespace LRefObj
structure Fns where
  szN : List (List (List L)) → Int → Int
  kN : List (List (List L)) → Int → Int
  mkN : List (List L) → Int → List (List L)
def F0 : Fns := ⟨szN0, kN0, mkN0⟩
def ct (F : Fns) : CT := fun f ds => match f with
  | 94 => match ds with
    | [.one (.s 1 es), .one (.v (.int .i64 left))] => some (fun _ => Rw [tI] es ∧ 0 ≤ left ∧ left ≤ 1048576, [.one (.v (.int .i64 (F.szN [es] left)))])
    | _ => none
  | 95 => match ds with
    | [.one (.s 1 es)] => some (fun _ => Rw [tI] es ∧ cntE es ≤ 1048576, [.one (.s 1 es)])
    | _ => none
  | 96 => match ds with
    | [.one (.s 1 es), d] => some (fun _ => d = .one (.s 1 es) ∧ Rw [tI] es ∧ cntE es ≤ 1099511627776, [.one (.v (.bool true))])
    | _ => none
  | 85 => match ds with
    | [.one (.s 1 ms), .one (.v (.int .i64 k))] => some (fun _ => ∃ es, ms = mkN0 es k ∧ Rw [tI] es ∧ cntE es ≤ 1099511627776 ∧ 0 ≤ k ∧ kN0 [ms] k ≤ 1152921504606846976, [.one (.v (.int .i64 (F.kN [ms] k)))])
    | _ => none
  | _ => none
theorem ct_ok : CTok Try.prog (ct F0) := by
  intro f ds pre res h hp
  unfold ct at h
  split at h
  · split at h
    · cases h; exact c_laws_szIntS _ _ hp
    · cases h
  · split at h
    · cases h; exact c_laws_toIntS _ hp
    · cases h
  · split at h
    · cases h; exact c_laws_eqIntS _ _ hp
    · cases h
  · split at h
    · cases h; exact c_laws_heldIntS _ _ hp
    · cases h
  · cases h
def mt (F : Fns) : MT := fun f => match f with
  | 84 => some fun ds => match ds with
    | [.one (.s 1 es), .one (.v (.int .i64 k))] => some (fun _ => Rw [tI] es ∧ cntE es ≤ 1099511627776 ∧ 0 ≤ k ∧ kN0 [es] k ≤ 1152921504606846976, [.s 1 (F.mkN es k)], [.one (.v (.int .i64 (F.kN [es] k)))])
    | _ => none
  | _ => none
theorem mt_ok : MTok Try.prog (mt F0) := by
  intro f mk h ds pre outs res hm hp
  unfold mt at h
  split at h
  · cases h; dsimp only at hm; split at hm
    · cases hm; exact c_laws_markIntS _ _ hp
    · cases hm
  · cases h
def B : TB Try.prog := {Φ := Fns, F0 := F0, ct := ct, hc := ct_ok, mt := mt, hm := mt_ok}
end LRefObj
theorem c_laws_szRefObj (a0 : Int) (a1 : List (List L)) (left : Int) (hp : Rw [tI] a1 ∧ 0 ≤ left ∧ left ≤ 1048576) : Ctr Try.prog 81 [.agg [.v (.int .i64 a0), .s 1 a1], .one (.v (.int .i64 left))] [.one (.v (.int .i64 (szN0 [a1] left)))] := by
  obtain ⟨w0, h0, h1⟩ := hp
  refine ctr_b LRefObj.B tabOk mixed 12 _ [3] [.tmp 4] Try.func81 rfl rfl rfl rfl rfl ?_
  intro O r (F : LRefObj.Fns) hO hr (hF : F = LRefObj.F0)
  cbv
  repeat' first | refine And.intro ?_ ?_ | (refine caseB_intro (fun hb => ?_) (fun hb => ?_) <;> cbv)
  all_goals ((try subst hos); subst hO hr hF; (try simp only [stdO, SS, sub_all, ad_zero] at *); (try simp only [ncast] at *); (try simp only [onc] at *))
  all_goals (try simp only [LRefObj.F0] at *)
  all_goals (try simp (disch := assumption) only [szN_app, List.cons_append, List.nil_append] at *)
  all_goals first
    | trivial
    | exact rfl
    | (refine ⟨by assumption, by omega, by first | omega | exact Int.le_trans (szN_le (by assumption)) h1⟩)
    | (refine ⟨by assumption, by assumption, by omega, by first | omega | exact Int.le_trans (szN_le (by assumption)) h1⟩)
    | (refine ⟨by assumption, by assumption, by assumption, by omega, by first | omega | exact Int.le_trans (szN_le (by assumption)) h1⟩)
    | (refine ⟨by assumption, by assumption, by assumption, by assumption, by omega, by first | omega | exact Int.le_trans (szN_le (by assumption)) h1⟩)
    | (rw [szN_neg1 (by assumption)])
    | trace_state
theorem c_laws_toRefObj (a0 : Int) (a1 : List (List L)) (hp : Rw [tI] a1 ∧ cntRs [a1] ≤ 1048576) : Ctr Try.prog 82 [.agg [.v (.int .i64 a0), .s 1 a1]] [.agg [.v (.int .i64 a0), .s 1 a1]] := by
  obtain ⟨w0, hlim⟩ := hp
  simp only [cntRs, Nat.add_zero] at hlim
  refine ctr_b LRefObj.B tabOk mixed 12 _ [43] [.cell 2 43] Try.func82 rfl rfl rfl rfl rfl ?_
  intro O r (F : LRefObj.Fns) hO hr (hF : F = LRefObj.F0)
  cbv
  repeat' first | refine And.intro ?_ ?_ | (refine caseB_intro (fun hb => ?_) (fun hb => ?_) <;> cbv)
  all_goals ((try subst hos); subst hO hr hF; (try simp only [stdO, SS, sub_all, ad_zero] at *); (try simp only [ncast] at *); (try simp only [onc] at *))
  all_goals (try simp only [LRefObj.F0] at *)
  all_goals first
    | trivial
    | exact rfl
    | exact ⟨trivial, trivial⟩
    | exact ⟨rfl, rfl⟩
    | (refine ⟨by assumption, ?_⟩; (try simp only [cntRs, Nat.add_zero]); omega)
    | (refine ⟨by assumption, by assumption, ?_⟩; (try simp only [cntRs, Nat.add_zero]); omega)
    | (refine ⟨by assumption, by assumption, by assumption, ?_⟩; (try simp only [cntRs, Nat.add_zero]); omega)
    | (refine ⟨by assumption, by assumption, by assumption, by assumption, ?_⟩; (try simp only [cntRs, Nat.add_zero]); omega)
    | ((try simp only [cntRs, Nat.add_zero]); omega)
    | trace_state
theorem c_laws_eqRefObj (a0 : Int) (a1 : List (List L)) (d : DV) (hp : d = .agg [.v (.int .i64 a0), .s 1 a1] ∧ Rw [tI] a1 ∧ cntRs [a1] ≤ 1099511627776) : Ctr Try.prog 83 [.agg [.v (.int .i64 a0), .s 1 a1], d] [.one (.v (.bool true))] := by
  obtain ⟨rfl, w0, hlim⟩ := hp
  simp only [cntRs, Nat.add_zero] at hlim
  refine ctr_b LRefObj.B tabOk mixed 16 _ [4] [.tmp 4] Try.func83 rfl rfl rfl rfl rfl ?_
  intro O r (F : LRefObj.Fns) hO hr (hF : F = LRefObj.F0)
  cbv
  repeat' first | refine And.intro ?_ ?_ | (refine caseB_intro (fun hb => ?_) (fun hb => ?_) <;> cbv)
  all_goals ((try subst hos); subst hO hr hF; (try simp only [stdO, SS, sub_all, ad_zero] at *); (try simp only [ncast] at *); (try simp only [onc] at *))
  all_goals (try simp only [LRefObj.F0] at *)
  all_goals first
    | trivial
    | exact rfl
    | exact absurd rfl hb
    | exact absurd rfl (by assumption)
    | (refine ⟨trivial, by assumption, ?_⟩; (try simp only [cntRs, Nat.add_zero]); omega)
    | (refine ⟨trivial, by assumption, by assumption, ?_⟩; (try simp only [cntRs, Nat.add_zero]); omega)
    | (refine ⟨trivial, by assumption, by assumption, by assumption, ?_⟩; (try simp only [cntRs, Nat.add_zero]); omega)
    | (refine ⟨trivial, by assumption, by assumption, by assumption, by assumption, ?_⟩; (try simp only [cntRs, Nat.add_zero]); omega)
    | (refine ⟨trivial, ?_⟩; (try simp only [cntRs, Nat.add_zero]); omega)
    | trace_state
namespace LRefObjS
structure Fns where
  szN : List (List (List L)) → Int → Int
  kN : List (List (List L)) → Int → Int
  mkN : List (List L) → Int → List (List L)
def F0 : Fns := ⟨szN0, kN0, mkN0⟩
def ct (F : Fns) : CT := fun f ds => match f with
  | 81 => match ds with
    | [.agg [.v (.int .i64 a0), .s 1 a1], .one (.v (.int .i64 left))] => some (fun _ => Rw [tI] a1 ∧ 0 ≤ left ∧ left ≤ 1048576, [.one (.v (.int .i64 (F.szN [a1] left)))])
    | _ => none
  | 82 => match ds with
    | [.agg [.v (.int .i64 a0), .s 1 a1]] => some (fun _ => Rw [tI] a1 ∧ cntRs [a1] ≤ 1048576, [.agg [.v (.int .i64 a0), .s 1 a1]])
    | _ => none
  | 83 => match ds with
    | [.agg [.v (.int .i64 a0), .s 1 a1], d] => some (fun _ => d = .agg [.v (.int .i64 a0), .s 1 a1] ∧ Rw [tI] a1 ∧ cntRs [a1] ≤ 1099511627776, [.one (.v (.bool true))])
    | _ => none
  | 85 => match ds with
    | [.one (.s 1 ms), .one (.v (.int .i64 k))] => some (fun _ => ∃ es, ms = mkN0 es k ∧ Rw [tI] es ∧ cntE es ≤ 1099511627776 ∧ 0 ≤ k ∧ kN0 [ms] k ≤ 1152921504606846976, [.one (.v (.int .i64 (F.kN [ms] k)))])
    | _ => none
  | _ => none
theorem ct_ok : CTok Try.prog (ct F0) := by
  intro f ds pre res h hp
  unfold ct at h
  split at h
  · split at h
    · cases h; exact c_laws_szRefObj _ _ _ hp
    · cases h
  · split at h
    · cases h; exact c_laws_toRefObj _ _ hp
    · cases h
  · split at h
    · cases h; exact c_laws_eqRefObj _ _ _ hp
    · cases h
  · split at h
    · cases h; exact c_laws_heldIntS _ _ hp
    · cases h
  · cases h
def mt (F : Fns) : MT := fun f => match f with
  | 84 => some fun ds => match ds with
    | [.one (.s 1 es), .one (.v (.int .i64 k))] => some (fun _ => Rw [tI] es ∧ cntE es ≤ 1099511627776 ∧ 0 ≤ k ∧ kN0 [es] k ≤ 1152921504606846976, [.s 1 (F.mkN es k)], [.one (.v (.int .i64 (F.kN [es] k)))])
    | _ => none
  | _ => none
theorem mt_ok : MTok Try.prog (mt F0) := by
  intro f mk h ds pre outs res hm hp
  unfold mt at h
  split at h
  · cases h; dsimp only at hm; split at hm
    · cases hm; exact c_laws_markIntS _ _ hp
    · cases hm
  · cases h
def B : TB Try.prog := {Φ := Fns, F0 := F0, ct := ct, hc := ct_ok, mt := mt, hm := mt_ok}
end LRefObjS
theorem c_laws_szRefObjS (es : List (List L)) (left : Int) (hp : Rw [tI, .sl [tI]] es ∧ 0 ≤ left ∧ left ≤ 1048576) : Ctr Try.prog 50 [.one (.s 2 es), .one (.v (.int .i64 left))] [.one (.v (.int .i64 (szN0 [es] left)))] := by
  obtain ⟨hw, h0, h1⟩ := hp
  have hwf : Wf [.v (.int .i64 0), .s 1 []] es := hw.wf
  have hm := hw.1; unfold maxLen at hm
  have hs : arI .sub .i64 left es.length = left - es.length := sub64 (by omega)
  have hcE : cntE es = es.length + cntEs es := rfl
  have hn : szN0 [es] left = if left < cntE es then -1 else left - cntE es := by unfold szN0; rw [cntRs_one]
  refine ctr_b LRefObjS.B tabOk mixed 27 _ [3] [.tmp 4] Try.func50 rfl rfl rfl rfl rfl ?_
  intro O r (F : LRefObjS.Fns) hO hr (hF : F = LRefObjS.F0)
  cbv
  refine caseB_intro (fun hb => ?_) (fun hb => ?_) <;> cbv
  · repeat' first | refine And.intro ?_ ?_ | (refine caseB_intro (fun hb => ?_) (fun hb => ?_) <;> cbv)
    all_goals ((try subst hos); subst hO hr hF; (try simp only [stdO, SS, sub_all, ad_zero] at *); (try simp only [ncast] at *); (try simp only [onc] at *))
    all_goals (try simp only [hs, LRefObjS.F0] at *)
    all_goals first | trivial | (rw [hn, if_pos (by omega)]) | trace_state
  have hb0 : 0 ≤ left - es.length := by
    ((try subst hos); subst hO hr hF; (try simp only [stdO, SS, sub_all, ad_zero] at *); (try simp only [ncast] at *); (try simp only [onc] at *))
    rw [hs] at hb
    exact hb
  clear hb
  refine ⟨[0, 1, 5], [], Int × Int, fun s => match s with | (i, l) => [.reg 5 (.one (.v (.int .i64 i))), .reg 1 (.one (.v (.int .i64 l)))], fun s => 0 ≤ s.1 ∧ s.1.toNat ≤ es.length ∧ 0 ≤ s.2 ∧ s.2 = left - es.length - cntEs (es.take s.1.toNat), fun s => es.length - s.1.toNat, ⟨(0, O.ar .sub .i64 left (O.zi (O.ln es))), ?_, ?_⟩, ?_⟩
  · ((try subst hos); subst hO hr hF; (try simp only [stdO, SS, sub_all, ad_zero] at *); (try simp only [ncast] at *); (try simp only [onc] at *))
    rw [hs]
    exact ⟨by omega, Nat.zero_le _, hb0, by simp [cntEs]⟩
  · cbv
  · rintro ⟨i, l⟩ hi
    replace hi : 0 ≤ i ∧ i.toNat ≤ es.length ∧ 0 ≤ l ∧ l = left - es.length - cntEs (es.take i.toNat) := hi
    obtain ⟨g0, g1, g2, g3⟩ := hi
    cbv
    repeat' first | refine And.intro ?_ ?_ | (refine caseB_intro (fun hb => ?_) (fun hb => ?_) <;> cbv) | (refine loop_step (O.ar .add .i64 i 1, F.szN [O.gs es i 1] l) ?_ ?_ ?_; rotate_left 2; focus (cbv; done))
    all_goals ((try subst hos); subst hO hr hF; (try simp only [stdO, SS, sub_all, ad_zero] at *); (try simp only [ncast] at *); (try simp only [onc] at *))
    all_goals try have hlt : i < es.length := by assumption
    all_goals try rw [inc64 (n := es.length) g0 hlt (by omega)]
    all_goals (try simp only [LRefObjS.F0] at *)
    all_goals try have he : es.getD i.toNat [] = [.v (.int .i64 (giI es i 0)), .s 1 (gsI es i 1)] := (etaE_whole hwf g0 hlt).symm
    all_goals try have hr1 : Rw [tI] (gsI es i 1) := Rw.sub (fs := [tI, .sl [tI]]) hw (by omega) rfl
    all_goals try have hct := cntE_at (es := es) (n := i.toNat) (by omega); rw [he] at hct; simp only [cntR, cntL, Nat.add_zero, Nat.zero_add] at hct
    all_goals have hle := cntEs_take_le (es := es) (n := i.toNat)
    all_goals have hle1 := cntEs_take_le (es := es) (n := i.toNat + 1)
    all_goals have hsz := szN_neg (a := [gsI es i 1]) (left := l)
    all_goals have hsz2 : 0 ≤ szN0 [gsI es i 1] l → szN0 [gsI es i 1] l = l - cntRs [gsI es i 1] := szN_pos
    all_goals simp only [cntRs, cntE, Nat.add_zero] at hsz hsz2
    all_goals first
      | exact row_ro hwf g0 hlt
      | exact ⟨hr1, by omega, by omega⟩
      | trivial
      | omega
      | (rw [hn, if_pos]; omega)
      | (rw [hn, if_neg (by rw [show i.toNat = es.length from by omega, List.take_length] at g3; omega), show l = left - cntE es from by rw [show i.toNat = es.length from by omega, List.take_length] at g3; omega])
      | (rw [show (i + 1).toNat = i.toNat + 1 from by omega, hct]; omega)
      | trace_state
theorem c_laws_toRefObjS (es : List (List L)) (hp : Rw [tI, .sl [tI]] es ∧ cntE es ≤ 1048576) : Ctr Try.prog 54 [.one (.s 2 es)] [.one (.s 2 es)] := by
  obtain ⟨hw, hlim⟩ := hp
  have hwf : Wf [.v (.int .i64 0), .s 1 []] es := hw.wf
  have hlen : es.length ≤ 1048576 := Nat.le_trans (Nat.le_add_right _ _) hlim
  refine ctr_b LRefObjS.B tabOk mixed 23 _ [32] [.tmp 2] Try.func54 rfl rfl rfl rfl rfl ?_
  intro O r (F : LRefObjS.Fns) hO hr (hF : F = LRefObjS.F0)
  cbv
  have h0z : fillR es [.v (.int .i64 0), .s 1 []] 0 = O.rep (O.zi (O.ln es)) [.v (.int .i64 0), .s 1 []] := by
    subst hO
    rw [fillR_zero]; rfl
  refine ⟨?_, ?_, [0, 3, 4], [3], Int × List (List L), fun s => [.reg 4 (.one (.v (.int .i64 s.1))), .leaf 3 0 ⟨0, 0, none, .own (.s 2 s.2)⟩], fun s => 0 ≤ s.1 ∧ s.1.toNat ≤ es.length ∧ s.2 = fillR es [.v (.int .i64 0), .s 1 []] s.1.toNat, fun s => es.length - s.1.toNat, ⟨(0, O.rep (O.zi (O.ln es)) [.v (.int .i64 0), .s 1 []]), ?_, ?_⟩, ?_⟩
  · subst hO
    exact mk_ok (b := 32) (show es.length * _ ≤ _ by omega) (show es.length ≤ _ by omega)
  · subst hO
    exact ⟨rfl, rfl⟩
  · exact ⟨by omega, Nat.zero_le _, h0z.symm⟩
  · cbv
  · rintro ⟨i, m⟩ hi
    replace hi : 0 ≤ i ∧ i.toNat ≤ es.length ∧ m = fillR es [.v (.int .i64 0), .s 1 []] i.toNat := hi
    obtain ⟨g0, g1, hm⟩ := hi
    cbv
    repeat' first | refine And.intro ?_ ?_ | (refine caseB_intro (fun hb => ?_) (fun hb => ?_) <;> cbv) | (refine loop_step (O.ar .add .i64 i 1, O.up (.s 2 m) [(O.ad 0 i, 0)] [.v (.int .i64 (O.gi es i 0)), .s 1 (O.gs es i 1)]) ?_ ?_ ?_; rotate_left 2; focus (cbv; done))
    all_goals ((try subst hos); subst hO hr hF; (try simp only [stdO, SS, sub_all, ad_zero] at *); (try simp only [ncast] at *); (try simp only [onc] at *))
    all_goals (try simp only [LRefObjS.F0, repI, List.length_replicate, Int.toNat_natCast] at *)
    all_goals try have hlt : i < es.length := by assumption
    all_goals try rw [inc64 (n := es.length) g0 hlt (by omega)]
    all_goals try have he : es.getD i.toNat [] = [.v (.int .i64 (giI es i 0)), .s 1 (gsI es i 1)] := (etaE_whole hwf g0 hlt).symm
    all_goals try have hr1 : Rw [tI] (gsI es i 1) := Rw.sub (fs := [tI, .sl [tI]]) hw (by omega) rfl
    all_goals try have hct := cntE_at (es := es) (n := i.toNat) (by omega); rw [he] at hct; simp only [cntR, cntL, Nat.add_zero, Nat.zero_add] at hct
    all_goals have hle1 := cntEs_take_le (es := es) (n := i.toNat + 1)
    all_goals have hcE : cntE es = es.length + cntEs es := rfl
    all_goals first
      | exact row_ro hwf g0 hlt
      | exact ⟨g0, hlt⟩
      | (rw [hm]; exact getR_some (by rw [fillR_length g1]; omega) (by rw [fillR_getD (by omega)]; exact Nat.le_refl _))
      | omega
      | (rw [show (i + 1).toNat = i.toNat + 1 from by omega, ← fillR_set (by omega), ← hm, upI_one (by rw [hm, fillR_getD (by omega)]; rfl), he])
      | (rw [hm, fillR_length g1]; exact ⟨trivial, rfl⟩)
      | (rw [hm, show i.toNat = es.length from by omega, fillR_all])
      | trivial
      | exact ⟨trivial, trivial⟩
      | (refine ⟨hr1, ?_⟩; simp only [cntRs, cntE, Nat.add_zero]; omega)
      | trace_state
theorem c_laws_eqRefObjS (es : List (List L)) (d : DV) (hp : d = .one (.s 2 es) ∧ Rw [tI, .sl [tI]] es ∧ cntE es ≤ 1099511627776) : Ctr Try.prog 55 [.one (.s 2 es), d] [.one (.v (.bool true))] := by
  obtain ⟨rfl, hw, hlim⟩ := hp
  have hwf : Wf [.v (.int .i64 0), .s 1 []] es := hw.wf
  have hlen : es.length ≤ 1099511627776 := Nat.le_trans (Nat.le_add_right _ _) hlim
  refine ctr_b LRefObjS.B tabOk mixed 27 _ [4] [.tmp 4] Try.func55 rfl rfl rfl rfl rfl ?_
  intro O r (F : LRefObjS.Fns) hO hr (hF : F = LRefObjS.F0)
  cbv
  refine caseB_intro (fun hb => ?_) (fun hb => ?_) <;> cbv
  · ((try subst hos); subst hO hr hF; (try simp only [stdO, SS, sub_all, ad_zero] at *); (try simp only [ncast] at *); (try simp only [onc] at *)); exact absurd rfl hb
  · clear hb
    refine ⟨[0, 1, 5], [], Int, fun i => [.reg 5 (.one (.v (.int .i64 i)))], fun i => 0 ≤ i ∧ i.toNat ≤ es.length, fun i => es.length - i.toNat, ⟨0, ?_, ?_⟩, ?_⟩
    · exact ⟨by omega, Nat.zero_le _⟩
    · cbv
    · rintro i hi
      replace hi : 0 ≤ i ∧ i.toNat ≤ es.length := hi
      obtain ⟨g0, g1⟩ := hi
      cbv
      repeat' first | refine And.intro ?_ ?_ | (refine caseB_intro (fun hb => ?_) (fun hb => ?_) <;> cbv) | (refine loop_step (O.ar .add .i64 i 1) ?_ ?_ ?_; rotate_left 2; focus (cbv; done))
      all_goals ((try subst hos); subst hO hr hF; (try simp only [stdO, SS, sub_all, ad_zero] at *); (try simp only [ncast] at *); (try simp only [onc] at *))
      all_goals (try simp only [LRefObjS.F0] at *)
      all_goals try have hlt : i < es.length := by assumption
      all_goals try rw [inc64 (n := es.length) g0 hlt (by omega)]
      all_goals try have he : es.getD i.toNat [] = [.v (.int .i64 (giI es i 0)), .s 1 (gsI es i 1)] := (etaE_whole hwf g0 hlt).symm
      all_goals try have hr1 : Rw [tI] (gsI es i 1) := Rw.sub (fs := [tI, .sl [tI]]) hw (by omega) rfl
      all_goals try have hct := cntE_at (es := es) (n := i.toNat) (by omega); rw [he] at hct; simp only [cntR, cntL, Nat.add_zero, Nat.zero_add] at hct
      all_goals have hle1 := cntEs_take_le (es := es) (n := i.toNat + 1)
      all_goals have hcE : cntE es = es.length + cntEs es := rfl
      all_goals first
        | omega
        | exact row_ro hwf g0 hlt
        | exact absurd rfl hb
        | exact absurd rfl (by assumption)
        | trivial
        | kernel_rfl
        | exact ⟨trivial, trivial⟩
        | (refine ⟨trivial, hr1, ?_⟩; simp only [cntRs, cntE, Nat.add_zero]; omega)
        | trace_state
theorem c_laws_markRefObjS (es : List (List L)) (k : Int) (hp : Rw [tI, .sl [tI]] es ∧ cntE es ≤ 1099511627776 ∧ 0 ≤ k ∧ kN0 [es] k ≤ 1152921504606846976) : MCtr Try.prog 56 [.one (.s 2 es), .one (.v (.int .i64 k))] [.s 2 (mkN0 es k)] [.one (.v (.int .i64 (kN0 [es] k)))] := by
  obtain ⟨hw, hlim, hk0, hkb⟩ := hp
  have hwf : Wf [.v (.int .i64 0), .s 1 []] es := hw.wf
  have hlen : es.length ≤ 1099511627776 := Nat.le_trans (Nat.le_add_right _ _) hlim
  refine mctr_b LRefObjS.B tabOk mixed 27 _ [3] [.tmp 4] [(0, 0)] Try.func56 rfl rfl rfl rfl rfl rfl rfl ?_
  intro O r os (F : LRefObjS.Fns) hO hr hos (hF : F = LRefObjS.F0)
  cbv
  refine ⟨[0, 1, 5], [0], Int × Int × List (List L), fun s => match s with | (i, k', cur) => [.reg 5 (.one (.v (.int .i64 i))), .reg 1 (.one (.v (.int .i64 k'))), .leaf 0 0 ⟨0, 0, some 0, .own (.s 2 cur)⟩], fun s => 0 ≤ s.1 ∧ s.1.toNat ≤ es.length ∧ s.2.1 = kTo es k s.1.toNat ∧ s.2.2 = mkTo es k s.1.toNat, fun s => es.length - s.1.toNat, ⟨(0, k, es), ?_, ?_⟩, ?_⟩
  · exact ⟨by omega, Nat.zero_le _, kTo_zero.symm, mkTo_zero.symm⟩
  · cbv
  · rintro ⟨i, k', cur⟩ hi
    replace hi : 0 ≤ i ∧ i.toNat ≤ es.length ∧ k' = kTo es k i.toNat ∧ cur = mkTo es k i.toNat := hi
    obtain ⟨g0, g1, hk', hc⟩ := hi
    cbv
    repeat' first | refine And.intro ?_ ?_ | (refine caseB_intro (fun hb => ?_) (fun hb => ?_) <;> cbv) | (refine loop_step (O.ar .add .i64 i 1, F.kN [O.ps (.s 2 (O.up (.s 2 (cur)) [(O.ad 0 i, 0)] [.v (.int .i64 (k'))])) [(O.ad 0 i, 1)]] (O.ar .add .i64 (k') 1), O.up (.s 2 (O.up (.s 2 (cur)) [(O.ad 0 i, 0)] [.v (.int .i64 (k'))])) [(O.ad 0 i, 1)] [.s 1 (F.mkN (O.ps (.s 2 (O.up (.s 2 (cur)) [(O.ad 0 i, 0)] [.v (.int .i64 (k'))])) [(O.ad 0 i, 1)]) (O.ar .add .i64 (k') 1))]) ?_ ?_ ?_; rotate_left 2; focus (cbv; done))
    all_goals ((try subst hos); subst hO hr hF; (try simp only [stdO, SS, sub_all, ad_zero] at *); (try simp only [ncast] at *); (try simp only [onc] at *))
    all_goals (try simp only [LRefObjS.F0] at *)
    all_goals try have hlt : i < es.length := by assumption
    all_goals try rw [inc64 (n := es.length) g0 hlt (by omega)]
    all_goals try have hlt' : i.toNat < es.length := by omega
    all_goals try have he : es.getD i.toNat [] = [.v (.int .i64 (giI es i 0)), .s 1 (gsI es i 1)] := (etaE_whole hwf g0 hlt).symm
    all_goals try have hr1 : Rw [tI] (gsI es i 1) := Rw.sub (fs := [tI, .sl [tI]]) hw (by omega) rfl
    all_goals try have hct := cntE_at (es := es) (n := i.toNat) (by omega); rw [he] at hct; simp only [cntR, cntL, Nat.add_zero, Nat.zero_add] at hct
    all_goals try have hks := kTo_succ (es := es) (k := k) hlt'; rw [he] at hks; simp only [msR, msL] at hks
    all_goals try have hms := mkTo_set (es := es) (k := k) hlt'; rw [he] at hms; simp only [msR, msL] at hms
    all_goals have hle1 := cntEs_take_le (es := es) (n := i.toNat + 1)
    all_goals have hcE : cntE es = es.length + cntEs es := rfl
    all_goals have hk1 := kTo_k (es := es) (k := k) (n := i.toNat)
    all_goals have hk2 := kTo_k (es := es) (k := k) (n := i.toNat + 1)
    all_goals have hk3 := kTo_all (es := es) (k := k)
    all_goals have hk4 := kTo_k (es := es) (k := k) (n := es.length)
    all_goals have hk5 := kTo_le (es := es) (m := 0) (n := i.toNat) g1 (Nat.zero_le _)
    all_goals have hk6 := kTo_le (es := es) (m := i.toNat) (n := es.length) (Nat.le_refl _) g1
    all_goals try have hk7 := kTo_le (es := es) (m := i.toNat + 1) (n := es.length) (Nat.le_refl _) hlt'
    all_goals rw [kTo_zero] at hk5
    all_goals try have hk8 := kTo_mono (es := es) (n := i.toNat) hlt'
    all_goals try have hcl : i.toNat < cur.length := by rw [hc, mkTo_length g1]; exact hlt'
    all_goals try have hcg : cur.getD i.toNat [] = [.v (.int .i64 (giI es i 0)), .s 1 (gsI es i 1)] := by rw [hc, mkTo_getD g1]; exact he
    all_goals have ha1 : arI .add .i64 k' 1 = k' + 1 := add64 (by omega)
    all_goals have ha2 : arI .add .i64 (k' + 1) 1 = k' + 1 + 1 := add64 (by omega)
    all_goals have ha3 : arI .add .i64 (k' + 1 + 1) 1 = k' + 1 + 1 + 1 := add64 (by omega)
    all_goals have ha4 : arI .add .i64 (k' + 1 + 1 + 1) 1 = k' + 1 + 1 + 1 + 1 := add64 (by omega)
    all_goals try simp only [ha1, ha2, ha3, ha4]
    all_goals try simp only [ad_zero]
    all_goals try simp only [upI_cell, hcg, List.take, List.drop, List.length_cons, List.length_nil, List.nil_append, List.cons_append, List.append_nil, Nat.zero_add, Nat.reduceAdd, getD_set_same hcl, List.set_set, List.append_assoc]
    all_goals try simp only [psI_one, hcg, getD_set_same hcl, List.getD_cons_zero, List.getD_cons_succ, lfS]
    all_goals try simp only [getR_at hcl, getR_set hcl, getS_at hcl, getS_set hcl, hcg, List.getElem?_cons_zero, List.getElem?_cons_succ]
    all_goals first
      | exact ⟨g0, hlt⟩
      | (refine ⟨_, _, rfl, ?_⟩; simp; done)
      | (refine ⟨_, _, rfl, ?_, rfl⟩; simp; done)
      | (refine ⟨_, _, rfl, by simp, ?_⟩; show List.take _ (List.drop _ _) = [L.s _ (psI _ _)]; simp only [adv, psI_one, hcg, getD_set_same hcl, List.getD_cons_zero, List.getD_cons_succ, Nat.add_zero, lfS]; rfl)
      | exact ⟨trivial, _, rfl, rfl⟩
      | exact ⟨_, rfl⟩
      | omega
      | (rw [hk', show i.toNat = es.length from by omega, hk3]; done)
      | (rw [hc, show i.toNat = es.length from by omega, mkTo_all]; rfl)
      | (rw [show (i + 1).toNat = i.toNat + 1 from by omega, hks, hk']; done)
      | (rw [show (i + 1).toNat = i.toNat + 1 from by omega, hks, hk']; rfl)
      | (rw [show (i + 1).toNat = i.toNat + 1 from by omega, ← hms, hc, hk']; done)
      | (rw [show (i + 1).toNat = i.toNat + 1 from by omega, ← hms, hc, hk']; rfl)
      | (refine ⟨hr1, ?_, ?_, ?_⟩ <;> (try simp only [cntE, kN0]) <;> first | omega | (rw [hk']; omega))
      | trivial
      | trace_state
theorem c_laws_heldRefObjS (ms : List (List L)) (k : Int) (hp : ∃ es, ms = mkN0 es k ∧ Rw [tI, .sl [tI]] es ∧ cntE es ≤ 1099511627776 ∧ 0 ≤ k ∧ kN0 [ms] k ≤ 1152921504606846976) : Ctr Try.prog 57 [.one (.s 2 ms), .one (.v (.int .i64 k))] [.one (.v (.int .i64 (kN0 [ms] k)))] := by
  obtain ⟨es, hms, hw, hlim, hk0, hkb⟩ := hp
  have hlen : es.length ≤ 1099511627776 := Nat.le_trans (Nat.le_add_right _ _) hlim
  have hml : ms.length = es.length := by rw [hms]; exact mkN_length
  have hkk : kN0 [ms] k = kN0 [es] k := by rw [hms]; exact kN_mk
  have hwm : Wf [.v (.int .i64 0), .s 1 []] ms := by rw [hms]; exact conf_mk_wf hw
  have hwf : Wf [.v (.int .i64 0), .s 1 []] es := hw.wf
  have hat : ∀ n, n < es.length → ms.getD n [] = (msR (es.getD n []) (kTo es k n)).1 := fun n hn => by rw [hms]; exact mkN_at hn
  refine ctr_b LRefObjS.B tabOk mixed 31 _ [3] [.tmp 4] Try.func57 rfl rfl rfl rfl rfl ?_
  intro O r (F : LRefObjS.Fns) hO hr (hF : F = LRefObjS.F0)
  cbv
  refine ⟨[0, 1, 5], [], Int × Int, fun s => match s with | (i, k') => [.reg 5 (.one (.v (.int .i64 i))), .reg 1 (.one (.v (.int .i64 k')))], fun s => 0 ≤ s.1 ∧ s.1.toNat ≤ es.length ∧ s.2 = kTo es k s.1.toNat, fun s => es.length - s.1.toNat, ⟨(0, k), ?_, ?_⟩, ?_⟩
  · exact ⟨by omega, Nat.zero_le _, kTo_zero.symm⟩
  · cbv
  · rintro ⟨i, k'⟩ hi
    replace hi : 0 ≤ i ∧ i.toNat ≤ es.length ∧ k' = kTo es k i.toNat := hi
    obtain ⟨g0, g1, hk'⟩ := hi
    cbv
    repeat' first | refine And.intro ?_ ?_ | (refine caseB_intro (fun hb => ?_) (fun hb => ?_) <;> cbv) | (refine loop_step (O.ar .add .i64 i 1, F.kN [O.gs ms i 1] (O.ar .add .i64 (k') 1)) ?_ ?_ ?_; rotate_left 2; focus (cbv; done))
    all_goals ((try subst hos); subst hO hr hF; (try simp only [stdO, SS, sub_all, ad_zero] at *); (try simp only [ncast] at *); (try simp only [onc] at *))
    all_goals (try simp only [LRefObjS.F0] at *)
    all_goals try have hltm : i < ms.length := by assumption
    all_goals try have hlt : i < es.length := by omega
    all_goals try rw [inc64 (n := es.length) g0 hlt (by omega)]
    all_goals try have hlt' : i.toNat < es.length := by omega
    all_goals try have he : es.getD i.toNat [] = [.v (.int .i64 (giI es i 0)), .s 1 (gsI es i 1)] := (etaE_whole hwf g0 hlt).symm
    all_goals try have hr1 : Rw [tI] (gsI es i 1) := Rw.sub (fs := [tI, .sl [tI]]) hw (by omega) rfl
    all_goals try have hct := cntE_at (es := es) (n := i.toNat) (by omega); rw [he] at hct; simp only [cntR, cntL, Nat.add_zero, Nat.zero_add] at hct
    all_goals try have hks := kTo_succ (es := es) (k := k) hlt'; rw [he] at hks; simp only [msR, msL] at hks
    all_goals try have hem : ([.v (.int .i64 (giI ms i 0)), .s 1 (gsI ms i 1)] : (List L)) = _ := (etaE_whole hwm g0 hltm).trans (hat i.toNat hlt'); rw [he] at hem; simp only [msR, msL, List.cons.injEq, L.v.injEq, Value.int.injEq, Value.bool.injEq, L.s.injEq, true_and, and_true] at hem
    all_goals have hle1 := cntEs_take_le (es := es) (n := i.toNat + 1)
    all_goals have hcE : cntE es = es.length + cntEs es := rfl
    all_goals have hk1 := kTo_k (es := es) (k := k) (n := i.toNat)
    all_goals have hk2 := kTo_k (es := es) (k := k) (n := i.toNat + 1)
    all_goals have hk3 := kTo_all (es := es) (k := k)
    all_goals have hk4 := kTo_k (es := es) (k := k) (n := es.length)
    all_goals have hk5 := kTo_le (es := es) (m := 0) (n := i.toNat) g1 (Nat.zero_le _)
    all_goals have hk6 := kTo_le (es := es) (m := i.toNat) (n := es.length) (Nat.le_refl _) g1
    all_goals try have hk7 := kTo_le (es := es) (m := i.toNat + 1) (n := es.length) (Nat.le_refl _) hlt'
    all_goals rw [kTo_zero] at hk5
    all_goals try have hk8 := kTo_mono (es := es) (n := i.toNat) hlt'
    all_goals try rw [← hk'] at hem hks
    all_goals have ha1 : arI .add .i64 k' 1 = k' + 1 := add64 (by omega)
    all_goals have ha2 : arI .add .i64 (k' + 1) 1 = k' + 1 + 1 := add64 (by omega)
    all_goals have ha3 : arI .add .i64 (k' + 1 + 1) 1 = k' + 1 + 1 + 1 := add64 (by omega)
    all_goals have ha4 : arI .add .i64 (k' + 1 + 1 + 1) 1 = k' + 1 + 1 + 1 + 1 := add64 (by omega)
    all_goals try simp only [ha1, ha2, ha3, ha4] at *
    all_goals first
      | exact row_ro hwm g0 hltm
      | omega
      | (exfalso; revert hb; simp only [hem, cmpI, arI]; simp; done)
      | (rw [hk', show i.toNat = es.length from by omega, hk3, hkk]; done)
      | (rw [show (i + 1).toNat = i.toNat + 1 from by omega, hks]; done)
      | (rw [show (i + 1).toNat = i.toNat + 1 from by omega, hks, hem]; simp only [kN0, msEs_mk]; done)
      | (rw [show (i + 1).toNat = i.toNat + 1 from by omega, hks, hem.2]; simp only [kN0, msEs_mk]; done)
      | (refine ⟨_, by first | exact hem | exact hem.2 | exact hem.1 | rfl, hr1, ?_, ?_, ?_⟩ <;> (try simp only [kN0, msEs_mk, cntE]) <;> omega)
      | (refine ⟨_, by first | exact hem | exact hem.2 | exact hem.1 | rfl, hr1, ?_, ?_, ?_⟩ <;> (try rw [hem]) <;> (try rw [hem.2]) <;> (try simp only [kN0, msEs_mk, cntE]) <;> omega)
      | (exfalso; simp only [kN0, msEs_mk] at hb; omega)
      | (exfalso; (first | rw [hem] at hb | rw [hem.2] at hb); simp only [kN0, msEs_mk] at hb; omega)
      | trivial
      | trace_state
namespace LRefHeap
structure Fns where
  szN : List (List (List L)) → Int → Int
  kN : List (List (List L)) → Int → Int
  mkN : List (List L) → Int → List (List L)
def F0 : Fns := ⟨szN0, kN0, mkN0⟩
def ct (F : Fns) : CT := fun f ds => match f with
  | 50 => match ds with
    | [.one (.s 2 es), .one (.v (.int .i64 left))] => some (fun _ => Rw [tI, .sl [tI]] es ∧ 0 ≤ left ∧ left ≤ 1048576, [.one (.v (.int .i64 (F.szN [es] left)))])
    | _ => none
  | 54 => match ds with
    | [.one (.s 2 es)] => some (fun _ => Rw [tI, .sl [tI]] es ∧ cntE es ≤ 1048576, [.one (.s 2 es)])
    | _ => none
  | 55 => match ds with
    | [.one (.s 2 es), d] => some (fun _ => d = .one (.s 2 es) ∧ Rw [tI, .sl [tI]] es ∧ cntE es ≤ 1099511627776, [.one (.v (.bool true))])
    | _ => none
  | 57 => match ds with
    | [.one (.s 2 ms), .one (.v (.int .i64 k))] => some (fun _ => ∃ es, ms = mkN0 es k ∧ Rw [tI, .sl [tI]] es ∧ cntE es ≤ 1099511627776 ∧ 0 ≤ k ∧ kN0 [ms] k ≤ 1152921504606846976, [.one (.v (.int .i64 (F.kN [ms] k)))])
    | _ => none
  | _ => none
theorem ct_ok : CTok Try.prog (ct F0) := by
  intro f ds pre res h hp
  unfold ct at h
  split at h
  · split at h
    · cases h; exact c_laws_szRefObjS _ _ hp
    · cases h
  · split at h
    · cases h; exact c_laws_toRefObjS _ hp
    · cases h
  · split at h
    · cases h; exact c_laws_eqRefObjS _ _ hp
    · cases h
  · split at h
    · cases h; exact c_laws_heldRefObjS _ _ hp
    · cases h
  · cases h
def mt (F : Fns) : MT := fun f => match f with
  | 56 => some fun ds => match ds with
    | [.one (.s 2 es), .one (.v (.int .i64 k))] => some (fun _ => Rw [tI, .sl [tI]] es ∧ cntE es ≤ 1099511627776 ∧ 0 ≤ k ∧ kN0 [es] k ≤ 1152921504606846976, [.s 2 (F.mkN es k)], [.one (.v (.int .i64 (F.kN [es] k)))])
    | _ => none
  | _ => none
theorem mt_ok : MTok Try.prog (mt F0) := by
  intro f mk h ds pre outs res hm hp
  unfold mt at h
  split at h
  · cases h; dsimp only at hm; split at hm
    · cases hm; exact c_laws_markRefObjS _ _ hp
    · cases hm
  · cases h
def B : TB Try.prog := {Φ := Fns, F0 := F0, ct := ct, hc := ct_ok, mt := mt, hm := mt_ok}
end LRefHeap
theorem c_laws_szRefHeap (a0 : Int) (a1 : List (List L)) (left : Int) (hp : Rw [tI, .sl [tI]] a1 ∧ 0 ≤ left ∧ left ≤ 1048576) : Ctr Try.prog 23 [.agg [.v (.int .i64 a0), .s 2 a1], .one (.v (.int .i64 left))] [.one (.v (.int .i64 (szN0 [a1] left)))] := by
  obtain ⟨w0, h0, h1⟩ := hp
  refine ctr_b LRefHeap.B tabOk mixed 12 _ [3] [.tmp 4] Try.func23 rfl rfl rfl rfl rfl ?_
  intro O r (F : LRefHeap.Fns) hO hr (hF : F = LRefHeap.F0)
  cbv
  repeat' first | refine And.intro ?_ ?_ | (refine caseB_intro (fun hb => ?_) (fun hb => ?_) <;> cbv)
  all_goals ((try subst hos); subst hO hr hF; (try simp only [stdO, SS, sub_all, ad_zero] at *); (try simp only [ncast] at *); (try simp only [onc] at *))
  all_goals (try simp only [LRefHeap.F0] at *)
  all_goals (try simp (disch := assumption) only [szN_app, List.cons_append, List.nil_append] at *)
  all_goals first
    | trivial
    | exact rfl
    | (refine ⟨by assumption, by omega, by first | omega | exact Int.le_trans (szN_le (by assumption)) h1⟩)
    | (refine ⟨by assumption, by assumption, by omega, by first | omega | exact Int.le_trans (szN_le (by assumption)) h1⟩)
    | (refine ⟨by assumption, by assumption, by assumption, by omega, by first | omega | exact Int.le_trans (szN_le (by assumption)) h1⟩)
    | (refine ⟨by assumption, by assumption, by assumption, by assumption, by omega, by first | omega | exact Int.le_trans (szN_le (by assumption)) h1⟩)
    | (rw [szN_neg1 (by assumption)])
    | trace_state
theorem c_laws_toRefHeap (a0 : Int) (a1 : List (List L)) (hp : Rw [tI, .sl [tI]] a1 ∧ cntRs [a1] ≤ 1048576) : Ctr Try.prog 25 [.agg [.v (.int .i64 a0), .s 2 a1]] [.agg [.v (.int .i64 a0), .s 2 a1]] := by
  obtain ⟨w0, hlim⟩ := hp
  simp only [cntRs, Nat.add_zero] at hlim
  refine ctr_b LRefHeap.B tabOk mixed 12 _ [34] [.cell 2 34] Try.func25 rfl rfl rfl rfl rfl ?_
  intro O r (F : LRefHeap.Fns) hO hr (hF : F = LRefHeap.F0)
  cbv
  repeat' first | refine And.intro ?_ ?_ | (refine caseB_intro (fun hb => ?_) (fun hb => ?_) <;> cbv)
  all_goals ((try subst hos); subst hO hr hF; (try simp only [stdO, SS, sub_all, ad_zero] at *); (try simp only [ncast] at *); (try simp only [onc] at *))
  all_goals (try simp only [LRefHeap.F0] at *)
  all_goals first
    | trivial
    | exact rfl
    | exact ⟨trivial, trivial⟩
    | exact ⟨rfl, rfl⟩
    | (refine ⟨by assumption, ?_⟩; (try simp only [cntRs, Nat.add_zero]); omega)
    | (refine ⟨by assumption, by assumption, ?_⟩; (try simp only [cntRs, Nat.add_zero]); omega)
    | (refine ⟨by assumption, by assumption, by assumption, ?_⟩; (try simp only [cntRs, Nat.add_zero]); omega)
    | (refine ⟨by assumption, by assumption, by assumption, by assumption, ?_⟩; (try simp only [cntRs, Nat.add_zero]); omega)
    | ((try simp only [cntRs, Nat.add_zero]); omega)
    | trace_state
theorem c_laws_eqRefHeap (a0 : Int) (a1 : List (List L)) (d : DV) (hp : d = .agg [.v (.int .i64 a0), .s 2 a1] ∧ Rw [tI, .sl [tI]] a1 ∧ cntRs [a1] ≤ 1099511627776) : Ctr Try.prog 26 [.agg [.v (.int .i64 a0), .s 2 a1], d] [.one (.v (.bool true))] := by
  obtain ⟨rfl, w0, hlim⟩ := hp
  simp only [cntRs, Nat.add_zero] at hlim
  refine ctr_b LRefHeap.B tabOk mixed 16 _ [4] [.tmp 4] Try.func26 rfl rfl rfl rfl rfl ?_
  intro O r (F : LRefHeap.Fns) hO hr (hF : F = LRefHeap.F0)
  cbv
  repeat' first | refine And.intro ?_ ?_ | (refine caseB_intro (fun hb => ?_) (fun hb => ?_) <;> cbv)
  all_goals ((try subst hos); subst hO hr hF; (try simp only [stdO, SS, sub_all, ad_zero] at *); (try simp only [ncast] at *); (try simp only [onc] at *))
  all_goals (try simp only [LRefHeap.F0] at *)
  all_goals first
    | trivial
    | exact rfl
    | exact absurd rfl hb
    | exact absurd rfl (by assumption)
    | (refine ⟨trivial, by assumption, ?_⟩; (try simp only [cntRs, Nat.add_zero]); omega)
    | (refine ⟨trivial, by assumption, by assumption, ?_⟩; (try simp only [cntRs, Nat.add_zero]); omega)
    | (refine ⟨trivial, by assumption, by assumption, by assumption, ?_⟩; (try simp only [cntRs, Nat.add_zero]); omega)
    | (refine ⟨trivial, by assumption, by assumption, by assumption, by assumption, ?_⟩; (try simp only [cntRs, Nat.add_zero]); omega)
    | (refine ⟨trivial, ?_⟩; (try simp only [cntRs, Nat.add_zero]); omega)
    | trace_state
theorem c_laws_markRefHeap (a0 : Int) (a1 : List (List L)) (k : Int) (hp : Rw [tI, .sl [tI]] a1 ∧ cntRs [a1] ≤ 1099511627776 ∧ 0 ≤ k ∧ kN0 [a1] k ≤ 1152921504606846976) : MCtr Try.prog 27 [.agg [.v (.int .i64 a0), .s 2 a1], .one (.v (.int .i64 k))] [.s 2 (mkN0 a1 k)] [.one (.v (.int .i64 (kN0 [a1] k)))] := by
  obtain ⟨w0, hlim, hk0, hkb⟩ := hp
  simp only [cntRs, Nat.add_zero] at hlim
  have p0 : kN0 [a1] k ≤ kN0 [a1] k ∧ 0 ≤ kN0 [a1] k := kN_pre (b := []) hk0
  refine mctr_b LRefHeap.B tabOk mixed 10 _ [3] [.tmp 4] [(2, 1)] Try.func27 rfl rfl rfl rfl rfl rfl rfl ?_
  intro O r os (F : LRefHeap.Fns) hO hr hos (hF : F = LRefHeap.F0)
  cbv
  repeat' first | refine And.intro ?_ ?_ | (refine caseB_intro (fun hb => ?_) (fun hb => ?_) <;> cbv)
  all_goals ((try subst hos); subst hO hr hF; (try simp only [stdO, SS, sub_all, ad_zero] at *); (try simp only [ncast] at *); (try simp only [onc] at *))
  all_goals (try simp only [LRefHeap.F0] at *)
  all_goals (try simp only [kN_app, List.cons_append, List.nil_append, mkN_length] at *)
  all_goals first
    | trivial
    | exact rfl
    | exact ⟨trivial, trivial⟩
    | exact ⟨rfl, rfl⟩
    | (refine ⟨by assumption, ?_, ?_, ?_⟩ <;> (try simp only [kN_app, List.cons_append, List.nil_append, cntRs, Nat.add_zero]) <;> omega)
    | (refine ⟨by assumption, by assumption, ?_, ?_, ?_⟩ <;> (try simp only [kN_app, List.cons_append, List.nil_append, cntRs, Nat.add_zero]) <;> omega)
    | (refine ⟨by assumption, by assumption, by assumption, ?_, ?_, ?_⟩ <;> (try simp only [kN_app, List.cons_append, List.nil_append, cntRs, Nat.add_zero]) <;> omega)
    | (refine ⟨by assumption, by assumption, by assumption, by assumption, ?_, ?_, ?_⟩ <;> (try simp only [kN_app, List.cons_append, List.nil_append, cntRs, Nat.add_zero]) <;> omega)
    | trace_state
theorem c_laws_heldRefHeap (m0 : Int) (m1 : List (List L)) (k : Int) (hp : (∃ a1, m1 = mkN0 a1 k ∧ Rw [tI, .sl [tI]] a1 ∧ cntE a1 ≤ 1099511627776) ∧ 0 ≤ k ∧ kN0 [m1] k ≤ 1152921504606846976) : Ctr Try.prog 28 [.agg [.v (.int .i64 m0), .s 2 m1], .one (.v (.int .i64 k))] [.one (.v (.int .i64 (kN0 [m1] k)))] := by
  obtain ⟨e0, hk0, hkb⟩ := hp
  have p0 : kN0 [m1] k ≤ kN0 [m1] k ∧ 0 ≤ kN0 [m1] k := kN_pre (b := []) hk0
  refine ctr_b LRefHeap.B tabOk mixed 12 _ [3] [.tmp 4] Try.func28 rfl rfl rfl rfl rfl ?_
  intro O r (F : LRefHeap.Fns) hO hr (hF : F = LRefHeap.F0)
  cbv
  repeat' first | refine And.intro ?_ ?_ | (refine caseB_intro (fun hb => ?_) (fun hb => ?_) <;> cbv)
  all_goals ((try subst hos); subst hO hr hF; (try simp only [stdO, SS, sub_all, ad_zero] at *); (try simp only [ncast] at *); (try simp only [onc] at *))
  all_goals (try simp only [LRefHeap.F0] at *)
  all_goals (try simp only [kN_app, List.cons_append, List.nil_append] at *)
  all_goals first
    | trivial
    | (exfalso; omega)
    | (obtain ⟨x, y1, y2, y3⟩ := e0; exact ⟨x, y1, y2, y3, by omega, by omega⟩)
    | (refine ⟨by assumption, by omega, by omega⟩)
    | (refine ⟨by assumption, by assumption, by omega, by omega⟩)
    | (refine ⟨by assumption, by assumption, by assumption, by omega, by omega⟩)
    | (refine ⟨by assumption, by assumption, by assumption, by assumption, by omega, by omega⟩)
    | trace_state

end Go.V
