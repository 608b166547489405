/-
  Contracts of functions, by evaluation of conditions on their code.
-/
import Derived.Test.YtbdgkoalfnehoaaGreatS6
import Derived.Test.YtbdgkoalfnehoaaGreatLawHDg
import Derived.Test.YtbdgkoalfnehoaaGreatVD

set_option linter.all false
namespace Go.V
open Go Go.Proofs
set_option maxRecDepth 1000000
set_option maxHeartbeats 8000000
namespace LRefObj
structure Fns where
  szN : List (List (List L)) → Int → Int
  kN : List (List (List L)) → Int → Int
  mkN : List (List L) → Int → List (List L)
def F0 : Fns := ⟨szN0, kN0, mkN0⟩
def ct (F : Fns) : CT := fun f ds => match f with
  | 93 => match ds with
    | [.one (.s 1 es), .one (.v (.int .i64 left))] => some (fun _ => Rw [tI] es ∧ 0 ≤ left ∧ left ≤ 1048576, [.one (.v (.int .i64 (F.szN [es] left)))])
    | _ => none
  | 17 => match ds with
    | [.one (.s 1 es)] => some (fun _ => Rw [tI] es ∧ cntE es ≤ 1048576, [.one (.s 1 es)])
    | _ => none
  | 11 => match ds with
    | [.one (.s 1 es), d] => some (fun _ => d = .one (.s 1 es) ∧ Rw [tI] es ∧ cntE es ≤ 1099511627776, [.one (.v (.bool true))])
    | _ => none
  | 15 => match ds with
    | [.one (.s 1 ms), .one (.v (.int .i64 k))] => some (fun _ => ∃ es, ms = mkN0 es k ∧ Rw [tI] es ∧ cntE es ≤ 1099511627776 ∧ 0 ≤ k ∧ kN0 [ms] k ≤ 1152921504606846976, [.one (.v (.int .i64 (F.kN [ms] k)))])
    | _ => none
  | _ => none
theorem ct_ok : CTok Tryz.prog (ct F0) := by
  intro f ds pre res h hp
  unfold ct at h
  split at h
  · split at h
    · cases h; exact c_laws_szIntS _ _ hp
    · cases h
  · split at h
    · cases h; exact c_laws_toIntS _ hp
    · cases h
  · split at h
    · cases h; exact c_laws_eqIntS _ _ hp
    · cases h
  · split at h
    · cases h; exact c_laws_heldIntS _ _ hp
    · cases h
  · cases h
def mt (F : Fns) : MT := fun f => match f with
  | 14 => some fun ds => match ds with
    | [.one (.s 1 es), .one (.v (.int .i64 k))] => some (fun _ => Rw [tI] es ∧ cntE es ≤ 1099511627776 ∧ 0 ≤ k ∧ kN0 [es] k ≤ 1152921504606846976, [.s 1 (F.mkN es k)], [.one (.v (.int .i64 (F.kN [es] k)))])
    | _ => none
  | _ => none
theorem mt_ok : MTok Tryz.prog (mt F0) := by
  intro f mk h ds pre outs res hm hp
  unfold mt at h
  split at h
  · cases h; dsimp only at hm; split at hm
    · cases hm; exact c_laws_markIntS _ _ hp
    · cases hm
  · cases h
def pt : Fns → PT := noPT
theorem pt_ok : PTok Tryz.prog (pt F0) := noPT_ok
end LRefObj
theorem c_laws_eqRefObj (a0 : Int) (a1 : List (List L)) (d : DV) (hp : d = .agg [.v (.int .i64 a0), .s 1 a1] ∧ Rw [tI] a1 ∧ cntRs [a1] ≤ 1099511627776) : Ctr Tryz.prog 169 [.agg [.v (.int .i64 a0), .s 1 a1], d] [.one (.v (.bool true))] := by
  obtain ⟨rfl, w0, hlim⟩ := hp
  simp only [cntRs, Nat.add_zero] at hlim
  refine ctr_of (ctF := LRefObj.ct) (mtF := LRefObj.mt) (ptF := LRefObj.pt) (F0 := LRefObj.F0) tabOk LRefObj.ct_ok LRefObj.mt_ok LRefObj.pt_ok mixed 16 _ [4] [.tmp 4] Tryz.func169 rfl rfl rfl rfl rfl ?_
  intro O r F hO hr hF
  cbv
  repeat' first | refine And.intro ?_ ?_ | (refine caseB_intro (fun hb => ?_) (fun hb => ?_) <;> cbv)
  all_goals ((try subst hos); subst hO hr hF; (try simp only [stdO, SS, sub_all, ad_zero] at *); (try simp only [ncast] at *); (try simp only [Int.ofNat_eq_natCast] at *))
  all_goals (try simp only [LRefObj.F0] at *)
  all_goals first
    | trivial
    | exact rfl
    | exact absurd rfl hb
    | exact absurd rfl (by assumption)
    | (refine ⟨trivial, by assumption, ?_⟩; (try simp only [cntRs, Nat.add_zero]); omega)
    | (refine ⟨trivial, ?_⟩; (try simp only [cntRs, Nat.add_zero]); omega)
    | trace_state
namespace LRefObjS
structure Fns where
  kN : List (List (List L)) → Int → Int
  mkN : List (List L) → Int → List (List L)
def F0 : Fns := ⟨kN0, mkN0⟩
def ct (F : Fns) : CT := fun f ds => match f with
  | 169 => match ds with
    | [.agg [.v (.int .i64 a0), .s 1 a1], d] => some (fun _ => d = .agg [.v (.int .i64 a0), .s 1 a1] ∧ Rw [tI] a1 ∧ cntRs [a1] ≤ 1099511627776, [.one (.v (.bool true))])
    | _ => none
  | 15 => match ds with
    | [.one (.s 1 ms), .one (.v (.int .i64 k))] => some (fun _ => ∃ es, ms = mkN0 es k ∧ Rw [tI] es ∧ cntE es ≤ 1099511627776 ∧ 0 ≤ k ∧ kN0 [ms] k ≤ 1152921504606846976, [.one (.v (.int .i64 (F.kN [ms] k)))])
    | _ => none
  | _ => none
theorem ct_ok : CTok Tryz.prog (ct F0) := by
  intro f ds pre res h hp
  unfold ct at h
  split at h
  · split at h
    · cases h; exact c_laws_eqRefObj _ _ _ hp
    · cases h
  · split at h
    · cases h; exact c_laws_heldIntS _ _ hp
    · cases h
  · cases h
def mt (F : Fns) : MT := fun f => match f with
  | 14 => some fun ds => match ds with
    | [.one (.s 1 es), .one (.v (.int .i64 k))] => some (fun _ => Rw [tI] es ∧ cntE es ≤ 1099511627776 ∧ 0 ≤ k ∧ kN0 [es] k ≤ 1152921504606846976, [.s 1 (F.mkN es k)], [.one (.v (.int .i64 (F.kN [es] k)))])
    | _ => none
  | _ => none
theorem mt_ok : MTok Tryz.prog (mt F0) := by
  intro f mk h ds pre outs res hm hp
  unfold mt at h
  split at h
  · cases h; dsimp only at hm; split at hm
    · cases hm; exact c_laws_markIntS _ _ hp
    · cases hm
  · cases h
def pt : Fns → PT := noPT
theorem pt_ok : PTok Tryz.prog (pt F0) := noPT_ok
end LRefObjS
theorem c_laws_eqRefObjS (es : List (List L)) (d : DV) (hp : d = .one (.s 2 es) ∧ Rw [tI, .sl [tI]] es ∧ cntE es ≤ 1099511627776) : Ctr Tryz.prog 141 [.one (.s 2 es), d] [.one (.v (.bool true))] := by
  obtain ⟨rfl, hw, hlim⟩ := hp
  have hwf : Wf [.v (.int .i64 0), .s 1 []] es := hw.wf
  have hlen : es.length ≤ 1099511627776 := Nat.le_trans (Nat.le_add_right _ _) hlim
  refine ctr_of (ctF := LRefObjS.ct) (mtF := LRefObjS.mt) (ptF := LRefObjS.pt) (F0 := LRefObjS.F0) tabOk LRefObjS.ct_ok LRefObjS.mt_ok LRefObjS.pt_ok mixed 27 _ [4] [.tmp 4] Tryz.func141 rfl rfl rfl rfl rfl ?_
  intro O r F hO hr hF
  cbv
  refine caseB_intro (fun hb => ?_) (fun hb => ?_) <;> cbv
  · ((try subst hos); subst hO hr hF; (try simp only [stdO, SS, sub_all, ad_zero] at *); (try simp only [ncast] at *); (try simp only [Int.ofNat_eq_natCast] at *)); exact absurd rfl hb
  · clear hb
    refine ⟨[0, 1, 5], [], Int, fun i => [.reg 5 (.one (.v (.int .i64 i)))], fun i => 0 ≤ i ∧ i.toNat ≤ es.length, fun i => es.length - i.toNat, ⟨0, ?_, ?_⟩, ?_⟩
    · exact ⟨by omega, Nat.zero_le _⟩
    · cbv
    · rintro i hi
      replace hi : 0 ≤ i ∧ i.toNat ≤ es.length := hi
      obtain ⟨g0, g1⟩ := hi
      cbv
      repeat' first | refine And.intro ?_ ?_ | (refine caseB_intro (fun hb => ?_) (fun hb => ?_) <;> cbv) | (refine loop_step (O.ar .add .i64 i 1) ?_ ?_ ?_; rotate_left 2; focus (cbv; done))
      all_goals ((try subst hos); subst hO hr hF; (try simp only [stdO, SS, sub_all, ad_zero] at *); (try simp only [ncast] at *); (try simp only [Int.ofNat_eq_natCast] at *))
      all_goals (try simp only [LRefObjS.F0] at *)
      all_goals try have hlt : i < es.length := by assumption
      all_goals try rw [inc64 (n := es.length) g0 hlt (by omega)]
      all_goals try have he : es.getD i.toNat [] = [.v (.int .i64 (giI es i 0)), .s 1 (gsI es i 1)] := (etaE_whole hwf g0 hlt).symm
      all_goals try have hr1 : Rw [tI] (gsI es i 1) := Rw.sub (fs := [tI, .sl [tI]]) hw (by omega) rfl
      all_goals try have hct := cntE_at (es := es) (n := i.toNat) (by omega); rw [he] at hct; simp only [cntR, cntL, Nat.add_zero, Nat.zero_add] at hct
      all_goals have hle1 := cntEs_take_le (es := es) (n := i.toNat + 1)
      all_goals have hcE : cntE es = es.length + cntEs es := rfl
      all_goals first
        | omega
        | exact row_ro hwf g0 hlt
        | exact absurd rfl hb
        | exact absurd rfl (by assumption)
        | trivial
        | kernel_rfl
        | exact ⟨trivial, trivial⟩
        | (refine ⟨trivial, hr1, ?_⟩; simp only [cntRs, cntE, Nat.add_zero]; omega)
        | trace_state
theorem c_laws_markRefObjS (es : List (List L)) (k : Int) (hp : Rw [tI, .sl [tI]] es ∧ cntE es ≤ 1099511627776 ∧ 0 ≤ k ∧ kN0 [es] k ≤ 1152921504606846976) : MCtr Tryz.prog 142 [.one (.s 2 es), .one (.v (.int .i64 k))] [.s 2 (mkN0 es k)] [.one (.v (.int .i64 (kN0 [es] k)))] := by
  obtain ⟨hw, hlim, hk0, hkb⟩ := hp
  have hwf : Wf [.v (.int .i64 0), .s 1 []] es := hw.wf
  have hlen : es.length ≤ 1099511627776 := Nat.le_trans (Nat.le_add_right _ _) hlim
  refine mctr_of (ctF := LRefObjS.ct) (mtF := LRefObjS.mt) (ptF := LRefObjS.pt) (F0 := LRefObjS.F0) tabOk LRefObjS.ct_ok LRefObjS.mt_ok LRefObjS.pt_ok mixed 27 _ [3] [.tmp 4] [(0, 0)] Tryz.func142 rfl rfl rfl rfl rfl rfl rfl ?_
  intro O r os F hO hr hos hF
  cbv
  refine ⟨[0, 1, 5], [0], Int × Int × List (List L), fun s => match s with | (i, k', cur) => [.reg 5 (.one (.v (.int .i64 i))), .reg 1 (.one (.v (.int .i64 k'))), .leaf 0 0 ⟨0, 0, some 0, .own (.s 2 cur)⟩], fun s => 0 ≤ s.1 ∧ s.1.toNat ≤ es.length ∧ s.2.1 = kTo es k s.1.toNat ∧ s.2.2 = mkTo es k s.1.toNat, fun s => es.length - s.1.toNat, ⟨(0, k, es), ?_, ?_⟩, ?_⟩
  · exact ⟨by omega, Nat.zero_le _, kTo_zero.symm, mkTo_zero.symm⟩
  · cbv
  · rintro ⟨i, k', cur⟩ hi
    replace hi : 0 ≤ i ∧ i.toNat ≤ es.length ∧ k' = kTo es k i.toNat ∧ cur = mkTo es k i.toNat := hi
    obtain ⟨g0, g1, hk', hc⟩ := hi
    cbv
    repeat' first | refine And.intro ?_ ?_ | (refine caseB_intro (fun hb => ?_) (fun hb => ?_) <;> cbv) | (refine loop_step (O.ar .add .i64 i 1, F.kN [O.ps (.s 2 (O.up (.s 2 (cur)) [(O.ad 0 i, 0)] [.v (.int .i64 (k'))])) [(O.ad 0 i, 1)]] (O.ar .add .i64 (k') 1), O.up (.s 2 (O.up (.s 2 (cur)) [(O.ad 0 i, 0)] [.v (.int .i64 (k'))])) [(O.ad 0 i, 1)] [.s 1 (F.mkN (O.ps (.s 2 (O.up (.s 2 (cur)) [(O.ad 0 i, 0)] [.v (.int .i64 (k'))])) [(O.ad 0 i, 1)]) (O.ar .add .i64 (k') 1))]) ?_ ?_ ?_; rotate_left 2; focus (cbv; done))
    all_goals ((try subst hos); subst hO hr hF; (try simp only [stdO, SS, sub_all, ad_zero] at *); (try simp only [ncast] at *); (try simp only [Int.ofNat_eq_natCast] at *))
    all_goals (try simp only [LRefObjS.F0] at *)
    all_goals try have hlt : i < es.length := by assumption
    all_goals try rw [inc64 (n := es.length) g0 hlt (by omega)]
    all_goals try have hlt' : i.toNat < es.length := by omega
    all_goals try have he : es.getD i.toNat [] = [.v (.int .i64 (giI es i 0)), .s 1 (gsI es i 1)] := (etaE_whole hwf g0 hlt).symm
    all_goals try have hr1 : Rw [tI] (gsI es i 1) := Rw.sub (fs := [tI, .sl [tI]]) hw (by omega) rfl
    all_goals try have hct := cntE_at (es := es) (n := i.toNat) (by omega); rw [he] at hct; simp only [cntR, cntL, Nat.add_zero, Nat.zero_add] at hct
    all_goals try have hks := kTo_succ (es := es) (k := k) hlt'; rw [he] at hks; simp only [msR, msL] at hks
    all_goals try have hms := mkTo_set (es := es) (k := k) hlt'; rw [he] at hms; simp only [msR, msL] at hms
    all_goals have hle1 := cntEs_take_le (es := es) (n := i.toNat + 1)
    all_goals have hcE : cntE es = es.length + cntEs es := rfl
    all_goals have hk1 := kTo_k (es := es) (k := k) (n := i.toNat)
    all_goals have hk2 := kTo_k (es := es) (k := k) (n := i.toNat + 1)
    all_goals have hk3 := kTo_all (es := es) (k := k)
    all_goals have hk4 := kTo_k (es := es) (k := k) (n := es.length)
    all_goals have hk5 := kTo_le (es := es) (m := 0) (n := i.toNat) g1 (Nat.zero_le _)
    all_goals have hk6 := kTo_le (es := es) (m := i.toNat) (n := es.length) (Nat.le_refl _) g1
    all_goals try have hk7 := kTo_le (es := es) (m := i.toNat + 1) (n := es.length) (Nat.le_refl _) hlt'
    all_goals rw [kTo_zero] at hk5
    all_goals try have hk8 := kTo_mono (es := es) (n := i.toNat) hlt'
    all_goals try have hcl : i.toNat < cur.length := by rw [hc, mkTo_length g1]; exact hlt'
    all_goals try have hcg : cur.getD i.toNat [] = [.v (.int .i64 (giI es i 0)), .s 1 (gsI es i 1)] := by rw [hc, mkTo_getD g1]; exact he
    all_goals have ha1 : arI .add .i64 k' 1 = k' + 1 := add64 (by omega)
    all_goals have ha2 : arI .add .i64 (k' + 1) 1 = k' + 1 + 1 := add64 (by omega)
    all_goals have ha3 : arI .add .i64 (k' + 1 + 1) 1 = k' + 1 + 1 + 1 := add64 (by omega)
    all_goals have ha4 : arI .add .i64 (k' + 1 + 1 + 1) 1 = k' + 1 + 1 + 1 + 1 := add64 (by omega)
    all_goals try simp only [ha1, ha2, ha3, ha4]
    all_goals try simp only [ad_zero]
    all_goals try simp only [upI_cell, hcg, List.take, List.drop, List.length_cons, List.length_nil, List.nil_append, List.cons_append, List.append_nil, Nat.zero_add, Nat.reduceAdd, getD_set_same hcl, List.set_set, List.append_assoc]
    all_goals try simp only [psI_one, hcg, getD_set_same hcl, List.getD_cons_zero, List.getD_cons_succ, lfS]
    all_goals try simp only [getR_at hcl, getR_set hcl, getS_at hcl, getS_set hcl, hcg, List.getElem?_cons_zero, List.getElem?_cons_succ]
    all_goals first
      | exact ⟨g0, hlt⟩
      | (refine ⟨_, _, rfl, ?_⟩; simp; done)
      | (refine ⟨_, _, rfl, ?_, rfl⟩; simp; done)
      | (refine ⟨_, _, rfl, by simp, ?_⟩; show List.take _ (List.drop _ _) = [L.s _ (psI _ _)]; simp only [adv, psI_one, hcg, getD_set_same hcl, List.getD_cons_zero, List.getD_cons_succ, Nat.add_zero, lfS]; rfl)
      | exact ⟨trivial, _, rfl, rfl⟩
      | exact ⟨_, rfl⟩
      | omega
      | (rw [hk', show i.toNat = es.length from by omega, hk3]; done)
      | (rw [hc, show i.toNat = es.length from by omega, mkTo_all]; rfl)
      | (rw [show (i + 1).toNat = i.toNat + 1 from by omega, hks, hk']; done)
      | (rw [show (i + 1).toNat = i.toNat + 1 from by omega, hks, hk']; rfl)
      | (rw [show (i + 1).toNat = i.toNat + 1 from by omega, ← hms, hc, hk']; done)
      | (rw [show (i + 1).toNat = i.toNat + 1 from by omega, ← hms, hc, hk']; rfl)
      | (refine ⟨hr1, ?_, ?_, ?_⟩ <;> (try simp only [cntE, kN0]) <;> first | omega | (rw [hk']; omega))
      | trivial
      | trace_state
theorem c_laws_heldRefObjS (ms : List (List L)) (k : Int) (hp : ∃ es, ms = mkN0 es k ∧ Rw [tI, .sl [tI]] es ∧ cntE es ≤ 1099511627776 ∧ 0 ≤ k ∧ kN0 [ms] k ≤ 1152921504606846976) : Ctr Tryz.prog 143 [.one (.s 2 ms), .one (.v (.int .i64 k))] [.one (.v (.int .i64 (kN0 [ms] k)))] := by
  obtain ⟨es, hms, hw, hlim, hk0, hkb⟩ := hp
  have hlen : es.length ≤ 1099511627776 := Nat.le_trans (Nat.le_add_right _ _) hlim
  have hml : ms.length = es.length := by rw [hms]; exact mkN_length
  have hkk : kN0 [ms] k = kN0 [es] k := by rw [hms]; exact kN_mk
  have hwm : Wf [.v (.int .i64 0), .s 1 []] ms := by rw [hms]; exact conf_mk_wf hw
  have hwf : Wf [.v (.int .i64 0), .s 1 []] es := hw.wf
  have hat : ∀ n, n < es.length → ms.getD n [] = (msR (es.getD n []) (kTo es k n)).1 := fun n hn => by rw [hms]; exact mkN_at hn
  refine ctr_of (ctF := LRefObjS.ct) (mtF := LRefObjS.mt) (ptF := LRefObjS.pt) (F0 := LRefObjS.F0) tabOk LRefObjS.ct_ok LRefObjS.mt_ok LRefObjS.pt_ok mixed 31 _ [3] [.tmp 4] Tryz.func143 rfl rfl rfl rfl rfl ?_
  intro O r F hO hr hF
  cbv
  refine ⟨[0, 1, 5], [], Int × Int, fun s => match s with | (i, k') => [.reg 5 (.one (.v (.int .i64 i))), .reg 1 (.one (.v (.int .i64 k')))], fun s => 0 ≤ s.1 ∧ s.1.toNat ≤ es.length ∧ s.2 = kTo es k s.1.toNat, fun s => es.length - s.1.toNat, ⟨(0, k), ?_, ?_⟩, ?_⟩
  · exact ⟨by omega, Nat.zero_le _, kTo_zero.symm⟩
  · cbv
  · rintro ⟨i, k'⟩ hi
    replace hi : 0 ≤ i ∧ i.toNat ≤ es.length ∧ k' = kTo es k i.toNat := hi
    obtain ⟨g0, g1, hk'⟩ := hi
    cbv
    repeat' first | refine And.intro ?_ ?_ | (refine caseB_intro (fun hb => ?_) (fun hb => ?_) <;> cbv) | (refine loop_step (O.ar .add .i64 i 1, F.kN [O.gs ms i 1] (O.ar .add .i64 (k') 1)) ?_ ?_ ?_; rotate_left 2; focus (cbv; done))
    all_goals ((try subst hos); subst hO hr hF; (try simp only [stdO, SS, sub_all, ad_zero] at *); (try simp only [ncast] at *); (try simp only [Int.ofNat_eq_natCast] at *))
    all_goals (try simp only [LRefObjS.F0] at *)
    all_goals try have hltm : i < ms.length := by assumption
    all_goals try have hlt : i < es.length := by omega
    all_goals try rw [inc64 (n := es.length) g0 hlt (by omega)]
    all_goals try have hlt' : i.toNat < es.length := by omega
    all_goals try have he : es.getD i.toNat [] = [.v (.int .i64 (giI es i 0)), .s 1 (gsI es i 1)] := (etaE_whole hwf g0 hlt).symm
    all_goals try have hr1 : Rw [tI] (gsI es i 1) := Rw.sub (fs := [tI, .sl [tI]]) hw (by omega) rfl
    all_goals try have hct := cntE_at (es := es) (n := i.toNat) (by omega); rw [he] at hct; simp only [cntR, cntL, Nat.add_zero, Nat.zero_add] at hct
    all_goals try have hks := kTo_succ (es := es) (k := k) hlt'; rw [he] at hks; simp only [msR, msL] at hks
    all_goals try have hem : ([.v (.int .i64 (giI ms i 0)), .s 1 (gsI ms i 1)] : (List L)) = _ := (etaE_whole hwm g0 hltm).trans (hat i.toNat hlt'); rw [he] at hem; simp only [msR, msL, List.cons.injEq, L.v.injEq, Value.int.injEq, Value.bool.injEq, L.s.injEq, true_and, and_true] at hem
    all_goals have hle1 := cntEs_take_le (es := es) (n := i.toNat + 1)
    all_goals have hcE : cntE es = es.length + cntEs es := rfl
    all_goals have hk1 := kTo_k (es := es) (k := k) (n := i.toNat)
    all_goals have hk2 := kTo_k (es := es) (k := k) (n := i.toNat + 1)
    all_goals have hk3 := kTo_all (es := es) (k := k)
    all_goals have hk4 := kTo_k (es := es) (k := k) (n := es.length)
    all_goals have hk5 := kTo_le (es := es) (m := 0) (n := i.toNat) g1 (Nat.zero_le _)
    all_goals have hk6 := kTo_le (es := es) (m := i.toNat) (n := es.length) (Nat.le_refl _) g1
    all_goals try have hk7 := kTo_le (es := es) (m := i.toNat + 1) (n := es.length) (Nat.le_refl _) hlt'
    all_goals rw [kTo_zero] at hk5
    all_goals try have hk8 := kTo_mono (es := es) (n := i.toNat) hlt'
    all_goals try rw [← hk'] at hem hks
    all_goals have ha1 : arI .add .i64 k' 1 = k' + 1 := add64 (by omega)
    all_goals have ha2 : arI .add .i64 (k' + 1) 1 = k' + 1 + 1 := add64 (by omega)
    all_goals have ha3 : arI .add .i64 (k' + 1 + 1) 1 = k' + 1 + 1 + 1 := add64 (by omega)
    all_goals have ha4 : arI .add .i64 (k' + 1 + 1 + 1) 1 = k' + 1 + 1 + 1 + 1 := add64 (by omega)
    all_goals try simp only [ha1, ha2, ha3, ha4] at *
    all_goals first
      | exact row_ro hwm g0 hltm
      | omega
      | (exfalso; revert hb; simp only [hem, cmpI, arI]; simp; done)
      | (rw [hk', show i.toNat = es.length from by omega, hk3, hkk]; done)
      | (rw [show (i + 1).toNat = i.toNat + 1 from by omega, hks]; done)
      | (rw [show (i + 1).toNat = i.toNat + 1 from by omega, hks, hem]; simp only [kN0, msEs_mk]; done)
      | (rw [show (i + 1).toNat = i.toNat + 1 from by omega, hks, hem.2]; simp only [kN0, msEs_mk]; done)
      | (refine ⟨_, by first | exact hem | exact hem.2 | exact hem.1 | rfl, hr1, ?_, ?_, ?_⟩ <;> (try simp only [kN0, msEs_mk, cntE]) <;> omega)
      | (refine ⟨_, by first | exact hem | exact hem.2 | exact hem.1 | rfl, hr1, ?_, ?_, ?_⟩ <;> (try rw [hem]) <;> (try rw [hem.2]) <;> (try simp only [kN0, msEs_mk, cntE]) <;> omega)
      | (exfalso; simp only [kN0, msEs_mk] at hb; omega)
      | (exfalso; (first | rw [hem] at hb | rw [hem.2] at hb); simp only [kN0, msEs_mk] at hb; omega)
      | trivial
      | trace_state
namespace LRefHeap
structure Fns where
  kN : List (List (List L)) → Int → Int
  mkN : List (List L) → Int → List (List L)
def F0 : Fns := ⟨kN0, mkN0⟩
def ct (F : Fns) : CT := fun f ds => match f with
  | 141 => match ds with
    | [.one (.s 2 es), d] => some (fun _ => d = .one (.s 2 es) ∧ Rw [tI, .sl [tI]] es ∧ cntE es ≤ 1099511627776, [.one (.v (.bool true))])
    | _ => none
  | 143 => match ds with
    | [.one (.s 2 ms), .one (.v (.int .i64 k))] => some (fun _ => ∃ es, ms = mkN0 es k ∧ Rw [tI, .sl [tI]] es ∧ cntE es ≤ 1099511627776 ∧ 0 ≤ k ∧ kN0 [ms] k ≤ 1152921504606846976, [.one (.v (.int .i64 (F.kN [ms] k)))])
    | _ => none
  | _ => none
theorem ct_ok : CTok Tryz.prog (ct F0) := by
  intro f ds pre res h hp
  unfold ct at h
  split at h
  · split at h
    · cases h; exact c_laws_eqRefObjS _ _ hp
    · cases h
  · split at h
    · cases h; exact c_laws_heldRefObjS _ _ hp
    · cases h
  · cases h
def mt (F : Fns) : MT := fun f => match f with
  | 142 => some fun ds => match ds with
    | [.one (.s 2 es), .one (.v (.int .i64 k))] => some (fun _ => Rw [tI, .sl [tI]] es ∧ cntE es ≤ 1099511627776 ∧ 0 ≤ k ∧ kN0 [es] k ≤ 1152921504606846976, [.s 2 (F.mkN es k)], [.one (.v (.int .i64 (F.kN [es] k)))])
    | _ => none
  | _ => none
theorem mt_ok : MTok Tryz.prog (mt F0) := by
  intro f mk h ds pre outs res hm hp
  unfold mt at h
  split at h
  · cases h; dsimp only at hm; split at hm
    · cases hm; exact c_laws_markRefObjS _ _ hp
    · cases hm
  · cases h
def pt : Fns → PT := noPT
theorem pt_ok : PTok Tryz.prog (pt F0) := noPT_ok
end LRefHeap
theorem c_laws_eqRefHeap (a0 : Int) (a1 : List (List L)) (d : DV) (hp : d = .agg [.v (.int .i64 a0), .s 2 a1] ∧ Rw [tI, .sl [tI]] a1 ∧ cntRs [a1] ≤ 1099511627776) : Ctr Tryz.prog 96 [.agg [.v (.int .i64 a0), .s 2 a1], d] [.one (.v (.bool true))] := by
  obtain ⟨rfl, w0, hlim⟩ := hp
  simp only [cntRs, Nat.add_zero] at hlim
  refine ctr_of (ctF := LRefHeap.ct) (mtF := LRefHeap.mt) (ptF := LRefHeap.pt) (F0 := LRefHeap.F0) tabOk LRefHeap.ct_ok LRefHeap.mt_ok LRefHeap.pt_ok mixed 16 _ [4] [.tmp 4] Tryz.func96 rfl rfl rfl rfl rfl ?_
  intro O r F hO hr hF
  cbv
  repeat' first | refine And.intro ?_ ?_ | (refine caseB_intro (fun hb => ?_) (fun hb => ?_) <;> cbv)
  all_goals ((try subst hos); subst hO hr hF; (try simp only [stdO, SS, sub_all, ad_zero] at *); (try simp only [ncast] at *); (try simp only [Int.ofNat_eq_natCast] at *))
  all_goals (try simp only [LRefHeap.F0] at *)
  all_goals first
    | trivial
    | exact rfl
    | exact absurd rfl hb
    | exact absurd rfl (by assumption)
    | (refine ⟨trivial, by assumption, ?_⟩; (try simp only [cntRs, Nat.add_zero]); omega)
    | (refine ⟨trivial, ?_⟩; (try simp only [cntRs, Nat.add_zero]); omega)
    | trace_state
theorem c_laws_markRefHeap (a0 : Int) (a1 : List (List L)) (k : Int) (hp : Rw [tI, .sl [tI]] a1 ∧ cntRs [a1] ≤ 1099511627776 ∧ 0 ≤ k ∧ kN0 [a1] k ≤ 1152921504606846976) : MCtr Tryz.prog 97 [.agg [.v (.int .i64 a0), .s 2 a1], .one (.v (.int .i64 k))] [.s 2 (mkN0 a1 k)] [.one (.v (.int .i64 (kN0 [a1] k)))] := by
  obtain ⟨w0, hlim, hk0, hkb⟩ := hp
  simp only [cntRs, Nat.add_zero] at hlim
  have p0 : kN0 [a1] k ≤ kN0 [a1] k ∧ 0 ≤ kN0 [a1] k := kN_pre (b := []) hk0
  refine mctr_of (ctF := LRefHeap.ct) (mtF := LRefHeap.mt) (ptF := LRefHeap.pt) (F0 := LRefHeap.F0) tabOk LRefHeap.ct_ok LRefHeap.mt_ok LRefHeap.pt_ok mixed 10 _ [3] [.tmp 4] [(2, 1)] Tryz.func97 rfl rfl rfl rfl rfl rfl rfl ?_
  intro O r os F hO hr hos hF
  cbv
  repeat' first | refine And.intro ?_ ?_ | (refine caseB_intro (fun hb => ?_) (fun hb => ?_) <;> cbv)
  all_goals ((try subst hos); subst hO hr hF; (try simp only [stdO, SS, sub_all, ad_zero] at *); (try simp only [ncast] at *); (try simp only [Int.ofNat_eq_natCast] at *))
  all_goals (try simp only [LRefHeap.F0] at *)
  all_goals (try simp only [kN_app, List.cons_append, List.nil_append, mkN_length] at *)
  all_goals first
    | trivial
    | exact rfl
    | exact ⟨trivial, trivial⟩
    | exact ⟨rfl, rfl⟩
    | (refine ⟨by assumption, ?_, ?_, ?_⟩ <;> (try simp only [kN_app, List.cons_append, List.nil_append, cntRs, Nat.add_zero]) <;> omega)
    | trace_state
theorem c_laws_heldRefHeap (m0 : Int) (m1 : List (List L)) (k : Int) (hp : (∃ a1, m1 = mkN0 a1 k ∧ Rw [tI, .sl [tI]] a1 ∧ cntE a1 ≤ 1099511627776) ∧ 0 ≤ k ∧ kN0 [m1] k ≤ 1152921504606846976) : Ctr Tryz.prog 98 [.agg [.v (.int .i64 m0), .s 2 m1], .one (.v (.int .i64 k))] [.one (.v (.int .i64 (kN0 [m1] k)))] := by
  obtain ⟨e0, hk0, hkb⟩ := hp
  have p0 : kN0 [m1] k ≤ kN0 [m1] k ∧ 0 ≤ kN0 [m1] k := kN_pre (b := []) hk0
  refine ctr_of (ctF := LRefHeap.ct) (mtF := LRefHeap.mt) (ptF := LRefHeap.pt) (F0 := LRefHeap.F0) tabOk LRefHeap.ct_ok LRefHeap.mt_ok LRefHeap.pt_ok mixed 12 _ [3] [.tmp 4] Tryz.func98 rfl rfl rfl rfl rfl ?_
  intro O r F hO hr hF
  cbv
  repeat' first | refine And.intro ?_ ?_ | (refine caseB_intro (fun hb => ?_) (fun hb => ?_) <;> cbv)
  all_goals ((try subst hos); subst hO hr hF; (try simp only [stdO, SS, sub_all, ad_zero] at *); (try simp only [ncast] at *); (try simp only [Int.ofNat_eq_natCast] at *))
  all_goals (try simp only [LRefHeap.F0] at *)
  all_goals (try simp only [kN_app, List.cons_append, List.nil_append] at *)
  all_goals first
    | trivial
    | (exfalso; omega)
    | (obtain ⟨x, y1, y2, y3⟩ := e0; exact ⟨x, y1, y2, y3, by omega, by omega⟩)
    | (refine ⟨by assumption, by omega, by omega⟩)
    | trace_state
namespace LConfig
structure Fns where
  szN : List (List (List L)) → Int → Int
  kN : List (List (List L)) → Int → Int
  mkN : List (List L) → Int → List (List L)
def F0 : Fns := ⟨szN0, kN0, mkN0⟩
def ct (F : Fns) : CT := fun f ds => match f with
  | 93 => match ds with
    | [.one (.s 1 es), .one (.v (.int .i64 left))] => some (fun _ => Rw [tI] es ∧ 0 ≤ left ∧ left ≤ 1048576, [.one (.v (.int .i64 (F.szN [es] left)))])
    | _ => none
  | 17 => match ds with
    | [.one (.s 1 es)] => some (fun _ => Rw [tI] es ∧ cntE es ≤ 1048576, [.one (.s 1 es)])
    | _ => none
  | 11 => match ds with
    | [.one (.s 1 es), d] => some (fun _ => d = .one (.s 1 es) ∧ Rw [tI] es ∧ cntE es ≤ 1099511627776, [.one (.v (.bool true))])
    | _ => none
  | 15 => match ds with
    | [.one (.s 1 ms), .one (.v (.int .i64 k))] => some (fun _ => ∃ es, ms = mkN0 es k ∧ Rw [tI] es ∧ cntE es ≤ 1099511627776 ∧ 0 ≤ k ∧ kN0 [ms] k ≤ 1152921504606846976, [.one (.v (.int .i64 (F.kN [ms] k)))])
    | _ => none
  | _ => none
theorem ct_ok : CTok Tryz.prog (ct F0) := by
  intro f ds pre res h hp
  unfold ct at h
  split at h
  · split at h
    · cases h; exact c_laws_szIntS _ _ hp
    · cases h
  · split at h
    · cases h; exact c_laws_toIntS _ hp
    · cases h
  · split at h
    · cases h; exact c_laws_eqIntS _ _ hp
    · cases h
  · split at h
    · cases h; exact c_laws_heldIntS _ _ hp
    · cases h
  · cases h
def mt (F : Fns) : MT := fun f => match f with
  | 14 => some fun ds => match ds with
    | [.one (.s 1 es), .one (.v (.int .i64 k))] => some (fun _ => Rw [tI] es ∧ cntE es ≤ 1099511627776 ∧ 0 ≤ k ∧ kN0 [es] k ≤ 1152921504606846976, [.s 1 (F.mkN es k)], [.one (.v (.int .i64 (F.kN [es] k)))])
    | _ => none
  | _ => none
theorem mt_ok : MTok Tryz.prog (mt F0) := by
  intro f mk h ds pre outs res hm hp
  unfold mt at h
  split at h
  · cases h; dsimp only at hm; split at hm
    · cases hm; exact c_laws_markIntS _ _ hp
    · cases hm
  · cases h
def pt : Fns → PT := noPT
theorem pt_ok : PTok Tryz.prog (pt F0) := noPT_ok
end LConfig
theorem c_laws_szConfig (a0 : Int) (a1 : Int) (a2 : Int) (a3 : Int) (a4 : List (List L)) (left : Int) (hp : Rw [tI] a4 ∧ 0 ≤ left ∧ left ≤ 1048576) : Ctr Tryz.prog 25 [.agg [.v (.int .i64 a0), .v (.int .i64 a1), .v (.int .i64 a2), .v (.int .i64 a3), .s 1 a4], .one (.v (.int .i64 left))] [.one (.v (.int .i64 (szN0 [a4] left)))] := by
  obtain ⟨w0, h0, h1⟩ := hp
  refine ctr_of (ctF := LConfig.ct) (mtF := LConfig.mt) (ptF := LConfig.pt) (F0 := LConfig.F0) tabOk LConfig.ct_ok LConfig.mt_ok LConfig.pt_ok mixed 12 _ [3] [.tmp 4] Tryz.func25 rfl rfl rfl rfl rfl ?_
  intro O r F hO hr hF
  cbv
  repeat' first | refine And.intro ?_ ?_ | (refine caseB_intro (fun hb => ?_) (fun hb => ?_) <;> cbv)
  all_goals ((try subst hos); subst hO hr hF; (try simp only [stdO, SS, sub_all, ad_zero] at *); (try simp only [ncast] at *); (try simp only [Int.ofNat_eq_natCast] at *))
  all_goals (try simp only [LConfig.F0] at *)
  all_goals iterate 4 (try simp (disch := assumption) only [szN_app, List.cons_append, List.nil_append] at *)
  all_goals first
    | trivial
    | exact rfl
    | (refine ⟨by assumption, by omega, by first | omega | exact Int.le_trans (szN_le (by assumption)) h1⟩)
    | (rw [szN_neg1 (by assumption)])
    | trace_state
theorem c_laws_toConfig (a0 : Int) (a1 : Int) (a2 : Int) (a3 : Int) (a4 : List (List L)) (hp : Rw [tI] a4 ∧ cntRs [a4] ≤ 1048576) : Ctr Tryz.prog 27 [.agg [.v (.int .i64 a0), .v (.int .i64 a1), .v (.int .i64 a2), .v (.int .i64 a3), .s 1 a4]] [.agg [.v (.int .i64 a0), .v (.int .i64 a1), .v (.int .i64 a2), .v (.int .i64 a3), .s 1 a4]] := by
  obtain ⟨w0, hlim⟩ := hp
  simp only [cntRs, Nat.add_zero] at hlim
  refine ctr_of (ctF := LConfig.ct) (mtF := LConfig.mt) (ptF := LConfig.pt) (F0 := LConfig.F0) tabOk LConfig.ct_ok LConfig.mt_ok LConfig.pt_ok mixed 21 _ [101] [.cell 2 101] Tryz.func27 rfl rfl rfl rfl rfl ?_
  intro O r F hO hr hF
  cbv
  repeat' first | refine And.intro ?_ ?_ | (refine caseB_intro (fun hb => ?_) (fun hb => ?_) <;> cbv)
  all_goals ((try subst hos); subst hO hr hF; (try simp only [stdO, SS, sub_all, ad_zero] at *); (try simp only [ncast] at *); (try simp only [Int.ofNat_eq_natCast] at *))
  all_goals (try simp only [LConfig.F0] at *)
  all_goals first
    | trivial
    | exact rfl
    | exact ⟨trivial, trivial⟩
    | exact ⟨rfl, rfl⟩
    | (refine ⟨by assumption, ?_⟩; (try simp only [cntRs, Nat.add_zero]); omega)
    | ((try simp only [cntRs, Nat.add_zero]); omega)
    | trace_state
theorem c_laws_eqConfig (a0 : Int) (a1 : Int) (a2 : Int) (a3 : Int) (a4 : List (List L)) (d : DV) (hp : d = .agg [.v (.int .i64 a0), .v (.int .i64 a1), .v (.int .i64 a2), .v (.int .i64 a3), .s 1 a4] ∧ Rw [tI] a4 ∧ cntRs [a4] ≤ 1099511627776) : Ctr Tryz.prog 30 [.agg [.v (.int .i64 a0), .v (.int .i64 a1), .v (.int .i64 a2), .v (.int .i64 a3), .s 1 a4], d] [.one (.v (.bool true))] := by
  obtain ⟨rfl, w0, hlim⟩ := hp
  simp only [cntRs, Nat.add_zero] at hlim
  refine ctr_of (ctF := LConfig.ct) (mtF := LConfig.mt) (ptF := LConfig.pt) (F0 := LConfig.F0) tabOk LConfig.ct_ok LConfig.mt_ok LConfig.pt_ok mixed 31 _ [4] [.tmp 4] Tryz.func30 rfl rfl rfl rfl rfl ?_
  intro O r F hO hr hF
  cbv
  repeat' first | refine And.intro ?_ ?_ | (refine caseB_intro (fun hb => ?_) (fun hb => ?_) <;> cbv)
  all_goals ((try subst hos); subst hO hr hF; (try simp only [stdO, SS, sub_all, ad_zero] at *); (try simp only [ncast] at *); (try simp only [Int.ofNat_eq_natCast] at *))
  all_goals (try simp only [LConfig.F0] at *)
  all_goals first
    | trivial
    | exact rfl
    | exact absurd rfl hb
    | exact absurd rfl (by assumption)
    | (refine ⟨trivial, by assumption, ?_⟩; (try simp only [cntRs, Nat.add_zero]); omega)
    | (refine ⟨trivial, ?_⟩; (try simp only [cntRs, Nat.add_zero]); omega)
    | trace_state
theorem c_laws_markConfig (a0 : Int) (a1 : Int) (a2 : Int) (a3 : Int) (a4 : List (List L)) (k : Int) (hp : Rw [tI] a4 ∧ cntRs [a4] ≤ 1099511627776 ∧ 0 ≤ k ∧ kN0 [a4] k ≤ 1152921504606846976) : MCtr Tryz.prog 31 [.agg [.v (.int .i64 a0), .v (.int .i64 a1), .v (.int .i64 a2), .v (.int .i64 a3), .s 1 a4], .one (.v (.int .i64 k))] [.s 1 (mkN0 a4 k)] [.one (.v (.int .i64 (kN0 [a4] k)))] := by
  obtain ⟨w0, hlim, hk0, hkb⟩ := hp
  simp only [cntRs, Nat.add_zero] at hlim
  have p0 : kN0 [a4] k ≤ kN0 [a4] k ∧ 0 ≤ kN0 [a4] k := kN_pre (b := []) hk0
  refine mctr_of (ctF := LConfig.ct) (mtF := LConfig.mt) (ptF := LConfig.pt) (F0 := LConfig.F0) tabOk LConfig.ct_ok LConfig.mt_ok LConfig.pt_ok mixed 10 _ [3] [.tmp 4] [(2, 4)] Tryz.func31 rfl rfl rfl rfl rfl rfl rfl ?_
  intro O r os F hO hr hos hF
  cbv
  repeat' first | refine And.intro ?_ ?_ | (refine caseB_intro (fun hb => ?_) (fun hb => ?_) <;> cbv)
  all_goals ((try subst hos); subst hO hr hF; (try simp only [stdO, SS, sub_all, ad_zero] at *); (try simp only [ncast] at *); (try simp only [Int.ofNat_eq_natCast] at *))
  all_goals (try simp only [LConfig.F0] at *)
  all_goals (try simp only [kN_app, List.cons_append, List.nil_append, mkN_length] at *)
  all_goals first
    | trivial
    | exact rfl
    | exact ⟨trivial, trivial⟩
    | exact ⟨rfl, rfl⟩
    | (refine ⟨by assumption, ?_, ?_, ?_⟩ <;> (try simp only [kN_app, List.cons_append, List.nil_append, cntRs, Nat.add_zero]) <;> omega)
    | trace_state
namespace LWorld
structure Fns where
  szN : List (List (List L)) → Int → Int
  kN : List (List (List L)) → Int → Int
  mkN : List (List L) → Int → List (List L)
def F0 : Fns := ⟨szN0, kN0, mkN0⟩
def ct (F : Fns) : CT := fun f ds => match f with
  | 7 => match ds with
    | [.agg [.s 1 a0, .s 1 a1, .s 2 a2, .v (.int .i64 a3), .s 1 a4, .s 2 a5, .s 3 a6, .s 3 a7, .s 4 a8, .s 1 a9, .s 1 a10, .s 1 a11, .v (.int .i64 a12), .s 3 a13, .v (.int .i64 a14), .v (.int .i64 a15), .v (.int .i64 a16), .v (.int .i64 a17), .v (.bool a18), .v (.int .i64 a19), .v (.int .i64 a20), .s 1 a21, .v (.int .i64 a22), .v (.int .i64 a23)], .one (.v (.int .i64 left))] => some (fun _ => Rw [.sl [tI]] a0 ∧ Rw [tB] a1 ∧ Rw [tI, tI] a2 ∧ Rw [tI] a4 ∧ Rw [tI, tI] a5 ∧ Rw [tI, tI, tI] a6 ∧ Rw [tI, tI, tI] a7 ∧ Rw [tI, tI, tI, tI] a8 ∧ Rw [.sl [.sl [tI]]] a9 ∧ Rw [.sl [tI, tI]] a10 ∧ Rw [.sl [tI]] a11 ∧ Rw [tI, tI, tI] a13 ∧ Rw [tI] a21 ∧ 0 ≤ left ∧ left ≤ 1048576, [.one (.v (.int .i64 (F.szN [a0, a1, a2, a4, a5, a6, a7, a8, a9, a10, a11, a13, a21] left)))])
    | _ => none
  | 9 => match ds with
    | [.agg [.s 1 a0, .s 1 a1, .s 2 a2, .v (.int .i64 a3), .s 1 a4, .s 2 a5, .s 3 a6, .s 3 a7, .s 4 a8, .s 1 a9, .s 1 a10, .s 1 a11, .v (.int .i64 a12), .s 3 a13, .v (.int .i64 a14), .v (.int .i64 a15), .v (.int .i64 a16), .v (.int .i64 a17), .v (.bool a18), .v (.int .i64 a19), .v (.int .i64 a20), .s 1 a21, .v (.int .i64 a22), .v (.int .i64 a23)]] => some (fun _ => Rw [.sl [tI]] a0 ∧ Rw [tB] a1 ∧ Rw [tI, tI] a2 ∧ Rw [tI] a4 ∧ Rw [tI, tI] a5 ∧ Rw [tI, tI, tI] a6 ∧ Rw [tI, tI, tI] a7 ∧ Rw [tI, tI, tI, tI] a8 ∧ Rw [.sl [.sl [tI]]] a9 ∧ Rw [.sl [tI, tI]] a10 ∧ Rw [.sl [tI]] a11 ∧ Rw [tI, tI, tI] a13 ∧ Rw [tI] a21 ∧ cntRs [a0, a1, a2, a4, a5, a6, a7, a8, a9, a10, a11, a13, a21] ≤ 1048576, [.agg [.s 1 a0, .s 1 a1, .s 2 a2, .v (.int .i64 a3), .s 1 a4, .s 2 a5, .s 3 a6, .s 3 a7, .s 4 a8, .s 1 a9, .s 1 a10, .s 1 a11, .v (.int .i64 a12), .s 3 a13, .v (.int .i64 a14), .v (.int .i64 a15), .v (.int .i64 a16), .v (.int .i64 a17), .v (.bool a18), .v (.int .i64 a19), .v (.int .i64 a20), .s 1 a21, .v (.int .i64 a22), .v (.int .i64 a23)]])
    | _ => none
  | 12 => match ds with
    | [.agg [.s 1 a0, .s 1 a1, .s 2 a2, .v (.int .i64 a3), .s 1 a4, .s 2 a5, .s 3 a6, .s 3 a7, .s 4 a8, .s 1 a9, .s 1 a10, .s 1 a11, .v (.int .i64 a12), .s 3 a13, .v (.int .i64 a14), .v (.int .i64 a15), .v (.int .i64 a16), .v (.int .i64 a17), .v (.bool a18), .v (.int .i64 a19), .v (.int .i64 a20), .s 1 a21, .v (.int .i64 a22), .v (.int .i64 a23)], d] => some (fun _ => d = .agg [.s 1 a0, .s 1 a1, .s 2 a2, .v (.int .i64 a3), .s 1 a4, .s 2 a5, .s 3 a6, .s 3 a7, .s 4 a8, .s 1 a9, .s 1 a10, .s 1 a11, .v (.int .i64 a12), .s 3 a13, .v (.int .i64 a14), .v (.int .i64 a15), .v (.int .i64 a16), .v (.int .i64 a17), .v (.bool a18), .v (.int .i64 a19), .v (.int .i64 a20), .s 1 a21, .v (.int .i64 a22), .v (.int .i64 a23)] ∧ Rw [.sl [tI]] a0 ∧ Rw [tB] a1 ∧ Rw [tI, tI] a2 ∧ Rw [tI] a4 ∧ Rw [tI, tI] a5 ∧ Rw [tI, tI, tI] a6 ∧ Rw [tI, tI, tI] a7 ∧ Rw [tI, tI, tI, tI] a8 ∧ Rw [.sl [.sl [tI]]] a9 ∧ Rw [.sl [tI, tI]] a10 ∧ Rw [.sl [tI]] a11 ∧ Rw [tI, tI, tI] a13 ∧ Rw [tI] a21 ∧ cntRs [a0, a1, a2, a4, a5, a6, a7, a8, a9, a10, a11, a13, a21] ≤ 1099511627776, [.one (.v (.bool true))])
    | _ => none
  | 19 => match ds with
    | [.agg [.s 1 m0, .s 1 m1, .s 2 m2, .v (.int .i64 m3), .s 1 m4, .s 2 m5, .s 3 m6, .s 3 m7, .s 4 m8, .s 1 m9, .s 1 m10, .s 1 m11, .v (.int .i64 m12), .s 3 m13, .v (.int .i64 m14), .v (.int .i64 m15), .v (.int .i64 m16), .v (.int .i64 m17), .v (.bool m18), .v (.int .i64 m19), .v (.int .i64 m20), .s 1 m21, .v (.int .i64 m22), .v (.int .i64 m23)], .one (.v (.int .i64 k))] => some (fun _ => (∃ a0, m0 = mkN0 a0 k ∧ Rw [.sl [tI]] a0 ∧ cntE a0 ≤ 1099511627776) ∧ (∃ a1, m1 = mkN0 a1 (kN0 [m0] k) ∧ Rw [tB] a1 ∧ cntE a1 ≤ 1099511627776) ∧ (∃ a2, m2 = mkN0 a2 (kN0 [m0, m1] k) ∧ Rw [tI, tI] a2 ∧ cntE a2 ≤ 1099511627776) ∧ (∃ a4, m4 = mkN0 a4 (kN0 [m0, m1, m2] k) ∧ Rw [tI] a4 ∧ cntE a4 ≤ 1099511627776) ∧ (∃ a5, m5 = mkN0 a5 (kN0 [m0, m1, m2, m4] k) ∧ Rw [tI, tI] a5 ∧ cntE a5 ≤ 1099511627776) ∧ (∃ a6, m6 = mkN0 a6 (kN0 [m0, m1, m2, m4, m5] k) ∧ Rw [tI, tI, tI] a6 ∧ cntE a6 ≤ 1099511627776) ∧ (∃ a7, m7 = mkN0 a7 (kN0 [m0, m1, m2, m4, m5, m6] k) ∧ Rw [tI, tI, tI] a7 ∧ cntE a7 ≤ 1099511627776) ∧ (∃ a8, m8 = mkN0 a8 (kN0 [m0, m1, m2, m4, m5, m6, m7] k) ∧ Rw [tI, tI, tI, tI] a8 ∧ cntE a8 ≤ 1099511627776) ∧ (∃ a9, m9 = mkN0 a9 (kN0 [m0, m1, m2, m4, m5, m6, m7, m8] k) ∧ Rw [.sl [.sl [tI]]] a9 ∧ cntE a9 ≤ 1099511627776) ∧ (∃ a10, m10 = mkN0 a10 (kN0 [m0, m1, m2, m4, m5, m6, m7, m8, m9] k) ∧ Rw [.sl [tI, tI]] a10 ∧ cntE a10 ≤ 1099511627776) ∧ (∃ a11, m11 = mkN0 a11 (kN0 [m0, m1, m2, m4, m5, m6, m7, m8, m9, m10] k) ∧ Rw [.sl [tI]] a11 ∧ cntE a11 ≤ 1099511627776) ∧ (∃ a13, m13 = mkN0 a13 (kN0 [m0, m1, m2, m4, m5, m6, m7, m8, m9, m10, m11] k) ∧ Rw [tI, tI, tI] a13 ∧ cntE a13 ≤ 1099511627776) ∧ (∃ a21, m21 = mkN0 a21 (kN0 [m0, m1, m2, m4, m5, m6, m7, m8, m9, m10, m11, m13] k) ∧ Rw [tI] a21 ∧ cntE a21 ≤ 1099511627776) ∧ 0 ≤ k ∧ kN0 [m0, m1, m2, m4, m5, m6, m7, m8, m9, m10, m11, m13, m21] k ≤ 1152921504606846976, [.one (.v (.int .i64 (F.kN [m0, m1, m2, m4, m5, m6, m7, m8, m9, m10, m11, m13, m21] k)))])
    | _ => none
  | 96 => match ds with
    | [.agg [.v (.int .i64 a0), .s 2 a1], d] => some (fun _ => d = .agg [.v (.int .i64 a0), .s 2 a1] ∧ Rw [tI, .sl [tI]] a1 ∧ cntRs [a1] ≤ 1099511627776, [.one (.v (.bool true))])
    | _ => none
  | 98 => match ds with
    | [.agg [.v (.int .i64 m0), .s 2 m1], .one (.v (.int .i64 k))] => some (fun _ => (∃ a1, m1 = mkN0 a1 k ∧ Rw [tI, .sl [tI]] a1 ∧ cntE a1 ≤ 1099511627776) ∧ 0 ≤ k ∧ kN0 [m1] k ≤ 1152921504606846976, [.one (.v (.int .i64 (F.kN [m1] k)))])
    | _ => none
  | _ => none
theorem ct_ok : CTok Tryz.prog (ct F0) := by
  intro f ds pre res h hp
  unfold ct at h
  split at h
  · split at h
    · cases h; exact c_laws_szHeap _ _ _ _ _ _ _ _ _ _ _ _ _ _ _ _ _ _ _ _ _ _ _ _ _ hp
    · cases h
  · split at h
    · cases h; exact c_laws_toHeap _ _ _ _ _ _ _ _ _ _ _ _ _ _ _ _ _ _ _ _ _ _ _ _ hp
    · cases h
  · split at h
    · cases h; exact c_laws_eqHeap _ _ _ _ _ _ _ _ _ _ _ _ _ _ _ _ _ _ _ _ _ _ _ _ _ hp
    · cases h
  · split at h
    · cases h; exact c_laws_heldHeap _ _ _ _ _ _ _ _ _ _ _ _ _ _ _ _ _ _ _ _ _ _ _ _ _ hp
    · cases h
  · split at h
    · cases h; exact c_laws_eqRefHeap _ _ _ hp
    · cases h
  · split at h
    · cases h; exact c_laws_heldRefHeap _ _ _ hp
    · cases h
  · cases h
def mt (F : Fns) : MT := fun f => match f with
  | 13 => some fun ds => match ds with
    | [.agg [.s 1 a0, .s 1 a1, .s 2 a2, .v (.int .i64 a3), .s 1 a4, .s 2 a5, .s 3 a6, .s 3 a7, .s 4 a8, .s 1 a9, .s 1 a10, .s 1 a11, .v (.int .i64 a12), .s 3 a13, .v (.int .i64 a14), .v (.int .i64 a15), .v (.int .i64 a16), .v (.int .i64 a17), .v (.bool a18), .v (.int .i64 a19), .v (.int .i64 a20), .s 1 a21, .v (.int .i64 a22), .v (.int .i64 a23)], .one (.v (.int .i64 k))] => some (fun _ => Rw [.sl [tI]] a0 ∧ Rw [tB] a1 ∧ Rw [tI, tI] a2 ∧ Rw [tI] a4 ∧ Rw [tI, tI] a5 ∧ Rw [tI, tI, tI] a6 ∧ Rw [tI, tI, tI] a7 ∧ Rw [tI, tI, tI, tI] a8 ∧ Rw [.sl [.sl [tI]]] a9 ∧ Rw [.sl [tI, tI]] a10 ∧ Rw [.sl [tI]] a11 ∧ Rw [tI, tI, tI] a13 ∧ Rw [tI] a21 ∧ cntRs [a0, a1, a2, a4, a5, a6, a7, a8, a9, a10, a11, a13, a21] ≤ 1099511627776 ∧ 0 ≤ k ∧ kN0 [a0, a1, a2, a4, a5, a6, a7, a8, a9, a10, a11, a13, a21] k ≤ 1152921504606846976, [.s 1 (F.mkN a0 k), .s 1 (F.mkN a1 (F.kN [a0] k)), .s 2 (F.mkN a2 (F.kN [a0, a1] k)), .s 1 (F.mkN a4 (F.kN [a0, a1, a2] k)), .s 2 (F.mkN a5 (F.kN [a0, a1, a2, a4] k)), .s 3 (F.mkN a6 (F.kN [a0, a1, a2, a4, a5] k)), .s 3 (F.mkN a7 (F.kN [a0, a1, a2, a4, a5, a6] k)), .s 4 (F.mkN a8 (F.kN [a0, a1, a2, a4, a5, a6, a7] k)), .s 1 (F.mkN a9 (F.kN [a0, a1, a2, a4, a5, a6, a7, a8] k)), .s 1 (F.mkN a10 (F.kN [a0, a1, a2, a4, a5, a6, a7, a8, a9] k)), .s 1 (F.mkN a11 (F.kN [a0, a1, a2, a4, a5, a6, a7, a8, a9, a10] k)), .s 3 (F.mkN a13 (F.kN [a0, a1, a2, a4, a5, a6, a7, a8, a9, a10, a11] k)), .s 1 (F.mkN a21 (F.kN [a0, a1, a2, a4, a5, a6, a7, a8, a9, a10, a11, a13] k))], [.one (.v (.int .i64 (F.kN [a0, a1, a2, a4, a5, a6, a7, a8, a9, a10, a11, a13, a21] k)))])
    | _ => none
  | 97 => some fun ds => match ds with
    | [.agg [.v (.int .i64 a0), .s 2 a1], .one (.v (.int .i64 k))] => some (fun _ => Rw [tI, .sl [tI]] a1 ∧ cntRs [a1] ≤ 1099511627776 ∧ 0 ≤ k ∧ kN0 [a1] k ≤ 1152921504606846976, [.s 2 (F.mkN a1 k)], [.one (.v (.int .i64 (F.kN [a1] k)))])
    | _ => none
  | _ => none
theorem mt_ok : MTok Tryz.prog (mt F0) := by
  intro f mk h ds pre outs res hm hp
  unfold mt at h
  split at h
  · cases h; dsimp only at hm; split at hm
    · cases hm; exact c_laws_markHeap _ _ _ _ _ _ _ _ _ _ _ _ _ _ _ _ _ _ _ _ _ _ _ _ _ hp
    · cases hm
  · cases h; dsimp only at hm; split at hm
    · cases hm; exact c_laws_markRefHeap _ _ _ hp
    · cases hm
  · cases h
def pt : Fns → PT := noPT
theorem pt_ok : PTok Tryz.prog (pt F0) := noPT_ok
end LWorld
theorem c_laws_eqWorld (a0 : List (List L)) (a1 : List (List L)) (a2 : List (List L)) (a3 : Int) (a4 : List (List L)) (a5 : List (List L)) (a6 : List (List L)) (a7 : List (List L)) (a8 : List (List L)) (a9 : List (List L)) (a10 : List (List L)) (a11 : List (List L)) (a12 : Int) (a13 : List (List L)) (a14 : Int) (a15 : Int) (a16 : Int) (a17 : Int) (a18 : Bool) (a19 : Int) (a20 : Int) (a21 : List (List L)) (a22 : Int) (a23 : Int) (a24 : Int) (a25 : List (List L)) (d : DV) (hp : d = .agg [.s 1 a0, .s 1 a1, .s 2 a2, .v (.int .i64 a3), .s 1 a4, .s 2 a5, .s 3 a6, .s 3 a7, .s 4 a8, .s 1 a9, .s 1 a10, .s 1 a11, .v (.int .i64 a12), .s 3 a13, .v (.int .i64 a14), .v (.int .i64 a15), .v (.int .i64 a16), .v (.int .i64 a17), .v (.bool a18), .v (.int .i64 a19), .v (.int .i64 a20), .s 1 a21, .v (.int .i64 a22), .v (.int .i64 a23), .v (.int .i64 a24), .s 2 a25] ∧ Rw [.sl [tI]] a0 ∧ Rw [tB] a1 ∧ Rw [tI, tI] a2 ∧ Rw [tI] a4 ∧ Rw [tI, tI] a5 ∧ Rw [tI, tI, tI] a6 ∧ Rw [tI, tI, tI] a7 ∧ Rw [tI, tI, tI, tI] a8 ∧ Rw [.sl [.sl [tI]]] a9 ∧ Rw [.sl [tI, tI]] a10 ∧ Rw [.sl [tI]] a11 ∧ Rw [tI, tI, tI] a13 ∧ Rw [tI] a21 ∧ Rw [tI, .sl [tI]] a25 ∧ cntRs [a0, a1, a2, a4, a5, a6, a7, a8, a9, a10, a11, a13, a21, a25] ≤ 1099511627776) : Ctr Tryz.prog 29 [.agg [.s 1 a0, .s 1 a1, .s 2 a2, .v (.int .i64 a3), .s 1 a4, .s 2 a5, .s 3 a6, .s 3 a7, .s 4 a8, .s 1 a9, .s 1 a10, .s 1 a11, .v (.int .i64 a12), .s 3 a13, .v (.int .i64 a14), .v (.int .i64 a15), .v (.int .i64 a16), .v (.int .i64 a17), .v (.bool a18), .v (.int .i64 a19), .v (.int .i64 a20), .s 1 a21, .v (.int .i64 a22), .v (.int .i64 a23), .v (.int .i64 a24), .s 2 a25], d] [.one (.v (.bool true))] := by
  obtain ⟨rfl, w0, w1, w2, w3, w4, w5, w6, w7, w8, w9, w10, w11, w12, w13, hlim⟩ := hp
  simp only [cntRs, Nat.add_zero] at hlim
  refine ctr_of (ctF := LWorld.ct) (mtF := LWorld.mt) (ptF := LWorld.pt) (F0 := LWorld.F0) tabOk LWorld.ct_ok LWorld.mt_ok LWorld.pt_ok mixed 17 _ [4] [.tmp 4] Tryz.func29 rfl rfl rfl rfl rfl ?_
  intro O r F hO hr hF
  cbv
  repeat' first | refine And.intro ?_ ?_ | (refine caseB_intro (fun hb => ?_) (fun hb => ?_) <;> cbv)
  all_goals ((try subst hos); subst hO hr hF; (try simp only [stdO, SS, sub_all, ad_zero] at *); (try simp only [ncast] at *); (try simp only [Int.ofNat_eq_natCast] at *))
  all_goals (try simp only [LWorld.F0] at *)
  all_goals first
    | trivial
    | exact rfl
    | exact absurd rfl hb
    | exact absurd rfl (by assumption)
    | (refine ⟨trivial, by assumption, ?_⟩; (try simp only [cntRs, Nat.add_zero]); omega)
    | (refine ⟨trivial, by assumption, by assumption, ?_⟩; (try simp only [cntRs, Nat.add_zero]); omega)
    | (refine ⟨trivial, by assumption, by assumption, by assumption, ?_⟩; (try simp only [cntRs, Nat.add_zero]); omega)
    | (refine ⟨trivial, by assumption, by assumption, by assumption, by assumption, ?_⟩; (try simp only [cntRs, Nat.add_zero]); omega)
    | (refine ⟨trivial, by assumption, by assumption, by assumption, by assumption, by assumption, ?_⟩; (try simp only [cntRs, Nat.add_zero]); omega)
    | (refine ⟨trivial, by assumption, by assumption, by assumption, by assumption, by assumption, by assumption, ?_⟩; (try simp only [cntRs, Nat.add_zero]); omega)
    | (refine ⟨trivial, by assumption, by assumption, by assumption, by assumption, by assumption, by assumption, by assumption, ?_⟩; (try simp only [cntRs, Nat.add_zero]); omega)
    | (refine ⟨trivial, by assumption, by assumption, by assumption, by assumption, by assumption, by assumption, by assumption, by assumption, ?_⟩; (try simp only [cntRs, Nat.add_zero]); omega)
    | (refine ⟨trivial, by assumption, by assumption, by assumption, by assumption, by assumption, by assumption, by assumption, by assumption, by assumption, ?_⟩; (try simp only [cntRs, Nat.add_zero]); omega)
    | (refine ⟨trivial, by assumption, by assumption, by assumption, by assumption, by assumption, by assumption, by assumption, by assumption, by assumption, by assumption, ?_⟩; (try simp only [cntRs, Nat.add_zero]); omega)
    | (refine ⟨trivial, by assumption, by assumption, by assumption, by assumption, by assumption, by assumption, by assumption, by assumption, by assumption, by assumption, by assumption, ?_⟩; (try simp only [cntRs, Nat.add_zero]); omega)
    | (refine ⟨trivial, by assumption, by assumption, by assumption, by assumption, by assumption, by assumption, by assumption, by assumption, by assumption, by assumption, by assumption, by assumption, ?_⟩; (try simp only [cntRs, Nat.add_zero]); omega)
    | (refine ⟨trivial, by assumption, by assumption, by assumption, by assumption, by assumption, by assumption, by assumption, by assumption, by assumption, by assumption, by assumption, by assumption, by assumption, ?_⟩; (try simp only [cntRs, Nat.add_zero]); omega)
    | (refine ⟨trivial, by assumption, by assumption, by assumption, by assumption, by assumption, by assumption, by assumption, by assumption, by assumption, by assumption, by assumption, by assumption, by assumption, by assumption, ?_⟩; (try simp only [cntRs, Nat.add_zero]); omega)
    | (refine ⟨trivial, ?_⟩; (try simp only [cntRs, Nat.add_zero]); omega)
    | trace_state
theorem c_laws_markWorld (a0 : List (List L)) (a1 : List (List L)) (a2 : List (List L)) (a3 : Int) (a4 : List (List L)) (a5 : List (List L)) (a6 : List (List L)) (a7 : List (List L)) (a8 : List (List L)) (a9 : List (List L)) (a10 : List (List L)) (a11 : List (List L)) (a12 : Int) (a13 : List (List L)) (a14 : Int) (a15 : Int) (a16 : Int) (a17 : Int) (a18 : Bool) (a19 : Int) (a20 : Int) (a21 : List (List L)) (a22 : Int) (a23 : Int) (a24 : Int) (a25 : List (List L)) (k : Int) (hp : Rw [.sl [tI]] a0 ∧ Rw [tB] a1 ∧ Rw [tI, tI] a2 ∧ Rw [tI] a4 ∧ Rw [tI, tI] a5 ∧ Rw [tI, tI, tI] a6 ∧ Rw [tI, tI, tI] a7 ∧ Rw [tI, tI, tI, tI] a8 ∧ Rw [.sl [.sl [tI]]] a9 ∧ Rw [.sl [tI, tI]] a10 ∧ Rw [.sl [tI]] a11 ∧ Rw [tI, tI, tI] a13 ∧ Rw [tI] a21 ∧ Rw [tI, .sl [tI]] a25 ∧ cntRs [a0, a1, a2, a4, a5, a6, a7, a8, a9, a10, a11, a13, a21, a25] ≤ 1099511627776 ∧ 0 ≤ k ∧ kN0 [a0, a1, a2, a4, a5, a6, a7, a8, a9, a10, a11, a13, a21, a25] k ≤ 1152921504606846976) : MCtr Tryz.prog 32 [.agg [.s 1 a0, .s 1 a1, .s 2 a2, .v (.int .i64 a3), .s 1 a4, .s 2 a5, .s 3 a6, .s 3 a7, .s 4 a8, .s 1 a9, .s 1 a10, .s 1 a11, .v (.int .i64 a12), .s 3 a13, .v (.int .i64 a14), .v (.int .i64 a15), .v (.int .i64 a16), .v (.int .i64 a17), .v (.bool a18), .v (.int .i64 a19), .v (.int .i64 a20), .s 1 a21, .v (.int .i64 a22), .v (.int .i64 a23), .v (.int .i64 a24), .s 2 a25], .one (.v (.int .i64 k))] [.s 1 (mkN0 a0 k), .s 1 (mkN0 a1 (kN0 [a0] k)), .s 2 (mkN0 a2 (kN0 [a0, a1] k)), .s 1 (mkN0 a4 (kN0 [a0, a1, a2] k)), .s 2 (mkN0 a5 (kN0 [a0, a1, a2, a4] k)), .s 3 (mkN0 a6 (kN0 [a0, a1, a2, a4, a5] k)), .s 3 (mkN0 a7 (kN0 [a0, a1, a2, a4, a5, a6] k)), .s 4 (mkN0 a8 (kN0 [a0, a1, a2, a4, a5, a6, a7] k)), .s 1 (mkN0 a9 (kN0 [a0, a1, a2, a4, a5, a6, a7, a8] k)), .s 1 (mkN0 a10 (kN0 [a0, a1, a2, a4, a5, a6, a7, a8, a9] k)), .s 1 (mkN0 a11 (kN0 [a0, a1, a2, a4, a5, a6, a7, a8, a9, a10] k)), .s 3 (mkN0 a13 (kN0 [a0, a1, a2, a4, a5, a6, a7, a8, a9, a10, a11] k)), .s 1 (mkN0 a21 (kN0 [a0, a1, a2, a4, a5, a6, a7, a8, a9, a10, a11, a13] k)), .s 2 (mkN0 a25 (kN0 [a0, a1, a2, a4, a5, a6, a7, a8, a9, a10, a11, a13, a21] k))] [.one (.v (.int .i64 (kN0 [a0, a1, a2, a4, a5, a6, a7, a8, a9, a10, a11, a13, a21, a25] k)))] := by
  obtain ⟨w0, w1, w2, w3, w4, w5, w6, w7, w8, w9, w10, w11, w12, w13, hlim, hk0, hkb⟩ := hp
  simp only [cntRs, Nat.add_zero] at hlim
  have p0 : kN0 [a0] k ≤ kN0 [a0, a1, a2, a4, a5, a6, a7, a8, a9, a10, a11, a13, a21, a25] k ∧ 0 ≤ kN0 [a0] k := kN_pre (b := [a1, a2, a4, a5, a6, a7, a8, a9, a10, a11, a13, a21, a25]) hk0
  have p1 : kN0 [a0, a1] k ≤ kN0 [a0, a1, a2, a4, a5, a6, a7, a8, a9, a10, a11, a13, a21, a25] k ∧ 0 ≤ kN0 [a0, a1] k := kN_pre (b := [a2, a4, a5, a6, a7, a8, a9, a10, a11, a13, a21, a25]) hk0
  have p2 : kN0 [a0, a1, a2] k ≤ kN0 [a0, a1, a2, a4, a5, a6, a7, a8, a9, a10, a11, a13, a21, a25] k ∧ 0 ≤ kN0 [a0, a1, a2] k := kN_pre (b := [a4, a5, a6, a7, a8, a9, a10, a11, a13, a21, a25]) hk0
  have p3 : kN0 [a0, a1, a2, a4] k ≤ kN0 [a0, a1, a2, a4, a5, a6, a7, a8, a9, a10, a11, a13, a21, a25] k ∧ 0 ≤ kN0 [a0, a1, a2, a4] k := kN_pre (b := [a5, a6, a7, a8, a9, a10, a11, a13, a21, a25]) hk0
  have p4 : kN0 [a0, a1, a2, a4, a5] k ≤ kN0 [a0, a1, a2, a4, a5, a6, a7, a8, a9, a10, a11, a13, a21, a25] k ∧ 0 ≤ kN0 [a0, a1, a2, a4, a5] k := kN_pre (b := [a6, a7, a8, a9, a10, a11, a13, a21, a25]) hk0
  have p5 : kN0 [a0, a1, a2, a4, a5, a6] k ≤ kN0 [a0, a1, a2, a4, a5, a6, a7, a8, a9, a10, a11, a13, a21, a25] k ∧ 0 ≤ kN0 [a0, a1, a2, a4, a5, a6] k := kN_pre (b := [a7, a8, a9, a10, a11, a13, a21, a25]) hk0
  have p6 : kN0 [a0, a1, a2, a4, a5, a6, a7] k ≤ kN0 [a0, a1, a2, a4, a5, a6, a7, a8, a9, a10, a11, a13, a21, a25] k ∧ 0 ≤ kN0 [a0, a1, a2, a4, a5, a6, a7] k := kN_pre (b := [a8, a9, a10, a11, a13, a21, a25]) hk0
  have p7 : kN0 [a0, a1, a2, a4, a5, a6, a7, a8] k ≤ kN0 [a0, a1, a2, a4, a5, a6, a7, a8, a9, a10, a11, a13, a21, a25] k ∧ 0 ≤ kN0 [a0, a1, a2, a4, a5, a6, a7, a8] k := kN_pre (b := [a9, a10, a11, a13, a21, a25]) hk0
  have p8 : kN0 [a0, a1, a2, a4, a5, a6, a7, a8, a9] k ≤ kN0 [a0, a1, a2, a4, a5, a6, a7, a8, a9, a10, a11, a13, a21, a25] k ∧ 0 ≤ kN0 [a0, a1, a2, a4, a5, a6, a7, a8, a9] k := kN_pre (b := [a10, a11, a13, a21, a25]) hk0
  have p9 : kN0 [a0, a1, a2, a4, a5, a6, a7, a8, a9, a10] k ≤ kN0 [a0, a1, a2, a4, a5, a6, a7, a8, a9, a10, a11, a13, a21, a25] k ∧ 0 ≤ kN0 [a0, a1, a2, a4, a5, a6, a7, a8, a9, a10] k := kN_pre (b := [a11, a13, a21, a25]) hk0
  have p10 : kN0 [a0, a1, a2, a4, a5, a6, a7, a8, a9, a10, a11] k ≤ kN0 [a0, a1, a2, a4, a5, a6, a7, a8, a9, a10, a11, a13, a21, a25] k ∧ 0 ≤ kN0 [a0, a1, a2, a4, a5, a6, a7, a8, a9, a10, a11] k := kN_pre (b := [a13, a21, a25]) hk0
  have p11 : kN0 [a0, a1, a2, a4, a5, a6, a7, a8, a9, a10, a11, a13] k ≤ kN0 [a0, a1, a2, a4, a5, a6, a7, a8, a9, a10, a11, a13, a21, a25] k ∧ 0 ≤ kN0 [a0, a1, a2, a4, a5, a6, a7, a8, a9, a10, a11, a13] k := kN_pre (b := [a21, a25]) hk0
  have p12 : kN0 [a0, a1, a2, a4, a5, a6, a7, a8, a9, a10, a11, a13, a21] k ≤ kN0 [a0, a1, a2, a4, a5, a6, a7, a8, a9, a10, a11, a13, a21, a25] k ∧ 0 ≤ kN0 [a0, a1, a2, a4, a5, a6, a7, a8, a9, a10, a11, a13, a21] k := kN_pre (b := [a25]) hk0
  have p13 : kN0 [a0, a1, a2, a4, a5, a6, a7, a8, a9, a10, a11, a13, a21, a25] k ≤ kN0 [a0, a1, a2, a4, a5, a6, a7, a8, a9, a10, a11, a13, a21, a25] k ∧ 0 ≤ kN0 [a0, a1, a2, a4, a5, a6, a7, a8, a9, a10, a11, a13, a21, a25] k := kN_pre (b := []) hk0
  refine mctr_of (ctF := LWorld.ct) (mtF := LWorld.mt) (ptF := LWorld.pt) (F0 := LWorld.F0) tabOk LWorld.ct_ok LWorld.mt_ok LWorld.pt_ok mixed 14 _ [3] [.tmp 4] [(2, 0), (2, 1), (2, 2), (2, 4), (2, 5), (2, 6), (2, 7), (2, 8), (2, 9), (2, 10), (2, 11), (2, 13), (2, 21), (2, 25)] Tryz.func32 rfl rfl rfl rfl rfl rfl rfl ?_
  intro O r os F hO hr hos hF
  cbv
  repeat' first | refine And.intro ?_ ?_ | (refine caseB_intro (fun hb => ?_) (fun hb => ?_) <;> cbv)
  all_goals ((try subst hos); subst hO hr hF; (try simp only [stdO, SS, sub_all, ad_zero] at *); (try simp only [ncast] at *); (try simp only [Int.ofNat_eq_natCast] at *))
  all_goals (try simp only [LWorld.F0] at *)
  all_goals (try simp only [kN_app, List.cons_append, List.nil_append, mkN_length] at *)
  all_goals first
    | trivial
    | exact rfl
    | exact ⟨trivial, trivial⟩
    | exact ⟨rfl, rfl⟩
    | (refine ⟨by assumption, ?_, ?_, ?_⟩ <;> (try simp only [kN_app, List.cons_append, List.nil_append, cntRs, Nat.add_zero]) <;> omega)
    | (refine ⟨by assumption, by assumption, ?_, ?_, ?_⟩ <;> (try simp only [kN_app, List.cons_append, List.nil_append, cntRs, Nat.add_zero]) <;> omega)
    | (refine ⟨by assumption, by assumption, by assumption, ?_, ?_, ?_⟩ <;> (try simp only [kN_app, List.cons_append, List.nil_append, cntRs, Nat.add_zero]) <;> omega)
    | (refine ⟨by assumption, by assumption, by assumption, by assumption, ?_, ?_, ?_⟩ <;> (try simp only [kN_app, List.cons_append, List.nil_append, cntRs, Nat.add_zero]) <;> omega)
    | (refine ⟨by assumption, by assumption, by assumption, by assumption, by assumption, ?_, ?_, ?_⟩ <;> (try simp only [kN_app, List.cons_append, List.nil_append, cntRs, Nat.add_zero]) <;> omega)
    | (refine ⟨by assumption, by assumption, by assumption, by assumption, by assumption, by assumption, ?_, ?_, ?_⟩ <;> (try simp only [kN_app, List.cons_append, List.nil_append, cntRs, Nat.add_zero]) <;> omega)
    | (refine ⟨by assumption, by assumption, by assumption, by assumption, by assumption, by assumption, by assumption, ?_, ?_, ?_⟩ <;> (try simp only [kN_app, List.cons_append, List.nil_append, cntRs, Nat.add_zero]) <;> omega)
    | (refine ⟨by assumption, by assumption, by assumption, by assumption, by assumption, by assumption, by assumption, by assumption, ?_, ?_, ?_⟩ <;> (try simp only [kN_app, List.cons_append, List.nil_append, cntRs, Nat.add_zero]) <;> omega)
    | (refine ⟨by assumption, by assumption, by assumption, by assumption, by assumption, by assumption, by assumption, by assumption, by assumption, ?_, ?_, ?_⟩ <;> (try simp only [kN_app, List.cons_append, List.nil_append, cntRs, Nat.add_zero]) <;> omega)
    | (refine ⟨by assumption, by assumption, by assumption, by assumption, by assumption, by assumption, by assumption, by assumption, by assumption, by assumption, ?_, ?_, ?_⟩ <;> (try simp only [kN_app, List.cons_append, List.nil_append, cntRs, Nat.add_zero]) <;> omega)
    | (refine ⟨by assumption, by assumption, by assumption, by assumption, by assumption, by assumption, by assumption, by assumption, by assumption, by assumption, by assumption, ?_, ?_, ?_⟩ <;> (try simp only [kN_app, List.cons_append, List.nil_append, cntRs, Nat.add_zero]) <;> omega)
    | (refine ⟨by assumption, by assumption, by assumption, by assumption, by assumption, by assumption, by assumption, by assumption, by assumption, by assumption, by assumption, by assumption, ?_, ?_, ?_⟩ <;> (try simp only [kN_app, List.cons_append, List.nil_append, cntRs, Nat.add_zero]) <;> omega)
    | (refine ⟨by assumption, by assumption, by assumption, by assumption, by assumption, by assumption, by assumption, by assumption, by assumption, by assumption, by assumption, by assumption, by assumption, ?_, ?_, ?_⟩ <;> (try simp only [kN_app, List.cons_append, List.nil_append, cntRs, Nat.add_zero]) <;> omega)
    | (refine ⟨by assumption, by assumption, by assumption, by assumption, by assumption, by assumption, by assumption, by assumption, by assumption, by assumption, by assumption, by assumption, by assumption, by assumption, ?_, ?_, ?_⟩ <;> (try simp only [kN_app, List.cons_append, List.nil_append, cntRs, Nat.add_zero]) <;> omega)
    | trace_state
theorem c_laws_heldWorld (m0 : List (List L)) (m1 : List (List L)) (m2 : List (List L)) (m3 : Int) (m4 : List (List L)) (m5 : List (List L)) (m6 : List (List L)) (m7 : List (List L)) (m8 : List (List L)) (m9 : List (List L)) (m10 : List (List L)) (m11 : List (List L)) (m12 : Int) (m13 : List (List L)) (m14 : Int) (m15 : Int) (m16 : Int) (m17 : Int) (m18 : Bool) (m19 : Int) (m20 : Int) (m21 : List (List L)) (m22 : Int) (m23 : Int) (m24 : Int) (m25 : List (List L)) (k : Int) (hp : (∃ a0, m0 = mkN0 a0 k ∧ Rw [.sl [tI]] a0 ∧ cntE a0 ≤ 1099511627776) ∧ (∃ a1, m1 = mkN0 a1 (kN0 [m0] k) ∧ Rw [tB] a1 ∧ cntE a1 ≤ 1099511627776) ∧ (∃ a2, m2 = mkN0 a2 (kN0 [m0, m1] k) ∧ Rw [tI, tI] a2 ∧ cntE a2 ≤ 1099511627776) ∧ (∃ a4, m4 = mkN0 a4 (kN0 [m0, m1, m2] k) ∧ Rw [tI] a4 ∧ cntE a4 ≤ 1099511627776) ∧ (∃ a5, m5 = mkN0 a5 (kN0 [m0, m1, m2, m4] k) ∧ Rw [tI, tI] a5 ∧ cntE a5 ≤ 1099511627776) ∧ (∃ a6, m6 = mkN0 a6 (kN0 [m0, m1, m2, m4, m5] k) ∧ Rw [tI, tI, tI] a6 ∧ cntE a6 ≤ 1099511627776) ∧ (∃ a7, m7 = mkN0 a7 (kN0 [m0, m1, m2, m4, m5, m6] k) ∧ Rw [tI, tI, tI] a7 ∧ cntE a7 ≤ 1099511627776) ∧ (∃ a8, m8 = mkN0 a8 (kN0 [m0, m1, m2, m4, m5, m6, m7] k) ∧ Rw [tI, tI, tI, tI] a8 ∧ cntE a8 ≤ 1099511627776) ∧ (∃ a9, m9 = mkN0 a9 (kN0 [m0, m1, m2, m4, m5, m6, m7, m8] k) ∧ Rw [.sl [.sl [tI]]] a9 ∧ cntE a9 ≤ 1099511627776) ∧ (∃ a10, m10 = mkN0 a10 (kN0 [m0, m1, m2, m4, m5, m6, m7, m8, m9] k) ∧ Rw [.sl [tI, tI]] a10 ∧ cntE a10 ≤ 1099511627776) ∧ (∃ a11, m11 = mkN0 a11 (kN0 [m0, m1, m2, m4, m5, m6, m7, m8, m9, m10] k) ∧ Rw [.sl [tI]] a11 ∧ cntE a11 ≤ 1099511627776) ∧ (∃ a13, m13 = mkN0 a13 (kN0 [m0, m1, m2, m4, m5, m6, m7, m8, m9, m10, m11] k) ∧ Rw [tI, tI, tI] a13 ∧ cntE a13 ≤ 1099511627776) ∧ (∃ a21, m21 = mkN0 a21 (kN0 [m0, m1, m2, m4, m5, m6, m7, m8, m9, m10, m11, m13] k) ∧ Rw [tI] a21 ∧ cntE a21 ≤ 1099511627776) ∧ (∃ a25, m25 = mkN0 a25 (kN0 [m0, m1, m2, m4, m5, m6, m7, m8, m9, m10, m11, m13, m21] k) ∧ Rw [tI, .sl [tI]] a25 ∧ cntE a25 ≤ 1099511627776) ∧ 0 ≤ k ∧ kN0 [m0, m1, m2, m4, m5, m6, m7, m8, m9, m10, m11, m13, m21, m25] k ≤ 1152921504606846976) : Ctr Tryz.prog 33 [.agg [.s 1 m0, .s 1 m1, .s 2 m2, .v (.int .i64 m3), .s 1 m4, .s 2 m5, .s 3 m6, .s 3 m7, .s 4 m8, .s 1 m9, .s 1 m10, .s 1 m11, .v (.int .i64 m12), .s 3 m13, .v (.int .i64 m14), .v (.int .i64 m15), .v (.int .i64 m16), .v (.int .i64 m17), .v (.bool m18), .v (.int .i64 m19), .v (.int .i64 m20), .s 1 m21, .v (.int .i64 m22), .v (.int .i64 m23), .v (.int .i64 m24), .s 2 m25], .one (.v (.int .i64 k))] [.one (.v (.int .i64 (kN0 [m0, m1, m2, m4, m5, m6, m7, m8, m9, m10, m11, m13, m21, m25] k)))] := by
  obtain ⟨e0, e1, e2, e3, e4, e5, e6, e7, e8, e9, e10, e11, e12, e13, hk0, hkb⟩ := hp
  have p0 : kN0 [m0] k ≤ kN0 [m0, m1, m2, m4, m5, m6, m7, m8, m9, m10, m11, m13, m21, m25] k ∧ 0 ≤ kN0 [m0] k := kN_pre (b := [m1, m2, m4, m5, m6, m7, m8, m9, m10, m11, m13, m21, m25]) hk0
  have p1 : kN0 [m0, m1] k ≤ kN0 [m0, m1, m2, m4, m5, m6, m7, m8, m9, m10, m11, m13, m21, m25] k ∧ 0 ≤ kN0 [m0, m1] k := kN_pre (b := [m2, m4, m5, m6, m7, m8, m9, m10, m11, m13, m21, m25]) hk0
  have p2 : kN0 [m0, m1, m2] k ≤ kN0 [m0, m1, m2, m4, m5, m6, m7, m8, m9, m10, m11, m13, m21, m25] k ∧ 0 ≤ kN0 [m0, m1, m2] k := kN_pre (b := [m4, m5, m6, m7, m8, m9, m10, m11, m13, m21, m25]) hk0
  have p3 : kN0 [m0, m1, m2, m4] k ≤ kN0 [m0, m1, m2, m4, m5, m6, m7, m8, m9, m10, m11, m13, m21, m25] k ∧ 0 ≤ kN0 [m0, m1, m2, m4] k := kN_pre (b := [m5, m6, m7, m8, m9, m10, m11, m13, m21, m25]) hk0
  have p4 : kN0 [m0, m1, m2, m4, m5] k ≤ kN0 [m0, m1, m2, m4, m5, m6, m7, m8, m9, m10, m11, m13, m21, m25] k ∧ 0 ≤ kN0 [m0, m1, m2, m4, m5] k := kN_pre (b := [m6, m7, m8, m9, m10, m11, m13, m21, m25]) hk0
  have p5 : kN0 [m0, m1, m2, m4, m5, m6] k ≤ kN0 [m0, m1, m2, m4, m5, m6, m7, m8, m9, m10, m11, m13, m21, m25] k ∧ 0 ≤ kN0 [m0, m1, m2, m4, m5, m6] k := kN_pre (b := [m7, m8, m9, m10, m11, m13, m21, m25]) hk0
  have p6 : kN0 [m0, m1, m2, m4, m5, m6, m7] k ≤ kN0 [m0, m1, m2, m4, m5, m6, m7, m8, m9, m10, m11, m13, m21, m25] k ∧ 0 ≤ kN0 [m0, m1, m2, m4, m5, m6, m7] k := kN_pre (b := [m8, m9, m10, m11, m13, m21, m25]) hk0
  have p7 : kN0 [m0, m1, m2, m4, m5, m6, m7, m8] k ≤ kN0 [m0, m1, m2, m4, m5, m6, m7, m8, m9, m10, m11, m13, m21, m25] k ∧ 0 ≤ kN0 [m0, m1, m2, m4, m5, m6, m7, m8] k := kN_pre (b := [m9, m10, m11, m13, m21, m25]) hk0
  have p8 : kN0 [m0, m1, m2, m4, m5, m6, m7, m8, m9] k ≤ kN0 [m0, m1, m2, m4, m5, m6, m7, m8, m9, m10, m11, m13, m21, m25] k ∧ 0 ≤ kN0 [m0, m1, m2, m4, m5, m6, m7, m8, m9] k := kN_pre (b := [m10, m11, m13, m21, m25]) hk0
  have p9 : kN0 [m0, m1, m2, m4, m5, m6, m7, m8, m9, m10] k ≤ kN0 [m0, m1, m2, m4, m5, m6, m7, m8, m9, m10, m11, m13, m21, m25] k ∧ 0 ≤ kN0 [m0, m1, m2, m4, m5, m6, m7, m8, m9, m10] k := kN_pre (b := [m11, m13, m21, m25]) hk0
  have p10 : kN0 [m0, m1, m2, m4, m5, m6, m7, m8, m9, m10, m11] k ≤ kN0 [m0, m1, m2, m4, m5, m6, m7, m8, m9, m10, m11, m13, m21, m25] k ∧ 0 ≤ kN0 [m0, m1, m2, m4, m5, m6, m7, m8, m9, m10, m11] k := kN_pre (b := [m13, m21, m25]) hk0
  have p11 : kN0 [m0, m1, m2, m4, m5, m6, m7, m8, m9, m10, m11, m13] k ≤ kN0 [m0, m1, m2, m4, m5, m6, m7, m8, m9, m10, m11, m13, m21, m25] k ∧ 0 ≤ kN0 [m0, m1, m2, m4, m5, m6, m7, m8, m9, m10, m11, m13] k := kN_pre (b := [m21, m25]) hk0
  have p12 : kN0 [m0, m1, m2, m4, m5, m6, m7, m8, m9, m10, m11, m13, m21] k ≤ kN0 [m0, m1, m2, m4, m5, m6, m7, m8, m9, m10, m11, m13, m21, m25] k ∧ 0 ≤ kN0 [m0, m1, m2, m4, m5, m6, m7, m8, m9, m10, m11, m13, m21] k := kN_pre (b := [m25]) hk0
  have p13 : kN0 [m0, m1, m2, m4, m5, m6, m7, m8, m9, m10, m11, m13, m21, m25] k ≤ kN0 [m0, m1, m2, m4, m5, m6, m7, m8, m9, m10, m11, m13, m21, m25] k ∧ 0 ≤ kN0 [m0, m1, m2, m4, m5, m6, m7, m8, m9, m10, m11, m13, m21, m25] k := kN_pre (b := []) hk0
  refine ctr_of (ctF := LWorld.ct) (mtF := LWorld.mt) (ptF := LWorld.pt) (F0 := LWorld.F0) tabOk LWorld.ct_ok LWorld.mt_ok LWorld.pt_ok mixed 18 _ [3] [.tmp 4] Tryz.func33 rfl rfl rfl rfl rfl ?_
  intro O r F hO hr hF
  cbv
  repeat' first | refine And.intro ?_ ?_ | (refine caseB_intro (fun hb => ?_) (fun hb => ?_) <;> cbv)
  all_goals ((try subst hos); subst hO hr hF; (try simp only [stdO, SS, sub_all, ad_zero] at *); (try simp only [ncast] at *); (try simp only [Int.ofNat_eq_natCast] at *))
  all_goals (try simp only [LWorld.F0] at *)
  all_goals (try simp only [kN_app, List.cons_append, List.nil_append] at *)
  all_goals first
    | trivial
    | (exfalso; omega)
    | (obtain ⟨x, y1, y2, y3⟩ := e0; exact ⟨x, y1, y2, y3, by omega, by omega⟩)
    | (obtain ⟨x, y1, y2, y3⟩ := e1; exact ⟨x, y1, y2, y3, by omega, by omega⟩)
    | (obtain ⟨x, y1, y2, y3⟩ := e2; exact ⟨x, y1, y2, y3, by omega, by omega⟩)
    | (obtain ⟨x, y1, y2, y3⟩ := e3; exact ⟨x, y1, y2, y3, by omega, by omega⟩)
    | (obtain ⟨x, y1, y2, y3⟩ := e4; exact ⟨x, y1, y2, y3, by omega, by omega⟩)
    | (obtain ⟨x, y1, y2, y3⟩ := e5; exact ⟨x, y1, y2, y3, by omega, by omega⟩)
    | (obtain ⟨x, y1, y2, y3⟩ := e6; exact ⟨x, y1, y2, y3, by omega, by omega⟩)
    | (obtain ⟨x, y1, y2, y3⟩ := e7; exact ⟨x, y1, y2, y3, by omega, by omega⟩)
    | (obtain ⟨x, y1, y2, y3⟩ := e8; exact ⟨x, y1, y2, y3, by omega, by omega⟩)
    | (obtain ⟨x, y1, y2, y3⟩ := e9; exact ⟨x, y1, y2, y3, by omega, by omega⟩)
    | (obtain ⟨x, y1, y2, y3⟩ := e10; exact ⟨x, y1, y2, y3, by omega, by omega⟩)
    | (obtain ⟨x, y1, y2, y3⟩ := e11; exact ⟨x, y1, y2, y3, by omega, by omega⟩)
    | (obtain ⟨x, y1, y2, y3⟩ := e12; exact ⟨x, y1, y2, y3, by omega, by omega⟩)
    | (obtain ⟨x, y1, y2, y3⟩ := e13; exact ⟨x, y1, y2, y3, by omega, by omega⟩)
    | (refine ⟨by assumption, by omega, by omega⟩)
    | (refine ⟨by assumption, by assumption, by omega, by omega⟩)
    | (refine ⟨by assumption, by assumption, by assumption, by omega, by omega⟩)
    | (refine ⟨by assumption, by assumption, by assumption, by assumption, by omega, by omega⟩)
    | (refine ⟨by assumption, by assumption, by assumption, by assumption, by assumption, by omega, by omega⟩)
    | (refine ⟨by assumption, by assumption, by assumption, by assumption, by assumption, by assumption, by omega, by omega⟩)
    | (refine ⟨by assumption, by assumption, by assumption, by assumption, by assumption, by assumption, by assumption, by omega, by omega⟩)
    | (refine ⟨by assumption, by assumption, by assumption, by assumption, by assumption, by assumption, by assumption, by assumption, by omega, by omega⟩)
    | (refine ⟨by assumption, by assumption, by assumption, by assumption, by assumption, by assumption, by assumption, by assumption, by assumption, by omega, by omega⟩)
    | (refine ⟨by assumption, by assumption, by assumption, by assumption, by assumption, by assumption, by assumption, by assumption, by assumption, by assumption, by omega, by omega⟩)
    | (refine ⟨by assumption, by assumption, by assumption, by assumption, by assumption, by assumption, by assumption, by assumption, by assumption, by assumption, by assumption, by omega, by omega⟩)
    | (refine ⟨by assumption, by assumption, by assumption, by assumption, by assumption, by assumption, by assumption, by assumption, by assumption, by assumption, by assumption, by assumption, by omega, by omega⟩)
    | (refine ⟨by assumption, by assumption, by assumption, by assumption, by assumption, by assumption, by assumption, by assumption, by assumption, by assumption, by assumption, by assumption, by assumption, by omega, by omega⟩)
    | (refine ⟨by assumption, by assumption, by assumption, by assumption, by assumption, by assumption, by assumption, by assumption, by assumption, by assumption, by assumption, by assumption, by assumption, by assumption, by omega, by omega⟩)
    | trace_state

end Go.V
