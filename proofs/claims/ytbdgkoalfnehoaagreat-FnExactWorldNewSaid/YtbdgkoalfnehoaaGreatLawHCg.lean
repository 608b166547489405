/-
  Contracts of functions, by evaluation of conditions on their code.
-/
import Derived.Test.YtbdgkoalfnehoaaGreatS6
import Derived.Test.YtbdgkoalfnehoaaGreatLawHAg
import Derived.Test.YtbdgkoalfnehoaaGreatLawHEg
import Derived.Test.YtbdgkoalfnehoaaGreatVD

set_option linter.all false
namespace Go.V
open Go Go.Proofs
set_option maxRecDepth 1000000
set_option maxHeartbeats 8000000
namespace LCache
structure Fns where
  szN : List (List (List L)) → Int → Int
  kN : List (List (List L)) → Int → Int
  mkN : List (List L) → Int → List (List L)
def F0 : Fns := ⟨szN0, kN0, mkN0⟩
def ct (F : Fns) : CT := fun f ds => match f with
  | 102 => match ds with
    | [.one (.s 1 es), .one (.v (.int .i64 left))] => some (fun _ => Rw [.sl [tI]] es ∧ 0 ≤ left ∧ left ≤ 1048576, [.one (.v (.int .i64 (F.szN [es] left)))])
    | _ => none
  | 112 => match ds with
    | [.one (.s 1 es)] => some (fun _ => Rw [.sl [tI]] es ∧ cntE es ≤ 1048576, [.one (.s 1 es)])
    | _ => none
  | 121 => match ds with
    | [.one (.s 1 es), d] => some (fun _ => d = .one (.s 1 es) ∧ Rw [.sl [tI]] es ∧ cntE es ≤ 1099511627776, [.one (.v (.bool true))])
    | _ => none
  | 135 => match ds with
    | [.one (.s 1 ms), .one (.v (.int .i64 k))] => some (fun _ => ∃ es, ms = mkN0 es k ∧ Rw [.sl [tI]] es ∧ cntE es ≤ 1099511627776 ∧ 0 ≤ k ∧ kN0 [ms] k ≤ 1152921504606846976, [.one (.v (.int .i64 (F.kN [ms] k)))])
    | _ => none
  | _ => none
theorem ct_ok : CTok Tryz.prog (ct F0) := by
  intro f ds pre res h hp
  unfold ct at h
  split at h
  · split at h
    · cases h; exact c_laws_szIntSS _ _ hp
    · cases h
  · split at h
    · cases h; exact c_laws_toIntSS _ hp
    · cases h
  · split at h
    · cases h; exact c_laws_eqIntSS _ _ hp
    · cases h
  · split at h
    · cases h; exact c_laws_heldIntSS _ _ hp
    · cases h
  · cases h
def mt (F : Fns) : MT := fun f => match f with
  | 125 => some fun ds => match ds with
    | [.one (.s 1 es), .one (.v (.int .i64 k))] => some (fun _ => Rw [.sl [tI]] es ∧ cntE es ≤ 1099511627776 ∧ 0 ≤ k ∧ kN0 [es] k ≤ 1152921504606846976, [.s 1 (F.mkN es k)], [.one (.v (.int .i64 (F.kN [es] k)))])
    | _ => none
  | _ => none
theorem mt_ok : MTok Tryz.prog (mt F0) := by
  intro f mk h ds pre outs res hm hp
  unfold mt at h
  split at h
  · cases h; dsimp only at hm; split at hm
    · cases hm; exact c_laws_markIntSS _ _ hp
    · cases hm
  · cases h
def pt : Fns → PT := noPT
theorem pt_ok : PTok Tryz.prog (pt F0) := noPT_ok
end LCache
theorem c_laws_szCache (a0 : List (List L)) (left : Int) (hp : Rw [.sl [tI]] a0 ∧ 0 ≤ left ∧ left ≤ 1048576) : Ctr Tryz.prog 100 [.agg [.s 1 a0], .one (.v (.int .i64 left))] [.one (.v (.int .i64 (szN0 [a0] left)))] := by
  obtain ⟨w0, h0, h1⟩ := hp
  refine ctr_of (ctF := LCache.ct) (mtF := LCache.mt) (ptF := LCache.pt) (F0 := LCache.F0) tabOk LCache.ct_ok LCache.mt_ok LCache.pt_ok mixed 12 _ [3] [.tmp 4] Tryz.func100 rfl rfl rfl rfl rfl ?_
  intro O r F hO hr hF
  cbv
  repeat' first | refine And.intro ?_ ?_ | (refine caseB_intro (fun hb => ?_) (fun hb => ?_) <;> cbv)
  all_goals ((try subst hos); subst hO hr hF; (try simp only [stdO, SS, sub_all, ad_zero] at *); (try simp only [ncast] at *); (try simp only [Int.ofNat_eq_natCast] at *))
  all_goals (try simp only [LCache.F0] at *)
  all_goals iterate 1 (try simp (disch := assumption) only [szN_app, List.cons_append, List.nil_append] at *)
  all_goals first
    | trivial
    | exact rfl
    | (refine ⟨by assumption, by omega, by first | omega | exact Int.le_trans (szN_le (by assumption)) h1⟩)
    | (rw [szN_neg1 (by assumption)])
    | trace_state
theorem c_laws_toCache (a0 : List (List L)) (hp : Rw [.sl [tI]] a0 ∧ cntRs [a0] ≤ 1048576) : Ctr Tryz.prog 110 [.agg [.s 1 a0]] [.agg [.s 1 a0]] := by
  obtain ⟨w0, hlim⟩ := hp
  simp only [cntRs, Nat.add_zero] at hlim
  refine ctr_of (ctF := LCache.ct) (mtF := LCache.mt) (ptF := LCache.pt) (F0 := LCache.F0) tabOk LCache.ct_ok LCache.mt_ok LCache.pt_ok mixed 9 _ [154] [.cell 2 154] Tryz.func110 rfl rfl rfl rfl rfl ?_
  intro O r F hO hr hF
  cbv
  repeat' first | refine And.intro ?_ ?_ | (refine caseB_intro (fun hb => ?_) (fun hb => ?_) <;> cbv)
  all_goals ((try subst hos); subst hO hr hF; (try simp only [stdO, SS, sub_all, ad_zero] at *); (try simp only [ncast] at *); (try simp only [Int.ofNat_eq_natCast] at *))
  all_goals (try simp only [LCache.F0] at *)
  all_goals first
    | trivial
    | exact rfl
    | exact ⟨trivial, trivial⟩
    | exact ⟨rfl, rfl⟩
    | (refine ⟨by assumption, ?_⟩; (try simp only [cntRs, Nat.add_zero]); omega)
    | ((try simp only [cntRs, Nat.add_zero]); omega)
    | trace_state
theorem c_laws_eqCache (a0 : List (List L)) (d : DV) (hp : d = .agg [.s 1 a0] ∧ Rw [.sl [tI]] a0 ∧ cntRs [a0] ≤ 1099511627776) : Ctr Tryz.prog 119 [.agg [.s 1 a0], d] [.one (.v (.bool true))] := by
  obtain ⟨rfl, w0, hlim⟩ := hp
  simp only [cntRs, Nat.add_zero] at hlim
  refine ctr_of (ctF := LCache.ct) (mtF := LCache.mt) (ptF := LCache.pt) (F0 := LCache.F0) tabOk LCache.ct_ok LCache.mt_ok LCache.pt_ok mixed 11 _ [4] [.tmp 4] Tryz.func119 rfl rfl rfl rfl rfl ?_
  intro O r F hO hr hF
  cbv
  repeat' first | refine And.intro ?_ ?_ | (refine caseB_intro (fun hb => ?_) (fun hb => ?_) <;> cbv)
  all_goals ((try subst hos); subst hO hr hF; (try simp only [stdO, SS, sub_all, ad_zero] at *); (try simp only [ncast] at *); (try simp only [Int.ofNat_eq_natCast] at *))
  all_goals (try simp only [LCache.F0] at *)
  all_goals first
    | trivial
    | exact rfl
    | exact absurd rfl hb
    | exact absurd rfl (by assumption)
    | (refine ⟨trivial, by assumption, ?_⟩; (try simp only [cntRs, Nat.add_zero]); omega)
    | (refine ⟨trivial, ?_⟩; (try simp only [cntRs, Nat.add_zero]); omega)
    | trace_state
namespace LCacheS
structure Fns where
  szN : List (List (List L)) → Int → Int
  kN : List (List (List L)) → Int → Int
  mkN : List (List L) → Int → List (List L)
def F0 : Fns := ⟨szN0, kN0, mkN0⟩
def ct (F : Fns) : CT := fun f ds => match f with
  | 100 => match ds with
    | [.agg [.s 1 a0], .one (.v (.int .i64 left))] => some (fun _ => Rw [.sl [tI]] a0 ∧ 0 ≤ left ∧ left ≤ 1048576, [.one (.v (.int .i64 (F.szN [a0] left)))])
    | _ => none
  | 110 => match ds with
    | [.agg [.s 1 a0]] => some (fun _ => Rw [.sl [tI]] a0 ∧ cntRs [a0] ≤ 1048576, [.agg [.s 1 a0]])
    | _ => none
  | 119 => match ds with
    | [.agg [.s 1 a0], d] => some (fun _ => d = .agg [.s 1 a0] ∧ Rw [.sl [tI]] a0 ∧ cntRs [a0] ≤ 1099511627776, [.one (.v (.bool true))])
    | _ => none
  | 135 => match ds with
    | [.one (.s 1 ms), .one (.v (.int .i64 k))] => some (fun _ => ∃ es, ms = mkN0 es k ∧ Rw [.sl [tI]] es ∧ cntE es ≤ 1099511627776 ∧ 0 ≤ k ∧ kN0 [ms] k ≤ 1152921504606846976, [.one (.v (.int .i64 (F.kN [ms] k)))])
    | _ => none
  | _ => none
theorem ct_ok : CTok Tryz.prog (ct F0) := by
  intro f ds pre res h hp
  unfold ct at h
  split at h
  · split at h
    · cases h; exact c_laws_szCache _ _ hp
    · cases h
  · split at h
    · cases h; exact c_laws_toCache _ hp
    · cases h
  · split at h
    · cases h; exact c_laws_eqCache _ _ hp
    · cases h
  · split at h
    · cases h; exact c_laws_heldIntSS _ _ hp
    · cases h
  · cases h
def mt (F : Fns) : MT := fun f => match f with
  | 125 => some fun ds => match ds with
    | [.one (.s 1 es), .one (.v (.int .i64 k))] => some (fun _ => Rw [.sl [tI]] es ∧ cntE es ≤ 1099511627776 ∧ 0 ≤ k ∧ kN0 [es] k ≤ 1152921504606846976, [.s 1 (F.mkN es k)], [.one (.v (.int .i64 (F.kN [es] k)))])
    | _ => none
  | _ => none
theorem mt_ok : MTok Tryz.prog (mt F0) := by
  intro f mk h ds pre outs res hm hp
  unfold mt at h
  split at h
  · cases h; dsimp only at hm; split at hm
    · cases hm; exact c_laws_markIntSS _ _ hp
    · cases hm
  · cases h
def pt : Fns → PT := noPT
theorem pt_ok : PTok Tryz.prog (pt F0) := noPT_ok
end LCacheS
theorem c_laws_szCacheS (es : List (List L)) (left : Int) (hp : Rw [.sl [.sl [tI]]] es ∧ 0 ≤ left ∧ left ≤ 1048576) : Ctr Tryz.prog 39 [.one (.s 1 es), .one (.v (.int .i64 left))] [.one (.v (.int .i64 (szN0 [es] left)))] := by
  obtain ⟨hw, h0, h1⟩ := hp
  have hwf : Wf [.s 1 []] es := hw.wf
  have hm := hw.1; unfold maxLen at hm
  have hs : arI .sub .i64 left es.length = left - es.length := sub64 (by omega)
  have hcE : cntE es = es.length + cntEs es := rfl
  have hn : szN0 [es] left = if left < cntE es then -1 else left - cntE es := by unfold szN0; rw [cntRs_one]
  refine ctr_of (ctF := LCacheS.ct) (mtF := LCacheS.mt) (ptF := LCacheS.pt) (F0 := LCacheS.F0) tabOk LCacheS.ct_ok LCacheS.mt_ok LCacheS.pt_ok mixed 27 _ [3] [.tmp 4] Tryz.func39 rfl rfl rfl rfl rfl ?_
  intro O r F hO hr hF
  cbv
  refine caseB_intro (fun hb => ?_) (fun hb => ?_) <;> cbv
  · repeat' first | refine And.intro ?_ ?_ | (refine caseB_intro (fun hb => ?_) (fun hb => ?_) <;> cbv)
    all_goals ((try subst hos); subst hO hr hF; (try simp only [stdO, SS, sub_all, ad_zero] at *); (try simp only [ncast] at *); (try simp only [Int.ofNat_eq_natCast] at *))
    all_goals (try simp only [hs, LCacheS.F0] at *)
    all_goals first | trivial | (rw [hn, if_pos (by omega)]) | trace_state
  have hb0 : 0 ≤ left - es.length := by
    ((try subst hos); subst hO hr hF; (try simp only [stdO, SS, sub_all, ad_zero] at *); (try simp only [ncast] at *); (try simp only [Int.ofNat_eq_natCast] at *))
    rw [hs] at hb
    exact hb
  clear hb
  refine ⟨[0, 1, 5], [], Int × Int, fun s => match s with | (i, l) => [.reg 5 (.one (.v (.int .i64 i))), .reg 1 (.one (.v (.int .i64 l)))], fun s => 0 ≤ s.1 ∧ s.1.toNat ≤ es.length ∧ 0 ≤ s.2 ∧ s.2 = left - es.length - cntEs (es.take s.1.toNat), fun s => es.length - s.1.toNat, ⟨(0, O.ar .sub .i64 left (O.zi (O.ln es))), ?_, ?_⟩, ?_⟩
  · ((try subst hos); subst hO hr hF; (try simp only [stdO, SS, sub_all, ad_zero] at *); (try simp only [ncast] at *); (try simp only [Int.ofNat_eq_natCast] at *))
    rw [hs]
    exact ⟨by omega, Nat.zero_le _, hb0, by simp [cntEs]⟩
  · cbv
  · rintro ⟨i, l⟩ hi
    replace hi : 0 ≤ i ∧ i.toNat ≤ es.length ∧ 0 ≤ l ∧ l = left - es.length - cntEs (es.take i.toNat) := hi
    obtain ⟨g0, g1, g2, g3⟩ := hi
    cbv
    repeat' first | refine And.intro ?_ ?_ | (refine caseB_intro (fun hb => ?_) (fun hb => ?_) <;> cbv) | (refine loop_step (O.ar .add .i64 i 1, F.szN [O.gs es i 0] l) ?_ ?_ ?_; rotate_left 2; focus (cbv; done))
    all_goals ((try subst hos); subst hO hr hF; (try simp only [stdO, SS, sub_all, ad_zero] at *); (try simp only [ncast] at *); (try simp only [Int.ofNat_eq_natCast] at *))
    all_goals try have hlt : i < es.length := by assumption
    all_goals try rw [inc64 (n := es.length) g0 hlt (by omega)]
    all_goals (try simp only [LCacheS.F0] at *)
    all_goals try have he : es.getD i.toNat [] = [.s 1 (gsI es i 0)] := (etaE_whole hwf g0 hlt).symm
    all_goals try have hr0 : Rw [.sl [tI]] (gsI es i 0) := Rw.sub (fs := [.sl [.sl [tI]]]) hw (by omega) rfl
    all_goals try have hct := cntE_at (es := es) (n := i.toNat) (by omega); rw [he] at hct; simp only [cntR, cntL, Nat.add_zero, Nat.zero_add] at hct
    all_goals have hle := cntEs_take_le (es := es) (n := i.toNat)
    all_goals have hle1 := cntEs_take_le (es := es) (n := i.toNat + 1)
    all_goals have hsz := szN_neg (a := [gsI es i 0]) (left := l)
    all_goals have hsz2 : 0 ≤ szN0 [gsI es i 0] l → szN0 [gsI es i 0] l = l - cntRs [gsI es i 0] := szN_pos
    all_goals simp only [cntRs, cntE, Nat.add_zero] at hsz hsz2
    all_goals first
      | exact row_ro hwf g0 hlt
      | exact ⟨hr0, by omega, by omega⟩
      | trivial
      | omega
      | (rw [hn, if_pos]; omega)
      | (rw [hn, if_neg (by rw [show i.toNat = es.length from by omega, List.take_length] at g3; omega), show l = left - cntE es from by rw [show i.toNat = es.length from by omega, List.take_length] at g3; omega])
      | (rw [show (i + 1).toNat = i.toNat + 1 from by omega, hct]; omega)
      | trace_state
theorem c_laws_toCacheS (es : List (List L)) (hp : Rw [.sl [.sl [tI]]] es ∧ cntE es ≤ 1048576) : Ctr Tryz.prog 50 [.one (.s 1 es)] [.one (.s 1 es)] := by
  obtain ⟨hw, hlim⟩ := hp
  have hwf : Wf [.s 1 []] es := hw.wf
  have hlen : es.length ≤ 1048576 := Nat.le_trans (Nat.le_add_right _ _) hlim
  refine ctr_of (ctF := LCacheS.ct) (mtF := LCacheS.mt) (ptF := LCacheS.pt) (F0 := LCacheS.F0) tabOk LCacheS.ct_ok LCacheS.mt_ok LCacheS.pt_ok mixed 23 _ [65] [.tmp 2] Tryz.func50 rfl rfl rfl rfl rfl ?_
  intro O r F hO hr hF
  cbv
  have h0z : fillR es [.s 1 []] 0 = O.rep (O.zi (O.ln es)) [.s 1 []] := by
    subst hO
    rw [fillR_zero]; rfl
  refine ⟨?_, ?_, [0, 3, 4], [3], Int × List (List L), fun s => [.reg 4 (.one (.v (.int .i64 s.1))), .leaf 3 0 ⟨0, 0, none, .own (.s 1 s.2)⟩], fun s => 0 ≤ s.1 ∧ s.1.toNat ≤ es.length ∧ s.2 = fillR es [.s 1 []] s.1.toNat, fun s => es.length - s.1.toNat, ⟨(0, O.rep (O.zi (O.ln es)) [.s 1 []]), ?_, ?_⟩, ?_⟩
  · subst hO
    exact mk_ok (b := 24) (show es.length * _ ≤ _ by omega) (show es.length ≤ _ by omega)
  · subst hO
    exact ⟨rfl, rfl⟩
  · exact ⟨by omega, Nat.zero_le _, h0z.symm⟩
  · cbv
  · rintro ⟨i, m⟩ hi
    replace hi : 0 ≤ i ∧ i.toNat ≤ es.length ∧ m = fillR es [.s 1 []] i.toNat := hi
    obtain ⟨g0, g1, hm⟩ := hi
    cbv
    repeat' first | refine And.intro ?_ ?_ | (refine caseB_intro (fun hb => ?_) (fun hb => ?_) <;> cbv) | (refine loop_step (O.ar .add .i64 i 1, O.up (.s 1 m) [(O.ad 0 i, 0)] [.s 1 (O.gs es i 0)]) ?_ ?_ ?_; rotate_left 2; focus (cbv; done))
    all_goals ((try subst hos); subst hO hr hF; (try simp only [stdO, SS, sub_all, ad_zero] at *); (try simp only [ncast] at *); (try simp only [Int.ofNat_eq_natCast] at *))
    all_goals (try simp only [LCacheS.F0, repI, List.length_replicate, Int.toNat_natCast] at *)
    all_goals try have hlt : i < es.length := by assumption
    all_goals try rw [inc64 (n := es.length) g0 hlt (by omega)]
    all_goals try have he : es.getD i.toNat [] = [.s 1 (gsI es i 0)] := (etaE_whole hwf g0 hlt).symm
    all_goals try have hr0 : Rw [.sl [tI]] (gsI es i 0) := Rw.sub (fs := [.sl [.sl [tI]]]) hw (by omega) rfl
    all_goals try have hct := cntE_at (es := es) (n := i.toNat) (by omega); rw [he] at hct; simp only [cntR, cntL, Nat.add_zero, Nat.zero_add] at hct
    all_goals have hle1 := cntEs_take_le (es := es) (n := i.toNat + 1)
    all_goals have hcE : cntE es = es.length + cntEs es := rfl
    all_goals first
      | exact row_ro hwf g0 hlt
      | exact ⟨g0, hlt⟩
      | (rw [hm]; exact getR_some (by rw [fillR_length g1]; omega) (by rw [fillR_getD (by omega)]; exact Nat.le_refl _))
      | omega
      | (rw [show (i + 1).toNat = i.toNat + 1 from by omega, ← fillR_set (by omega), ← hm, upI_one (by rw [hm, fillR_getD (by omega)]; rfl), he])
      | (rw [hm, fillR_length g1]; exact ⟨trivial, rfl⟩)
      | (rw [hm, show i.toNat = es.length from by omega, fillR_all])
      | trivial
      | exact ⟨trivial, trivial⟩
      | (refine ⟨hr0, ?_⟩; simp only [cntRs, cntE, Nat.add_zero]; omega)
      | trace_state
theorem c_laws_eqCacheS (es : List (List L)) (d : DV) (hp : d = .one (.s 1 es) ∧ Rw [.sl [.sl [tI]]] es ∧ cntE es ≤ 1099511627776) : Ctr Tryz.prog 60 [.one (.s 1 es), d] [.one (.v (.bool true))] := by
  obtain ⟨rfl, hw, hlim⟩ := hp
  have hwf : Wf [.s 1 []] es := hw.wf
  have hlen : es.length ≤ 1099511627776 := Nat.le_trans (Nat.le_add_right _ _) hlim
  refine ctr_of (ctF := LCacheS.ct) (mtF := LCacheS.mt) (ptF := LCacheS.pt) (F0 := LCacheS.F0) tabOk LCacheS.ct_ok LCacheS.mt_ok LCacheS.pt_ok mixed 27 _ [4] [.tmp 4] Tryz.func60 rfl rfl rfl rfl rfl ?_
  intro O r F hO hr hF
  cbv
  refine caseB_intro (fun hb => ?_) (fun hb => ?_) <;> cbv
  · ((try subst hos); subst hO hr hF; (try simp only [stdO, SS, sub_all, ad_zero] at *); (try simp only [ncast] at *); (try simp only [Int.ofNat_eq_natCast] at *)); exact absurd rfl hb
  · clear hb
    refine ⟨[0, 1, 5], [], Int, fun i => [.reg 5 (.one (.v (.int .i64 i)))], fun i => 0 ≤ i ∧ i.toNat ≤ es.length, fun i => es.length - i.toNat, ⟨0, ?_, ?_⟩, ?_⟩
    · exact ⟨by omega, Nat.zero_le _⟩
    · cbv
    · rintro i hi
      replace hi : 0 ≤ i ∧ i.toNat ≤ es.length := hi
      obtain ⟨g0, g1⟩ := hi
      cbv
      repeat' first | refine And.intro ?_ ?_ | (refine caseB_intro (fun hb => ?_) (fun hb => ?_) <;> cbv) | (refine loop_step (O.ar .add .i64 i 1) ?_ ?_ ?_; rotate_left 2; focus (cbv; done))
      all_goals ((try subst hos); subst hO hr hF; (try simp only [stdO, SS, sub_all, ad_zero] at *); (try simp only [ncast] at *); (try simp only [Int.ofNat_eq_natCast] at *))
      all_goals (try simp only [LCacheS.F0] at *)
      all_goals try have hlt : i < es.length := by assumption
      all_goals try rw [inc64 (n := es.length) g0 hlt (by omega)]
      all_goals try have he : es.getD i.toNat [] = [.s 1 (gsI es i 0)] := (etaE_whole hwf g0 hlt).symm
      all_goals try have hr0 : Rw [.sl [tI]] (gsI es i 0) := Rw.sub (fs := [.sl [.sl [tI]]]) hw (by omega) rfl
      all_goals try have hct := cntE_at (es := es) (n := i.toNat) (by omega); rw [he] at hct; simp only [cntR, cntL, Nat.add_zero, Nat.zero_add] at hct
      all_goals have hle1 := cntEs_take_le (es := es) (n := i.toNat + 1)
      all_goals have hcE : cntE es = es.length + cntEs es := rfl
      all_goals first
        | omega
        | exact row_ro hwf g0 hlt
        | exact absurd rfl hb
        | exact absurd rfl (by assumption)
        | trivial
        | kernel_rfl
        | exact ⟨trivial, trivial⟩
        | (refine ⟨trivial, hr0, ?_⟩; simp only [cntRs, cntE, Nat.add_zero]; omega)
        | trace_state
theorem c_laws_markCacheS (es : List (List L)) (k : Int) (hp : Rw [.sl [.sl [tI]]] es ∧ cntE es ≤ 1099511627776 ∧ 0 ≤ k ∧ kN0 [es] k ≤ 1152921504606846976) : MCtr Tryz.prog 68 [.one (.s 1 es), .one (.v (.int .i64 k))] [.s 1 (mkN0 es k)] [.one (.v (.int .i64 (kN0 [es] k)))] := by
  obtain ⟨hw, hlim, hk0, hkb⟩ := hp
  have hwf : Wf [.s 1 []] es := hw.wf
  have hlen : es.length ≤ 1099511627776 := Nat.le_trans (Nat.le_add_right _ _) hlim
  refine mctr_of (ctF := LCacheS.ct) (mtF := LCacheS.mt) (ptF := LCacheS.pt) (F0 := LCacheS.F0) tabOk LCacheS.ct_ok LCacheS.mt_ok LCacheS.pt_ok mixed 20 _ [3] [.tmp 4] [(0, 0)] Tryz.func68 rfl rfl rfl rfl rfl rfl rfl ?_
  intro O r os F hO hr hos hF
  cbv
  refine ⟨[0, 1, 5], [0], Int × Int × List (List L), fun s => match s with | (i, k', cur) => [.reg 5 (.one (.v (.int .i64 i))), .reg 1 (.one (.v (.int .i64 k'))), .leaf 0 0 ⟨0, 0, some 0, .own (.s 1 cur)⟩], fun s => 0 ≤ s.1 ∧ s.1.toNat ≤ es.length ∧ s.2.1 = kTo es k s.1.toNat ∧ s.2.2 = mkTo es k s.1.toNat, fun s => es.length - s.1.toNat, ⟨(0, k, es), ?_, ?_⟩, ?_⟩
  · exact ⟨by omega, Nat.zero_le _, kTo_zero.symm, mkTo_zero.symm⟩
  · cbv
  · rintro ⟨i, k', cur⟩ hi
    replace hi : 0 ≤ i ∧ i.toNat ≤ es.length ∧ k' = kTo es k i.toNat ∧ cur = mkTo es k i.toNat := hi
    obtain ⟨g0, g1, hk', hc⟩ := hi
    cbv
    repeat' first | refine And.intro ?_ ?_ | (refine caseB_intro (fun hb => ?_) (fun hb => ?_) <;> cbv) | (refine loop_step (O.ar .add .i64 i 1, F.kN [O.ps (.s 1 (cur)) [(O.ad 0 i, 0)]] (k'), O.up (.s 1 (cur)) [(O.ad 0 i, 0)] [.s 1 (F.mkN (O.ps (.s 1 (cur)) [(O.ad 0 i, 0)]) (k'))]) ?_ ?_ ?_; rotate_left 2; focus (cbv; done))
    all_goals ((try subst hos); subst hO hr hF; (try simp only [stdO, SS, sub_all, ad_zero] at *); (try simp only [ncast] at *); (try simp only [Int.ofNat_eq_natCast] at *))
    all_goals (try simp only [LCacheS.F0] at *)
    all_goals try have hlt : i < es.length := by assumption
    all_goals try rw [inc64 (n := es.length) g0 hlt (by omega)]
    all_goals try have hlt' : i.toNat < es.length := by omega
    all_goals try have he : es.getD i.toNat [] = [.s 1 (gsI es i 0)] := (etaE_whole hwf g0 hlt).symm
    all_goals try have hr0 : Rw [.sl [tI]] (gsI es i 0) := Rw.sub (fs := [.sl [.sl [tI]]]) hw (by omega) rfl
    all_goals try have hct := cntE_at (es := es) (n := i.toNat) (by omega); rw [he] at hct; simp only [cntR, cntL, Nat.add_zero, Nat.zero_add] at hct
    all_goals try have hks := kTo_succ (es := es) (k := k) hlt'; rw [he] at hks; simp only [msR, msL] at hks
    all_goals try have hms := mkTo_set (es := es) (k := k) hlt'; rw [he] at hms; simp only [msR, msL] at hms
    all_goals have hle1 := cntEs_take_le (es := es) (n := i.toNat + 1)
    all_goals have hcE : cntE es = es.length + cntEs es := rfl
    all_goals have hk1 := kTo_k (es := es) (k := k) (n := i.toNat)
    all_goals have hk2 := kTo_k (es := es) (k := k) (n := i.toNat + 1)
    all_goals have hk3 := kTo_all (es := es) (k := k)
    all_goals have hk4 := kTo_k (es := es) (k := k) (n := es.length)
    all_goals have hk5 := kTo_le (es := es) (m := 0) (n := i.toNat) g1 (Nat.zero_le _)
    all_goals have hk6 := kTo_le (es := es) (m := i.toNat) (n := es.length) (Nat.le_refl _) g1
    all_goals try have hk7 := kTo_le (es := es) (m := i.toNat + 1) (n := es.length) (Nat.le_refl _) hlt'
    all_goals rw [kTo_zero] at hk5
    all_goals try have hk8 := kTo_mono (es := es) (n := i.toNat) hlt'
    all_goals try have hcl : i.toNat < cur.length := by rw [hc, mkTo_length g1]; exact hlt'
    all_goals try have hcg : cur.getD i.toNat [] = [.s 1 (gsI es i 0)] := by rw [hc, mkTo_getD g1]; exact he
    all_goals have ha1 : arI .add .i64 k' 1 = k' + 1 := add64 (by omega)
    all_goals have ha2 : arI .add .i64 (k' + 1) 1 = k' + 1 + 1 := add64 (by omega)
    all_goals have ha3 : arI .add .i64 (k' + 1 + 1) 1 = k' + 1 + 1 + 1 := add64 (by omega)
    all_goals have ha4 : arI .add .i64 (k' + 1 + 1 + 1) 1 = k' + 1 + 1 + 1 + 1 := add64 (by omega)
    all_goals try simp only [ha1, ha2, ha3, ha4]
    all_goals try simp only [ad_zero]
    all_goals try simp only [upI_cell, hcg, List.take, List.drop, List.length_cons, List.length_nil, List.nil_append, List.cons_append, List.append_nil, Nat.zero_add, Nat.reduceAdd, getD_set_same hcl, List.set_set, List.append_assoc]
    all_goals try simp only [psI_one, hcg, getD_set_same hcl, List.getD_cons_zero, List.getD_cons_succ, lfS]
    all_goals try simp only [getR_at hcl, getR_set hcl, getS_at hcl, getS_set hcl, hcg, List.getElem?_cons_zero, List.getElem?_cons_succ]
    all_goals first
      | exact ⟨g0, hlt⟩
      | (refine ⟨_, _, rfl, ?_⟩; simp; done)
      | (refine ⟨_, _, rfl, ?_, rfl⟩; simp; done)
      | (refine ⟨_, _, rfl, by simp, ?_⟩; show List.take _ (List.drop _ _) = [L.s _ (psI _ _)]; simp only [adv, psI_one, hcg, getD_set_same hcl, List.getD_cons_zero, List.getD_cons_succ, Nat.add_zero, lfS]; rfl)
      | exact ⟨trivial, _, rfl, rfl⟩
      | exact ⟨_, rfl⟩
      | omega
      | (rw [hk', show i.toNat = es.length from by omega, hk3]; done)
      | (rw [hc, show i.toNat = es.length from by omega, mkTo_all]; rfl)
      | (rw [show (i + 1).toNat = i.toNat + 1 from by omega, hks, hk']; done)
      | (rw [show (i + 1).toNat = i.toNat + 1 from by omega, hks, hk']; rfl)
      | (rw [show (i + 1).toNat = i.toNat + 1 from by omega, ← hms, hc, hk']; done)
      | (rw [show (i + 1).toNat = i.toNat + 1 from by omega, ← hms, hc, hk']; rfl)
      | (refine ⟨hr0, ?_, ?_, ?_⟩ <;> (try simp only [cntE, kN0]) <;> first | omega | (rw [hk']; omega))
      | trivial
      | trace_state
theorem c_laws_heldCacheS (ms : List (List L)) (k : Int) (hp : ∃ es, ms = mkN0 es k ∧ Rw [.sl [.sl [tI]]] es ∧ cntE es ≤ 1099511627776 ∧ 0 ≤ k ∧ kN0 [ms] k ≤ 1152921504606846976) : Ctr Tryz.prog 86 [.one (.s 1 ms), .one (.v (.int .i64 k))] [.one (.v (.int .i64 (kN0 [ms] k)))] := by
  obtain ⟨es, hms, hw, hlim, hk0, hkb⟩ := hp
  have hlen : es.length ≤ 1099511627776 := Nat.le_trans (Nat.le_add_right _ _) hlim
  have hml : ms.length = es.length := by rw [hms]; exact mkN_length
  have hkk : kN0 [ms] k = kN0 [es] k := by rw [hms]; exact kN_mk
  have hwm : Wf [.s 1 []] ms := by rw [hms]; exact conf_mk_wf hw
  have hwf : Wf [.s 1 []] es := hw.wf
  have hat : ∀ n, n < es.length → ms.getD n [] = (msR (es.getD n []) (kTo es k n)).1 := fun n hn => by rw [hms]; exact mkN_at hn
  refine ctr_of (ctF := LCacheS.ct) (mtF := LCacheS.mt) (ptF := LCacheS.pt) (F0 := LCacheS.F0) tabOk LCacheS.ct_ok LCacheS.mt_ok LCacheS.pt_ok mixed 22 _ [3] [.tmp 4] Tryz.func86 rfl rfl rfl rfl rfl ?_
  intro O r F hO hr hF
  cbv
  refine ⟨[0, 1, 5], [], Int × Int, fun s => match s with | (i, k') => [.reg 5 (.one (.v (.int .i64 i))), .reg 1 (.one (.v (.int .i64 k')))], fun s => 0 ≤ s.1 ∧ s.1.toNat ≤ es.length ∧ s.2 = kTo es k s.1.toNat, fun s => es.length - s.1.toNat, ⟨(0, k), ?_, ?_⟩, ?_⟩
  · exact ⟨by omega, Nat.zero_le _, kTo_zero.symm⟩
  · cbv
  · rintro ⟨i, k'⟩ hi
    replace hi : 0 ≤ i ∧ i.toNat ≤ es.length ∧ k' = kTo es k i.toNat := hi
    obtain ⟨g0, g1, hk'⟩ := hi
    cbv
    repeat' first | refine And.intro ?_ ?_ | (refine caseB_intro (fun hb => ?_) (fun hb => ?_) <;> cbv) | (refine loop_step (O.ar .add .i64 i 1, F.kN [O.gs ms i 0] (k')) ?_ ?_ ?_; rotate_left 2; focus (cbv; done))
    all_goals ((try subst hos); subst hO hr hF; (try simp only [stdO, SS, sub_all, ad_zero] at *); (try simp only [ncast] at *); (try simp only [Int.ofNat_eq_natCast] at *))
    all_goals (try simp only [LCacheS.F0] at *)
    all_goals try have hltm : i < ms.length := by assumption
    all_goals try have hlt : i < es.length := by omega
    all_goals try rw [inc64 (n := es.length) g0 hlt (by omega)]
    all_goals try have hlt' : i.toNat < es.length := by omega
    all_goals try have he : es.getD i.toNat [] = [.s 1 (gsI es i 0)] := (etaE_whole hwf g0 hlt).symm
    all_goals try have hr0 : Rw [.sl [tI]] (gsI es i 0) := Rw.sub (fs := [.sl [.sl [tI]]]) hw (by omega) rfl
    all_goals try have hct := cntE_at (es := es) (n := i.toNat) (by omega); rw [he] at hct; simp only [cntR, cntL, Nat.add_zero, Nat.zero_add] at hct
    all_goals try have hks := kTo_succ (es := es) (k := k) hlt'; rw [he] at hks; simp only [msR, msL] at hks
    all_goals try have hem : ([.s 1 (gsI ms i 0)] : (List L)) = _ := (etaE_whole hwm g0 hltm).trans (hat i.toNat hlt'); rw [he] at hem; simp only [msR, msL, List.cons.injEq, L.v.injEq, Value.int.injEq, Value.bool.injEq, L.s.injEq, true_and, and_true] at hem
    all_goals have hle1 := cntEs_take_le (es := es) (n := i.toNat + 1)
    all_goals have hcE : cntE es = es.length + cntEs es := rfl
    all_goals have hk1 := kTo_k (es := es) (k := k) (n := i.toNat)
    all_goals have hk2 := kTo_k (es := es) (k := k) (n := i.toNat + 1)
    all_goals have hk3 := kTo_all (es := es) (k := k)
    all_goals have hk4 := kTo_k (es := es) (k := k) (n := es.length)
    all_goals have hk5 := kTo_le (es := es) (m := 0) (n := i.toNat) g1 (Nat.zero_le _)
    all_goals have hk6 := kTo_le (es := es) (m := i.toNat) (n := es.length) (Nat.le_refl _) g1
    all_goals try have hk7 := kTo_le (es := es) (m := i.toNat + 1) (n := es.length) (Nat.le_refl _) hlt'
    all_goals rw [kTo_zero] at hk5
    all_goals try have hk8 := kTo_mono (es := es) (n := i.toNat) hlt'
    all_goals try rw [← hk'] at hem hks
    all_goals have ha1 : arI .add .i64 k' 1 = k' + 1 := add64 (by omega)
    all_goals have ha2 : arI .add .i64 (k' + 1) 1 = k' + 1 + 1 := add64 (by omega)
    all_goals have ha3 : arI .add .i64 (k' + 1 + 1) 1 = k' + 1 + 1 + 1 := add64 (by omega)
    all_goals have ha4 : arI .add .i64 (k' + 1 + 1 + 1) 1 = k' + 1 + 1 + 1 + 1 := add64 (by omega)
    all_goals try simp only [ha1, ha2, ha3, ha4] at *
    all_goals first
      | exact row_ro hwm g0 hltm
      | omega
      | (exfalso; revert hb; simp only [hem, cmpI, arI]; simp; done)
      | (rw [hk', show i.toNat = es.length from by omega, hk3, hkk]; done)
      | (rw [show (i + 1).toNat = i.toNat + 1 from by omega, hks]; done)
      | (rw [show (i + 1).toNat = i.toNat + 1 from by omega, hks, hem]; simp only [kN0, msEs_mk]; done)
      | (rw [show (i + 1).toNat = i.toNat + 1 from by omega, hks, hem.2]; simp only [kN0, msEs_mk]; done)
      | (refine ⟨_, by first | exact hem | exact hem.2 | exact hem.1 | rfl, hr0, ?_, ?_, ?_⟩ <;> (try simp only [kN0, msEs_mk, cntE]) <;> omega)
      | (refine ⟨_, by first | exact hem | exact hem.2 | exact hem.1 | rfl, hr0, ?_, ?_, ?_⟩ <;> (try rw [hem]) <;> (try rw [hem.2]) <;> (try simp only [kN0, msEs_mk, cntE]) <;> omega)
      | (exfalso; simp only [kN0, msEs_mk] at hb; omega)
      | (exfalso; (first | rw [hem] at hb | rw [hem.2] at hb); simp only [kN0, msEs_mk] at hb; omega)
      | trivial
      | trace_state
namespace LPostSS
structure Fns where
  szN : List (List (List L)) → Int → Int
  kN : List (List (List L)) → Int → Int
  mkN : List (List L) → Int → List (List L)
def F0 : Fns := ⟨szN0, kN0, mkN0⟩
def ct (F : Fns) : CT := fun f ds => match f with
  | 146 => match ds with
    | [.one (.s 2 es), .one (.v (.int .i64 left))] => some (fun _ => Rw [tI, tI] es ∧ 0 ≤ left ∧ left ≤ 1048576, [.one (.v (.int .i64 (F.szN [es] left)))])
    | _ => none
  | 149 => match ds with
    | [.one (.s 2 es)] => some (fun _ => Rw [tI, tI] es ∧ cntE es ≤ 1048576, [.one (.s 2 es)])
    | _ => none
  | 153 => match ds with
    | [.one (.s 2 es), d] => some (fun _ => d = .one (.s 2 es) ∧ Rw [tI, tI] es ∧ cntE es ≤ 1099511627776, [.one (.v (.bool true))])
    | _ => none
  | 166 => match ds with
    | [.one (.s 2 ms), .one (.v (.int .i64 k))] => some (fun _ => ∃ es, ms = mkN0 es k ∧ Rw [tI, tI] es ∧ cntE es ≤ 1099511627776 ∧ 0 ≤ k ∧ kN0 [ms] k ≤ 1152921504606846976, [.one (.v (.int .i64 (F.kN [ms] k)))])
    | _ => none
  | _ => none
theorem ct_ok : CTok Tryz.prog (ct F0) := by
  intro f ds pre res h hp
  unfold ct at h
  split at h
  · split at h
    · cases h; exact c_laws_szPostS _ _ hp
    · cases h
  · split at h
    · cases h; exact c_laws_toPostS _ hp
    · cases h
  · split at h
    · cases h; exact c_laws_eqPostS _ _ hp
    · cases h
  · split at h
    · cases h; exact c_laws_heldPostS _ _ hp
    · cases h
  · cases h
def mt (F : Fns) : MT := fun f => match f with
  | 157 => some fun ds => match ds with
    | [.one (.s 2 es), .one (.v (.int .i64 k))] => some (fun _ => Rw [tI, tI] es ∧ cntE es ≤ 1099511627776 ∧ 0 ≤ k ∧ kN0 [es] k ≤ 1152921504606846976, [.s 2 (F.mkN es k)], [.one (.v (.int .i64 (F.kN [es] k)))])
    | _ => none
  | _ => none
theorem mt_ok : MTok Tryz.prog (mt F0) := by
  intro f mk h ds pre outs res hm hp
  unfold mt at h
  split at h
  · cases h; dsimp only at hm; split at hm
    · cases hm; exact c_laws_markPostS _ _ hp
    · cases hm
  · cases h
def pt : Fns → PT := noPT
theorem pt_ok : PTok Tryz.prog (pt F0) := noPT_ok
end LPostSS
theorem c_laws_szPostSS (es : List (List L)) (left : Int) (hp : Rw [.sl [tI, tI]] es ∧ 0 ≤ left ∧ left ≤ 1048576) : Ctr Tryz.prog 101 [.one (.s 1 es), .one (.v (.int .i64 left))] [.one (.v (.int .i64 (szN0 [es] left)))] := by
  obtain ⟨hw, h0, h1⟩ := hp
  have hwf : Wf [.s 2 []] es := hw.wf
  have hm := hw.1; unfold maxLen at hm
  have hs : arI .sub .i64 left es.length = left - es.length := sub64 (by omega)
  have hcE : cntE es = es.length + cntEs es := rfl
  have hn : szN0 [es] left = if left < cntE es then -1 else left - cntE es := by unfold szN0; rw [cntRs_one]
  refine ctr_of (ctF := LPostSS.ct) (mtF := LPostSS.mt) (ptF := LPostSS.pt) (F0 := LPostSS.F0) tabOk LPostSS.ct_ok LPostSS.mt_ok LPostSS.pt_ok mixed 27 _ [3] [.tmp 4] Tryz.func101 rfl rfl rfl rfl rfl ?_
  intro O r F hO hr hF
  cbv
  refine caseB_intro (fun hb => ?_) (fun hb => ?_) <;> cbv
  · repeat' first | refine And.intro ?_ ?_ | (refine caseB_intro (fun hb => ?_) (fun hb => ?_) <;> cbv)
    all_goals ((try subst hos); subst hO hr hF; (try simp only [stdO, SS, sub_all, ad_zero] at *); (try simp only [ncast] at *); (try simp only [Int.ofNat_eq_natCast] at *))
    all_goals (try simp only [hs, LPostSS.F0] at *)
    all_goals first | trivial | (rw [hn, if_pos (by omega)]) | trace_state
  have hb0 : 0 ≤ left - es.length := by
    ((try subst hos); subst hO hr hF; (try simp only [stdO, SS, sub_all, ad_zero] at *); (try simp only [ncast] at *); (try simp only [Int.ofNat_eq_natCast] at *))
    rw [hs] at hb
    exact hb
  clear hb
  refine ⟨[0, 1, 5], [], Int × Int, fun s => match s with | (i, l) => [.reg 5 (.one (.v (.int .i64 i))), .reg 1 (.one (.v (.int .i64 l)))], fun s => 0 ≤ s.1 ∧ s.1.toNat ≤ es.length ∧ 0 ≤ s.2 ∧ s.2 = left - es.length - cntEs (es.take s.1.toNat), fun s => es.length - s.1.toNat, ⟨(0, O.ar .sub .i64 left (O.zi (O.ln es))), ?_, ?_⟩, ?_⟩
  · ((try subst hos); subst hO hr hF; (try simp only [stdO, SS, sub_all, ad_zero] at *); (try simp only [ncast] at *); (try simp only [Int.ofNat_eq_natCast] at *))
    rw [hs]
    exact ⟨by omega, Nat.zero_le _, hb0, by simp [cntEs]⟩
  · cbv
  · rintro ⟨i, l⟩ hi
    replace hi : 0 ≤ i ∧ i.toNat ≤ es.length ∧ 0 ≤ l ∧ l = left - es.length - cntEs (es.take i.toNat) := hi
    obtain ⟨g0, g1, g2, g3⟩ := hi
    cbv
    repeat' first | refine And.intro ?_ ?_ | (refine caseB_intro (fun hb => ?_) (fun hb => ?_) <;> cbv) | (refine loop_step (O.ar .add .i64 i 1, F.szN [O.gs es i 0] l) ?_ ?_ ?_; rotate_left 2; focus (cbv; done))
    all_goals ((try subst hos); subst hO hr hF; (try simp only [stdO, SS, sub_all, ad_zero] at *); (try simp only [ncast] at *); (try simp only [Int.ofNat_eq_natCast] at *))
    all_goals try have hlt : i < es.length := by assumption
    all_goals try rw [inc64 (n := es.length) g0 hlt (by omega)]
    all_goals (try simp only [LPostSS.F0] at *)
    all_goals try have he : es.getD i.toNat [] = [.s 2 (gsI es i 0)] := (etaE_whole hwf g0 hlt).symm
    all_goals try have hr0 : Rw [tI, tI] (gsI es i 0) := Rw.sub (fs := [.sl [tI, tI]]) hw (by omega) rfl
    all_goals try have hct := cntE_at (es := es) (n := i.toNat) (by omega); rw [he] at hct; simp only [cntR, cntL, Nat.add_zero, Nat.zero_add] at hct
    all_goals have hle := cntEs_take_le (es := es) (n := i.toNat)
    all_goals have hle1 := cntEs_take_le (es := es) (n := i.toNat + 1)
    all_goals have hsz := szN_neg (a := [gsI es i 0]) (left := l)
    all_goals have hsz2 : 0 ≤ szN0 [gsI es i 0] l → szN0 [gsI es i 0] l = l - cntRs [gsI es i 0] := szN_pos
    all_goals simp only [cntRs, cntE, Nat.add_zero] at hsz hsz2
    all_goals first
      | exact row_ro hwf g0 hlt
      | exact ⟨hr0, by omega, by omega⟩
      | trivial
      | omega
      | (rw [hn, if_pos]; omega)
      | (rw [hn, if_neg (by rw [show i.toNat = es.length from by omega, List.take_length] at g3; omega), show l = left - cntE es from by rw [show i.toNat = es.length from by omega, List.take_length] at g3; omega])
      | (rw [show (i + 1).toNat = i.toNat + 1 from by omega, hct]; omega)
      | trace_state
theorem c_laws_toPostSS (es : List (List L)) (hp : Rw [.sl [tI, tI]] es ∧ cntE es ≤ 1048576) : Ctr Tryz.prog 111 [.one (.s 1 es)] [.one (.s 1 es)] := by
  obtain ⟨hw, hlim⟩ := hp
  have hwf : Wf [.s 2 []] es := hw.wf
  have hlen : es.length ≤ 1048576 := Nat.le_trans (Nat.le_add_right _ _) hlim
  refine ctr_of (ctF := LPostSS.ct) (mtF := LPostSS.mt) (ptF := LPostSS.pt) (F0 := LPostSS.F0) tabOk LPostSS.ct_ok LPostSS.mt_ok LPostSS.pt_ok mixed 23 _ [66] [.tmp 2] Tryz.func111 rfl rfl rfl rfl rfl ?_
  intro O r F hO hr hF
  cbv
  have h0z : fillR es [.s 2 []] 0 = O.rep (O.zi (O.ln es)) [.s 2 []] := by
    subst hO
    rw [fillR_zero]; rfl
  refine ⟨?_, ?_, [0, 3, 4], [3], Int × List (List L), fun s => [.reg 4 (.one (.v (.int .i64 s.1))), .leaf 3 0 ⟨0, 0, none, .own (.s 1 s.2)⟩], fun s => 0 ≤ s.1 ∧ s.1.toNat ≤ es.length ∧ s.2 = fillR es [.s 2 []] s.1.toNat, fun s => es.length - s.1.toNat, ⟨(0, O.rep (O.zi (O.ln es)) [.s 2 []]), ?_, ?_⟩, ?_⟩
  · subst hO
    exact mk_ok (b := 24) (show es.length * _ ≤ _ by omega) (show es.length ≤ _ by omega)
  · subst hO
    exact ⟨rfl, rfl⟩
  · exact ⟨by omega, Nat.zero_le _, h0z.symm⟩
  · cbv
  · rintro ⟨i, m⟩ hi
    replace hi : 0 ≤ i ∧ i.toNat ≤ es.length ∧ m = fillR es [.s 2 []] i.toNat := hi
    obtain ⟨g0, g1, hm⟩ := hi
    cbv
    repeat' first | refine And.intro ?_ ?_ | (refine caseB_intro (fun hb => ?_) (fun hb => ?_) <;> cbv) | (refine loop_step (O.ar .add .i64 i 1, O.up (.s 1 m) [(O.ad 0 i, 0)] [.s 2 (O.gs es i 0)]) ?_ ?_ ?_; rotate_left 2; focus (cbv; done))
    all_goals ((try subst hos); subst hO hr hF; (try simp only [stdO, SS, sub_all, ad_zero] at *); (try simp only [ncast] at *); (try simp only [Int.ofNat_eq_natCast] at *))
    all_goals (try simp only [LPostSS.F0, repI, List.length_replicate, Int.toNat_natCast] at *)
    all_goals try have hlt : i < es.length := by assumption
    all_goals try rw [inc64 (n := es.length) g0 hlt (by omega)]
    all_goals try have he : es.getD i.toNat [] = [.s 2 (gsI es i 0)] := (etaE_whole hwf g0 hlt).symm
    all_goals try have hr0 : Rw [tI, tI] (gsI es i 0) := Rw.sub (fs := [.sl [tI, tI]]) hw (by omega) rfl
    all_goals try have hct := cntE_at (es := es) (n := i.toNat) (by omega); rw [he] at hct; simp only [cntR, cntL, Nat.add_zero, Nat.zero_add] at hct
    all_goals have hle1 := cntEs_take_le (es := es) (n := i.toNat + 1)
    all_goals have hcE : cntE es = es.length + cntEs es := rfl
    all_goals first
      | exact row_ro hwf g0 hlt
      | exact ⟨g0, hlt⟩
      | (rw [hm]; exact getR_some (by rw [fillR_length g1]; omega) (by rw [fillR_getD (by omega)]; exact Nat.le_refl _))
      | omega
      | (rw [show (i + 1).toNat = i.toNat + 1 from by omega, ← fillR_set (by omega), ← hm, upI_one (by rw [hm, fillR_getD (by omega)]; rfl), he])
      | (rw [hm, fillR_length g1]; exact ⟨trivial, rfl⟩)
      | (rw [hm, show i.toNat = es.length from by omega, fillR_all])
      | trivial
      | exact ⟨trivial, trivial⟩
      | (refine ⟨hr0, ?_⟩; simp only [cntRs, cntE, Nat.add_zero]; omega)
      | trace_state
theorem c_laws_eqPostSS (es : List (List L)) (d : DV) (hp : d = .one (.s 1 es) ∧ Rw [.sl [tI, tI]] es ∧ cntE es ≤ 1099511627776) : Ctr Tryz.prog 120 [.one (.s 1 es), d] [.one (.v (.bool true))] := by
  obtain ⟨rfl, hw, hlim⟩ := hp
  have hwf : Wf [.s 2 []] es := hw.wf
  have hlen : es.length ≤ 1099511627776 := Nat.le_trans (Nat.le_add_right _ _) hlim
  refine ctr_of (ctF := LPostSS.ct) (mtF := LPostSS.mt) (ptF := LPostSS.pt) (F0 := LPostSS.F0) tabOk LPostSS.ct_ok LPostSS.mt_ok LPostSS.pt_ok mixed 27 _ [4] [.tmp 4] Tryz.func120 rfl rfl rfl rfl rfl ?_
  intro O r F hO hr hF
  cbv
  refine caseB_intro (fun hb => ?_) (fun hb => ?_) <;> cbv
  · ((try subst hos); subst hO hr hF; (try simp only [stdO, SS, sub_all, ad_zero] at *); (try simp only [ncast] at *); (try simp only [Int.ofNat_eq_natCast] at *)); exact absurd rfl hb
  · clear hb
    refine ⟨[0, 1, 5], [], Int, fun i => [.reg 5 (.one (.v (.int .i64 i)))], fun i => 0 ≤ i ∧ i.toNat ≤ es.length, fun i => es.length - i.toNat, ⟨0, ?_, ?_⟩, ?_⟩
    · exact ⟨by omega, Nat.zero_le _⟩
    · cbv
    · rintro i hi
      replace hi : 0 ≤ i ∧ i.toNat ≤ es.length := hi
      obtain ⟨g0, g1⟩ := hi
      cbv
      repeat' first | refine And.intro ?_ ?_ | (refine caseB_intro (fun hb => ?_) (fun hb => ?_) <;> cbv) | (refine loop_step (O.ar .add .i64 i 1) ?_ ?_ ?_; rotate_left 2; focus (cbv; done))
      all_goals ((try subst hos); subst hO hr hF; (try simp only [stdO, SS, sub_all, ad_zero] at *); (try simp only [ncast] at *); (try simp only [Int.ofNat_eq_natCast] at *))
      all_goals (try simp only [LPostSS.F0] at *)
      all_goals try have hlt : i < es.length := by assumption
      all_goals try rw [inc64 (n := es.length) g0 hlt (by omega)]
      all_goals try have he : es.getD i.toNat [] = [.s 2 (gsI es i 0)] := (etaE_whole hwf g0 hlt).symm
      all_goals try have hr0 : Rw [tI, tI] (gsI es i 0) := Rw.sub (fs := [.sl [tI, tI]]) hw (by omega) rfl
      all_goals try have hct := cntE_at (es := es) (n := i.toNat) (by omega); rw [he] at hct; simp only [cntR, cntL, Nat.add_zero, Nat.zero_add] at hct
      all_goals have hle1 := cntEs_take_le (es := es) (n := i.toNat + 1)
      all_goals have hcE : cntE es = es.length + cntEs es := rfl
      all_goals first
        | omega
        | exact row_ro hwf g0 hlt
        | exact absurd rfl hb
        | exact absurd rfl (by assumption)
        | trivial
        | kernel_rfl
        | exact ⟨trivial, trivial⟩
        | (refine ⟨trivial, hr0, ?_⟩; simp only [cntRs, cntE, Nat.add_zero]; omega)
        | trace_state
theorem c_laws_markPostSS (es : List (List L)) (k : Int) (hp : Rw [.sl [tI, tI]] es ∧ cntE es ≤ 1099511627776 ∧ 0 ≤ k ∧ kN0 [es] k ≤ 1152921504606846976) : MCtr Tryz.prog 126 [.one (.s 1 es), .one (.v (.int .i64 k))] [.s 1 (mkN0 es k)] [.one (.v (.int .i64 (kN0 [es] k)))] := by
  obtain ⟨hw, hlim, hk0, hkb⟩ := hp
  have hwf : Wf [.s 2 []] es := hw.wf
  have hlen : es.length ≤ 1099511627776 := Nat.le_trans (Nat.le_add_right _ _) hlim
  refine mctr_of (ctF := LPostSS.ct) (mtF := LPostSS.mt) (ptF := LPostSS.pt) (F0 := LPostSS.F0) tabOk LPostSS.ct_ok LPostSS.mt_ok LPostSS.pt_ok mixed 19 _ [3] [.tmp 4] [(0, 0)] Tryz.func126 rfl rfl rfl rfl rfl rfl rfl ?_
  intro O r os F hO hr hos hF
  cbv
  refine ⟨[0, 1, 5], [0], Int × Int × List (List L), fun s => match s with | (i, k', cur) => [.reg 5 (.one (.v (.int .i64 i))), .reg 1 (.one (.v (.int .i64 k'))), .leaf 0 0 ⟨0, 0, some 0, .own (.s 1 cur)⟩], fun s => 0 ≤ s.1 ∧ s.1.toNat ≤ es.length ∧ s.2.1 = kTo es k s.1.toNat ∧ s.2.2 = mkTo es k s.1.toNat, fun s => es.length - s.1.toNat, ⟨(0, k, es), ?_, ?_⟩, ?_⟩
  · exact ⟨by omega, Nat.zero_le _, kTo_zero.symm, mkTo_zero.symm⟩
  · cbv
  · rintro ⟨i, k', cur⟩ hi
    replace hi : 0 ≤ i ∧ i.toNat ≤ es.length ∧ k' = kTo es k i.toNat ∧ cur = mkTo es k i.toNat := hi
    obtain ⟨g0, g1, hk', hc⟩ := hi
    cbv
    repeat' first | refine And.intro ?_ ?_ | (refine caseB_intro (fun hb => ?_) (fun hb => ?_) <;> cbv) | (refine loop_step (O.ar .add .i64 i 1, F.kN [O.ps (.s 1 (cur)) [(O.ad 0 i, 0)]] (k'), O.up (.s 1 (cur)) [(O.ad 0 i, 0)] [.s 2 (F.mkN (O.ps (.s 1 (cur)) [(O.ad 0 i, 0)]) (k'))]) ?_ ?_ ?_; rotate_left 2; focus (cbv; done))
    all_goals ((try subst hos); subst hO hr hF; (try simp only [stdO, SS, sub_all, ad_zero] at *); (try simp only [ncast] at *); (try simp only [Int.ofNat_eq_natCast] at *))
    all_goals (try simp only [LPostSS.F0] at *)
    all_goals try have hlt : i < es.length := by assumption
    all_goals try rw [inc64 (n := es.length) g0 hlt (by omega)]
    all_goals try have hlt' : i.toNat < es.length := by omega
    all_goals try have he : es.getD i.toNat [] = [.s 2 (gsI es i 0)] := (etaE_whole hwf g0 hlt).symm
    all_goals try have hr0 : Rw [tI, tI] (gsI es i 0) := Rw.sub (fs := [.sl [tI, tI]]) hw (by omega) rfl
    all_goals try have hct := cntE_at (es := es) (n := i.toNat) (by omega); rw [he] at hct; simp only [cntR, cntL, Nat.add_zero, Nat.zero_add] at hct
    all_goals try have hks := kTo_succ (es := es) (k := k) hlt'; rw [he] at hks; simp only [msR, msL] at hks
    all_goals try have hms := mkTo_set (es := es) (k := k) hlt'; rw [he] at hms; simp only [msR, msL] at hms
    all_goals have hle1 := cntEs_take_le (es := es) (n := i.toNat + 1)
    all_goals have hcE : cntE es = es.length + cntEs es := rfl
    all_goals have hk1 := kTo_k (es := es) (k := k) (n := i.toNat)
    all_goals have hk2 := kTo_k (es := es) (k := k) (n := i.toNat + 1)
    all_goals have hk3 := kTo_all (es := es) (k := k)
    all_goals have hk4 := kTo_k (es := es) (k := k) (n := es.length)
    all_goals have hk5 := kTo_le (es := es) (m := 0) (n := i.toNat) g1 (Nat.zero_le _)
    all_goals have hk6 := kTo_le (es := es) (m := i.toNat) (n := es.length) (Nat.le_refl _) g1
    all_goals try have hk7 := kTo_le (es := es) (m := i.toNat + 1) (n := es.length) (Nat.le_refl _) hlt'
    all_goals rw [kTo_zero] at hk5
    all_goals try have hk8 := kTo_mono (es := es) (n := i.toNat) hlt'
    all_goals try have hcl : i.toNat < cur.length := by rw [hc, mkTo_length g1]; exact hlt'
    all_goals try have hcg : cur.getD i.toNat [] = [.s 2 (gsI es i 0)] := by rw [hc, mkTo_getD g1]; exact he
    all_goals have ha1 : arI .add .i64 k' 1 = k' + 1 := add64 (by omega)
    all_goals have ha2 : arI .add .i64 (k' + 1) 1 = k' + 1 + 1 := add64 (by omega)
    all_goals have ha3 : arI .add .i64 (k' + 1 + 1) 1 = k' + 1 + 1 + 1 := add64 (by omega)
    all_goals have ha4 : arI .add .i64 (k' + 1 + 1 + 1) 1 = k' + 1 + 1 + 1 + 1 := add64 (by omega)
    all_goals try simp only [ha1, ha2, ha3, ha4]
    all_goals try simp only [ad_zero]
    all_goals try simp only [upI_cell, hcg, List.take, List.drop, List.length_cons, List.length_nil, List.nil_append, List.cons_append, List.append_nil, Nat.zero_add, Nat.reduceAdd, getD_set_same hcl, List.set_set, List.append_assoc]
    all_goals try simp only [psI_one, hcg, getD_set_same hcl, List.getD_cons_zero, List.getD_cons_succ, lfS]
    all_goals try simp only [getR_at hcl, getR_set hcl, getS_at hcl, getS_set hcl, hcg, List.getElem?_cons_zero, List.getElem?_cons_succ]
    all_goals first
      | exact ⟨g0, hlt⟩
      | (refine ⟨_, _, rfl, ?_⟩; simp; done)
      | (refine ⟨_, _, rfl, ?_, rfl⟩; simp; done)
      | (refine ⟨_, _, rfl, by simp, ?_⟩; show List.take _ (List.drop _ _) = [L.s _ (psI _ _)]; simp only [adv, psI_one, hcg, getD_set_same hcl, List.getD_cons_zero, List.getD_cons_succ, Nat.add_zero, lfS]; rfl)
      | exact ⟨trivial, _, rfl, rfl⟩
      | exact ⟨_, rfl⟩
      | omega
      | (rw [hk', show i.toNat = es.length from by omega, hk3]; done)
      | (rw [hc, show i.toNat = es.length from by omega, mkTo_all]; rfl)
      | (rw [show (i + 1).toNat = i.toNat + 1 from by omega, hks, hk']; done)
      | (rw [show (i + 1).toNat = i.toNat + 1 from by omega, hks, hk']; rfl)
      | (rw [show (i + 1).toNat = i.toNat + 1 from by omega, ← hms, hc, hk']; done)
      | (rw [show (i + 1).toNat = i.toNat + 1 from by omega, ← hms, hc, hk']; rfl)
      | (refine ⟨hr0, ?_, ?_, ?_⟩ <;> (try simp only [cntE, kN0]) <;> first | omega | (rw [hk']; omega))
      | trivial
      | trace_state
theorem c_laws_heldPostSS (ms : List (List L)) (k : Int) (hp : ∃ es, ms = mkN0 es k ∧ Rw [.sl [tI, tI]] es ∧ cntE es ≤ 1099511627776 ∧ 0 ≤ k ∧ kN0 [ms] k ≤ 1152921504606846976) : Ctr Tryz.prog 136 [.one (.s 1 ms), .one (.v (.int .i64 k))] [.one (.v (.int .i64 (kN0 [ms] k)))] := by
  obtain ⟨es, hms, hw, hlim, hk0, hkb⟩ := hp
  have hlen : es.length ≤ 1099511627776 := Nat.le_trans (Nat.le_add_right _ _) hlim
  have hml : ms.length = es.length := by rw [hms]; exact mkN_length
  have hkk : kN0 [ms] k = kN0 [es] k := by rw [hms]; exact kN_mk
  have hwm : Wf [.s 2 []] ms := by rw [hms]; exact conf_mk_wf hw
  have hwf : Wf [.s 2 []] es := hw.wf
  have hat : ∀ n, n < es.length → ms.getD n [] = (msR (es.getD n []) (kTo es k n)).1 := fun n hn => by rw [hms]; exact mkN_at hn
  refine ctr_of (ctF := LPostSS.ct) (mtF := LPostSS.mt) (ptF := LPostSS.pt) (F0 := LPostSS.F0) tabOk LPostSS.ct_ok LPostSS.mt_ok LPostSS.pt_ok mixed 21 _ [3] [.tmp 4] Tryz.func136 rfl rfl rfl rfl rfl ?_
  intro O r F hO hr hF
  cbv
  refine ⟨[0, 1, 5], [], Int × Int, fun s => match s with | (i, k') => [.reg 5 (.one (.v (.int .i64 i))), .reg 1 (.one (.v (.int .i64 k')))], fun s => 0 ≤ s.1 ∧ s.1.toNat ≤ es.length ∧ s.2 = kTo es k s.1.toNat, fun s => es.length - s.1.toNat, ⟨(0, k), ?_, ?_⟩, ?_⟩
  · exact ⟨by omega, Nat.zero_le _, kTo_zero.symm⟩
  · cbv
  · rintro ⟨i, k'⟩ hi
    replace hi : 0 ≤ i ∧ i.toNat ≤ es.length ∧ k' = kTo es k i.toNat := hi
    obtain ⟨g0, g1, hk'⟩ := hi
    cbv
    repeat' first | refine And.intro ?_ ?_ | (refine caseB_intro (fun hb => ?_) (fun hb => ?_) <;> cbv) | (refine loop_step (O.ar .add .i64 i 1, F.kN [O.gs ms i 0] (k')) ?_ ?_ ?_; rotate_left 2; focus (cbv; done))
    all_goals ((try subst hos); subst hO hr hF; (try simp only [stdO, SS, sub_all, ad_zero] at *); (try simp only [ncast] at *); (try simp only [Int.ofNat_eq_natCast] at *))
    all_goals (try simp only [LPostSS.F0] at *)
    all_goals try have hltm : i < ms.length := by assumption
    all_goals try have hlt : i < es.length := by omega
    all_goals try rw [inc64 (n := es.length) g0 hlt (by omega)]
    all_goals try have hlt' : i.toNat < es.length := by omega
    all_goals try have he : es.getD i.toNat [] = [.s 2 (gsI es i 0)] := (etaE_whole hwf g0 hlt).symm
    all_goals try have hr0 : Rw [tI, tI] (gsI es i 0) := Rw.sub (fs := [.sl [tI, tI]]) hw (by omega) rfl
    all_goals try have hct := cntE_at (es := es) (n := i.toNat) (by omega); rw [he] at hct; simp only [cntR, cntL, Nat.add_zero, Nat.zero_add] at hct
    all_goals try have hks := kTo_succ (es := es) (k := k) hlt'; rw [he] at hks; simp only [msR, msL] at hks
    all_goals try have hem : ([.s 2 (gsI ms i 0)] : (List L)) = _ := (etaE_whole hwm g0 hltm).trans (hat i.toNat hlt'); rw [he] at hem; simp only [msR, msL, List.cons.injEq, L.v.injEq, Value.int.injEq, Value.bool.injEq, L.s.injEq, true_and, and_true] at hem
    all_goals have hle1 := cntEs_take_le (es := es) (n := i.toNat + 1)
    all_goals have hcE : cntE es = es.length + cntEs es := rfl
    all_goals have hk1 := kTo_k (es := es) (k := k) (n := i.toNat)
    all_goals have hk2 := kTo_k (es := es) (k := k) (n := i.toNat + 1)
    all_goals have hk3 := kTo_all (es := es) (k := k)
    all_goals have hk4 := kTo_k (es := es) (k := k) (n := es.length)
    all_goals have hk5 := kTo_le (es := es) (m := 0) (n := i.toNat) g1 (Nat.zero_le _)
    all_goals have hk6 := kTo_le (es := es) (m := i.toNat) (n := es.length) (Nat.le_refl _) g1
    all_goals try have hk7 := kTo_le (es := es) (m := i.toNat + 1) (n := es.length) (Nat.le_refl _) hlt'
    all_goals rw [kTo_zero] at hk5
    all_goals try have hk8 := kTo_mono (es := es) (n := i.toNat) hlt'
    all_goals try rw [← hk'] at hem hks
    all_goals have ha1 : arI .add .i64 k' 1 = k' + 1 := add64 (by omega)
    all_goals have ha2 : arI .add .i64 (k' + 1) 1 = k' + 1 + 1 := add64 (by omega)
    all_goals have ha3 : arI .add .i64 (k' + 1 + 1) 1 = k' + 1 + 1 + 1 := add64 (by omega)
    all_goals have ha4 : arI .add .i64 (k' + 1 + 1 + 1) 1 = k' + 1 + 1 + 1 + 1 := add64 (by omega)
    all_goals try simp only [ha1, ha2, ha3, ha4] at *
    all_goals first
      | exact row_ro hwm g0 hltm
      | omega
      | (exfalso; revert hb; simp only [hem, cmpI, arI]; simp; done)
      | (rw [hk', show i.toNat = es.length from by omega, hk3, hkk]; done)
      | (rw [show (i + 1).toNat = i.toNat + 1 from by omega, hks]; done)
      | (rw [show (i + 1).toNat = i.toNat + 1 from by omega, hks, hem]; simp only [kN0, msEs_mk]; done)
      | (rw [show (i + 1).toNat = i.toNat + 1 from by omega, hks, hem.2]; simp only [kN0, msEs_mk]; done)
      | (refine ⟨_, by first | exact hem | exact hem.2 | exact hem.1 | rfl, hr0, ?_, ?_, ?_⟩ <;> (try simp only [kN0, msEs_mk, cntE]) <;> omega)
      | (refine ⟨_, by first | exact hem | exact hem.2 | exact hem.1 | rfl, hr0, ?_, ?_, ?_⟩ <;> (try rw [hem]) <;> (try rw [hem.2]) <;> (try simp only [kN0, msEs_mk, cntE]) <;> omega)
      | (exfalso; simp only [kN0, msEs_mk] at hb; omega)
      | (exfalso; (first | rw [hem] at hb | rw [hem.2] at hb); simp only [kN0, msEs_mk] at hb; omega)
      | trivial
      | trace_state
namespace LMail
structure Fns where
  szN : List (List (List L)) → Int → Int
  kN : List (List (List L)) → Int → Int
  mkN : List (List L) → Int → List (List L)
def F0 : Fns := ⟨szN0, kN0, mkN0⟩
def ct (F : Fns) : CT := fun f ds => match f with
  | 101 => match ds with
    | [.one (.s 1 es), .one (.v (.int .i64 left))] => some (fun _ => Rw [.sl [tI, tI]] es ∧ 0 ≤ left ∧ left ≤ 1048576, [.one (.v (.int .i64 (F.szN [es] left)))])
    | _ => none
  | 111 => match ds with
    | [.one (.s 1 es)] => some (fun _ => Rw [.sl [tI, tI]] es ∧ cntE es ≤ 1048576, [.one (.s 1 es)])
    | _ => none
  | 120 => match ds with
    | [.one (.s 1 es), d] => some (fun _ => d = .one (.s 1 es) ∧ Rw [.sl [tI, tI]] es ∧ cntE es ≤ 1099511627776, [.one (.v (.bool true))])
    | _ => none
  | 136 => match ds with
    | [.one (.s 1 ms), .one (.v (.int .i64 k))] => some (fun _ => ∃ es, ms = mkN0 es k ∧ Rw [.sl [tI, tI]] es ∧ cntE es ≤ 1099511627776 ∧ 0 ≤ k ∧ kN0 [ms] k ≤ 1152921504606846976, [.one (.v (.int .i64 (F.kN [ms] k)))])
    | _ => none
  | 102 => match ds with
    | [.one (.s 1 es), .one (.v (.int .i64 left))] => some (fun _ => Rw [.sl [tI]] es ∧ 0 ≤ left ∧ left ≤ 1048576, [.one (.v (.int .i64 (F.szN [es] left)))])
    | _ => none
  | 112 => match ds with
    | [.one (.s 1 es)] => some (fun _ => Rw [.sl [tI]] es ∧ cntE es ≤ 1048576, [.one (.s 1 es)])
    | _ => none
  | 121 => match ds with
    | [.one (.s 1 es), d] => some (fun _ => d = .one (.s 1 es) ∧ Rw [.sl [tI]] es ∧ cntE es ≤ 1099511627776, [.one (.v (.bool true))])
    | _ => none
  | 135 => match ds with
    | [.one (.s 1 ms), .one (.v (.int .i64 k))] => some (fun _ => ∃ es, ms = mkN0 es k ∧ Rw [.sl [tI]] es ∧ cntE es ≤ 1099511627776 ∧ 0 ≤ k ∧ kN0 [ms] k ≤ 1152921504606846976, [.one (.v (.int .i64 (F.kN [ms] k)))])
    | _ => none
  | _ => none
theorem ct_ok : CTok Tryz.prog (ct F0) := by
  intro f ds pre res h hp
  unfold ct at h
  split at h
  · split at h
    · cases h; exact c_laws_szPostSS _ _ hp
    · cases h
  · split at h
    · cases h; exact c_laws_toPostSS _ hp
    · cases h
  · split at h
    · cases h; exact c_laws_eqPostSS _ _ hp
    · cases h
  · split at h
    · cases h; exact c_laws_heldPostSS _ _ hp
    · cases h
  · split at h
    · cases h; exact c_laws_szIntSS _ _ hp
    · cases h
  · split at h
    · cases h; exact c_laws_toIntSS _ hp
    · cases h
  · split at h
    · cases h; exact c_laws_eqIntSS _ _ hp
    · cases h
  · split at h
    · cases h; exact c_laws_heldIntSS _ _ hp
    · cases h
  · cases h
def mt (F : Fns) : MT := fun f => match f with
  | 126 => some fun ds => match ds with
    | [.one (.s 1 es), .one (.v (.int .i64 k))] => some (fun _ => Rw [.sl [tI, tI]] es ∧ cntE es ≤ 1099511627776 ∧ 0 ≤ k ∧ kN0 [es] k ≤ 1152921504606846976, [.s 1 (F.mkN es k)], [.one (.v (.int .i64 (F.kN [es] k)))])
    | _ => none
  | 125 => some fun ds => match ds with
    | [.one (.s 1 es), .one (.v (.int .i64 k))] => some (fun _ => Rw [.sl [tI]] es ∧ cntE es ≤ 1099511627776 ∧ 0 ≤ k ∧ kN0 [es] k ≤ 1152921504606846976, [.s 1 (F.mkN es k)], [.one (.v (.int .i64 (F.kN [es] k)))])
    | _ => none
  | _ => none
theorem mt_ok : MTok Tryz.prog (mt F0) := by
  intro f mk h ds pre outs res hm hp
  unfold mt at h
  split at h
  · cases h; dsimp only at hm; split at hm
    · cases hm; exact c_laws_markPostSS _ _ hp
    · cases hm
  · cases h; dsimp only at hm; split at hm
    · cases hm; exact c_laws_markIntSS _ _ hp
    · cases hm
  · cases h
def pt : Fns → PT := noPT
theorem pt_ok : PTok Tryz.prog (pt F0) := noPT_ok
end LMail
theorem c_laws_szMail (a0 : List (List L)) (a1 : List (List L)) (left : Int) (hp : Rw [.sl [tI, tI]] a0 ∧ Rw [.sl [tI]] a1 ∧ 0 ≤ left ∧ left ≤ 1048576) : Ctr Tryz.prog 40 [.agg [.s 1 a0, .s 1 a1], .one (.v (.int .i64 left))] [.one (.v (.int .i64 (szN0 [a0, a1] left)))] := by
  obtain ⟨w0, w1, h0, h1⟩ := hp
  refine ctr_of (ctF := LMail.ct) (mtF := LMail.mt) (ptF := LMail.pt) (F0 := LMail.F0) tabOk LMail.ct_ok LMail.mt_ok LMail.pt_ok mixed 18 _ [3] [.tmp 4] Tryz.func40 rfl rfl rfl rfl rfl ?_
  intro O r F hO hr hF
  cbv
  repeat' first | refine And.intro ?_ ?_ | (refine caseB_intro (fun hb => ?_) (fun hb => ?_) <;> cbv)
  all_goals ((try subst hos); subst hO hr hF; (try simp only [stdO, SS, sub_all, ad_zero] at *); (try simp only [ncast] at *); (try simp only [Int.ofNat_eq_natCast] at *))
  all_goals (try simp only [LMail.F0] at *)
  all_goals iterate 1 (try simp (disch := assumption) only [szN_app, List.cons_append, List.nil_append] at *)
  all_goals first
    | trivial
    | exact rfl
    | (refine ⟨by assumption, by omega, by first | omega | exact Int.le_trans (szN_le (by assumption)) h1⟩)
    | (refine ⟨by assumption, by assumption, by omega, by first | omega | exact Int.le_trans (szN_le (by assumption)) h1⟩)
    | (rw [szN_neg1 (by assumption)])
    | exact congrArg (fun x => [DV.one (L.v (Value.int IntKind.i64 x))]) (szN_more (a := [a0]) (b := [a1]) (by assumption)).symm
    | trace_state
theorem c_laws_toMail (a0 : List (List L)) (a1 : List (List L)) (hp : Rw [.sl [tI, tI]] a0 ∧ Rw [.sl [tI]] a1 ∧ cntRs [a0, a1] ≤ 1048576) : Ctr Tryz.prog 51 [.agg [.s 1 a0, .s 1 a1]] [.agg [.s 1 a0, .s 1 a1]] := by
  obtain ⟨w0, w1, hlim⟩ := hp
  simp only [cntRs, Nat.add_zero] at hlim
  refine ctr_of (ctF := LMail.ct) (mtF := LMail.mt) (ptF := LMail.pt) (F0 := LMail.F0) tabOk LMail.ct_ok LMail.mt_ok LMail.pt_ok mixed 13 _ [68] [.cell 2 68] Tryz.func51 rfl rfl rfl rfl rfl ?_
  intro O r F hO hr hF
  cbv
  repeat' first | refine And.intro ?_ ?_ | (refine caseB_intro (fun hb => ?_) (fun hb => ?_) <;> cbv)
  all_goals ((try subst hos); subst hO hr hF; (try simp only [stdO, SS, sub_all, ad_zero] at *); (try simp only [ncast] at *); (try simp only [Int.ofNat_eq_natCast] at *))
  all_goals (try simp only [LMail.F0] at *)
  all_goals first
    | trivial
    | exact rfl
    | exact ⟨trivial, trivial⟩
    | exact ⟨rfl, rfl⟩
    | (refine ⟨by assumption, ?_⟩; (try simp only [cntRs, Nat.add_zero]); omega)
    | (refine ⟨by assumption, by assumption, ?_⟩; (try simp only [cntRs, Nat.add_zero]); omega)
    | ((try simp only [cntRs, Nat.add_zero]); omega)
    | trace_state
theorem c_laws_eqMail (a0 : List (List L)) (a1 : List (List L)) (d : DV) (hp : d = .agg [.s 1 a0, .s 1 a1] ∧ Rw [.sl [tI, tI]] a0 ∧ Rw [.sl [tI]] a1 ∧ cntRs [a0, a1] ≤ 1099511627776) : Ctr Tryz.prog 61 [.agg [.s 1 a0, .s 1 a1], d] [.one (.v (.bool true))] := by
  obtain ⟨rfl, w0, w1, hlim⟩ := hp
  simp only [cntRs, Nat.add_zero] at hlim
  refine ctr_of (ctF := LMail.ct) (mtF := LMail.mt) (ptF := LMail.pt) (F0 := LMail.F0) tabOk LMail.ct_ok LMail.mt_ok LMail.pt_ok mixed 17 _ [4] [.tmp 4] Tryz.func61 rfl rfl rfl rfl rfl ?_
  intro O r F hO hr hF
  cbv
  repeat' first | refine And.intro ?_ ?_ | (refine caseB_intro (fun hb => ?_) (fun hb => ?_) <;> cbv)
  all_goals ((try subst hos); subst hO hr hF; (try simp only [stdO, SS, sub_all, ad_zero] at *); (try simp only [ncast] at *); (try simp only [Int.ofNat_eq_natCast] at *))
  all_goals (try simp only [LMail.F0] at *)
  all_goals first
    | trivial
    | exact rfl
    | exact absurd rfl hb
    | exact absurd rfl (by assumption)
    | (refine ⟨trivial, by assumption, ?_⟩; (try simp only [cntRs, Nat.add_zero]); omega)
    | (refine ⟨trivial, by assumption, by assumption, ?_⟩; (try simp only [cntRs, Nat.add_zero]); omega)
    | (refine ⟨trivial, ?_⟩; (try simp only [cntRs, Nat.add_zero]); omega)
    | trace_state
theorem c_laws_markMail (a0 : List (List L)) (a1 : List (List L)) (k : Int) (hp : Rw [.sl [tI, tI]] a0 ∧ Rw [.sl [tI]] a1 ∧ cntRs [a0, a1] ≤ 1099511627776 ∧ 0 ≤ k ∧ kN0 [a0, a1] k ≤ 1152921504606846976) : MCtr Tryz.prog 69 [.agg [.s 1 a0, .s 1 a1], .one (.v (.int .i64 k))] [.s 1 (mkN0 a0 k), .s 1 (mkN0 a1 (kN0 [a0] k))] [.one (.v (.int .i64 (kN0 [a0, a1] k)))] := by
  obtain ⟨w0, w1, hlim, hk0, hkb⟩ := hp
  simp only [cntRs, Nat.add_zero] at hlim
  have p0 : kN0 [a0] k ≤ kN0 [a0, a1] k ∧ 0 ≤ kN0 [a0] k := kN_pre (b := [a1]) hk0
  have p1 : kN0 [a0, a1] k ≤ kN0 [a0, a1] k ∧ 0 ≤ kN0 [a0, a1] k := kN_pre (b := []) hk0
  refine mctr_of (ctF := LMail.ct) (mtF := LMail.mt) (ptF := LMail.pt) (F0 := LMail.F0) tabOk LMail.ct_ok LMail.mt_ok LMail.pt_ok mixed 14 _ [3] [.tmp 4] [(2, 0), (2, 1)] Tryz.func69 rfl rfl rfl rfl rfl rfl rfl ?_
  intro O r os F hO hr hos hF
  cbv
  repeat' first | refine And.intro ?_ ?_ | (refine caseB_intro (fun hb => ?_) (fun hb => ?_) <;> cbv)
  all_goals ((try subst hos); subst hO hr hF; (try simp only [stdO, SS, sub_all, ad_zero] at *); (try simp only [ncast] at *); (try simp only [Int.ofNat_eq_natCast] at *))
  all_goals (try simp only [LMail.F0] at *)
  all_goals (try simp only [kN_app, List.cons_append, List.nil_append, mkN_length] at *)
  all_goals first
    | trivial
    | exact rfl
    | exact ⟨trivial, trivial⟩
    | exact ⟨rfl, rfl⟩
    | (refine ⟨by assumption, ?_, ?_, ?_⟩ <;> (try simp only [kN_app, List.cons_append, List.nil_append, cntRs, Nat.add_zero]) <;> omega)
    | (refine ⟨by assumption, by assumption, ?_, ?_, ?_⟩ <;> (try simp only [kN_app, List.cons_append, List.nil_append, cntRs, Nat.add_zero]) <;> omega)
    | trace_state
theorem c_laws_heldMail (m0 : List (List L)) (m1 : List (List L)) (k : Int) (hp : (∃ a0, m0 = mkN0 a0 k ∧ Rw [.sl [tI, tI]] a0 ∧ cntE a0 ≤ 1099511627776) ∧ (∃ a1, m1 = mkN0 a1 (kN0 [m0] k) ∧ Rw [.sl [tI]] a1 ∧ cntE a1 ≤ 1099511627776) ∧ 0 ≤ k ∧ kN0 [m0, m1] k ≤ 1152921504606846976) : Ctr Tryz.prog 87 [.agg [.s 1 m0, .s 1 m1], .one (.v (.int .i64 k))] [.one (.v (.int .i64 (kN0 [m0, m1] k)))] := by
  obtain ⟨e0, e1, hk0, hkb⟩ := hp
  have p0 : kN0 [m0] k ≤ kN0 [m0, m1] k ∧ 0 ≤ kN0 [m0] k := kN_pre (b := [m1]) hk0
  have p1 : kN0 [m0, m1] k ≤ kN0 [m0, m1] k ∧ 0 ≤ kN0 [m0, m1] k := kN_pre (b := []) hk0
  refine ctr_of (ctF := LMail.ct) (mtF := LMail.mt) (ptF := LMail.pt) (F0 := LMail.F0) tabOk LMail.ct_ok LMail.mt_ok LMail.pt_ok mixed 18 _ [3] [.tmp 4] Tryz.func87 rfl rfl rfl rfl rfl ?_
  intro O r F hO hr hF
  cbv
  repeat' first | refine And.intro ?_ ?_ | (refine caseB_intro (fun hb => ?_) (fun hb => ?_) <;> cbv)
  all_goals ((try subst hos); subst hO hr hF; (try simp only [stdO, SS, sub_all, ad_zero] at *); (try simp only [ncast] at *); (try simp only [Int.ofNat_eq_natCast] at *))
  all_goals (try simp only [LMail.F0] at *)
  all_goals (try simp only [kN_app, List.cons_append, List.nil_append] at *)
  all_goals first
    | trivial
    | (exfalso; omega)
    | (obtain ⟨x, y1, y2, y3⟩ := e0; exact ⟨x, y1, y2, y3, by omega, by omega⟩)
    | (obtain ⟨x, y1, y2, y3⟩ := e1; exact ⟨x, y1, y2, y3, by omega, by omega⟩)
    | (refine ⟨by assumption, by omega, by omega⟩)
    | (refine ⟨by assumption, by assumption, by omega, by omega⟩)
    | trace_state
namespace LQuar
structure Fns where
  szN : List (List (List L)) → Int → Int
  kN : List (List (List L)) → Int → Int
  mkN : List (List L) → Int → List (List L)
def F0 : Fns := ⟨szN0, kN0, mkN0⟩
def ct (F : Fns) : CT := fun f ds => match f with
  | 103 => match ds with
    | [.one (.s 3 es), .one (.v (.int .i64 left))] => some (fun _ => Rw [tI, tI, tI] es ∧ 0 ≤ left ∧ left ≤ 1048576, [.one (.v (.int .i64 (F.szN [es] left)))])
    | _ => none
  | 113 => match ds with
    | [.one (.s 3 es)] => some (fun _ => Rw [tI, tI, tI] es ∧ cntE es ≤ 1048576, [.one (.s 3 es)])
    | _ => none
  | 122 => match ds with
    | [.one (.s 3 es), d] => some (fun _ => d = .one (.s 3 es) ∧ Rw [tI, tI, tI] es ∧ cntE es ≤ 1099511627776, [.one (.v (.bool true))])
    | _ => none
  | 137 => match ds with
    | [.one (.s 3 ms), .one (.v (.int .i64 k))] => some (fun _ => ∃ es, ms = mkN0 es k ∧ Rw [tI, tI, tI] es ∧ cntE es ≤ 1099511627776 ∧ 0 ≤ k ∧ kN0 [ms] k ≤ 1152921504606846976, [.one (.v (.int .i64 (F.kN [ms] k)))])
    | _ => none
  | _ => none
theorem ct_ok : CTok Tryz.prog (ct F0) := by
  intro f ds pre res h hp
  unfold ct at h
  split at h
  · split at h
    · cases h; exact c_laws_szStaleS _ _ hp
    · cases h
  · split at h
    · cases h; exact c_laws_toStaleS _ hp
    · cases h
  · split at h
    · cases h; exact c_laws_eqStaleS _ _ hp
    · cases h
  · split at h
    · cases h; exact c_laws_heldStaleS _ _ hp
    · cases h
  · cases h
def mt (F : Fns) : MT := fun f => match f with
  | 127 => some fun ds => match ds with
    | [.one (.s 3 es), .one (.v (.int .i64 k))] => some (fun _ => Rw [tI, tI, tI] es ∧ cntE es ≤ 1099511627776 ∧ 0 ≤ k ∧ kN0 [es] k ≤ 1152921504606846976, [.s 3 (F.mkN es k)], [.one (.v (.int .i64 (F.kN [es] k)))])
    | _ => none
  | _ => none
theorem mt_ok : MTok Tryz.prog (mt F0) := by
  intro f mk h ds pre outs res hm hp
  unfold mt at h
  split at h
  · cases h; dsimp only at hm; split at hm
    · cases hm; exact c_laws_markStaleS _ _ hp
    · cases hm
  · cases h
def pt : Fns → PT := noPT
theorem pt_ok : PTok Tryz.prog (pt F0) := noPT_ok
end LQuar
theorem c_laws_szQuar (a0 : Int) (a1 : List (List L)) (left : Int) (hp : Rw [tI, tI, tI] a1 ∧ 0 ≤ left ∧ left ≤ 1048576) : Ctr Tryz.prog 41 [.agg [.v (.int .i64 a0), .s 3 a1], .one (.v (.int .i64 left))] [.one (.v (.int .i64 (szN0 [a1] left)))] := by
  obtain ⟨w0, h0, h1⟩ := hp
  refine ctr_of (ctF := LQuar.ct) (mtF := LQuar.mt) (ptF := LQuar.pt) (F0 := LQuar.F0) tabOk LQuar.ct_ok LQuar.mt_ok LQuar.pt_ok mixed 12 _ [3] [.tmp 4] Tryz.func41 rfl rfl rfl rfl rfl ?_
  intro O r F hO hr hF
  cbv
  repeat' first | refine And.intro ?_ ?_ | (refine caseB_intro (fun hb => ?_) (fun hb => ?_) <;> cbv)
  all_goals ((try subst hos); subst hO hr hF; (try simp only [stdO, SS, sub_all, ad_zero] at *); (try simp only [ncast] at *); (try simp only [Int.ofNat_eq_natCast] at *))
  all_goals (try simp only [LQuar.F0] at *)
  all_goals iterate 1 (try simp (disch := assumption) only [szN_app, List.cons_append, List.nil_append] at *)
  all_goals first
    | trivial
    | exact rfl
    | (refine ⟨by assumption, by omega, by first | omega | exact Int.le_trans (szN_le (by assumption)) h1⟩)
    | (rw [szN_neg1 (by assumption)])
    | trace_state
theorem c_laws_toQuar (a0 : Int) (a1 : List (List L)) (hp : Rw [tI, tI, tI] a1 ∧ cntRs [a1] ≤ 1048576) : Ctr Tryz.prog 52 [.agg [.v (.int .i64 a0), .s 3 a1]] [.agg [.v (.int .i64 a0), .s 3 a1]] := by
  obtain ⟨w0, hlim⟩ := hp
  simp only [cntRs, Nat.add_zero] at hlim
  refine ctr_of (ctF := LQuar.ct) (mtF := LQuar.mt) (ptF := LQuar.pt) (F0 := LQuar.F0) tabOk LQuar.ct_ok LQuar.mt_ok LQuar.pt_ok mixed 12 _ [71] [.cell 2 71] Tryz.func52 rfl rfl rfl rfl rfl ?_
  intro O r F hO hr hF
  cbv
  repeat' first | refine And.intro ?_ ?_ | (refine caseB_intro (fun hb => ?_) (fun hb => ?_) <;> cbv)
  all_goals ((try subst hos); subst hO hr hF; (try simp only [stdO, SS, sub_all, ad_zero] at *); (try simp only [ncast] at *); (try simp only [Int.ofNat_eq_natCast] at *))
  all_goals (try simp only [LQuar.F0] at *)
  all_goals first
    | trivial
    | exact rfl
    | exact ⟨trivial, trivial⟩
    | exact ⟨rfl, rfl⟩
    | (refine ⟨by assumption, ?_⟩; (try simp only [cntRs, Nat.add_zero]); omega)
    | ((try simp only [cntRs, Nat.add_zero]); omega)
    | trace_state
theorem c_laws_eqQuar (a0 : Int) (a1 : List (List L)) (d : DV) (hp : d = .agg [.v (.int .i64 a0), .s 3 a1] ∧ Rw [tI, tI, tI] a1 ∧ cntRs [a1] ≤ 1099511627776) : Ctr Tryz.prog 62 [.agg [.v (.int .i64 a0), .s 3 a1], d] [.one (.v (.bool true))] := by
  obtain ⟨rfl, w0, hlim⟩ := hp
  simp only [cntRs, Nat.add_zero] at hlim
  refine ctr_of (ctF := LQuar.ct) (mtF := LQuar.mt) (ptF := LQuar.pt) (F0 := LQuar.F0) tabOk LQuar.ct_ok LQuar.mt_ok LQuar.pt_ok mixed 16 _ [4] [.tmp 4] Tryz.func62 rfl rfl rfl rfl rfl ?_
  intro O r F hO hr hF
  cbv
  repeat' first | refine And.intro ?_ ?_ | (refine caseB_intro (fun hb => ?_) (fun hb => ?_) <;> cbv)
  all_goals ((try subst hos); subst hO hr hF; (try simp only [stdO, SS, sub_all, ad_zero] at *); (try simp only [ncast] at *); (try simp only [Int.ofNat_eq_natCast] at *))
  all_goals (try simp only [LQuar.F0] at *)
  all_goals first
    | trivial
    | exact rfl
    | exact absurd rfl hb
    | exact absurd rfl (by assumption)
    | (refine ⟨trivial, by assumption, ?_⟩; (try simp only [cntRs, Nat.add_zero]); omega)
    | (refine ⟨trivial, ?_⟩; (try simp only [cntRs, Nat.add_zero]); omega)
    | trace_state
theorem c_laws_markQuar (a0 : Int) (a1 : List (List L)) (k : Int) (hp : Rw [tI, tI, tI] a1 ∧ cntRs [a1] ≤ 1099511627776 ∧ 0 ≤ k ∧ kN0 [a1] k ≤ 1152921504606846976) : MCtr Tryz.prog 70 [.agg [.v (.int .i64 a0), .s 3 a1], .one (.v (.int .i64 k))] [.s 3 (mkN0 a1 k)] [.one (.v (.int .i64 (kN0 [a1] k)))] := by
  obtain ⟨w0, hlim, hk0, hkb⟩ := hp
  simp only [cntRs, Nat.add_zero] at hlim
  have p0 : kN0 [a1] k ≤ kN0 [a1] k ∧ 0 ≤ kN0 [a1] k := kN_pre (b := []) hk0
  refine mctr_of (ctF := LQuar.ct) (mtF := LQuar.mt) (ptF := LQuar.pt) (F0 := LQuar.F0) tabOk LQuar.ct_ok LQuar.mt_ok LQuar.pt_ok mixed 10 _ [3] [.tmp 4] [(2, 1)] Tryz.func70 rfl rfl rfl rfl rfl rfl rfl ?_
  intro O r os F hO hr hos hF
  cbv
  repeat' first | refine And.intro ?_ ?_ | (refine caseB_intro (fun hb => ?_) (fun hb => ?_) <;> cbv)
  all_goals ((try subst hos); subst hO hr hF; (try simp only [stdO, SS, sub_all, ad_zero] at *); (try simp only [ncast] at *); (try simp only [Int.ofNat_eq_natCast] at *))
  all_goals (try simp only [LQuar.F0] at *)
  all_goals (try simp only [kN_app, List.cons_append, List.nil_append, mkN_length] at *)
  all_goals first
    | trivial
    | exact rfl
    | exact ⟨trivial, trivial⟩
    | exact ⟨rfl, rfl⟩
    | (refine ⟨by assumption, ?_, ?_, ?_⟩ <;> (try simp only [kN_app, List.cons_append, List.nil_append, cntRs, Nat.add_zero]) <;> omega)
    | trace_state
theorem c_laws_heldQuar (m0 : Int) (m1 : List (List L)) (k : Int) (hp : (∃ a1, m1 = mkN0 a1 k ∧ Rw [tI, tI, tI] a1 ∧ cntE a1 ≤ 1099511627776) ∧ 0 ≤ k ∧ kN0 [m1] k ≤ 1152921504606846976) : Ctr Tryz.prog 88 [.agg [.v (.int .i64 m0), .s 3 m1], .one (.v (.int .i64 k))] [.one (.v (.int .i64 (kN0 [m1] k)))] := by
  obtain ⟨e0, hk0, hkb⟩ := hp
  have p0 : kN0 [m1] k ≤ kN0 [m1] k ∧ 0 ≤ kN0 [m1] k := kN_pre (b := []) hk0
  refine ctr_of (ctF := LQuar.ct) (mtF := LQuar.mt) (ptF := LQuar.pt) (F0 := LQuar.F0) tabOk LQuar.ct_ok LQuar.mt_ok LQuar.pt_ok mixed 12 _ [3] [.tmp 4] Tryz.func88 rfl rfl rfl rfl rfl ?_
  intro O r F hO hr hF
  cbv
  repeat' first | refine And.intro ?_ ?_ | (refine caseB_intro (fun hb => ?_) (fun hb => ?_) <;> cbv)
  all_goals ((try subst hos); subst hO hr hF; (try simp only [stdO, SS, sub_all, ad_zero] at *); (try simp only [ncast] at *); (try simp only [Int.ofNat_eq_natCast] at *))
  all_goals (try simp only [LQuar.F0] at *)
  all_goals (try simp only [kN_app, List.cons_append, List.nil_append] at *)
  all_goals first
    | trivial
    | (exfalso; omega)
    | (obtain ⟨x, y1, y2, y3⟩ := e0; exact ⟨x, y1, y2, y3, by omega, by omega⟩)
    | (refine ⟨by assumption, by omega, by omega⟩)
    | trace_state
namespace LPlan
structure Fns where
  szN : List (List (List L)) → Int → Int
  kN : List (List (List L)) → Int → Int
  mkN : List (List L) → Int → List (List L)
def F0 : Fns := ⟨szN0, kN0, mkN0⟩
def ct (F : Fns) : CT := fun f ds => match f with
  | 93 => match ds with
    | [.one (.s 1 es), .one (.v (.int .i64 left))] => some (fun _ => Rw [tI] es ∧ 0 ≤ left ∧ left ≤ 1048576, [.one (.v (.int .i64 (F.szN [es] left)))])
    | _ => none
  | 17 => match ds with
    | [.one (.s 1 es)] => some (fun _ => Rw [tI] es ∧ cntE es ≤ 1048576, [.one (.s 1 es)])
    | _ => none
  | 11 => match ds with
    | [.one (.s 1 es), d] => some (fun _ => d = .one (.s 1 es) ∧ Rw [tI] es ∧ cntE es ≤ 1099511627776, [.one (.v (.bool true))])
    | _ => none
  | 15 => match ds with
    | [.one (.s 1 ms), .one (.v (.int .i64 k))] => some (fun _ => ∃ es, ms = mkN0 es k ∧ Rw [tI] es ∧ cntE es ≤ 1099511627776 ∧ 0 ≤ k ∧ kN0 [ms] k ≤ 1152921504606846976, [.one (.v (.int .i64 (F.kN [ms] k)))])
    | _ => none
  | _ => none
theorem ct_ok : CTok Tryz.prog (ct F0) := by
  intro f ds pre res h hp
  unfold ct at h
  split at h
  · split at h
    · cases h; exact c_laws_szIntS _ _ hp
    · cases h
  · split at h
    · cases h; exact c_laws_toIntS _ hp
    · cases h
  · split at h
    · cases h; exact c_laws_eqIntS _ _ hp
    · cases h
  · split at h
    · cases h; exact c_laws_heldIntS _ _ hp
    · cases h
  · cases h
def mt (F : Fns) : MT := fun f => match f with
  | 14 => some fun ds => match ds with
    | [.one (.s 1 es), .one (.v (.int .i64 k))] => some (fun _ => Rw [tI] es ∧ cntE es ≤ 1099511627776 ∧ 0 ≤ k ∧ kN0 [es] k ≤ 1152921504606846976, [.s 1 (F.mkN es k)], [.one (.v (.int .i64 (F.kN [es] k)))])
    | _ => none
  | _ => none
theorem mt_ok : MTok Tryz.prog (mt F0) := by
  intro f mk h ds pre outs res hm hp
  unfold mt at h
  split at h
  · cases h; dsimp only at hm; split at hm
    · cases hm; exact c_laws_markIntS _ _ hp
    · cases hm
  · cases h
def pt : Fns → PT := noPT
theorem pt_ok : PTok Tryz.prog (pt F0) := noPT_ok
end LPlan
theorem c_laws_szPlan (a0 : Int) (a1 : Int) (a2 : List (List L)) (left : Int) (hp : Rw [tI] a2 ∧ 0 ≤ left ∧ left ≤ 1048576) : Ctr Tryz.prog 104 [.agg [.v (.int .i64 a0), .v (.int .i64 a1), .s 1 a2], .one (.v (.int .i64 left))] [.one (.v (.int .i64 (szN0 [a2] left)))] := by
  obtain ⟨w0, h0, h1⟩ := hp
  refine ctr_of (ctF := LPlan.ct) (mtF := LPlan.mt) (ptF := LPlan.pt) (F0 := LPlan.F0) tabOk LPlan.ct_ok LPlan.mt_ok LPlan.pt_ok mixed 12 _ [3] [.tmp 4] Tryz.func104 rfl rfl rfl rfl rfl ?_
  intro O r F hO hr hF
  cbv
  repeat' first | refine And.intro ?_ ?_ | (refine caseB_intro (fun hb => ?_) (fun hb => ?_) <;> cbv)
  all_goals ((try subst hos); subst hO hr hF; (try simp only [stdO, SS, sub_all, ad_zero] at *); (try simp only [ncast] at *); (try simp only [Int.ofNat_eq_natCast] at *))
  all_goals (try simp only [LPlan.F0] at *)
  all_goals iterate 2 (try simp (disch := assumption) only [szN_app, List.cons_append, List.nil_append] at *)
  all_goals first
    | trivial
    | exact rfl
    | (refine ⟨by assumption, by omega, by first | omega | exact Int.le_trans (szN_le (by assumption)) h1⟩)
    | (rw [szN_neg1 (by assumption)])
    | trace_state
theorem c_laws_toPlan (a0 : Int) (a1 : Int) (a2 : List (List L)) (hp : Rw [tI] a2 ∧ cntRs [a2] ≤ 1048576) : Ctr Tryz.prog 114 [.agg [.v (.int .i64 a0), .v (.int .i64 a1), .s 1 a2]] [.agg [.v (.int .i64 a0), .v (.int .i64 a1), .s 1 a2]] := by
  obtain ⟨w0, hlim⟩ := hp
  simp only [cntRs, Nat.add_zero] at hlim
  refine ctr_of (ctF := LPlan.ct) (mtF := LPlan.mt) (ptF := LPlan.pt) (F0 := LPlan.F0) tabOk LPlan.ct_ok LPlan.mt_ok LPlan.pt_ok mixed 15 _ [72] [.cell 2 72] Tryz.func114 rfl rfl rfl rfl rfl ?_
  intro O r F hO hr hF
  cbv
  repeat' first | refine And.intro ?_ ?_ | (refine caseB_intro (fun hb => ?_) (fun hb => ?_) <;> cbv)
  all_goals ((try subst hos); subst hO hr hF; (try simp only [stdO, SS, sub_all, ad_zero] at *); (try simp only [ncast] at *); (try simp only [Int.ofNat_eq_natCast] at *))
  all_goals (try simp only [LPlan.F0] at *)
  all_goals first
    | trivial
    | exact rfl
    | exact ⟨trivial, trivial⟩
    | exact ⟨rfl, rfl⟩
    | (refine ⟨by assumption, ?_⟩; (try simp only [cntRs, Nat.add_zero]); omega)
    | ((try simp only [cntRs, Nat.add_zero]); omega)
    | trace_state
theorem c_laws_eqPlan (a0 : Int) (a1 : Int) (a2 : List (List L)) (d : DV) (hp : d = .agg [.v (.int .i64 a0), .v (.int .i64 a1), .s 1 a2] ∧ Rw [tI] a2 ∧ cntRs [a2] ≤ 1099511627776) : Ctr Tryz.prog 123 [.agg [.v (.int .i64 a0), .v (.int .i64 a1), .s 1 a2], d] [.one (.v (.bool true))] := by
  obtain ⟨rfl, w0, hlim⟩ := hp
  simp only [cntRs, Nat.add_zero] at hlim
  refine ctr_of (ctF := LPlan.ct) (mtF := LPlan.mt) (ptF := LPlan.pt) (F0 := LPlan.F0) tabOk LPlan.ct_ok LPlan.mt_ok LPlan.pt_ok mixed 21 _ [4] [.tmp 4] Tryz.func123 rfl rfl rfl rfl rfl ?_
  intro O r F hO hr hF
  cbv
  repeat' first | refine And.intro ?_ ?_ | (refine caseB_intro (fun hb => ?_) (fun hb => ?_) <;> cbv)
  all_goals ((try subst hos); subst hO hr hF; (try simp only [stdO, SS, sub_all, ad_zero] at *); (try simp only [ncast] at *); (try simp only [Int.ofNat_eq_natCast] at *))
  all_goals (try simp only [LPlan.F0] at *)
  all_goals first
    | trivial
    | exact rfl
    | exact absurd rfl hb
    | exact absurd rfl (by assumption)
    | (refine ⟨trivial, by assumption, ?_⟩; (try simp only [cntRs, Nat.add_zero]); omega)
    | (refine ⟨trivial, ?_⟩; (try simp only [cntRs, Nat.add_zero]); omega)
    | trace_state
theorem c_laws_markPlan (a0 : Int) (a1 : Int) (a2 : List (List L)) (k : Int) (hp : Rw [tI] a2 ∧ cntRs [a2] ≤ 1099511627776 ∧ 0 ≤ k ∧ kN0 [a2] k ≤ 1152921504606846976) : MCtr Tryz.prog 128 [.agg [.v (.int .i64 a0), .v (.int .i64 a1), .s 1 a2], .one (.v (.int .i64 k))] [.s 1 (mkN0 a2 k)] [.one (.v (.int .i64 (kN0 [a2] k)))] := by
  obtain ⟨w0, hlim, hk0, hkb⟩ := hp
  simp only [cntRs, Nat.add_zero] at hlim
  have p0 : kN0 [a2] k ≤ kN0 [a2] k ∧ 0 ≤ kN0 [a2] k := kN_pre (b := []) hk0
  refine mctr_of (ctF := LPlan.ct) (mtF := LPlan.mt) (ptF := LPlan.pt) (F0 := LPlan.F0) tabOk LPlan.ct_ok LPlan.mt_ok LPlan.pt_ok mixed 10 _ [3] [.tmp 4] [(2, 2)] Tryz.func128 rfl rfl rfl rfl rfl rfl rfl ?_
  intro O r os F hO hr hos hF
  cbv
  repeat' first | refine And.intro ?_ ?_ | (refine caseB_intro (fun hb => ?_) (fun hb => ?_) <;> cbv)
  all_goals ((try subst hos); subst hO hr hF; (try simp only [stdO, SS, sub_all, ad_zero] at *); (try simp only [ncast] at *); (try simp only [Int.ofNat_eq_natCast] at *))
  all_goals (try simp only [LPlan.F0] at *)
  all_goals (try simp only [kN_app, List.cons_append, List.nil_append, mkN_length] at *)
  all_goals first
    | trivial
    | exact rfl
    | exact ⟨trivial, trivial⟩
    | exact ⟨rfl, rfl⟩
    | (refine ⟨by assumption, ?_, ?_, ?_⟩ <;> (try simp only [kN_app, List.cons_append, List.nil_append, cntRs, Nat.add_zero]) <;> omega)
    | trace_state
theorem c_laws_heldPlan (m0 : Int) (m1 : Int) (m2 : List (List L)) (k : Int) (hp : (∃ a2, m2 = mkN0 a2 k ∧ Rw [tI] a2 ∧ cntE a2 ≤ 1099511627776) ∧ 0 ≤ k ∧ kN0 [m2] k ≤ 1152921504606846976) : Ctr Tryz.prog 138 [.agg [.v (.int .i64 m0), .v (.int .i64 m1), .s 1 m2], .one (.v (.int .i64 k))] [.one (.v (.int .i64 (kN0 [m2] k)))] := by
  obtain ⟨e0, hk0, hkb⟩ := hp
  have p0 : kN0 [m2] k ≤ kN0 [m2] k ∧ 0 ≤ kN0 [m2] k := kN_pre (b := []) hk0
  refine ctr_of (ctF := LPlan.ct) (mtF := LPlan.mt) (ptF := LPlan.pt) (F0 := LPlan.F0) tabOk LPlan.ct_ok LPlan.mt_ok LPlan.pt_ok mixed 12 _ [3] [.tmp 4] Tryz.func138 rfl rfl rfl rfl rfl ?_
  intro O r F hO hr hF
  cbv
  repeat' first | refine And.intro ?_ ?_ | (refine caseB_intro (fun hb => ?_) (fun hb => ?_) <;> cbv)
  all_goals ((try subst hos); subst hO hr hF; (try simp only [stdO, SS, sub_all, ad_zero] at *); (try simp only [ncast] at *); (try simp only [Int.ofNat_eq_natCast] at *))
  all_goals (try simp only [LPlan.F0] at *)
  all_goals (try simp only [kN_app, List.cons_append, List.nil_append] at *)
  all_goals first
    | trivial
    | (exfalso; omega)
    | (obtain ⟨x, y1, y2, y3⟩ := e0; exact ⟨x, y1, y2, y3, by omega, by omega⟩)
    | (refine ⟨by assumption, by omega, by omega⟩)
    | trace_state
namespace LJob
structure Fns where
  szN : List (List (List L)) → Int → Int
  kN : List (List (List L)) → Int → Int
  mkN : List (List L) → Int → List (List L)
def F0 : Fns := ⟨szN0, kN0, mkN0⟩
def ct (F : Fns) : CT := fun f ds => match f with
  | 104 => match ds with
    | [.agg [.v (.int .i64 a0), .v (.int .i64 a1), .s 1 a2], .one (.v (.int .i64 left))] => some (fun _ => Rw [tI] a2 ∧ 0 ≤ left ∧ left ≤ 1048576, [.one (.v (.int .i64 (F.szN [a2] left)))])
    | _ => none
  | 114 => match ds with
    | [.agg [.v (.int .i64 a0), .v (.int .i64 a1), .s 1 a2]] => some (fun _ => Rw [tI] a2 ∧ cntRs [a2] ≤ 1048576, [.agg [.v (.int .i64 a0), .v (.int .i64 a1), .s 1 a2]])
    | _ => none
  | 123 => match ds with
    | [.agg [.v (.int .i64 a0), .v (.int .i64 a1), .s 1 a2], d] => some (fun _ => d = .agg [.v (.int .i64 a0), .v (.int .i64 a1), .s 1 a2] ∧ Rw [tI] a2 ∧ cntRs [a2] ≤ 1099511627776, [.one (.v (.bool true))])
    | _ => none
  | 138 => match ds with
    | [.agg [.v (.int .i64 m0), .v (.int .i64 m1), .s 1 m2], .one (.v (.int .i64 k))] => some (fun _ => (∃ a2, m2 = mkN0 a2 k ∧ Rw [tI] a2 ∧ cntE a2 ≤ 1099511627776) ∧ 0 ≤ k ∧ kN0 [m2] k ≤ 1152921504606846976, [.one (.v (.int .i64 (F.kN [m2] k)))])
    | _ => none
  | _ => none
theorem ct_ok : CTok Tryz.prog (ct F0) := by
  intro f ds pre res h hp
  unfold ct at h
  split at h
  · split at h
    · cases h; exact c_laws_szPlan _ _ _ _ hp
    · cases h
  · split at h
    · cases h; exact c_laws_toPlan _ _ _ hp
    · cases h
  · split at h
    · cases h; exact c_laws_eqPlan _ _ _ _ hp
    · cases h
  · split at h
    · cases h; exact c_laws_heldPlan _ _ _ _ hp
    · cases h
  · cases h
def mt (F : Fns) : MT := fun f => match f with
  | 128 => some fun ds => match ds with
    | [.agg [.v (.int .i64 a0), .v (.int .i64 a1), .s 1 a2], .one (.v (.int .i64 k))] => some (fun _ => Rw [tI] a2 ∧ cntRs [a2] ≤ 1099511627776 ∧ 0 ≤ k ∧ kN0 [a2] k ≤ 1152921504606846976, [.s 1 (F.mkN a2 k)], [.one (.v (.int .i64 (F.kN [a2] k)))])
    | _ => none
  | _ => none
theorem mt_ok : MTok Tryz.prog (mt F0) := by
  intro f mk h ds pre outs res hm hp
  unfold mt at h
  split at h
  · cases h; dsimp only at hm; split at hm
    · cases hm; exact c_laws_markPlan _ _ _ _ hp
    · cases hm
  · cases h
def pt : Fns → PT := noPT
theorem pt_ok : PTok Tryz.prog (pt F0) := noPT_ok
end LJob
theorem c_laws_szJob (a0 : Int) (a1 : Int) (a2 : List (List L)) (a3 : Int) (a4 : Int) (left : Int) (hp : Rw [tI] a2 ∧ 0 ≤ left ∧ left ≤ 1048576) : Ctr Tryz.prog 42 [.agg [.v (.int .i64 a0), .v (.int .i64 a1), .s 1 a2, .v (.int .i64 a3), .v (.int .i64 a4)], .one (.v (.int .i64 left))] [.one (.v (.int .i64 (szN0 [a2] left)))] := by
  obtain ⟨w0, h0, h1⟩ := hp
  refine ctr_of (ctF := LJob.ct) (mtF := LJob.mt) (ptF := LJob.pt) (F0 := LJob.F0) tabOk LJob.ct_ok LJob.mt_ok LJob.pt_ok mixed 12 _ [3] [.tmp 4] Tryz.func42 rfl rfl rfl rfl rfl ?_
  intro O r F hO hr hF
  cbv
  repeat' first | refine And.intro ?_ ?_ | (refine caseB_intro (fun hb => ?_) (fun hb => ?_) <;> cbv)
  all_goals ((try subst hos); subst hO hr hF; (try simp only [stdO, SS, sub_all, ad_zero] at *); (try simp only [ncast] at *); (try simp only [Int.ofNat_eq_natCast] at *))
  all_goals (try simp only [LJob.F0] at *)
  all_goals iterate 2 (try simp (disch := assumption) only [szN_app, List.cons_append, List.nil_append] at *)
  all_goals first
    | trivial
    | exact rfl
    | (refine ⟨by assumption, by omega, by first | omega | exact Int.le_trans (szN_le (by assumption)) h1⟩)
    | (rw [szN_neg1 (by assumption)])
    | trace_state
theorem c_laws_toJob (a0 : Int) (a1 : Int) (a2 : List (List L)) (a3 : Int) (a4 : Int) (hp : Rw [tI] a2 ∧ cntRs [a2] ≤ 1048576) : Ctr Tryz.prog 53 [.agg [.v (.int .i64 a0), .v (.int .i64 a1), .s 1 a2, .v (.int .i64 a3), .v (.int .i64 a4)]] [.agg [.v (.int .i64 a0), .v (.int .i64 a1), .s 1 a2, .v (.int .i64 a3), .v (.int .i64 a4)]] := by
  obtain ⟨w0, hlim⟩ := hp
  simp only [cntRs, Nat.add_zero] at hlim
  refine ctr_of (ctF := LJob.ct) (mtF := LJob.mt) (ptF := LJob.pt) (F0 := LJob.F0) tabOk LJob.ct_ok LJob.mt_ok LJob.pt_ok mixed 15 _ [74] [.cell 2 74] Tryz.func53 rfl rfl rfl rfl rfl ?_
  intro O r F hO hr hF
  cbv
  repeat' first | refine And.intro ?_ ?_ | (refine caseB_intro (fun hb => ?_) (fun hb => ?_) <;> cbv)
  all_goals ((try subst hos); subst hO hr hF; (try simp only [stdO, SS, sub_all, ad_zero] at *); (try simp only [ncast] at *); (try simp only [Int.ofNat_eq_natCast] at *))
  all_goals (try simp only [LJob.F0] at *)
  all_goals first
    | trivial
    | exact rfl
    | exact ⟨trivial, trivial⟩
    | exact ⟨rfl, rfl⟩
    | (refine ⟨by assumption, ?_⟩; (try simp only [cntRs, Nat.add_zero]); omega)
    | ((try simp only [cntRs, Nat.add_zero]); omega)
    | trace_state
theorem c_laws_eqJob (a0 : Int) (a1 : Int) (a2 : List (List L)) (a3 : Int) (a4 : Int) (d : DV) (hp : d = .agg [.v (.int .i64 a0), .v (.int .i64 a1), .s 1 a2, .v (.int .i64 a3), .v (.int .i64 a4)] ∧ Rw [tI] a2 ∧ cntRs [a2] ≤ 1099511627776) : Ctr Tryz.prog 63 [.agg [.v (.int .i64 a0), .v (.int .i64 a1), .s 1 a2, .v (.int .i64 a3), .v (.int .i64 a4)], d] [.one (.v (.bool true))] := by
  obtain ⟨rfl, w0, hlim⟩ := hp
  simp only [cntRs, Nat.add_zero] at hlim
  refine ctr_of (ctF := LJob.ct) (mtF := LJob.mt) (ptF := LJob.pt) (F0 := LJob.F0) tabOk LJob.ct_ok LJob.mt_ok LJob.pt_ok mixed 21 _ [4] [.tmp 4] Tryz.func63 rfl rfl rfl rfl rfl ?_
  intro O r F hO hr hF
  cbv
  repeat' first | refine And.intro ?_ ?_ | (refine caseB_intro (fun hb => ?_) (fun hb => ?_) <;> cbv)
  all_goals ((try subst hos); subst hO hr hF; (try simp only [stdO, SS, sub_all, ad_zero] at *); (try simp only [ncast] at *); (try simp only [Int.ofNat_eq_natCast] at *))
  all_goals (try simp only [LJob.F0] at *)
  all_goals first
    | trivial
    | exact rfl
    | exact absurd rfl hb
    | exact absurd rfl (by assumption)
    | (refine ⟨trivial, by assumption, ?_⟩; (try simp only [cntRs, Nat.add_zero]); omega)
    | (refine ⟨trivial, ?_⟩; (try simp only [cntRs, Nat.add_zero]); omega)
    | trace_state
theorem c_laws_markJob (a0 : Int) (a1 : Int) (a2 : List (List L)) (a3 : Int) (a4 : Int) (k : Int) (hp : Rw [tI] a2 ∧ cntRs [a2] ≤ 1099511627776 ∧ 0 ≤ k ∧ kN0 [a2] k ≤ 1152921504606846976) : MCtr Tryz.prog 71 [.agg [.v (.int .i64 a0), .v (.int .i64 a1), .s 1 a2, .v (.int .i64 a3), .v (.int .i64 a4)], .one (.v (.int .i64 k))] [.s 1 (mkN0 a2 k)] [.one (.v (.int .i64 (kN0 [a2] k)))] := by
  obtain ⟨w0, hlim, hk0, hkb⟩ := hp
  simp only [cntRs, Nat.add_zero] at hlim
  have p0 : kN0 [a2] k ≤ kN0 [a2] k ∧ 0 ≤ kN0 [a2] k := kN_pre (b := []) hk0
  refine mctr_of (ctF := LJob.ct) (mtF := LJob.mt) (ptF := LJob.pt) (F0 := LJob.F0) tabOk LJob.ct_ok LJob.mt_ok LJob.pt_ok mixed 10 _ [3] [.tmp 4] [(2, 2)] Tryz.func71 rfl rfl rfl rfl rfl rfl rfl ?_
  intro O r os F hO hr hos hF
  cbv
  repeat' first | refine And.intro ?_ ?_ | (refine caseB_intro (fun hb => ?_) (fun hb => ?_) <;> cbv)
  all_goals ((try subst hos); subst hO hr hF; (try simp only [stdO, SS, sub_all, ad_zero] at *); (try simp only [ncast] at *); (try simp only [Int.ofNat_eq_natCast] at *))
  all_goals (try simp only [LJob.F0] at *)
  all_goals (try simp only [kN_app, List.cons_append, List.nil_append, mkN_length] at *)
  all_goals first
    | trivial
    | exact rfl
    | exact ⟨trivial, trivial⟩
    | exact ⟨rfl, rfl⟩
    | (refine ⟨by assumption, ?_, ?_, ?_⟩ <;> (try simp only [kN_app, List.cons_append, List.nil_append, cntRs, Nat.add_zero]) <;> omega)
    | trace_state
theorem c_laws_heldJob (m0 : Int) (m1 : Int) (m2 : List (List L)) (m3 : Int) (m4 : Int) (k : Int) (hp : (∃ a2, m2 = mkN0 a2 k ∧ Rw [tI] a2 ∧ cntE a2 ≤ 1099511627776) ∧ 0 ≤ k ∧ kN0 [m2] k ≤ 1152921504606846976) : Ctr Tryz.prog 89 [.agg [.v (.int .i64 m0), .v (.int .i64 m1), .s 1 m2, .v (.int .i64 m3), .v (.int .i64 m4)], .one (.v (.int .i64 k))] [.one (.v (.int .i64 (kN0 [m2] k)))] := by
  obtain ⟨e0, hk0, hkb⟩ := hp
  have p0 : kN0 [m2] k ≤ kN0 [m2] k ∧ 0 ≤ kN0 [m2] k := kN_pre (b := []) hk0
  refine ctr_of (ctF := LJob.ct) (mtF := LJob.mt) (ptF := LJob.pt) (F0 := LJob.F0) tabOk LJob.ct_ok LJob.mt_ok LJob.pt_ok mixed 12 _ [3] [.tmp 4] Tryz.func89 rfl rfl rfl rfl rfl ?_
  intro O r F hO hr hF
  cbv
  repeat' first | refine And.intro ?_ ?_ | (refine caseB_intro (fun hb => ?_) (fun hb => ?_) <;> cbv)
  all_goals ((try subst hos); subst hO hr hF; (try simp only [stdO, SS, sub_all, ad_zero] at *); (try simp only [ncast] at *); (try simp only [Int.ofNat_eq_natCast] at *))
  all_goals (try simp only [LJob.F0] at *)
  all_goals (try simp only [kN_app, List.cons_append, List.nil_append] at *)
  all_goals first
    | trivial
    | (exfalso; omega)
    | (obtain ⟨x, y1, y2, y3⟩ := e0; exact ⟨x, y1, y2, y3, by omega, by omega⟩)
    | (refine ⟨by assumption, by omega, by omega⟩)
    | trace_state

end Go.V
