/-
  Contracts, by evaluation.
-/
import Derived.Test.YtbfhhmjhdimjlaaS8
import Derived.Test.YtbfhhmjhdimjlaaH2
import Derived.Test.YtbfhhmjhdimjlaaCowBk
set_option linter.all false
namespace Go.V
open Go Go.Proofs
set_option maxRecDepth 1000000
set_option maxHeartbeats 8000000
namespace C2
structure Fns where
 inR : Int -> Int -> Int -> Bool
def F0 : Fns := ⟨inR⟩
def ct (F : Fns) : CT := fun f ds => match f with
 | 46 => match ds with
   | [.one (.v (.int .i64 x)), .one (.v (.int .i64 a)), .one (.v (.int .i64 b))] => some (fun _ => True, [.one (.v (.bool (F.inR x a b)))])
   | _ => none
 | 53 => match ds with
   | [.one (.v (.int .i64 x)), .one (.v (.int .i64 a)), .one (.v (.int .i64 b))] => some (fun _ => True, [.one (.v (.bool (F.inR x a b)))])
   | _ => none
 | _ => none
theorem ct_ok : CTok Try.prog (ct F0) := by
 intro f ds pre res h hp
 unfold ct at h
 split at h <;> (try split at h) <;> cases h
 exact c_impl_between _ _ _ hp
 exact c_spec_l01In _ _ _ hp
def B : TB Try.prog := tb ct_ok
end C2
theorem c_impl_PageEntry (es : List (List L)) (p : Int) (hp : Rw [tI, tI] es) : Ctr Try.prog 90 [.agg [.s 2 es], .one (.v (.int .i64 p))] [.agg [.v (.int .i64 (peM es p)), .v (.int .i64 (peF es p))]] := by
 have hm := hp.1; unfold maxLen at hm
 have hsb : arI .sub .i64 (es.length : Int) 1 = es.length - 1 := sub64 (by omega)
 refine ctr_b C2.B tabOk mixed 18 _ [102] [.cell 4 102] Try.func90 rfl rfl rfl rfl rfl ?_
 intro O r (F : C2.Fns) hO hr (hF : F = C2.F0)
 cbv
 repeat' first | refine And.intro ?_ ?_ | (refine cbi (fun hb => ?_) (fun hb => ?_) <;> cbv)
 all_goals (subst hO hr hF; (try simp only [stdO, SS, sa, az] at *); (try simp only [nc] at *); (try simp only [onc] at *))
 all_goals (try simp only [C2.F0, hsb] at *)
 all_goals (try simp only [inR_t, inR_f] at *)
 all_goals first | exact ag_eq (pe_no (by omega)).1.symm (pe_no (by omega)).2.symm | exact ag_eq (pe_yes (by omega)).1.symm (pe_yes (by omega)).2.symm | omega | (refine ⟨by omega, by omega, (Rw.eta (by first | assumption | exact Rw.sub (by first | assumption | exact Rw.sub (by assumption) (by omega) rfl) (by omega) rfl) (by omega) (by omega)).trans ?_⟩; rfl) | trivial | trace_state
theorem c_spec_PageEntry (es : List (List L)) (p : Int) (hp : Rw [tI, tI] es) : Ctr Try.prog 93 [.agg [.s 2 es], .one (.v (.int .i64 p))] [.agg [.v (.int .i64 (peM es p)), .v (.int .i64 (peF es p))]] := by
 have hm := hp.1; unfold maxLen at hm
 have hsb : arI .sub .i64 (es.length : Int) 1 = es.length - 1 := sub64 (by omega)
 refine ctr_b C2.B tabOk mixed 18 _ [102] [.cell 4 102] Try.func93 rfl rfl rfl rfl rfl ?_
 intro O r (F : C2.Fns) hO hr (hF : F = C2.F0)
 cbv
 repeat' first | refine And.intro ?_ ?_ | (refine cbi (fun hb => ?_) (fun hb => ?_) <;> cbv)
 all_goals (subst hO hr hF; (try simp only [stdO, SS, sa, az] at *); (try simp only [nc] at *); (try simp only [onc] at *))
 all_goals (try simp only [C2.F0, hsb] at *)
 all_goals (try simp only [inR_t, inR_f] at *)
 all_goals first | exact ag_eq (pe_no (by omega)).1.symm (pe_no (by omega)).2.symm | exact ag_eq (pe_yes (by omega)).1.symm (pe_yes (by omega)).2.symm | omega | (refine ⟨by omega, by omega, (Rw.eta (by first | assumption | exact Rw.sub (by first | assumption | exact Rw.sub (by assumption) (by omega) rfl) (by omega) rfl) (by omega) (by omega)).trans ?_⟩; rfl) | trivial | trace_state
namespace C3
structure Fns where
 peM : List (List L) -> Int -> Int
 peF : List (List L) -> Int -> Int
 inR : Int -> Int -> Int -> Bool
def F0 : Fns := ⟨peM, peF, inR⟩
def ct (F : Fns) : CT := fun f ds => match f with
 | 93 => match ds with
   | [.agg [.s 2 es], .one (.v (.int .i64 p))] => some (fun _ => Rw [tI, tI] es, [.agg [.v (.int .i64 (F.peM es p)), .v (.int .i64 (F.peF es p))]])
   | _ => none
 | 53 => match ds with
   | [.one (.v (.int .i64 x)), .one (.v (.int .i64 a)), .one (.v (.int .i64 b))] => some (fun _ => True, [.one (.v (.bool (F.inR x a b)))])
   | _ => none
 | _ => none
theorem ct_ok : CTok Try.prog (ct F0) := by
 intro f ds pre res h hp
 unfold ct at h
 split at h <;> (try split at h) <;> cases h
 exact c_spec_PageEntry _ _ hp
 exact c_spec_l01In _ _ _ hp
def B : TB Try.prog := tb ct_ok
end C3
theorem c_spec_l07Entry (b0 b1 es : List (List L)) (a : Int) (hp : Rw [tI, tI] es /\ (-9223372036854775808 <= a /\ a <= 9223372036854775807)) : Ctr Try.prog 71 [.agg [.s 1 b0, .s 1 b1, .s 2 es], .one (.v (.int .i64 a))] [.agg [.v (.int .i64 (leM es a)), .v (.int .i64 (leF es a))], .one (.v (.int .i64 (leK a)))] := by
 obtain ⟨hw, ha⟩ := hp
 have hq : ¬ a < 0 -> arI .quo .i64 a 16 = a / 16 := fun h => quo64 (by omega) (by omega) (by omega)
 have hr : ¬ a < 0 -> arI .rem .i64 a 16 = a % 16 := fun h => rem64 (by omega)
 refine ctr_b C3.B tabOk mixed 16 _ [102, 3] [.cell 4 102, .tmp 5] Try.func71 rfl rfl rfl rfl rfl ?_
 intro O r (F : C3.Fns) hO hr (hF : F = C3.F0)
 cbv
 repeat' first | refine And.intro ?_ ?_ | (refine cbi (fun hb => ?_) (fun hb => ?_) <;> cbv)
 all_goals (subst hO hr hF; (try simp only [stdO, SS, sa, az] at *); (try simp only [nc] at *); (try simp only [onc] at *))
 all_goals (try simp only [C3.F0] at *)
 all_goals first | exact ag_eq3 (le_neg (by omega)).1.symm (le_neg (by omega)).2.1.symm (le_neg (es := es) (by omega)).2.2.symm | (rw [hq (by omega), hr (by omega)]; exact ag_eq3 (le_pos (by omega)).1.symm (le_pos (by omega)).2.1.symm (le_pos (es := es) (by omega)).2.2.symm) | (first | assumption | exact Rw.sub (by first | assumption | exact Rw.sub (by assumption) (by omega) rfl) (by omega) rfl) | trivial | omega | trace_state
namespace C4
structure Fns where
 inR : Int -> Int -> Int -> Bool
 cowOk : List (List L) -> List (List L) -> List (List L) -> Bool
 peM : List (List L) -> Int -> Int
 peF : List (List L) -> Int -> Int
def F0 : Fns := ⟨inR, cowOk, peM, peF⟩
def ct (F : Fns) : CT := fun f ds => match f with
 | 46 => match ds with
   | [.one (.v (.int .i64 x)), .one (.v (.int .i64 a)), .one (.v (.int .i64 b))] => some (fun _ => True, [.one (.v (.bool (F.inR x a b)))])
   | _ => none
 | 38 => match ds with
   | [.agg [.s 1 cs, .s 1 us, .s 1 ts]] => some (fun _ => Rw [.sl [tI]] cs /\ Rw [tB] us /\ Rw [.sl [tI, tI]] ts, [.one (.v (.bool (F.cowOk cs us ts)))])
   | _ => none
 | 90 => match ds with
   | [.agg [.s 2 es], .one (.v (.int .i64 p))] => some (fun _ => Rw [tI, tI] es, [.agg [.v (.int .i64 (F.peM es p)), .v (.int .i64 (F.peF es p))]])
   | _ => none
 | _ => none
theorem ct_ok : CTok Try.prog (ct F0) := by
 intro f ds pre res h hp
 unfold ct at h
 split at h <;> (try split at h) <;> cases h
 exact c_impl_between _ _ _ hp
 exact c_impl_CowOk _ _ _ hp
 exact c_impl_PageEntry _ _ hp
def B : TB Try.prog := tb ct_ok
end C4
theorem c_impl_cowEntry (cs us ts : List (List L)) (wh a : Int) (hp : Rw [.sl [tI]] cs /\ Rw [tB] us /\ Rw [.sl [tI, tI]] ts /\ (-9223372036854775808 <= a /\ a <= 9223372036854775807)) : Ctr Try.prog 66 [.agg [.s 1 cs, .s 1 us, .s 1 ts], .one (.v (.int .i64 wh)), .one (.v (.int .i64 a))] [.agg [.v (.int .i64 (ceM cs us ts wh a)), .v (.int .i64 (ceF cs us ts wh a))]] := by
 obtain ⟨hc, hu, ht, ha⟩ := hp
 have hq : ¬ a < 0 -> arI .quo .i64 a 16 = a / 16 := fun h => quo64 (by omega) (by omega) (by omega)
 refine ctr_b C4.B tabOk mixed 28 _ [102] [.cell 6 102] Try.func66 rfl rfl rfl rfl rfl ?_
 intro O r (F : C4.Fns) hO hr (hF : F = C4.F0)
 cbv
 repeat' first | refine And.intro ?_ ?_ | (refine cbi (fun hb => ?_) (fun hb => ?_) <;> cbv)
 all_goals (subst hO hr hF; (try simp only [stdO, SS, sa, az] at *); (try simp only [nc] at *); (try simp only [onc] at *))
 all_goals (try simp only [C4.F0] at *)
 all_goals (try simp only [inR_t, inR_f] at *)
 all_goals try (have hco := co_ok (cs := cs) (us := us) (ts := ts) (by assumption); have hfl := fr_len hco.1)
 all_goals first | (show okOrder _ _ = true; kernel_rfl) | exact ⟨hc, hu, ht⟩ | exact ag_eq (ce_no (.inr (by omega))).1.symm (ce_no (.inr (by omega))).2.symm | exact ag_eq (ce_no (.inl (is_f.2 (.inr (by omega))))).1.symm (ce_no (.inl (is_f.2 (.inr (by omega))))).2.symm | exact ag_eq (ce_no (.inl (is_f.2 (.inl (by assumption))))).1.symm (ce_no (.inl (is_f.2 (.inl (by assumption))))).2.symm | (refine ⟨by omega, by omega, (Rw.eta (by first | assumption | exact Rw.sub (by first | assumption | exact Rw.sub (by assumption) (by omega) rfl) (by omega) rfl) (by omega) (by omega)).trans ?_⟩; rfl) | (first | assumption | exact Rw.sub (by first | assumption | exact Rw.sub (by assumption) (by omega) rfl) (by omega) rfl) | (rw [hq (by omega)]; have hi : isOk cs us ts wh = true := is_t.2 ⟨by assumption, by omega⟩; exact ag_eq ((ce_yes hi).1.trans (le_pos (by omega)).1).symm ((ce_yes hi).2.trans (le_pos (by omega)).2.1).symm) | trivial | omega | trace_state
namespace C5
structure Fns where
 ceM : List (List L) -> List (List L) -> List (List L) -> Int -> Int -> Int
 ceF : List (List L) -> List (List L) -> List (List L) -> Int -> Int -> Int
 leM : List (List L) -> Int -> Int
 leF : List (List L) -> Int -> Int
 leK : Int -> Int
def F0 : Fns := ⟨ceM, ceF, leM, leF, leK⟩
def ct (F : Fns) : CT := fun f ds => match f with
 | 66 => match ds with
   | [.agg [.s 1 cs, .s 1 us, .s 1 ts], .one (.v (.int .i64 wh)), .one (.v (.int .i64 a))] => some (fun _ => Rw [.sl [tI]] cs /\ Rw [tB] us /\ Rw [.sl [tI, tI]] ts /\ (-9223372036854775808 <= a /\ a <= 9223372036854775807), [.agg [.v (.int .i64 (F.ceM cs us ts wh a)), .v (.int .i64 (F.ceF cs us ts wh a))]])
   | _ => none
 | 71 => match ds with
   | [.agg [.s 1 b0, .s 1 b1, .s 2 es], .one (.v (.int .i64 a))] => some (fun _ => Rw [tI, tI] es /\ (-9223372036854775808 <= a /\ a <= 9223372036854775807), [.agg [.v (.int .i64 (F.leM es a)), .v (.int .i64 (F.leF es a))], .one (.v (.int .i64 (F.leK a)))])
   | _ => none
 | _ => none
theorem ct_ok : CTok Try.prog (ct F0) := by
 intro f ds pre res h hp
 unfold ct at h
 split at h <;> (try split at h) <;> cases h
 exact c_impl_cowEntry _ _ _ _ _ hp
 exact c_spec_l07Entry _ _ _ _ hp
def B : TB Try.prog := tb ct_ok
end C5
theorem c_impl_CowLoad (cs us ts : List (List L)) (wh a : Int) (hp : Rw [.sl [tI]] cs /\ Rw [tB] us /\ Rw [.sl [tI, tI]] ts /\ (-9223372036854775808 <= a /\ a <= 9223372036854775807)) : Ctr Try.prog 36 [.agg [.s 1 cs, .s 1 us, .s 1 ts], .one (.v (.int .i64 wh)), .one (.v (.int .i64 a))] [.one (.v (.int .i64 (clV cs us ts wh a))), .one (.v (.int .i64 (clC cs us ts wh a)))] := by
 obtain ⟨hc, hu, ht, ha⟩ := hp
 refine ctr_b C5.B tabOk mixed 27 _ [3, 3] [.tmp 6, .tmp 7] Try.func36 rfl rfl rfl rfl rfl ?_
 intro O r (F : C5.Fns) hO hr (hF : F = C5.F0)
 cbv
 repeat' first | refine And.intro ?_ ?_ | (refine cbi (fun hb => ?_) (fun hb => ?_) <;> cbv)
 all_goals (subst hO hr hF; (try simp only [stdO, SS, sa, az] at *); (try simp only [nc] at *); (try simp only [onc] at *))
 all_goals (try simp only [C5.F0] at *)
 all_goals try (have hm := ce_fr (cs := cs) (us := us) (ts := ts) (wh := wh) (a := a) (by assumption); have ha0 := (ce_ok (cs := cs) (us := us) (ts := ts) (wh := wh) (a := a) (by assumption)).2)
 all_goals try simp only [rem64 (n := 16) ha0] at *
 all_goals first | exact ⟨hc, hu, ht, ha⟩ | exact dd_eq (by unfold clV; rw [if_pos (by assumption)]) (by unfold clC; rw [if_pos (by assumption)]) | exact dd_eq (by unfold clV; rw [if_neg (by assumption)]) (by unfold clC; rw [if_neg (by assumption)]) | (refine ⟨by omega, by omega, (Rw.eta (by first | assumption | exact Rw.sub (by first | assumption | exact Rw.sub (by assumption) (by omega) rfl) (by omega) rfl) (by omega) (by omega)).trans ?_⟩; rfl) | trivial | omega | trace_state
end Go.V