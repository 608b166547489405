/-
  Contracts, by evaluation.
-/
import Derived.Test.YtbfhhmjhdimjlaaS8
import Derived.Test.YtbfhhmjhdimjlaaH5
import Derived.Test.YtbfhhmjhdimjlaaCowDk
set_option linter.all false
namespace Go.V
open Go Go.Proofs
set_option maxRecDepth 1000000
set_option maxHeartbeats 8000000
namespace F1
structure Fns where
 no : Unit
def F0 : Fns := ⟨()⟩
def ct (F : Fns) : CT := fun f ds => match f with
 | 60 => match ds with
   | [.agg [.s 1 cs, .s 1 us]] => some (fun _ => Rw [.sl [tI]] cs /\ Rw [tB] us /\ cntE cs <= 1099511627776 /\ cntE us <= 1099511627776, [.agg [.s 1 cs, .s 1 us]])
   | _ => none
 | 61 => match ds with
   | [.agg [.s 2 es]] => some (fun _ => Rw [tI, tI] es /\ es.length <= 1099511627776, [.agg [.s 2 es]])
   | _ => none
 | 91 => match ds with
   | [.agg [.s 1 cs, .s 1 us]] => some (fun _ => Rw [.sl [tI]] cs /\ Rw [tB] us /\ cntE cs <= 1099511627776 /\ cntE us <= 1099511627776, [.agg [.s 1 cs, .s 1 us]])
   | _ => none
 | 92 => match ds with
   | [.agg [.s 2 es]] => some (fun _ => Rw [tI, tI] es /\ es.length <= 1099511627776, [.agg [.s 2 es]])
   | _ => none
 | _ => none
theorem ct_ok : CTok Try.prog (ct F0) := by
 intro f ds pre res h hp
 unfold ct at h
 split at h <;> (try split at h) <;> cases h
 exact c_impl_copyFrames _ _ hp
 exact c_impl_copyTable _ hp
 exact c_spec_l05Copy _ _ hp
 exact c_spec_l06Copy _ hp
def B : TB Try.prog := tb ct_ok
end F1
theorem c_spec_l07Copy (cs us es : List (List L)) (hp : Rw [.sl [tI]] cs /\ Rw [tB] us /\ Rw [tI, tI] es /\ cntE cs <= 1099511627776 /\ cntE us <= 1099511627776 /\ cntE es <= 1099511627776) : Ctr Try.prog 70 [.agg [.s 1 cs, .s 1 us, .s 2 es]] [.agg [.s 1 cs, .s 1 us, .s 2 es]] := by
 obtain ⟨hc, hu, he, hn, hm, hk⟩ := hp
 have hl := len_cnt (es := es)
 refine ctr_b F1.B tabOk mixed 10 _ [61] [.cell 2 61] Try.func70 rfl rfl rfl rfl rfl ?_
 intro O r (F : F1.Fns) hO hr (hF : F = F1.F0)
 cbv
 repeat' first | refine And.intro ?_ ?_ | (refine cbi (fun hb => ?_) (fun hb => ?_) <;> cbv)
 all_goals (subst hO hr hF; (try simp only [stdO, SS, sa, az] at *); (try simp only [nc] at *); (try simp only [onc] at *))
 all_goals first | (show okOrder _ _ = true; kernel_rfl) | exact ⟨hc, hu, hn, hm⟩ | exact ⟨he, by omega⟩ | exact ⟨trivial, trivial⟩ | trivial | exact rfl | trace_state
namespace F3
structure Fns where
 inR : Int -> Int -> Int -> Bool
 leM : List (List L) -> Int -> Int
 leF : List (List L) -> Int -> Int
 leK : Int -> Int
 machOk : List (List L) -> List (List L) -> List (List L) -> Bool
def F0 : Fns := ⟨inR, leM, leF, leK, machOk⟩
def ct (F : Fns) : CT := fun f ds => match f with
 | 46 => match ds with
   | [.one (.v (.int .i64 x)), .one (.v (.int .i64 a)), .one (.v (.int .i64 b))] => some (fun _ => True, [.one (.v (.bool (F.inR x a b)))])
   | _ => none
 | 70 => match ds with
   | [.agg [.s 1 cs, .s 1 us, .s 2 es]] => some (fun _ => Rw [.sl [tI]] cs /\ Rw [tB] us /\ Rw [tI, tI] es /\ cntE cs <= 1099511627776 /\ cntE us <= 1099511627776 /\ cntE es <= 1099511627776, [.agg [.s 1 cs, .s 1 us, .s 2 es]])
   | _ => none
 | 71 => match ds with
   | [.agg [.s 1 b0, .s 1 b1, .s 2 es], .one (.v (.int .i64 a))] => some (fun _ => Rw [tI, tI] es /\ (-9223372036854775808 <= a /\ a <= 9223372036854775807), [.agg [.v (.int .i64 (F.leM es a)), .v (.int .i64 (F.leF es a))], .one (.v (.int .i64 (F.leK a)))])
   | _ => none
 | 42 => match ds with
   | [.agg [.s 1 cs, .s 1 us, .s 2 es]] => some (fun _ => Rw [.sl [tI]] cs /\ Rw [tB] us /\ Rw [tI, tI] es, [.one (.v (.bool (F.machOk cs us es)))])
   | _ => none
 | 53 => match ds with
   | [.one (.v (.int .i64 x)), .one (.v (.int .i64 a)), .one (.v (.int .i64 b))] => some (fun _ => True, [.one (.v (.bool (F.inR x a b)))])
   | _ => none
 | _ => none
theorem ct_ok : CTok Try.prog (ct F0) := by
 intro f ds pre res h hp
 unfold ct at h
 split at h <;> (try split at h) <;> cases h
 exact c_impl_between _ _ _ hp
 exact c_spec_l07Copy _ _ _ hp
 exact c_spec_l07Entry _ _ _ _ hp
 exact c_spec_MachineOk _ _ _ hp
 exact c_spec_l01In _ _ _ hp
def B : TB Try.prog := tb ct_ok
end F3
theorem c_spec_Store (cs us es : List (List L)) (a v : Int) (hp : Rw [.sl [tI]] cs /\ Rw [tB] us /\ Rw [tI, tI] es /\ cntE cs <= 1099511627776 /\ cntE us <= 1099511627776 /\ cntE es <= 1099511627776 /\ (-9223372036854775808 <= a /\ a <= 9223372036854775807)) : Ctr Try.prog 35 [.agg [.s 1 cs, .s 1 us, .s 2 es], .one (.v (.int .i64 a)), .one (.v (.int .i64 v))] [.agg [.s 1 (stC cs us es a v), .s 1 us, .s 2 es], .one (.v (.int .i64 (stK cs us es a v)))] := by
 obtain ⟨hc, hu, he, hn, hm, hk, ha⟩ := hp
 refine ctr_b F3.B tabOk mixed 47 _ [61, 3] [.cell 6 61, .tmp 7] Try.func35 rfl rfl rfl rfl rfl ?_
 intro O r (F : F3.Fns) hO hr (hF : F = F3.F0)
 cbv
 repeat' first | refine And.intro ?_ ?_ | (refine cbi (fun hb => ?_) (fun hb => ?_) <;> cbv)
 all_goals (subst hO hr hF; (try simp only [stdO, SS, sa, az] at *); (try simp only [nc] at *); (try simp only [onc] at *))
 all_goals (try simp only [F3.F0, ps_row] at *)
 all_goals try (have hi : machOk cs us es = true := (by assumption); simp only [<- (sm_yes (a := a) hi).1, <- (sm_yes (a := a) hi).2] at *)
 all_goals try (have hk0 : leK a = a % 16 := (le_pos (es := []) (by have := (sm_ok (cs := cs) (us := us) (es := es) (a := a) (by assumption)).2; omega)).2.2; simp only [hk0] at *)
 all_goals try (have hs := sm_fr (cs := cs) (us := us) (es := es) (a := a) (by assumption); have ha0 := (sm_ok (cs := cs) (us := us) (es := es) (a := a) (by assumption)).2)
 all_goals try simp only [rem64 (n := 16) ha0] at *
 all_goals first | (show okOrder _ _ = true; kernel_rfl) | exact ⟨hc, hu, he, hn, hm, hk⟩ | exact ⟨hc, hu, he, ha⟩ | exact ⟨he, ha⟩ | exact ⟨hc, hu, he⟩ | exact st_eq (st_1 (sm_no (.inl (by assumption))).1).2.symm rfl rfl (st_1 (sm_no (.inl (by assumption))).1).1.symm | exact st_eq (st_1 (by assumption)).2.symm rfl rfl (st_1 (by assumption)).1.symm | exact st_eq (st_2 (by assumption)).2.symm rfl rfl (st_2 (by assumption)).1.symm | exact st_eq (st_3 (by assumption) (by assumption) (by assumption)).2.symm rfl rfl (st_3 (by assumption) (by assumption) (by assumption)).1.symm | exact st_eq ((up_2 hc hs.1 hs.2.1 (by omega) (by omega)).trans (st_0 (by assumption) (by assumption) (by assumption)).2.symm) rfl rfl (st_0 (by assumption) (by assumption) (by assumption)).1.symm | exact get_2 hc hs.1 hs.2.1 (by omega) (by omega) | exact get_row hc hs.1 hs.2.1 | exact ⟨by omega, by omega, gets_row hc hs.1 hs.2.1⟩ | exact ⟨trivial, trivial⟩ | trivial | omega | trace_state
end Go.V