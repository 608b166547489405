/-
  Contracts, by evaluation.
-/import Derived.Test.YticfhgfgobafbaaGreatS9
import Derived.Test.YticfhgfgobafbaaGreatHA
import Derived.Test.YticfhgfgobafbaaGreatHeapAm
set_option linter.all false
namespace Go.V
open Go Go.Proofs
set_option maxRecDepth 1000000
set_option maxHeartbeats 8000000
namespace B0
structure Fns where
 no : Unit
def F0 : Fns := ⟨()⟩
def B : TB Tryz.prog := {Φ := Fns, F0 := F0}
end B0
theorem c_impl_PagesOn (es : List (List L)) (f : Int) (hp : Rw [tI, tI] es /\ es.length <= 1099511627776) : Ctr Tryz.prog 205 [.agg [.s 2 es], .one (.v (.int .i64 f))] [.one (.s 1 (pagesOn es f))] := by
 obtain ⟨hw, hlen⟩ := hp
 refine ctr_b B0.B tabOk mixed 32 _ [31] [.tmp 4] Tryz.func205 rfl rfl rfl rfl rfl ?_
 intro O r (F : B0.Fns) hO hr (hF : F = B0.F0)
 cbv
 repeat' first | refine And.intro ?_ ?_ | (refine cbi (fun hb => ?_) (fun hb => ?_) <;> cbv) | (refine ⟨[1, 5, 10, 11, 12], [5], Int × List (List L), fun s_ => match s_ with | (i, out) => [.reg 12 (.one (.v (.int .i64 i))), .reg 5 (.one (.vw 5 0 0 0 (O.ln out))), .leaf 5 0 ⟨0, 0, none, .own (.s 1 out)⟩], fun s_ => match s_ with | (i, out) => 0 <= i /\ i <= (es.length : Int) /\ out = pgN es f i.toNat, fun s_ => match s_ with | (i, out) => es.length - i.toNat, ⟨(0, []), ?_, ?_⟩, ?_⟩; rotate_left; (focus (cbv; done)); intro s_ hi; obtain ⟨i, out⟩ := s_; replace hi : 0 <= i /\ i <= (es.length : Int) /\ out = pgN es f i.toNat := hi; obtain ⟨i0, i1, i2⟩ := hi; cbv) | (refine loop_step (O.ar .add .i64 i 1, O.cat out (O.sub [[.v (.int .i64 i)]] 0 (O.ln [[.v (.int .i64 i)]]))) ?_ ?_ ?_; rotate_left 2; focus (cbv; done)) | (refine loop_step (O.ar .add .i64 i 1, out) ?_ ?_ ?_; rotate_left 2; focus (cbv; done))
 all_goals (subst hO hr hF; (try simp only [stdO, SS, sa, az] at *); (try simp only [nc] at *); (try simp only [onc] at *))
 all_goals try rw [up64 (by omega) (by omega)]
 all_goals try (have hpl := pgN_len (es := es) (f := f) (n := i.toNat); rw [<- i2] at hpl)
 all_goals first | omega | (refine ⟨by omega, by omega, (Rw.eta (by first | assumption | exact Rw.sub (by first | assumption | exact Rw.sub (by assumption) (by omega) rfl) (by omega) rfl) (by omega) (by omega)).trans ?_⟩; rfl) | contradiction | (exact ⟨trivial, trivial⟩) | rfl | (simp [scalRecs, scalRec, scal]; done) | (simp only [List.length_cons, List.length_nil]; omega) | (rw [pgI_yes i0 (by assumption) (by assumption), <- i2]) | (rw [pgI_no i0 (.inl (by assumption)), <- i2]) | (rw [pgI_no i0 (.inr (by assumption)), <- i2]) | exact row_eq (by rw [i2, show i.toNat = es.length from by omega]; rfl) | trace_state
theorem c_spec_PagesOn (es : List (List L)) (f : Int) (hp : Rw [tI, tI] es /\ es.length <= 1099511627776) : Ctr Tryz.prog 198 [.agg [.s 2 es], .one (.v (.int .i64 f))] [.one (.s 1 (pagesOn es f))] := by
 obtain ⟨hw, hlen⟩ := hp
 refine ctr_b B0.B tabOk mixed 37 _ [31] [.tmp 4] Tryz.func198 rfl rfl rfl rfl rfl ?_
 intro O r (F : B0.Fns) hO hr (hF : F = B0.F0)
 cbv
 repeat' first | refine And.intro ?_ ?_ | (refine cbi (fun hb => ?_) (fun hb => ?_) <;> cbv) | (refine ⟨[1, 2, 5, 6], [2, 5], Int × List (List L), fun s_ => match s_ with | (i, out) => [.reg 6 (.one (.v (.int .i64 i))), .reg 5 (.one (.vw 5 0 0 0 (O.ln out))), .leaf 5 0 ⟨0, 0, none, .own (.s 1 out)⟩], fun s_ => match s_ with | (i, out) => 0 <= i /\ i <= (es.length : Int) /\ out = pgN es f i.toNat, fun s_ => match s_ with | (i, out) => es.length - i.toNat, ⟨(0, []), ?_, ?_⟩, ?_⟩; rotate_left; (focus (cbv; done)); intro s_ hi; obtain ⟨i, out⟩ := s_; replace hi : 0 <= i /\ i <= (es.length : Int) /\ out = pgN es f i.toNat := hi; obtain ⟨i0, i1, i2⟩ := hi; cbv) | (refine loop_step (O.ar .add .i64 i 1, O.cat out (O.sub [[.v (.int .i64 i)]] 0 (O.ln [[.v (.int .i64 i)]]))) ?_ ?_ ?_; rotate_left 2; focus (cbv; done)) | (refine loop_step (O.ar .add .i64 i 1, out) ?_ ?_ ?_; rotate_left 2; focus (cbv; done))
 all_goals (subst hO hr hF; (try simp only [stdO, SS, sa, az] at *); (try simp only [nc] at *); (try simp only [onc] at *))
 all_goals try rw [up64 (by omega) (by omega)]
 all_goals try (have hpl := pgN_len (es := es) (f := f) (n := i.toNat); rw [<- i2] at hpl)
 all_goals first | omega | (refine ⟨by omega, by omega, (Rw.eta (by first | assumption | exact Rw.sub (by first | assumption | exact Rw.sub (by assumption) (by omega) rfl) (by omega) rfl) (by omega) (by omega)).trans ?_⟩; rfl) | contradiction | (exact ⟨trivial, trivial⟩) | rfl | (simp [scalRecs, scalRec, scal]; done) | (simp only [List.length_cons, List.length_nil]; omega) | (rw [pgI_yes i0 (by assumption) (by assumption), <- i2]) | (rw [pgI_no i0 (.inl (by assumption)), <- i2]) | (rw [pgI_no i0 (.inr (by assumption)), <- i2]) | exact row_eq (by rw [i2, show i.toNat = es.length from by omega]; rfl) | trace_state
namespace B1
structure Fns where
 inR : Int -> Int -> Int -> Bool
def F0 : Fns := ⟨inR⟩
def ct (F : Fns) : CT := fun f ds => match f with
 | 87 => match ds with
   | [.one (.v (.int .i64 x)), .one (.v (.int .i64 a)), .one (.v (.int .i64 b))] => some (fun _ => True, [.one (.v (.bool (F.inR x a b)))])
   | _ => none
 | 71 => match ds with
   | [.one (.v (.int .i64 x)), .one (.v (.int .i64 a)), .one (.v (.int .i64 b))] => some (fun _ => True, [.one (.v (.bool (F.inR x a b)))])
   | _ => none
 | _ => none
theorem ct_ok : CTok Tryz.prog (ct F0) := by
 intro f ds pre res h hp
 unfold ct at h
 split at h <;> (try split at h) <;> cases h
 exact c_impl_between _ _ _ hp
 exact c_spec_l01In _ _ _ hp
def B : TB Tryz.prog := tb ct_ok
end B1
theorem c_impl_PageEntry (es : List (List L)) (p : Int) (hp : Rw [tI, tI] es) : Ctr Tryz.prog 158 [.agg [.s 2 es], .one (.v (.int .i64 p))] [.agg [.v (.int .i64 (peM es p)), .v (.int .i64 (peF es p))]] := by
 have hm := hp.1; unfold maxLen at hm
 have hsb : arI .sub .i64 (es.length : Int) 1 = es.length - 1 := sub64 (by omega)
 refine ctr_b B1.B tabOk mixed 18 _ [205] [.cell 4 205] Tryz.func158 rfl rfl rfl rfl rfl ?_
 intro O r (F : B1.Fns) hO hr (hF : F = B1.F0)
 cbv
 repeat' first | refine And.intro ?_ ?_ | (refine cbi (fun hb => ?_) (fun hb => ?_) <;> cbv)
 all_goals (subst hO hr hF; (try simp only [stdO, SS, sa, az] at *); (try simp only [nc] at *); (try simp only [onc] at *))
 all_goals (try simp only [B1.F0, hsb] at *)
 all_goals (try simp only [inR_t, inR_f] at *)
 all_goals first | exact ag_eq (pe_no (by omega)).1.symm (pe_no (by omega)).2.symm | exact ag_eq (pe_yes (by omega)).1.symm (pe_yes (by omega)).2.symm | omega | (refine ⟨by omega, by omega, (Rw.eta (by first | assumption | exact Rw.sub (by first | assumption | exact Rw.sub (by assumption) (by omega) rfl) (by omega) rfl) (by omega) (by omega)).trans ?_⟩; rfl) | trivial | trace_state
theorem c_spec_PageEntry (es : List (List L)) (p : Int) (hp : Rw [tI, tI] es) : Ctr Tryz.prog 202 [.agg [.s 2 es], .one (.v (.int .i64 p))] [.agg [.v (.int .i64 (peM es p)), .v (.int .i64 (peF es p))]] := by
 have hm := hp.1; unfold maxLen at hm
 have hsb : arI .sub .i64 (es.length : Int) 1 = es.length - 1 := sub64 (by omega)
 refine ctr_b B1.B tabOk mixed 18 _ [205] [.cell 4 205] Tryz.func202 rfl rfl rfl rfl rfl ?_
 intro O r (F : B1.Fns) hO hr (hF : F = B1.F0)
 cbv
 repeat' first | refine And.intro ?_ ?_ | (refine cbi (fun hb => ?_) (fun hb => ?_) <;> cbv)
 all_goals (subst hO hr hF; (try simp only [stdO, SS, sa, az] at *); (try simp only [nc] at *); (try simp only [onc] at *))
 all_goals (try simp only [B1.F0, hsb] at *)
 all_goals (try simp only [inR_t, inR_f] at *)
 all_goals first | exact ag_eq (pe_no (by omega)).1.symm (pe_no (by omega)).2.symm | exact ag_eq (pe_yes (by omega)).1.symm (pe_yes (by omega)).2.symm | omega | (refine ⟨by omega, by omega, (Rw.eta (by first | assumption | exact Rw.sub (by first | assumption | exact Rw.sub (by assumption) (by omega) rfl) (by omega) rfl) (by omega) (by omega)).trans ?_⟩; rfl) | trivial | trace_state
namespace B2
structure Fns where
 peM : List (List L) -> Int -> Int
 peF : List (List L) -> Int -> Int
 pagesOn : List (List L) -> Int -> List (List L)
def F0 : Fns := ⟨peM, peF, pagesOn⟩
def ct (F : Fns) : CT := fun f ds => match f with
 | 158 => match ds with
   | [.agg [.s 2 es], .one (.v (.int .i64 p))] => some (fun _ => Rw [tI, tI] es, [.agg [.v (.int .i64 (F.peM es p)), .v (.int .i64 (F.peF es p))]])
   | _ => none
 | 205 => match ds with
   | [.agg [.s 2 es], .one (.v (.int .i64 f))] => some (fun _ => Rw [tI, tI] es /\ es.length <= 1099511627776, [.one (.s 1 (F.pagesOn es f))])
   | _ => none
 | 202 => match ds with
   | [.agg [.s 2 es], .one (.v (.int .i64 p))] => some (fun _ => Rw [tI, tI] es, [.agg [.v (.int .i64 (F.peM es p)), .v (.int .i64 (F.peF es p))]])
   | _ => none
 | 198 => match ds with
   | [.agg [.s 2 es], .one (.v (.int .i64 f))] => some (fun _ => Rw [tI, tI] es /\ es.length <= 1099511627776, [.one (.s 1 (F.pagesOn es f))])
   | _ => none
 | _ => none
theorem ct_ok : CTok Tryz.prog (ct F0) := by
 intro f ds pre res h hp
 unfold ct at h
 split at h <;> (try split at h) <;> cases h
 exact c_impl_PageEntry _ _ hp
 exact c_impl_PagesOn _ _ hp
 exact c_spec_PageEntry _ _ hp
 exact c_spec_PagesOn _ _ hp
def B : TB Tryz.prog := tb ct_ok
end B2
theorem c_impl_FramePages (a0 a1 a2 : List (List L)) (a3 : Int) (a4 a5 a6 a7 a8 a9 a10 a11 : List (List L)) (a12 : Int) (a13 : List (List L)) (a14 a15 a16 a17 : Int) (a18 : Bool) (a19 a20 : Int) (a21 : List (List L)) (a22 a23 pg : Int) (hp : Rw [tI, tI] a2 /\ a2.length <= 1099511627776) : Ctr Tryz.prog 155 [.agg [.s 1 a0, .s 1 a1, .s 2 a2, .v (.int .i64 a3), .s 1 a4, .s 2 a5, .s 3 a6, .s 3 a7, .s 4 a8, .s 1 a9, .s 1 a10, .s 1 a11, .v (.int .i64 a12), .s 3 a13, .v (.int .i64 a14), .v (.int .i64 a15), .v (.int .i64 a16), .v (.int .i64 a17), .v (.bool a18), .v (.int .i64 a19), .v (.int .i64 a20), .s 1 a21, .v (.int .i64 a22), .v (.int .i64 a23)], .one (.v (.int .i64 pg))] [.one (.s 1 (fpg a2 pg))] := by
 obtain ⟨hw, hn⟩ := hp
 refine ctr_b B2.B tabOk mixed 22 _ [31] [.tmp 4] Tryz.func155 rfl rfl rfl rfl rfl ?_
 intro O r (F : B2.Fns) hO hr (hF : F = B2.F0)
 cbv
 repeat' first | refine And.intro ?_ ?_ | (refine cbi (fun hb => ?_) (fun hb => ?_) <;> cbv)
 all_goals (subst hO hr hF; (try simp only [stdO, SS, sa, az] at *); (try simp only [nc] at *); (try simp only [onc] at *))
 all_goals (try simp only [B2.F0] at *)
 all_goals first
  | (show (_ : List DV) = _
     first
      | exact row_eq (fpg_no (by assumption)).symm
      | exact row_eq (fpg_yes (by assumption)).symm
      | done)
  | exact ⟨hw, hn⟩
  | exact hw
  | exact True.intro
  | exact ⟨True.intro, True.intro⟩
  | trace_state
theorem c_spec_FramePages (a0 a1 a2 : List (List L)) (a3 : Int) (a4 a5 a6 a7 a8 a9 a10 a11 : List (List L)) (a12 : Int) (a13 : List (List L)) (a14 a15 a16 a17 : Int) (a18 : Bool) (a19 a20 : Int) (a21 : List (List L)) (a22 a23 pg : Int) (hp : Rw [tI, tI] a2 /\ a2.length <= 1099511627776) : Ctr Tryz.prog 140 [.agg [.s 1 a0, .s 1 a1, .s 2 a2, .v (.int .i64 a3), .s 1 a4, .s 2 a5, .s 3 a6, .s 3 a7, .s 4 a8, .s 1 a9, .s 1 a10, .s 1 a11, .v (.int .i64 a12), .s 3 a13, .v (.int .i64 a14), .v (.int .i64 a15), .v (.int .i64 a16), .v (.int .i64 a17), .v (.bool a18), .v (.int .i64 a19), .v (.int .i64 a20), .s 1 a21, .v (.int .i64 a22), .v (.int .i64 a23)], .one (.v (.int .i64 pg))] [.one (.s 1 (fpg a2 pg))] := by
 obtain ⟨hw, hn⟩ := hp
 refine ctr_b B2.B tabOk mixed 23 _ [31] [.tmp 4] Tryz.func140 rfl rfl rfl rfl rfl ?_
 intro O r (F : B2.Fns) hO hr (hF : F = B2.F0)
 cbv
 repeat' first | refine And.intro ?_ ?_ | (refine cbi (fun hb => ?_) (fun hb => ?_) <;> cbv)
 all_goals (subst hO hr hF; (try simp only [stdO, SS, sa, az] at *); (try simp only [nc] at *); (try simp only [onc] at *))
 all_goals (try simp only [B2.F0] at *)
 all_goals first
  | (show (_ : List DV) = _
     first
      | exact row_eq (fpg_no (by assumption)).symm
      | exact row_eq (fpg_yes (by assumption)).symm
      | done)
  | exact ⟨hw, hn⟩
  | exact hw
  | exact True.intro
  | exact ⟨True.intro, True.intro⟩
  | trace_state
end Go.V