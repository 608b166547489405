/-
  Contracts, by evaluation.
-/
import Derived.Test.YtniaaknbbceigaaGreatS10
import Derived.Test.YtniaaknbbceigaaGreatHA
import Derived.Test.YtniaaknbbceigaaGreatHeapAq
set_option linter.all false
namespace Go.V
open Go Go.Proofs
set_option maxRecDepth 1000000
set_option maxHeartbeats 8000000
namespace B0
structure Fns where
 no : Unit
def F0 : Fns := ⟨()⟩
def B : TB Tryz.prog := {Φ := Fns, F0 := F0}
end B0
theorem gU (es : List (List L)) (f : Int) (hp : Rw [tI, tI] es /\ es.length <= 1099511627776) : aO Tryz.prog 236 [.agg [.s 2 es], .one (.v (.int .i64 f))] [.one (.s 1 (pagesOn es f))] := by
 obtain ⟨hw, hlen⟩ := hp;refine aj B0.B ai mixed 32 _ [31] [.tmp 4] Tryz.func236 rfl rfl rfl rfl rfl ?_;intro O r (F : B0.Fns) hO hr (hF : F = B0.F0);cbv
 repeat' first | refine And.intro ?_ ?_ | (refine aK (fun hb => ?_) (fun hb => ?_) <;> cbv) | (refine ⟨[1, 5, 10, 11, 12], [5], Int × List (List L), fun s_ => match s_ with | (i, out) => [.reg 12 (.one (.v (.int .i64 i))), .reg 5 (.one (.vw 5 0 0 0 (O.ln out))), .leaf 5 0 ⟨0, 0, none, .own (.s 1 out)⟩], fun s_ => match s_ with | (i, out) => 0 <= i /\ i <= (es.length : Int) /\ out = qq es f i.toNat, fun s_ => match s_ with | (i, out) => es.length - i.toNat, ⟨(0, []), ?_, ?_⟩, ?_⟩; rotate_left; (focus (cbv; done)); intro s_ hi; obtain ⟨i, out⟩ := s_; replace hi : 0 <= i /\ i <= (es.length : Int) /\ out = qq es f i.toNat := hi; obtain ⟨i0, i1, i2⟩ := hi; cbv) | (refine aa (O.ar .add .i64 i 1, O.cat out (O.sub [[.v (.int .i64 i)]] 0 (O.ln [[.v (.int .i64 i)]]))) ?_ ?_ ?_; rotate_left 2; focus (cbv; done)) | (refine aa (O.ar .add .i64 i 1, out) ?_ ?_ ?_; rotate_left 2; focus (cbv; done))
 all_goals (subst hO hr hF; (try simp only [ah, SS, sa, az] at *); (try simp only [nc] at *); (try simp only [aF] at *))
 all_goals try rw [bK (by omega) (by omega)]
 all_goals try (have hpl := nW (es := es) (f := f) (n := i.toNat); rw [<- i2] at hpl)
 all_goals first | omega | (refine ⟨by omega, by omega, (Rw.eta (by first | assumption | exact Rw.sub (by first | assumption | exact Rw.sub (by assumption) (by omega) rfl) (by omega) rfl) (by omega) (by omega)).trans ?_⟩; rfl) | contradiction | (exact ⟨trivial, trivial⟩) | rfl | (simp [bY, gq, scal]; done) | (simp only [List.length_cons, List.length_nil]; omega) | (rw [xT i0 (by assumption) (by assumption), <- i2]) | (rw [td i0 (.inl (by assumption)), <- i2]) | (rw [td i0 (.inr (by assumption)), <- i2]) | exact lA (by rw [i2, show i.toNat = es.length from by omega]; rfl) | trace_state
theorem gX (es : List (List L)) (f : Int) (hp : Rw [tI, tI] es /\ es.length <= 1099511627776) : aO Tryz.prog 234 [.agg [.s 2 es], .one (.v (.int .i64 f))] [.one (.s 1 (pagesOn es f))] := by
 obtain ⟨hw, hlen⟩ := hp;refine aj B0.B ai mixed 37 _ [31] [.tmp 4] Tryz.func234 rfl rfl rfl rfl rfl ?_;intro O r (F : B0.Fns) hO hr (hF : F = B0.F0);cbv
 repeat' first | refine And.intro ?_ ?_ | (refine aK (fun hb => ?_) (fun hb => ?_) <;> cbv) | (refine ⟨[1, 2, 5, 6], [2, 5], Int × List (List L), fun s_ => match s_ with | (i, out) => [.reg 6 (.one (.v (.int .i64 i))), .reg 5 (.one (.vw 5 0 0 0 (O.ln out))), .leaf 5 0 ⟨0, 0, none, .own (.s 1 out)⟩], fun s_ => match s_ with | (i, out) => 0 <= i /\ i <= (es.length : Int) /\ out = qq es f i.toNat, fun s_ => match s_ with | (i, out) => es.length - i.toNat, ⟨(0, []), ?_, ?_⟩, ?_⟩; rotate_left; (focus (cbv; done)); intro s_ hi; obtain ⟨i, out⟩ := s_; replace hi : 0 <= i /\ i <= (es.length : Int) /\ out = qq es f i.toNat := hi; obtain ⟨i0, i1, i2⟩ := hi; cbv) | (refine aa (O.ar .add .i64 i 1, O.cat out (O.sub [[.v (.int .i64 i)]] 0 (O.ln [[.v (.int .i64 i)]]))) ?_ ?_ ?_; rotate_left 2; focus (cbv; done)) | (refine aa (O.ar .add .i64 i 1, out) ?_ ?_ ?_; rotate_left 2; focus (cbv; done))
 all_goals (subst hO hr hF; (try simp only [ah, SS, sa, az] at *); (try simp only [nc] at *); (try simp only [aF] at *))
 all_goals try rw [bK (by omega) (by omega)]
 all_goals try (have hpl := nW (es := es) (f := f) (n := i.toNat); rw [<- i2] at hpl)
 all_goals first | omega | (refine ⟨by omega, by omega, (Rw.eta (by first | assumption | exact Rw.sub (by first | assumption | exact Rw.sub (by assumption) (by omega) rfl) (by omega) rfl) (by omega) (by omega)).trans ?_⟩; rfl) | contradiction | (exact ⟨trivial, trivial⟩) | rfl | (simp [bY, gq, scal]; done) | (simp only [List.length_cons, List.length_nil]; omega) | (rw [xT i0 (by assumption) (by assumption), <- i2]) | (rw [td i0 (.inl (by assumption)), <- i2]) | (rw [td i0 (.inr (by assumption)), <- i2]) | exact lA (by rw [i2, show i.toNat = es.length from by omega]; rfl) | trace_state
namespace B1
structure Fns where
 inR : Int -> Int -> Int -> Bool
def F0 : Fns := ⟨inR⟩
def ct (F : Fns) : CT := fun f ds => match f, ds with
 | 152, [.one (.v (.int .i64 x)), .one (.v (.int .i64 a)), .one (.v (.int .i64 b))] => some (fun _ => True, [.one (.v (.bool (F.inR x a b)))])
 | 126, [.one (.v (.int .i64 x)), .one (.v (.int .i64 a)), .one (.v (.int .i64 b))] => some (fun _ => True, [.one (.v (.bool (F.inR x a b)))])
 | _, _ => none
theorem am : aV Tryz.prog (ct F0) := by
 intro f ds pre res h hp;unfold ct at h;split at h <;> (try split at h) <;> cases h
 exact aC _ _ _ hp;exact aN _ _ _ hp
def B : TB Tryz.prog := tb am
end B1
theorem cZ (es : List (List L)) (p : Int) (hp : Rw [tI, tI] es) : aO Tryz.prog 176 [.agg [.s 2 es], .one (.v (.int .i64 p))] [.agg [.v (.int .i64 (peM es p)), .v (.int .i64 (peF es p))]] := by
 have hm := hp.1; unfold maxLen at hm;have hsb : bu .sub .i64 (es.length : Int) 1 = es.length - 1 := ce (by omega);refine aj B1.B ai mixed 18 _ [138] [.cell 4 138] Tryz.func176 rfl rfl rfl rfl rfl ?_;intro O r (F : B1.Fns) hO hr (hF : F = B1.F0);cbv
 repeat' first | refine And.intro ?_ ?_ | (refine aK (fun hb => ?_) (fun hb => ?_) <;> cbv)
 all_goals (subst hO hr hF; (try simp only [ah, SS, sa, az] at *); (try simp only [nc] at *); (try simp only [aF] at *))
 all_goals (try simp only [B1.F0, hsb] at *)
 all_goals (try simp only [bc, ji] at *)
 all_goals first | exact oj (uN (by omega)).1.symm (uN (by omega)).2.symm | exact oj (lq (by omega)).1.symm (lq (by omega)).2.symm | omega | (refine ⟨by omega, by omega, (Rw.eta (by first | assumption | exact Rw.sub (by first | assumption | exact Rw.sub (by assumption) (by omega) rfl) (by omega) rfl) (by omega) (by omega)).trans ?_⟩; rfl) | trivial | trace_state
theorem fI (es : List (List L)) (p : Int) (hp : Rw [tI, tI] es) : aO Tryz.prog 72 [.agg [.s 2 es], .one (.v (.int .i64 p))] [.agg [.v (.int .i64 (peM es p)), .v (.int .i64 (peF es p))]] := by
 have hm := hp.1; unfold maxLen at hm;have hsb : bu .sub .i64 (es.length : Int) 1 = es.length - 1 := ce (by omega);refine aj B1.B ai mixed 18 _ [138] [.cell 4 138] Tryz.func72 rfl rfl rfl rfl rfl ?_;intro O r (F : B1.Fns) hO hr (hF : F = B1.F0);cbv
 repeat' first | refine And.intro ?_ ?_ | (refine aK (fun hb => ?_) (fun hb => ?_) <;> cbv)
 all_goals (subst hO hr hF; (try simp only [ah, SS, sa, az] at *); (try simp only [nc] at *); (try simp only [aF] at *))
 all_goals (try simp only [B1.F0, hsb] at *)
 all_goals (try simp only [bc, ji] at *)
 all_goals first | exact oj (uN (by omega)).1.symm (uN (by omega)).2.symm | exact oj (lq (by omega)).1.symm (lq (by omega)).2.symm | omega | (refine ⟨by omega, by omega, (Rw.eta (by first | assumption | exact Rw.sub (by first | assumption | exact Rw.sub (by assumption) (by omega) rfl) (by omega) rfl) (by omega) (by omega)).trans ?_⟩; rfl) | trivial | trace_state
namespace B2
structure Fns where
 peM : List (List L) -> Int -> Int
 peF : List (List L) -> Int -> Int
 pagesOn : List (List L) -> Int -> List (List L)
def F0 : Fns := ⟨peM, peF, pagesOn⟩
def ct (F : Fns) : CT := fun f ds => match f, ds with
 | 176, [.agg [.s 2 es], .one (.v (.int .i64 p))] => some (fun _ => Rw [tI, tI] es, [.agg [.v (.int .i64 (F.peM es p)), .v (.int .i64 (F.peF es p))]])
 | 236, [.agg [.s 2 es], .one (.v (.int .i64 f))] => some (fun _ => Rw [tI, tI] es /\ es.length <= 1099511627776, [.one (.s 1 (F.pagesOn es f))])
 | 72, [.agg [.s 2 es], .one (.v (.int .i64 p))] => some (fun _ => Rw [tI, tI] es, [.agg [.v (.int .i64 (F.peM es p)), .v (.int .i64 (F.peF es p))]])
 | 234, [.agg [.s 2 es], .one (.v (.int .i64 f))] => some (fun _ => Rw [tI, tI] es /\ es.length <= 1099511627776, [.one (.s 1 (F.pagesOn es f))])
 | _, _ => none
theorem am : aV Tryz.prog (ct F0) := by
 intro f ds pre res h hp;unfold ct at h;split at h <;> (try split at h) <;> cases h
 exact cZ _ _ hp;exact gU _ _ hp;exact fI _ _ hp;exact gX _ _ hp
def B : TB Tryz.prog := tb am
end B2
theorem jT (a0 a1 a2 : List (List L)) (a3 : Int) (a4 a5 a6 a7 a8 a9 a10 a11 : List (List L)) (a12 : Int) (a13 : List (List L)) (a14 a15 a16 a17 : Int) (a18 : Bool) (a19 a20 : Int) (a21 : List (List L)) (a22 a23 pg : Int) (hp : Rw [tI, tI] a2 /\ a2.length <= 1099511627776) : aO Tryz.prog 179 [.agg [.s 1 a0, .s 1 a1, .s 2 a2, .v (.int .i64 a3), .s 1 a4, .s 2 a5, .s 3 a6, .s 3 a7, .s 4 a8, .s 1 a9, .s 1 a10, .s 1 a11, .v (.int .i64 a12), .s 3 a13, .v (.int .i64 a14), .v (.int .i64 a15), .v (.int .i64 a16), .v (.int .i64 a17), .v (.bool a18), .v (.int .i64 a19), .v (.int .i64 a20), .s 1 a21, .v (.int .i64 a22), .v (.int .i64 a23)], .one (.v (.int .i64 pg))] [.one (.s 1 (fpg a2 pg))] := by
 obtain ⟨hw, hn⟩ := hp;refine aj B2.B ai mixed 22 _ [31] [.tmp 4] Tryz.func179 rfl rfl rfl rfl rfl ?_;intro O r (F : B2.Fns) hO hr (hF : F = B2.F0);cbv
 repeat' first | refine And.intro ?_ ?_ | (refine aK (fun hb => ?_) (fun hb => ?_) <;> cbv)
 all_goals (subst hO hr hF; (try simp only [ah, SS, sa, az] at *); (try simp only [nc] at *); (try simp only [aF] at *))
 all_goals (try simp only [B2.F0] at *)
 all_goals first
  | (show (_ : List DV) = _
     first
      | exact lA (vQ (by assumption)).symm
      | exact lA (sH (by assumption)).symm
      | done)
  | exact ⟨hw, hn⟩
  | exact hw
  | exact True.intro
  | exact ⟨True.intro, True.intro⟩
  | trace_state
theorem eZ (a0 a1 a2 : List (List L)) (a3 : Int) (a4 a5 a6 a7 a8 a9 a10 a11 : List (List L)) (a12 : Int) (a13 : List (List L)) (a14 a15 a16 a17 : Int) (a18 : Bool) (a19 a20 : Int) (a21 : List (List L)) (a22 a23 pg : Int) (hp : Rw [tI, tI] a2 /\ a2.length <= 1099511627776) : aO Tryz.prog 171 [.agg [.s 1 a0, .s 1 a1, .s 2 a2, .v (.int .i64 a3), .s 1 a4, .s 2 a5, .s 3 a6, .s 3 a7, .s 4 a8, .s 1 a9, .s 1 a10, .s 1 a11, .v (.int .i64 a12), .s 3 a13, .v (.int .i64 a14), .v (.int .i64 a15), .v (.int .i64 a16), .v (.int .i64 a17), .v (.bool a18), .v (.int .i64 a19), .v (.int .i64 a20), .s 1 a21, .v (.int .i64 a22), .v (.int .i64 a23)], .one (.v (.int .i64 pg))] [.one (.s 1 (fpg a2 pg))] := by
 obtain ⟨hw, hn⟩ := hp;refine aj B2.B ai mixed 23 _ [31] [.tmp 4] Tryz.func171 rfl rfl rfl rfl rfl ?_;intro O r (F : B2.Fns) hO hr (hF : F = B2.F0);cbv
 repeat' first | refine And.intro ?_ ?_ | (refine aK (fun hb => ?_) (fun hb => ?_) <;> cbv)
 all_goals (subst hO hr hF; (try simp only [ah, SS, sa, az] at *); (try simp only [nc] at *); (try simp only [aF] at *))
 all_goals (try simp only [B2.F0] at *)
 all_goals first
  | (show (_ : List DV) = _
     first
      | exact lA (vQ (by assumption)).symm
      | exact lA (sH (by assumption)).symm
      | done)
  | exact ⟨hw, hn⟩
  | exact hw
  | exact True.intro
  | exact ⟨True.intro, True.intro⟩
  | trace_state
end Go.V