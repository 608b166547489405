/-
  Contracts, by evaluation.
-/
import Derived.Test.YtniaaknbbceigaaGreatS10
import Derived.Test.YtniaaknbbceigaaGreatHB
import Derived.Test.YtniaaknbbceigaaGreatLayQq
set_option linter.all false
namespace Go.V
open Go Go.Proofs
set_option maxRecDepth 1000000
set_option maxHeartbeats 8000000
namespace Of0
structure Fns where
 inR : Int -> Int -> Int -> Bool
def F0 : Fns := ⟨inR⟩
def ct (F : Fns) : CT := fun f ds => match f, ds with
 | 152, [.one (.v (.int .i64 x)), .one (.v (.int .i64 a)), .one (.v (.int .i64 b))] => some (fun _ => True, [.one (.v (.bool (F.inR x a b)))])
 | _, _ => none
theorem am : aV Tryz.prog (ct F0) := by
 intro f ds pre res h hp;unfold ct at h;split at h <;> (try split at h) <;> cases h
 exact aC _ _ _ hp
def B : TB Tryz.prog := tb am
end Of0
theorem jY (d0 d1 d2 d3 ad : Int) (hp : True) : aO Tryz.prog 155 [.agg [.v (.int .i64 d0), .v (.int .i64 d1), .v (.int .i64 d2), .v (.int .i64 d3)], .ptr [.v (.int .i64 ad)]] [.one (.v (.bool (obD d1 d2 ad)))] := by
 refine aj Of0.B ai mixed 14 _ [4] [.tmp 3] Tryz.func155 rfl rfl rfl rfl rfl ?_;intro O r (F : Of0.Fns) hO hr (hF : F = Of0.F0);cbv
 repeat' first | refine And.intro ?_ ?_ | (refine aK (fun hb => ?_) (fun hb => ?_) <;> cbv)
 all_goals (subst hO hr hF; (try simp only [ah, SS, sa, az] at *); (try simp only [nc] at *); (try simp only [aF] at *))
 all_goals (try simp only [Of0.F0] at *)
 all_goals first | exact rfl | trivial | done
namespace Of1
structure Fns where
 obD : Int -> Int -> Int -> Bool
def F0 : Fns := ⟨obD⟩
def ct (F : Fns) : CT := fun f ds => match f, ds with
 | 155, [.agg [.v (.int .i64 d0), .v (.int .i64 d1), .v (.int .i64 d2), .v (.int .i64 d3)], .ptr [.v (.int .i64 ad)]] => some (fun _ => True, [.one (.v (.bool (F.obD d1 d2 ad)))])
 | _, _ => none
theorem am : aV Tryz.prog (ct F0) := by
 intro f ds pre res h hp;unfold ct at h;split at h <;> (try split at h) <;> cases h
 exact jY _ _ _ _ _ hp
def B : TB Tryz.prog := tb am
end Of1
theorem bA (os : List (List L)) (ad : Int) (hp : Rw [tI, tI, tI, tI] os /\ os.length <= 1099511627776) : aO Tryz.prog 99 [.one (.s 4 os), .fn 155 [[.v (.int .i64 ad)]]] [.one (.v (.int .i64 (ofI os ad)))] := by
 obtain ⟨hw, hn⟩ := hp;refine aj Of1.B ai mixed 19 _ [3] [.tmp 4] Tryz.func99 rfl rfl rfl rfl rfl ?_;intro O r (F : Of1.Fns) hO hr (hF : F = Of1.F0);cbv
 repeat' first | refine And.intro ?_ ?_ | (refine aK (fun hb => ?_) (fun hb => ?_) <;> cbv) | (refine ⟨[0, 1, 7, 8], [0], Int, fun i => [.reg 8 (.one (.v (.int .i64 i)))], fun i => 0 <= i /\ i <= ((os.length : Nat) : Int) /\ upto (bP (AX os ad)) i, fun i => (os.length) - i.toNat, ⟨0, ?_, ?_⟩, ?_⟩; rotate_left; (focus (cbv; done)); intro i hi; replace hi : 0 <= i /\ i <= ((os.length : Nat) : Int) /\ upto (bP (AX os ad)) i := hi; obtain ⟨i0, i1, i2⟩ := hi; cbv) | (refine aa (O.ar .add .i64 i 1) ?_ ?_ ?_; rotate_left 2; focus (cbv; done))
 all_goals (subst hO hr hF; (try simp only [ah, SS, sa, az] at *); (try simp only [nc] at *); (try simp only [aF] at *))
 all_goals (try simp only [Of1.F0] at *)
 all_goals try rw [bK (by omega) (by omega)]
 all_goals first
  | (show (_ : List DV) = _
     first
      | exact ba (cy i2 i0 (by assumption) (show AX os ad i = true from by assumption)).symm
      | exact ba (cO i2 (by assumption)).symm
      | done)
  | omega
  | (refine ⟨by omega, by omega, (Rw.eta (by first | assumption | exact Rw.sub (by first | assumption | exact Rw.sub (by assumption) (by omega) rfl) (by omega) rfl) (by omega) (by omega)).trans ?_⟩; rfl)
  | (show (lk _ _).isSome = true; kernel_rfl)
  | exact aG
  | exact aw i2 (eO (show AX os ad i = false from by assumption))
  | exact ⟨trivial, trivial⟩
  | trivial
  | done
namespace Of2
structure Fns where
 ofI : List (List L) -> Int -> Int
def F0 : Fns := ⟨ofI⟩
def ct (F : Fns) : CT := fun f ds => match f, ds with
 | 99, [.one (.s 4 os), .fn 155 [[.v (.int .i64 ad)]]] => some (fun _ => Rw [tI, tI, tI, tI] os /\ os.length <= 1099511627776, [.one (.v (.int .i64 (F.ofI os ad)))])
 | _, _ => none
theorem am : aV Tryz.prog (ct F0) := by
 intro f ds pre res h hp;unfold ct at h;split at h <;> (try split at h) <;> cases h
 exact bA _ _ hp
def B : TB Tryz.prog := tb am
end Of2
theorem mE (a0 a1 a2 : List (List L)) (a3 : Int) (a4 a5 a6 a7 a8 a9 a10 a11 : List (List L)) (a12 : Int) (a13 : List (List L)) (a14 a15 a16 a17 : Int) (a18 : Bool) (a19 a20 : Int) (a21 : List (List L)) (a22 a23 ad : Int) (hp : Rw [tI, tI, tI, tI] a8 /\ a8.length <= 1099511627776) : aO Tryz.prog 56 [.agg [.s 1 a0, .s 1 a1, .s 2 a2, .v (.int .i64 a3), .s 1 a4, .s 2 a5, .s 3 a6, .s 3 a7, .s 4 a8, .s 1 a9, .s 1 a10, .s 1 a11, .v (.int .i64 a12), .s 3 a13, .v (.int .i64 a14), .v (.int .i64 a15), .v (.int .i64 a16), .v (.int .i64 a17), .v (.bool a18), .v (.int .i64 a19), .v (.int .i64 a20), .s 1 a21, .v (.int .i64 a22), .v (.int .i64 a23)], .one (.v (.int .i64 ad))] [.one (.v (.int .i64 (ofI a8 ad)))] := by
 refine aj Of2.B ai mixed 9 _ [3] [.tmp 4] Tryz.func56 rfl rfl rfl rfl rfl ?_;intro O r (F : Of2.Fns) hO hr (hF : F = Of2.F0);cbv
 repeat' first | refine And.intro ?_ ?_ | (refine aK (fun hb => ?_) (fun hb => ?_) <;> cbv)
 all_goals (subst hO hr hF; (try simp only [ah, SS, sa, az] at *); (try simp only [nc] at *); (try simp only [aF] at *))
 all_goals (try simp only [Of2.F0] at *)
 all_goals first | exact hp | exact rfl | trivial | done
theorem sx (a0 a1 a2 : List (List L)) (a3 : Int) (a4 a5 a6 a7 a8 a9 a10 a11 : List (List L)) (a12 : Int) (a13 : List (List L)) (a14 a15 a16 a17 : Int) (a18 : Bool) (a19 a20 : Int) (a21 : List (List L)) (a22 a23 ad : Int) (hp : G5 a8) : aO Tryz.prog 45 [.ptr [.s 1 a0, .s 1 a1, .s 2 a2, .v (.int .i64 a3), .s 1 a4, .s 2 a5, .s 3 a6, .s 3 a7, .s 4 a8, .s 1 a9, .s 1 a10, .s 1 a11, .v (.int .i64 a12), .s 3 a13, .v (.int .i64 a14), .v (.int .i64 a15), .v (.int .i64 a16), .v (.int .i64 a17), .v (.bool a18), .v (.int .i64 a19), .v (.int .i64 a20), .s 1 a21, .v (.int .i64 a22), .v (.int .i64 a23)], .one (.v (.int .i64 ad))] [.one (.v (.int .i64 (ofI a8 ad)))] := by
 have hw := hp.w; have hn := hp.l;refine aj Of2.B ai mixed 47 _ [3] [.tmp 4] Tryz.func45 rfl rfl rfl rfl rfl ?_;intro O r (F : Of2.Fns) hO hr (hF : F = Of2.F0);cbv
 repeat' first | refine And.intro ?_ ?_ | (refine aK (fun hb => ?_) (fun hb => ?_) <;> cbv) | (refine ⟨[0, 1, 5], [0], Int, fun i => [.reg 5 (.one (.v (.int .i64 i)))], fun i => 0 <= i /\ i <= ((a8.length : Nat) : Int) /\ upto (bP (AX a8 ad)) i, fun i => (a8.length) - i.toNat, ⟨0, ?_, ?_⟩, ?_⟩; rotate_left; (focus (cbv; done)); intro i hi; replace hi : 0 <= i /\ i <= ((a8.length : Nat) : Int) /\ upto (bP (AX a8 ad)) i := hi; obtain ⟨i0, i1, i2⟩ := hi; cbv) | (refine aa (O.ar .add .i64 i 1) ?_ ?_ ?_; rotate_left 2; focus (cbv; done))
 all_goals (subst hO hr hF; (try simp only [ah, SS, sa, az] at *); (try simp only [nc] at *); (try simp only [aF] at *))
 all_goals try rw [bK (by omega) (by omega)]
 all_goals first
  | (show (_ : List DV) = _
     first
      | exact ba (cy i2 i0 (by assumption) (KB hp i0 (by assumption) (by assumption) (by assumption))).symm
      | exact ba (cO i2 (by omega)).symm
      | done)
  | omega
  | (refine ⟨by omega, by omega, (Rw.eta (by first | assumption | exact Rw.sub (by first | assumption | exact Rw.sub (by assumption) (by omega) rfl) (by omega) rfl) (by omega) (by omega)).trans ?_⟩; rfl)
  | (show au _ _ = true; kernel_rfl)
  | exact aG
  | exact aw i2 (eO (KA hp i0 (by assumption) (by omega)))
  | exact Int.natCast_nonneg _
  | exact True.intro
  | done
namespace Of3
structure Fns where
 ofI : List (List L) -> Int -> Int
 hpI : List (List L) -> List (List L) -> List (List L) -> Int -> List (List L) -> List (List L) -> List (List L) -> List (List L) -> List (List L) -> List (List L) -> List (List L) -> List (List L) -> Int -> List (List L) -> Int -> Int -> Int -> Int -> Bool -> Int -> Int -> List (List L) -> Int -> Int -> Bool
def F0 : Fns := ⟨ofI, hpI⟩
def ct (F : Fns) : CT := fun f ds => match f with
 | 56 => match ds with
   | [.agg [.s 1 a0, .s 1 a1, .s 2 a2, .v (.int .i64 a3), .s 1 a4, .s 2 a5, .s 3 a6, .s 3 a7, .s 4 a8, .s 1 a9, .s 1 a10, .s 1 a11, .v (.int .i64 a12), .s 3 a13, .v (.int .i64 a14), .v (.int .i64 a15), .v (.int .i64 a16), .v (.int .i64 a17), .v (.bool a18), .v (.int .i64 a19), .v (.int .i64 a20), .s 1 a21, .v (.int .i64 a22), .v (.int .i64 a23)], .one (.v (.int .i64 ad))] => some (fun _ => Rw [tI, tI, tI, tI] a8 /\ a8.length <= 1099511627776, [.one (.v (.int .i64 (F.ofI a8 ad)))])
   | _ => none
 | 45 => match ds with
   | [.ptr [.s 1 a0, .s 1 a1, .s 2 a2, .v (.int .i64 a3), .s 1 a4, .s 2 a5, .s 3 a6, .s 3 a7, .s 4 a8, .s 1 a9, .s 1 a10, .s 1 a11, .v (.int .i64 a12), .s 3 a13, .v (.int .i64 a14), .v (.int .i64 a15), .v (.int .i64 a16), .v (.int .i64 a17), .v (.bool a18), .v (.int .i64 a19), .v (.int .i64 a20), .s 1 a21, .v (.int .i64 a22), .v (.int .i64 a23)], .one (.v (.int .i64 ad))] => some (fun _ => G5 a8, [.one (.v (.int .i64 (F.ofI a8 ad)))])
   | _ => none
 | 55 => match ds with
   | [.agg [.s 1 a0, .s 1 a1, .s 2 a2, .v (.int .i64 a3), .s 1 a4, .s 2 a5, .s 3 a6, .s 3 a7, .s 4 a8, .s 1 a9, .s 1 a10, .s 1 a11, .v (.int .i64 a12), .s 3 a13, .v (.int .i64 a14), .v (.int .i64 a15), .v (.int .i64 a16), .v (.int .i64 a17), .v (.bool a18), .v (.int .i64 a19), .v (.int .i64 a20), .s 1 a21, .v (.int .i64 a22), .v (.int .i64 a23)]] => some (fun _ => nK a0 a1 a2 a4 a5 a6 a7 a8 a9 a10 a11 a13 a21, [.one (.v (.bool (F.hpI a0 a1 a2 a3 a4 a5 a6 a7 a8 a9 a10 a11 a12 a13 a14 a15 a16 a17 a18 a19 a20 a21 a22 a23)))])
   | _ => none
 | 44 => match ds with
   | [.agg [.s 1 a0, .s 1 a1, .s 2 a2, .v (.int .i64 a3), .s 1 a4, .s 2 a5, .s 3 a6, .s 3 a7, .s 4 a8, .s 1 a9, .s 1 a10, .s 1 a11, .v (.int .i64 a12), .s 3 a13, .v (.int .i64 a14), .v (.int .i64 a15), .v (.int .i64 a16), .v (.int .i64 a17), .v (.bool a18), .v (.int .i64 a19), .v (.int .i64 a20), .s 1 a21, .v (.int .i64 a22), .v (.int .i64 a23)]] => some (fun _ => nK a0 a1 a2 a4 a5 a6 a7 a8 a9 a10 a11 a13 a21, [.one (.v (.bool (F.hpI a0 a1 a2 a3 a4 a5 a6 a7 a8 a9 a10 a11 a12 a13 a14 a15 a16 a17 a18 a19 a20 a21 a22 a23)))])
   | _ => none
 | _ => none
theorem am : aV Tryz.prog (ct F0) := by
 intro f ds pre res h hp;unfold ct at h;split at h <;> (try split at h) <;> cases h
 exact mE _ _ _ _ _ _ _ _ _ _ _ _ _ _ _ _ _ _ _ _ _ _ _ _ _ hp;exact sx _ _ _ _ _ _ _ _ _ _ _ _ _ _ _ _ _ _ _ _ _ _ _ _ _ hp;exact jd _ _ _ _ _ _ _ _ _ _ _ _ _ _ _ _ _ _ _ _ _ _ _ _ hp;exact jf _ _ _ _ _ _ _ _ _ _ _ _ _ _ _ _ _ _ _ _ _ _ _ _ hp
def B : TB Tryz.prog := tb am
end Of3
theorem gD (a0 a1 a2 : List (List L)) (a3 : Int) (a4 a5 a6 a7 a8 a9 a10 a11 : List (List L)) (a12 : Int) (a13 : List (List L)) (a14 a15 a16 a17 : Int) (a18 : Bool) (a19 a20 : Int) (a21 : List (List L)) (a22 a23 ad : Int) (hp : nK a0 a1 a2 a4 a5 a6 a7 a8 a9 a10 a11 a13 a21) : aO Tryz.prog 13 [.agg [.s 1 a0, .s 1 a1, .s 2 a2, .v (.int .i64 a3), .s 1 a4, .s 2 a5, .s 3 a6, .s 3 a7, .s 4 a8, .s 1 a9, .s 1 a10, .s 1 a11, .v (.int .i64 a12), .s 3 a13, .v (.int .i64 a14), .v (.int .i64 a15), .v (.int .i64 a16), .v (.int .i64 a17), .v (.bool a18), .v (.int .i64 a19), .v (.int .i64 a20), .s 1 a21, .v (.int .i64 a22), .v (.int .i64 a23)], .one (.v (.int .i64 ad))] [.one (.v (.int .i64 (ooI (hpI a0 a1 a2 a3 a4 a5 a6 a7 a8 a9 a10 a11 a12 a13 a14 a15 a16 a17 a18 a19 a20 a21 a22 a23) a8 ad)))] := by
 have N := hp.n;refine aj Of3.B ai mixed 11 _ [3] [.tmp 4] Tryz.func13 rfl rfl rfl rfl rfl ?_;intro O r (F : Of3.Fns) hO hr (hF : F = Of3.F0);cbv
 repeat' first | refine And.intro ?_ ?_ | (refine aK (fun hb => ?_) (fun hb => ?_) <;> cbv)
 all_goals (subst hO hr hF; (try simp only [ah, SS, sa, az] at *); (try simp only [nc] at *); (try simp only [aF] at *))
 all_goals (try simp only [Of3.F0] at *)
 all_goals first | exact hp | exact ba (IX (by assumption)).symm | exact ba (IW (by assumption)).symm | exact ⟨N.ow, by have := N.ol; omega⟩ | trivial | done
theorem gH (a0 a1 a2 : List (List L)) (a3 : Int) (a4 a5 a6 a7 a8 a9 a10 a11 : List (List L)) (a12 : Int) (a13 : List (List L)) (a14 a15 a16 a17 : Int) (a18 : Bool) (a19 a20 : Int) (a21 : List (List L)) (a22 a23 ad : Int) (hp : nK a0 a1 a2 a4 a5 a6 a7 a8 a9 a10 a11 a13 a21) : aO Tryz.prog 11 [.agg [.s 1 a0, .s 1 a1, .s 2 a2, .v (.int .i64 a3), .s 1 a4, .s 2 a5, .s 3 a6, .s 3 a7, .s 4 a8, .s 1 a9, .s 1 a10, .s 1 a11, .v (.int .i64 a12), .s 3 a13, .v (.int .i64 a14), .v (.int .i64 a15), .v (.int .i64 a16), .v (.int .i64 a17), .v (.bool a18), .v (.int .i64 a19), .v (.int .i64 a20), .s 1 a21, .v (.int .i64 a22), .v (.int .i64 a23)], .one (.v (.int .i64 ad))] [.one (.v (.int .i64 (ooI (hpI a0 a1 a2 a3 a4 a5 a6 a7 a8 a9 a10 a11 a12 a13 a14 a15 a16 a17 a18 a19 a20 a21 a22 a23) a8 ad)))] := by
 have N := hp.n;refine aj Of3.B ai mixed 10 _ [3] [.tmp 4] Tryz.func11 rfl rfl rfl rfl rfl ?_;intro O r (F : Of3.Fns) hO hr (hF : F = Of3.F0);cbv
 repeat' first | refine And.intro ?_ ?_ | (refine aK (fun hb => ?_) (fun hb => ?_) <;> cbv)
 all_goals (subst hO hr hF; (try simp only [ah, SS, sa, az] at *); (try simp only [nc] at *); (try simp only [aF] at *))
 all_goals (try simp only [Of3.F0] at *)
 all_goals first | exact hp | exact ba (IX (by assumption)).symm | exact ba (IW (by assumption)).symm | exact Gx N.ow (by have := N.ol; omega) (by assumption) | (show au _ _ = true; kernel_rfl) | trivial | done
end Go.V