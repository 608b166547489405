/-
  Contracts, by evaluation.
-/
import Derived.Test.YtniaaknbbceigaaGreatS10
import Derived.Test.YtniaaknbbceigaaGreatHA
import Derived.Test.YtniaaknbbceigaaGreatHeapCq
set_option linter.all false
namespace Go.V
open Go Go.Proofs
set_option maxRecDepth 1000000
set_option maxHeartbeats 8000000
namespace La0
structure Fns where
 inR : Int -> Int -> Int -> Bool
 clsSz : Int -> Int
def F0 : Fns := ⟨inR, clsSz⟩
def ct (F : Fns) : CT := fun f ds => match f, ds with
 | 187, [.one (.v (.int .i64 k))] => some (fun _ => True, [.one (.v (.bool (F.inR k 0 3)))])
 | 95, [.one (.v (.int .i64 k))] => some (fun _ => True, [.one (.v (.int .i64 (F.clsSz k)))])
 | 126, [.one (.v (.int .i64 x)), .one (.v (.int .i64 a)), .one (.v (.int .i64 b))] => some (fun _ => True, [.one (.v (.bool (F.inR x a b)))])
 | _, _ => none
theorem am : aV Tryz.prog (ct F0) := by
 intro f ds pre res h hp;unfold ct at h;split at h <;> (try split at h) <;> cases h
 exact cS _ hp;exact cH _ hp;exact aN _ _ _ hp
def B : TB Tryz.prog := tb am
end La0
theorem eB (k : Int) (hp : True) : aO Tryz.prog 251 [.one (.v (.int .i64 k))] [.one (.v (.int .i64 (slN k)))] := by
 refine aj La0.B ai mixed 9 _ [3] [.tmp 2] Tryz.func251 rfl rfl rfl rfl rfl ?_;intro O r (F : La0.Fns) hO hr (hF : F = La0.F0);cbv
 repeat' first | refine And.intro ?_ ?_ | (refine aK (fun hb => ?_) (fun hb => ?_) <;> cbv)
 all_goals (subst hO hr hF; (try simp only [ah, SS, sa, az] at *); (try simp only [nc] at *); (try simp only [aF] at *))
 all_goals (try simp only [La0.F0] at *)
 all_goals first
  | (show (_ : List DV) = _
     first
      | exact ba (BF (by assumption))
      | exact ba (wA (by assumption)).symm
      | done)
  | (have := eG (k := k) (by assumption); omega)
  | done
theorem o9 (k : Int) (hp : True) : aO Tryz.prog 245 [.one (.v (.int .i64 k))] [.one (.v (.int .i64 (slN k)))] := by
 refine aj La0.B ai mixed 9 _ [3] [.tmp 2] Tryz.func245 rfl rfl rfl rfl rfl ?_;intro O r (F : La0.Fns) hO hr (hF : F = La0.F0);cbv
 repeat' first | refine And.intro ?_ ?_ | (refine aK (fun hb => ?_) (fun hb => ?_) <;> cbv)
 all_goals (subst hO hr hF; (try simp only [ah, SS, sa, az] at *); (try simp only [nc] at *); (try simp only [aF] at *))
 all_goals (try simp only [La0.F0] at *)
 all_goals first
  | (show (_ : List DV) = _
     first
      | exact ba (BG (by assumption))
      | exact ba (wA (by assumption)).symm
      | done)
  | (rcases Cz (k := k) (by assumption) with rfl | rfl | rfl | rfl <;> decide)
  | done
namespace La1
structure Fns where
 inR : Int -> Int -> Int -> Bool
def F0 : Fns := ⟨inR⟩
def ct (F : Fns) : CT := fun f ds => match f, ds with
 | 152, [.one (.v (.int .i64 x)), .one (.v (.int .i64 a)), .one (.v (.int .i64 b))] => some (fun _ => True, [.one (.v (.bool (F.inR x a b)))])
 | 126, [.one (.v (.int .i64 x)), .one (.v (.int .i64 a)), .one (.v (.int .i64 b))] => some (fun _ => True, [.one (.v (.bool (F.inR x a b)))])
 | _, _ => none
theorem am : aV Tryz.prog (ct F0) := by
 intro f ds pre res h hp;unfold ct at h;split at h <;> (try split at h) <;> cases h
 exact aC _ _ _ hp;exact aN _ _ _ hp
def B : TB Tryz.prog := tb am
end La1
theorem mo (n b : Int) (hp : True) : aO Tryz.prog 250 [.one (.v (.int .i64 n)), .one (.v (.int .i64 b))] [.one (.v (.bool (bmOk n b)))] := by
 refine aj La1.B ai mixed 14 _ [4] [.tmp 4] Tryz.func250 rfl rfl rfl rfl rfl ?_;intro O r (F : La1.Fns) hO hr (hF : F = La1.F0);cbv
 repeat' first | refine And.intro ?_ ?_ | (refine aK (fun hb => ?_) (fun hb => ?_) <;> cbv)
 all_goals (subst hO hr hF; (try simp only [ah, SS, sa, az] at *); (try simp only [nc] at *); (try simp only [aF] at *))
 all_goals (try simp only [La1.F0] at *)
 all_goals try (have e := BE (n := n) (by assumption); simp only [e.1])
 all_goals first
  | (show (_ : List DV) = _
     first
      | exact af (zg (by assumption)).symm
      | exact af (DC (by assumption)).symm
      | done)
  | (have := bc.1 (‹inR n 1 16 = true›); omega)
  | done
theorem ng (n b : Int) (hp : True) : aO Tryz.prog 244 [.one (.v (.int .i64 n)), .one (.v (.int .i64 b))] [.one (.v (.bool (bmOk n b)))] := by
 refine aj La1.B ai mixed 15 _ [4] [.tmp 4] Tryz.func244 rfl rfl rfl rfl rfl ?_;intro O r (F : La1.Fns) hO hr (hF : F = La1.F0);cbv
 repeat' first | refine And.intro ?_ ?_ | (refine aK (fun hb => ?_) (fun hb => ?_) <;> cbv)
 all_goals (subst hO hr hF; (try simp only [ah, SS, sa, az] at *); (try simp only [nc] at *); (try simp only [aF] at *))
 all_goals (try simp only [La1.F0] at *)
 all_goals try (have e := BE (n := n) (by assumption); simp only [e.2.1])
 all_goals first
  | (show (_ : List DV) = _
     first
      | exact af (zg (by assumption)).symm
      | exact af (DC (by assumption)).symm
      | done)
  | exact (BE (by assumption)).2.2
  | done
namespace La2
structure Fns where
 inR : Int -> Int -> Int -> Bool
 slN : Int -> Int
 bmOk : Int -> Int -> Bool
def F0 : Fns := ⟨inR, slN, bmOk⟩
def ct (F : Fns) : CT := fun f ds => match f, ds with
 | 152, [.one (.v (.int .i64 x)), .one (.v (.int .i64 a)), .one (.v (.int .i64 b))] => some (fun _ => True, [.one (.v (.bool (F.inR x a b)))])
 | 187, [.one (.v (.int .i64 k))] => some (fun _ => True, [.one (.v (.bool (F.inR k 0 3)))])
 | 251, [.one (.v (.int .i64 k))] => some (fun _ => True, [.one (.v (.int .i64 (F.slN k)))])
 | 250, [.one (.v (.int .i64 n)), .one (.v (.int .i64 b))] => some (fun _ => True, [.one (.v (.bool (F.bmOk n b)))])
 | 126, [.one (.v (.int .i64 x)), .one (.v (.int .i64 a)), .one (.v (.int .i64 b))] => some (fun _ => True, [.one (.v (.bool (F.inR x a b)))])
 | 245, [.one (.v (.int .i64 k))] => some (fun _ => True, [.one (.v (.int .i64 (F.slN k)))])
 | 244, [.one (.v (.int .i64 n)), .one (.v (.int .i64 b))] => some (fun _ => True, [.one (.v (.bool (F.bmOk n b)))])
 | _, _ => none
theorem am : aV Tryz.prog (ct F0) := by
 intro f ds pre res h hp;unfold ct at h;split at h <;> (try split at h) <;> cases h
 exact aC _ _ _ hp;exact cS _ hp;exact eB _ hp;exact mo _ _ hp;exact aN _ _ _ hp;exact o9 _ hp;exact ng _ _ hp
def B : TB Tryz.prog := tb am
end La2
theorem fh (p k b : Int) (hp : True) : aO Tryz.prog 216 [.agg [.v (.int .i64 p), .v (.int .i64 k), .v (.int .i64 b)]] [.one (.v (.bool (spOk p k b)))] := by
 refine aj La2.B ai mixed 19 _ [4] [.tmp 2] Tryz.func216 rfl rfl rfl rfl rfl ?_;intro O r (F : La2.Fns) hO hr (hF : F = La2.F0);cbv
 repeat' first | refine And.intro ?_ ?_ | (refine aK (fun hb => ?_) (fun hb => ?_) <;> cbv)
 all_goals (subst hO hr hF; (try simp only [ah, SS, sa, az] at *); (try simp only [nc] at *); (try simp only [aF] at *))
 all_goals (try simp only [La2.F0] at *)
 all_goals first
  | (show (_ : List DV) = _
     first
      | exact af (BK (by assumption)).symm
      | exact af (BJ (by assumption)).symm
      | exact af (GO (by assumption)).symm
      | done)
  | (show au _ _ = true; kernel_rfl)
  | done
theorem ft (p k b : Int) (hp : True) : aO Tryz.prog 200 [.agg [.v (.int .i64 p), .v (.int .i64 k), .v (.int .i64 b)]] [.one (.v (.bool (spOk p k b)))] := by
 refine aj La2.B ai mixed 14 _ [4] [.tmp 2] Tryz.func200 rfl rfl rfl rfl rfl ?_;intro O r (F : La2.Fns) hO hr (hF : F = La2.F0);cbv
 repeat' first | refine And.intro ?_ ?_ | (refine aK (fun hb => ?_) (fun hb => ?_) <;> cbv)
 all_goals (subst hO hr hF; (try simp only [ah, SS, sa, az] at *); (try simp only [nc] at *); (try simp only [aF] at *))
 all_goals (try simp only [La2.F0] at *)
 all_goals first
  | (show (_ : List DV) = _
     first
      | exact af (BK (by assumption)).symm
      | exact af (BJ (by assumption)).symm
      | done)
  | (show au _ _ = true; kernel_rfl)
  | done
theorem mz (s : Int) (hp : True) : aO Tryz.prog 252 [.one (.v (.int .i64 s))] [.one (.v (.int .i64 (pfN s)))] := by
 refine aj La1.B ai mixed 10 _ [3] [.tmp 2] Tryz.func252 rfl rfl rfl rfl rfl ?_;intro O r (F : La1.Fns) hO hr (hF : F = La1.F0);cbv
 repeat' first | refine And.intro ?_ ?_ | (refine aK (fun hb => ?_) (fun hb => ?_) <;> cbv)
 all_goals (subst hO hr hF; (try simp only [ah, SS, sa, az] at *); (try simp only [nc] at *); (try simp only [aF] at *))
 all_goals (try simp only [La1.F0] at *)
 all_goals first
  | (show (_ : List DV) = _
     first
      | exact ba (Bc (by assumption))
      | exact ba (Ba (by assumption)).symm
      | done)
  | omega
  | done
theorem np (s : Int) (hp : True) : aO Tryz.prog 246 [.one (.v (.int .i64 s))] [.one (.v (.int .i64 (pfN s)))] := by
 refine aj La1.B ai mixed 10 _ [3] [.tmp 2] Tryz.func246 rfl rfl rfl rfl rfl ?_;intro O r (F : La1.Fns) hO hr (hF : F = La1.F0);cbv
 repeat' first | refine And.intro ?_ ?_ | (refine aK (fun hb => ?_) (fun hb => ?_) <;> cbv)
 all_goals (subst hO hr hF; (try simp only [ah, SS, sa, az] at *); (try simp only [nc] at *); (try simp only [aF] at *))
 all_goals (try simp only [La1.F0] at *)
 all_goals first
  | (show (_ : List DV) = _
     first
      | exact ba (Bc (by assumption))
      | exact ba (Ba (by assumption)).symm
      | done)
  | omega
  | done
namespace La3
structure Fns where
 inR : Int -> Int -> Int -> Bool
 pfN : Int -> Int
def F0 : Fns := ⟨inR, pfN⟩
def ct (F : Fns) : CT := fun f ds => match f, ds with
 | 152, [.one (.v (.int .i64 x)), .one (.v (.int .i64 a)), .one (.v (.int .i64 b))] => some (fun _ => True, [.one (.v (.bool (F.inR x a b)))])
 | 252, [.one (.v (.int .i64 s))] => some (fun _ => True, [.one (.v (.int .i64 (F.pfN s)))])
 | 246, [.one (.v (.int .i64 s))] => some (fun _ => True, [.one (.v (.int .i64 (F.pfN s)))])
 | 126, [.one (.v (.int .i64 x)), .one (.v (.int .i64 a)), .one (.v (.int .i64 b))] => some (fun _ => True, [.one (.v (.bool (F.inR x a b)))])
 | _, _ => none
theorem am : aV Tryz.prog (ct F0) := by
 intro f ds pre res h hp;unfold ct at h;split at h <;> (try split at h) <;> cases h
 exact aC _ _ _ hp;exact mz _ hp;exact np _ hp;exact aN _ _ _ hp
def B : TB Tryz.prog := tb am
end La3
theorem gT (p n s : Int) (hp : True) : aO Tryz.prog 217 [.agg [.v (.int .i64 p), .v (.int .i64 n), .v (.int .i64 s)]] [.one (.v (.bool (lgOk p n s)))] := by
 refine aj La3.B ai mixed 22 _ [4] [.tmp 2] Tryz.func217 rfl rfl rfl rfl rfl ?_;intro O r (F : La3.Fns) hO hr (hF : F = La3.F0);cbv
 repeat' first | refine And.intro ?_ ?_ | (refine aK (fun hb => ?_) (fun hb => ?_) <;> cbv)
 all_goals (subst hO hr hF; (try simp only [ah, SS, sa, az] at *); (try simp only [nc] at *); (try simp only [aF] at *))
 all_goals (try simp only [La3.F0] at *)
 all_goals first
  | (show (_ : List DV) = _
     first
      | (have b := eW (s := s) (by assumption); rw [show bu .sub .i64 32 n = 32 - n from ce (by omega)]; exact af (AC (by assumption) (by assumption)).symm)
      | exact af (AA (by assumption)).symm
      | exact af (AB (by assumption)).symm
      | done)
  | (show au _ _ = true; kernel_rfl)
  | done
theorem gW (p n s : Int) (hp : True) : aO Tryz.prog 202 [.agg [.v (.int .i64 p), .v (.int .i64 n), .v (.int .i64 s)]] [.one (.v (.bool (lgOk p n s)))] := by
 refine aj La3.B ai mixed 22 _ [4] [.tmp 2] Tryz.func202 rfl rfl rfl rfl rfl ?_;intro O r (F : La3.Fns) hO hr (hF : F = La3.F0);cbv
 repeat' first | refine And.intro ?_ ?_ | (refine aK (fun hb => ?_) (fun hb => ?_) <;> cbv)
 all_goals (subst hO hr hF; (try simp only [ah, SS, sa, az] at *); (try simp only [nc] at *); (try simp only [aF] at *))
 all_goals (try simp only [La3.F0] at *)
 all_goals first
  | (show (_ : List DV) = _
     first
      | (have q := Bb.1 (‹0 < pfN s›); have b := eW q; rw [show bu .sub .i64 32 (pfN s) = 32 - pfN s from ce (by omega), ‹n = pfN s›]; exact af (AC q rfl).symm)
      | (refine af (AA ?_).symm; cases q : inR s 9 1000; rfl; have := Bb.2 q; omega)
      | exact af (AB (by assumption)).symm
      | done)
  | done
namespace La4
structure Fns where
 inR : Int -> Int -> Int -> Bool
 spOk : Int -> Int -> Int -> Bool
 clsSz : Int -> Int
 slN : Int -> Int
 lgOk : Int -> Int -> Int -> Bool
def F0 : Fns := ⟨inR, spOk, clsSz, slN, lgOk⟩
def ct (F : Fns) : CT := fun f ds => match f, ds with
 | 152, [.one (.v (.int .i64 x)), .one (.v (.int .i64 a)), .one (.v (.int .i64 b))] => some (fun _ => True, [.one (.v (.bool (F.inR x a b)))])
 | 216, [.agg [.v (.int .i64 p), .v (.int .i64 k), .v (.int .i64 b)]] => some (fun _ => True, [.one (.v (.bool (F.spOk p k b)))])
 | 95, [.one (.v (.int .i64 k))] => some (fun _ => True, [.one (.v (.int .i64 (F.clsSz k)))])
 | 251, [.one (.v (.int .i64 k))] => some (fun _ => True, [.one (.v (.int .i64 (F.slN k)))])
 | 217, [.agg [.v (.int .i64 p), .v (.int .i64 n), .v (.int .i64 s)]] => some (fun _ => True, [.one (.v (.bool (F.lgOk p n s)))])
 | 200, [.agg [.v (.int .i64 p), .v (.int .i64 k), .v (.int .i64 b)]] => some (fun _ => True, [.one (.v (.bool (F.spOk p k b)))])
 | 76, [.one (.v (.int .i64 k))] => some (fun _ => True, [.one (.v (.int .i64 (F.clsSz k)))])
 | 202, [.agg [.v (.int .i64 p), .v (.int .i64 n), .v (.int .i64 s)]] => some (fun _ => True, [.one (.v (.bool (F.lgOk p n s)))])
 | _, _ => none
theorem am : aV Tryz.prog (ct F0) := by
 intro f ds pre res h hp;unfold ct at h;split at h <;> (try split at h) <;> cases h
 exact aC _ _ _ hp;exact fh _ _ _ hp;exact cH _ hp;exact eB _ hp;exact gT _ _ _ hp;exact ft _ _ _ hp;exact dO _ hp;exact gW _ _ _ hp
def B : TB Tryz.prog := tb am
end La4
theorem qx (p k b a : Int) (hp : True) : aO Tryz.prog 188 [.agg [.v (.int .i64 p), .v (.int .i64 k), .v (.int .i64 b)], .one (.v (.int .i64 a))] [.one (.v (.int .i64 (saS p k b a))), .one (.v (.int .i64 (saO p k b a)))] := by
 refine aj La4.B ai mixed 38 _ [3, 3] [.tmp 4, .tmp 5] Tryz.func188 rfl rfl rfl rfl rfl ?_;intro O r (F : La4.Fns) hO hr (hF : F = La4.F0);cbv
 repeat' first | refine And.intro ?_ ?_ | (refine aK (fun hb => ?_) (fun hb => ?_) <;> cbv)
 all_goals (subst hO hr hF; (try simp only [ah, SS, sa, az] at *); (try simp only [nc] at *); (try simp only [aF] at *))
 all_goals (try simp only [La4.F0] at *)
 all_goals try (have t := fP (p := p) (k := k) (b := b) (by assumption); have c := eG t.2.2.1; have e := I0 (p := p) ⟨t.1, t.2.1⟩; try simp only [e.1, e.2] at *)
 all_goals first
  | (show (_ : List DV) = _
     first
      | (have q := Dc (p := p) (k := k) (b := b) (a := a) (by assumption) (by assumption); exact ed q.1.symm q.2.symm)
      | (have q := rW (EX (p := p) (k := k) (b := b) (a := a) (by assumption)); exact ed q.1.symm q.2.symm)
      | (have q := rW (JC (p := p) (k := k) (b := b) (a := a) (by assumption)); exact ed q.1.symm q.2.symm)
      | done)
  | (show au _ _ = true; kernel_rfl)
  | omega
  | done
theorem qX (p k b a : Int) (hp : (-9223372036854775808 <= a /\ a <= 9223372036854775807)) : aO Tryz.prog 173 [.agg [.v (.int .i64 p), .v (.int .i64 k), .v (.int .i64 b)], .one (.v (.int .i64 a))] [.one (.v (.int .i64 (saS p k b a))), .one (.v (.int .i64 (saO p k b a)))] := by
 refine aj La4.B ai mixed 33 _ [3, 3] [.tmp 4, .tmp 5] Tryz.func173 rfl rfl rfl rfl rfl ?_;intro O r (F : La4.Fns) hO hr (hF : F = La4.F0);cbv
 repeat' first | refine And.intro ?_ ?_ | (refine aK (fun hb => ?_) (fun hb => ?_) <;> cbv)
 all_goals (subst hO hr hF; (try simp only [ah, SS, sa, az] at *); (try simp only [nc] at *); (try simp only [aF] at *))
 all_goals (try simp only [La4.F0] at *)
 all_goals try (have t := fP (p := p) (k := k) (b := b) (by assumption); have c := eG t.2.2.1)
 all_goals first
  | (show (_ : List DV) = _
     first
      | (have q := Dd (p := p) (k := k) (b := b) (a := a) (by assumption) (by omega) (by assumption) (by omega); exact ed q.1.symm q.2.symm)
      | (have q := rW (EX (p := p) (k := k) (b := b) (a := a) (by assumption)); exact ed q.1.symm q.2.symm)
      | (have q := rW (EY (p := p) (k := k) (b := b) (a := a) (.inl (by omega)) (by omega)); exact ed q.1.symm q.2.symm)
      | (have q := rW (EY (p := p) (k := k) (b := b) (a := a) (.inr (by assumption)) (by omega)); exact ed q.1.symm q.2.symm)
      | done)
  | (show au _ _ = true; kernel_rfl)
  | omega
  | done
theorem mC (p k b s : Int) (hp : True) : aO Tryz.prog 256 [.agg [.v (.int .i64 p), .v (.int .i64 k), .v (.int .i64 b)], .one (.v (.int .i64 s))] [.one (.v (.int .i64 (aaI p k b s)))] := by
 refine aj La4.B ai mixed 26 _ [3] [.tmp 4] Tryz.func256 rfl rfl rfl rfl rfl ?_;intro O r (F : La4.Fns) hO hr (hF : F = La4.F0);cbv
 repeat' first | refine And.intro ?_ ?_ | (refine aK (fun hb => ?_) (fun hb => ?_) <;> cbv)
 all_goals (subst hO hr hF; (try simp only [ah, SS, sa, az] at *); (try simp only [nc] at *); (try simp only [aF] at *))
 all_goals (try simp only [La4.F0] at *)
 all_goals try (have t := fP (p := p) (k := k) (b := b) (by assumption); have c := eG t.2.2.1; have e : bu .sub .i64 (slN k) 1 = slN k - 1 := ce (by omega); try simp only [e] at *)
 all_goals first
  | (show (_ : List DV) = _
     first
      | exact ba (Fo (by assumption) (by assumption))
      | exact ba (Dy (.inl (by assumption))).symm
      | exact ba (Dy (.inr (by assumption))).symm
      | done)
  | (show au _ _ = true; kernel_rfl)
  | done
theorem gB (p n s a : Int) (hp : True) : aO Tryz.prog 182 [.agg [.v (.int .i64 p), .v (.int .i64 n), .v (.int .i64 s)], .one (.v (.int .i64 a))] [.one (.v (.bool (lhB p n s a)))] := by
 refine aj La4.B ai mixed 21 _ [4] [.tmp 4] Tryz.func182 rfl rfl rfl rfl rfl ?_;intro O r (F : La4.Fns) hO hr (hF : F = La4.F0);cbv
 repeat' first | refine And.intro ?_ ?_ | (refine aK (fun hb => ?_) (fun hb => ?_) <;> cbv)
 all_goals (subst hO hr hF; (try simp only [ah, SS, sa, az] at *); (try simp only [nc] at *); (try simp only [aF] at *))
 all_goals (try simp only [La4.F0] at *)
 all_goals try (have e := AD (p := p) (n := n) (s := s) (by assumption); try simp only [e.2.2])
 all_goals first
  | (show (_ : List DV) = _
     first
      | (rw [e.1]; exact af (v7 (by assumption)).symm)
      | exact af (AE (by assumption)).symm
      | done)
  | done
theorem gG (p n s a : Int) (hp : True) : aO Tryz.prog 174 [.agg [.v (.int .i64 p), .v (.int .i64 n), .v (.int .i64 s)], .one (.v (.int .i64 a))] [.one (.v (.bool (lhB p n s a)))] := by
 refine aj La4.B ai mixed 24 _ [4] [.tmp 4] Tryz.func174 rfl rfl rfl rfl rfl ?_;intro O r (F : La4.Fns) hO hr (hF : F = La4.F0);cbv
 repeat' first | refine And.intro ?_ ?_ | (refine aK (fun hb => ?_) (fun hb => ?_) <;> cbv)
 all_goals (subst hO hr hF; (try simp only [ah, SS, sa, az] at *); (try simp only [nc] at *); (try simp only [aF] at *))
 all_goals (try simp only [La4.F0] at *)
 all_goals try (have e := AD (p := p) (n := n) (s := s) (by assumption); try simp only [e.1] at *)
 all_goals first
  | (show (_ : List DV) = _
     first
      | exact af (AE (by assumption)).symm
      | (refine af (cR ?_); rw [v7 (by assumption), bc]; simp only [SS, bQ, decide_eq_true_eq]; omega)
      | (refine af (cR ?_); rw [v7 (by assumption), bc]; simp only [Bool.false_eq_true, false_iff]; omega)
      | done)
  | done
namespace La5
structure Fns where
 lhB : Int -> Int -> Int -> Int -> Bool
def F0 : Fns := ⟨lhB⟩
def ct (F : Fns) : CT := fun f ds => match f, ds with
 | 182, [.agg [.v (.int .i64 p), .v (.int .i64 n), .v (.int .i64 s)], .one (.v (.int .i64 a))] => some (fun _ => True, [.one (.v (.bool (F.lhB p n s a)))])
 | 174, [.agg [.v (.int .i64 p), .v (.int .i64 n), .v (.int .i64 s)], .one (.v (.int .i64 a))] => some (fun _ => True, [.one (.v (.bool (F.lhB p n s a)))])
 | _, _ => none
theorem am : aV Tryz.prog (ct F0) := by
 intro f ds pre res h hp;unfold ct at h;split at h <;> (try split at h) <;> cases h
 exact gB _ _ _ _ hp;exact gG _ _ _ _ hp
def B : TB Tryz.prog := tb am
end La5
theorem jp (p n s a : Int) (hp : True) : aO Tryz.prog 190 [.agg [.v (.int .i64 p), .v (.int .i64 n), .v (.int .i64 s)], .one (.v (.int .i64 a))] [.one (.v (.int .i64 (loI p n s a)))] := by
 refine aj La5.B ai mixed 14 _ [3] [.tmp 4] Tryz.func190 rfl rfl rfl rfl rfl ?_;intro O r (F : La5.Fns) hO hr (hF : F = La5.F0);cbv
 repeat' first | refine And.intro ?_ ?_ | (refine aK (fun hb => ?_) (fun hb => ?_) <;> cbv)
 all_goals (subst hO hr hF; (try simp only [ah, SS, sa, az] at *); (try simp only [nc] at *); (try simp only [aF] at *))
 all_goals (try simp only [La5.F0] at *)
 all_goals first
  | (show (_ : List DV) = _
     first
      | exact ba (Es (by assumption))
      | exact ba (Et (by assumption)).symm
      | done)
  | done
theorem jt (p n s a : Int) (hp : True) : aO Tryz.prog 175 [.agg [.v (.int .i64 p), .v (.int .i64 n), .v (.int .i64 s)], .one (.v (.int .i64 a))] [.one (.v (.int .i64 (loI p n s a)))] := by
 refine aj La5.B ai mixed 14 _ [3] [.tmp 4] Tryz.func175 rfl rfl rfl rfl rfl ?_;intro O r (F : La5.Fns) hO hr (hF : F = La5.F0);cbv
 repeat' first | refine And.intro ?_ ?_ | (refine aK (fun hb => ?_) (fun hb => ?_) <;> cbv)
 all_goals (subst hO hr hF; (try simp only [ah, SS, sa, az] at *); (try simp only [nc] at *); (try simp only [aF] at *))
 all_goals (try simp only [La5.F0] at *)
 all_goals first
  | (show (_ : List DV) = _
     first
      | exact ba (Es (by assumption))
      | exact ba (Et (by assumption)).symm
      | done)
  | done
end Go.V