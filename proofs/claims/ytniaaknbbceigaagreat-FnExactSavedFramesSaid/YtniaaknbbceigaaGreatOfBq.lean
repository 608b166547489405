/-
  Contracts, by evaluation.
-/
import Derived.Test.YtniaaknbbceigaaGreatS10
import Derived.Test.YtniaaknbbceigaaGreatHB
import Derived.Test.YtniaaknbbceigaaGreatOfAq
set_option linter.all false
namespace Go.V
open Go Go.Proofs
set_option maxRecDepth 1000000
set_option maxHeartbeats 8000000
namespace Ob0
structure Fns where
 framesOk : List (List L) -> List (List L) -> Bool
def F0 : Fns := ⟨framesOk⟩
def ct (F : Fns) : CT := fun f ds => match f, ds with
 | 166, [.agg [.s 1 cs, .s 1 us]] => some (fun _ => Rw [.sl [tI]] cs /\ Rw [tB] us, [.one (.v (.bool (F.framesOk cs us)))])
 | 167, [.agg [.s 1 cs, .s 1 us]] => some (fun _ => Rw [.sl [tI]] cs /\ Rw [tB] us, [.one (.v (.bool (F.framesOk cs us)))])
 | _, _ => none
theorem am : aV Tryz.prog (ct F0) := by
 intro f ds pre res h hp;unfold ct at h;split at h <;> (try split at h) <;> cases h
 exact gF _ _ hp;exact gA _ _ hp
def B : TB Tryz.prog := tb am
end Ob0
theorem jq (es : List (List L)) (hp : Rw [tI, tI] es /\ es.length <= 1099511627776) : aO Tryz.prog 68 [.agg [.s 2 es]] [.one (.v (.int .i64 (mpT es)))] := by
 obtain ⟨he, hn⟩ := hp;refine aj Ob0.B ai mixed 20 _ [3] [.tmp 2] Tryz.func68 rfl rfl rfl rfl rfl ?_;intro O r (F : Ob0.Fns) hO hr (hF : F = Ob0.F0);cbv
 repeat' first | refine And.intro ?_ ?_ | (refine aK (fun hb => ?_) (fun hb => ?_) <;> cbv) | (refine ⟨[3, 7, 8, 9], [], Int × Int, fun s_ => match s_ with | (i, n) => [.reg 9 (.one (.v (.int .i64 i))), .reg 3 (.one (.v (.int .i64 n)))], fun s_ => match s_ with | (i, n) => 0 <= i /\ i <= (es.length : Int) /\ n = wc es i.toNat, fun s_ => match s_ with | (i, n) => es.length - i.toNat, ⟨(0, 0), ?_, ?_⟩, ?_⟩; rotate_left; (focus (cbv; done)); intro s_ hi; obtain ⟨i, n⟩ := s_; replace hi : 0 <= i /\ i <= (es.length : Int) /\ n = wc es i.toNat := hi; obtain ⟨i0, i1, i2⟩ := hi; cbv) | (refine aa (O.ar .add .i64 i 1, O.ar .add .i64 n 1) ?_ ?_ ?_; rotate_left 2; focus (cbv; done)) | (refine aa (O.ar .add .i64 i 1, n) ?_ ?_ ?_; rotate_left 2; focus (cbv; done))
 all_goals (subst hO hr hF; (try simp only [ah, SS, sa, az] at *); (try simp only [nc] at *); (try simp only [aF] at *))
 all_goals try rw [bK (by omega) (by omega)]
 all_goals try (have un := wd (es := es) (n := i.toNat); have en : bu .add .i64 n 1 = n + 1 := bG (by omega); simp only [en])
 all_goals first
  | (show (_ : List DV) = _
     first
      | exact ba (i2.trans (AQ i1 (by omega)))
      | done)
  | (refine ⟨by omega, by omega, (Rw.eta (by first | assumption | exact Rw.sub (by first | assumption | exact Rw.sub (by assumption) (by omega) rfl) (by omega) rfl) (by omega) (by omega)).trans ?_⟩; rfl)
  | omega
  | (rw [bK (by omega) (by omega), AR i0 (by assumption), <- i2])
  | exact i2.trans (xK i0 (by assumption)).symm
  | (rw [bK (by omega) (by omega), xK i0 (by assumption), <- i2])
  | exact rfl
  | (show au _ _ = true; kernel_rfl)
  | exact Int.natCast_nonneg _
  | done
theorem ju (es : List (List L)) (hp : Rw [tI, tI] es /\ es.length <= 1099511627776) : aO Tryz.prog 66 [.agg [.s 2 es]] [.one (.v (.int .i64 (mpT es)))] := by
 obtain ⟨he, hn⟩ := hp;refine aj Ob0.B ai mixed 22 _ [3] [.tmp 2] Tryz.func66 rfl rfl rfl rfl rfl ?_;intro O r (F : Ob0.Fns) hO hr (hF : F = Ob0.F0);cbv
 repeat' first | refine And.intro ?_ ?_ | (refine aK (fun hb => ?_) (fun hb => ?_) <;> cbv) | (refine ⟨[1, 3, 4], [1], Int × Int, fun s_ => match s_ with | (i, n) => [.reg 4 (.one (.v (.int .i64 i))), .reg 3 (.one (.v (.int .i64 n)))], fun s_ => match s_ with | (i, n) => 0 <= i /\ i <= (es.length : Int) /\ n = wc es i.toNat, fun s_ => match s_ with | (i, n) => es.length - i.toNat, ⟨(0, 0), ?_, ?_⟩, ?_⟩; rotate_left; (focus (cbv; done)); intro s_ hi; obtain ⟨i, n⟩ := s_; replace hi : 0 <= i /\ i <= (es.length : Int) /\ n = wc es i.toNat := hi; obtain ⟨i0, i1, i2⟩ := hi; cbv) | (refine aa (O.ar .add .i64 i 1, O.ar .add .i64 n 1) ?_ ?_ ?_; rotate_left 2; focus (cbv; done)) | (refine aa (O.ar .add .i64 i 1, n) ?_ ?_ ?_; rotate_left 2; focus (cbv; done))
 all_goals (subst hO hr hF; (try simp only [ah, SS, sa, az] at *); (try simp only [nc] at *); (try simp only [aF] at *))
 all_goals try rw [bK (by omega) (by omega)]
 all_goals try (have un := wd (es := es) (n := i.toNat); have en : bu .add .i64 n 1 = n + 1 := bG (by omega); simp only [en])
 all_goals first
  | (show (_ : List DV) = _
     first
      | exact ba (i2.trans (AQ i1 (by omega)))
      | done)
  | (refine ⟨by omega, by omega, (Rw.eta (by first | assumption | exact Rw.sub (by first | assumption | exact Rw.sub (by assumption) (by omega) rfl) (by omega) rfl) (by omega) (by omega)).trans ?_⟩; rfl)
  | omega
  | (rw [bK (by omega) (by omega), AR i0 (by assumption), <- i2])
  | exact i2.trans (xK i0 (by assumption)).symm
  | (rw [bK (by omega) (by omega), xK i0 (by assumption), <- i2])
  | exact rfl
  | (show au _ _ = true; kernel_rfl)
  | exact Int.natCast_nonneg _
  | done
theorem jZ (cs us : List (List L)) (hp : Rw [.sl [tI]] cs /\ Rw [tB] us) : aO Tryz.prog 67 [.agg [.s 1 cs, .s 1 us]] [.one (.v (.int .i64 (ufN cs us)))] := by
 obtain ⟨hc, hu⟩ := hp;have hm := hu.1; unfold maxLen at hm;refine aj Ob0.B ai mixed 24 _ [3] [.tmp 2] Tryz.func67 rfl rfl rfl rfl rfl ?_;intro O r (F : Ob0.Fns) hO hr (hF : F = Ob0.F0);cbv
 repeat' first | refine And.intro ?_ ?_ | (refine aK (fun hb => ?_) (fun hb => ?_) <;> cbv) | (refine ⟨[1, 3, 4], [1], Int × Int, fun s_ => match s_ with | (i, n) => [.reg 4 (.one (.v (.int .i64 i))), .reg 3 (.one (.v (.int .i64 n)))], fun s_ => match s_ with | (i, n) => 0 <= i /\ i <= (us.length : Int) /\ n = rh us i.toNat /\ (i = 0 \/ framesOk cs us = true), fun s_ => match s_ with | (i, n) => us.length - i.toNat, ⟨(0, 0), ?_, ?_⟩, ?_⟩; rotate_left; (focus (cbv; done)); intro s_ hi; obtain ⟨i, n⟩ := s_; replace hi : 0 <= i /\ i <= (us.length : Int) /\ n = rh us i.toNat /\ (i = 0 \/ framesOk cs us = true) := hi; obtain ⟨i0, i1, i2, i3⟩ := hi; cbv) | (refine aa (O.ar .add .i64 i 1, O.ar .add .i64 n 1) ?_ ?_ ?_; rotate_left 2; focus (cbv; done)) | (refine aa (O.ar .add .i64 i 1, n) ?_ ?_ ?_; rotate_left 2; focus (cbv; done))
 all_goals (subst hO hr hF; (try simp only [ah, SS, sa, az] at *); (try simp only [nc] at *); (try simp only [aF] at *))
 all_goals (try simp only [Ob0.F0] at *)
 all_goals try rw [bK (by omega) (by omega)]
 all_goals try (have un := wD (us := us) (n := i.toNat); have en : bu .add .i64 n 1 = n + 1 := bG (by omega); simp only [en])
 all_goals first
  | (show (_ : List DV) = _
     first
      | exact ba (GP i2 i3 (by assumption))
      | exact ba (i2.trans (GQ i1 (by omega) i3).symm)
      | done)
  | exact ⟨hc, hu⟩
  | (refine ⟨by omega, by omega, (Rw.eta (by first | assumption | exact Rw.sub (by first | assumption | exact Rw.sub (by assumption) (by omega) rfl) (by omega) rfl) (by omega) (by omega)).trans ?_⟩; rfl)
  | omega
  | exact .inr (by assumption)
  | exact .inl rfl
  | exact .inl trivial
  | (rw [bK (by omega) (by omega), yk i0 (by assumption), <- i2])
  | (rw [BN i0 (by assumption)]; exact i2)
  | exact rfl
  | (show au _ _ = true; kernel_rfl)
  | exact Int.natCast_nonneg _
  | done
theorem jW (cs us : List (List L)) (hp : Rw [.sl [tI]] cs /\ Rw [tB] us) : aO Tryz.prog 69 [.agg [.s 1 cs, .s 1 us]] [.one (.v (.int .i64 (ufN cs us)))] := by
 obtain ⟨hc, hu⟩ := hp;have hm := hu.1; unfold maxLen at hm;refine aj Ob0.B ai mixed 21 _ [3] [.tmp 2] Tryz.func69 rfl rfl rfl rfl rfl ?_;intro O r (F : Ob0.Fns) hO hr (hF : F = Ob0.F0);cbv
 repeat' first | refine And.intro ?_ ?_ | (refine aK (fun hb => ?_) (fun hb => ?_) <;> cbv) | (refine ⟨[3, 10, 11, 12], [], Int × Int, fun s_ => match s_ with | (i, n) => [.reg 12 (.one (.v (.int .i64 i))), .reg 3 (.one (.v (.int .i64 n)))], fun s_ => match s_ with | (i, n) => 0 <= i /\ i <= (us.length : Int) /\ n = rh us i.toNat, fun s_ => match s_ with | (i, n) => us.length - i.toNat, ⟨(0, 0), ?_, ?_⟩, ?_⟩; rotate_left; (focus (cbv; done)); intro s_ hi; obtain ⟨i, n⟩ := s_; replace hi : 0 <= i /\ i <= (us.length : Int) /\ n = rh us i.toNat := hi; obtain ⟨i0, i1, i2⟩ := hi; cbv) | (refine aa (O.ar .add .i64 i 1, O.ar .add .i64 n 1) ?_ ?_ ?_; rotate_left 2; focus (cbv; done)) | (refine aa (O.ar .add .i64 i 1, n) ?_ ?_ ?_; rotate_left 2; focus (cbv; done))
 all_goals (subst hO hr hF; (try simp only [ah, SS, sa, az] at *); (try simp only [nc] at *); (try simp only [aF] at *))
 all_goals (try simp only [Ob0.F0] at *)
 all_goals try rw [bK (by omega) (by omega)]
 all_goals try (have un := wD (us := us) (n := i.toNat); have en : bu .add .i64 n 1 = n + 1 := bG (by omega); simp only [en])
 all_goals first
  | (show (_ : List DV) = _
     first
      | exact ba (E3 (by assumption)).symm
      | exact ba (i2.trans (BM (by assumption) i1 (by omega)).symm)
      | done)
  | exact ⟨hc, hu⟩
  | (refine ⟨by omega, by omega, (Rw.eta (by first | assumption | exact Rw.sub (by first | assumption | exact Rw.sub (by assumption) (by omega) rfl) (by omega) rfl) (by omega) (by omega)).trans ?_⟩; rfl)
  | omega
  | exact .inr (by assumption)
  | exact .inl rfl
  | exact .inl trivial
  | (rw [bK (by omega) (by omega), yk i0 (by assumption), <- i2])
  | (rw [BN i0 (by assumption)]; exact i2)
  | exact rfl
  | (show au _ _ = true; kernel_rfl)
  | exact Int.natCast_nonneg _
  | done
namespace Ob1
structure Fns where
 machOk : List (List L) -> List (List L) -> List (List L) -> Bool
 peM : List (List L) -> Int -> Int
 peF : List (List L) -> Int -> Int
def F0 : Fns := ⟨machOk, peM, peF⟩
def ct (F : Fns) : CT := fun f ds => match f, ds with
 | 177, [.agg [.s 1 cs, .s 1 us, .s 2 es]] => some (fun _ => Rw [.sl [tI]] cs /\ Rw [tB] us /\ Rw [tI, tI] es, [.one (.v (.bool (F.machOk cs us es)))])
 | 176, [.agg [.s 2 es], .one (.v (.int .i64 p))] => some (fun _ => Rw [tI, tI] es, [.agg [.v (.int .i64 (F.peM es p)), .v (.int .i64 (F.peF es p))]])
 | 72, [.agg [.s 2 es], .one (.v (.int .i64 p))] => some (fun _ => Rw [tI, tI] es, [.agg [.v (.int .i64 (F.peM es p)), .v (.int .i64 (F.peF es p))]])
 | _, _ => none
theorem am : aV Tryz.prog (ct F0) := by
 intro f ds pre res h hp;unfold ct at h;split at h <;> (try split at h) <;> cases h
 exact fG _ _ _ hp;exact cZ _ _ hp;exact fI _ _ hp
def B : TB Tryz.prog := tb am
end Ob1
theorem ny (b0 b1 es : List (List L)) (a : Int) (hp : Rw [tI, tI] es /\ (-9223372036854775808 <= a /\ a <= 9223372036854775807)) : aO Tryz.prog 168 [.agg [.s 1 b0, .s 1 b1, .s 2 es], .one (.v (.int .i64 a))] [.agg [.v (.int .i64 (leM es a)), .v (.int .i64 (leF es a))], .one (.v (.int .i64 (leK a)))] := by
 obtain ⟨hw, ha⟩ := hp;have hq : ¬ a < 0 -> bu .quo .i64 a 16 = a / 16 := fun h => pU (by omega) (by omega) (by omega)
 have hr : ¬ a < 0 -> bu .rem .i64 a 16 = a % 16 := fun h => uT (by omega)
 refine aj Ob1.B ai mixed 16 _ [138, 3] [.cell 4 138, .tmp 5] Tryz.func168 rfl rfl rfl rfl rfl ?_;intro O r (F : Ob1.Fns) hO hr (hF : F = Ob1.F0);cbv
 repeat' first | refine And.intro ?_ ?_ | (refine aK (fun hb => ?_) (fun hb => ?_) <;> cbv)
 all_goals (subst hO hr hF; (try simp only [ah, SS, sa, az] at *); (try simp only [nc] at *); (try simp only [aF] at *))
 all_goals (try simp only [Ob1.F0] at *)
 all_goals first | exact y7 (lc (by omega)).1.symm (lc (by omega)).2.1.symm (lc (es := es) (by omega)).2.2.symm | (rw [hq (by omega), hr (by omega)]; exact y7 (gd (by omega)).1.symm (gd (by omega)).2.1.symm (gd (es := es) (by omega)).2.2.symm) | (first | assumption | exact Rw.sub (by first | assumption | exact Rw.sub (by assumption) (by omega) rfl) (by omega) rfl) | trivial | omega | trace_state
theorem oy (cs us es : List (List L)) (a : Int) (hp : Rw [.sl [tI]] cs /\ Rw [tB] us /\ Rw [tI, tI] es /\ (-9223372036854775808 <= a /\ a <= 9223372036854775807)) : aO Tryz.prog 170 [.agg [.s 1 cs, .s 1 us, .s 2 es], .one (.v (.int .i64 a))] [.agg [.v (.int .i64 (smM cs us es a)), .v (.int .i64 (smF cs us es a))]] := by
 obtain ⟨hc, hu, he, ha⟩ := hp;have hq : ¬ a < 0 -> bu .quo .i64 a 16 = a / 16 := fun h => pU (by omega) (by omega) (by omega)
 refine aj Ob1.B ai mixed 18 _ [138] [.cell 4 138] Tryz.func170 rfl rfl rfl rfl rfl ?_;intro O r (F : Ob1.Fns) hO hr (hF : F = Ob1.F0);cbv
 repeat' first | refine And.intro ?_ ?_ | (refine aK (fun hb => ?_) (fun hb => ?_) <;> cbv)
 all_goals (subst hO hr hF; (try simp only [ah, SS, sa, az] at *); (try simp only [nc] at *); (try simp only [aF] at *))
 all_goals (try simp only [Ob1.F0] at *)
 all_goals first | (show au _ _ = true; kernel_rfl) | exact ⟨hc, hu, he⟩ | exact he | exact oj (rY (.inr (by omega))).1.symm (rY (.inr (by omega))).2.symm | exact oj (rY (.inl (by assumption))).1.symm (rY (.inl (by assumption))).2.symm | (rw [hq (by omega)]; have hi : machOk cs us es = true := (by assumption); exact oj ((lG hi).1.trans (gd (by omega)).1).symm ((lG hi).2.trans (gd (by omega)).2.1).symm) | trivial | omega | trace_state
namespace Ob2
structure Fns where
 leM : List (List L) -> Int -> Int
 leF : List (List L) -> Int -> Int
 leK : Int -> Int
 machOk : List (List L) -> List (List L) -> List (List L) -> Bool
def F0 : Fns := ⟨leM, leF, leK, machOk⟩
def ct (F : Fns) : CT := fun f ds => match f, ds with
 | 168, [.agg [.s 1 b0, .s 1 b1, .s 2 es], .one (.v (.int .i64 a))] => some (fun _ => Rw [tI, tI] es /\ (-9223372036854775808 <= a /\ a <= 9223372036854775807), [.agg [.v (.int .i64 (F.leM es a)), .v (.int .i64 (F.leF es a))], .one (.v (.int .i64 (F.leK a)))])
 | 169, [.agg [.s 1 cs, .s 1 us, .s 2 es]] => some (fun _ => Rw [.sl [tI]] cs /\ Rw [tB] us /\ Rw [tI, tI] es, [.one (.v (.bool (F.machOk cs us es)))])
 | _, _ => none
theorem am : aV Tryz.prog (ct F0) := by
 intro f ds pre res h hp;unfold ct at h;split at h <;> (try split at h) <;> cases h
 exact ny _ _ _ _ hp;exact fH _ _ _ hp
def B : TB Tryz.prog := tb am
end Ob2
theorem ul (cs us es : List (List L)) (a : Int) (hp : Rw [.sl [tI]] cs /\ Rw [tB] us /\ Rw [tI, tI] es /\ (-9223372036854775808 <= a /\ a <= 9223372036854775807)) : aO Tryz.prog 70 [.agg [.s 1 cs, .s 1 us, .s 2 es], .one (.v (.int .i64 a))] [.one (.v (.int .i64 (ldV cs us es a))), .one (.v (.int .i64 (ldK cs us es a)))] := by
 obtain ⟨hc, hu, he, hb⟩ := hp;have lk := Av (a := a);refine aj Ob2.B ai mixed 32 _ [3, 3] [.tmp 4, .tmp 5] Tryz.func70 rfl rfl rfl rfl rfl ?_;intro O r (F : Ob2.Fns) hO hr (hF : F = Ob2.F0);cbv
 repeat' first | refine And.intro ?_ ?_ | (refine aK (fun hb => ?_) (fun hb => ?_) <;> cbv)
 all_goals (subst hO hr hF; (try simp only [ah, SS, sa, az] at *); (try simp only [nc] at *); (try simp only [aF] at *))
 all_goals (try simp only [Ob2.F0] at *)
 all_goals try (have fr := Ii (cs := cs) (us := us) (es := es) (a := a) (by assumption) (by assumption); have hr : Rw [tI] (ay cs (leF es a) 0) := Rw.sub (fs := [.sl [tI]]) hc (by omega) rfl)
 all_goals first
  | (show (_ : List DV) = _
     first
      | (have q := Au (cs := cs) (us := us) (es := es) (a := a) (by assumption) (by assumption); exact ed q.1.symm q.2.symm)
      | (have q := xE (cs := cs) (us := us) (es := es) (a := a) (.inl (by assumption)); exact ed q.1.symm q.2.symm)
      | (have q := xE (cs := cs) (us := us) (es := es) (a := a) (.inr (by assumption)); exact ed q.1.symm q.2.symm)
      | done)
  | exact ⟨he, hb⟩
  | exact ⟨hc, hu, he⟩
  | exact ⟨True.intro, True.intro⟩
  | exact True.intro
  | (refine ⟨by omega, by omega, (Rw.eta (by first | assumption | exact Rw.sub (by first | assumption | exact Rw.sub (by assumption) (by omega) rfl) (by omega) rfl) (by omega) (by omega)).trans ?_⟩; rfl)
  | (show au _ _ = true; kernel_rfl)
  | omega
  | done
namespace Ob3
structure Fns where
 smM : List (List L) -> List (List L) -> List (List L) -> Int -> Int
 smF : List (List L) -> List (List L) -> List (List L) -> Int -> Int
def F0 : Fns := ⟨smM, smF⟩
def ct (F : Fns) : CT := fun f ds => match f, ds with
 | 170, [.agg [.s 1 cs, .s 1 us, .s 2 es], .one (.v (.int .i64 a))] => some (fun _ => Rw [.sl [tI]] cs /\ Rw [tB] us /\ Rw [tI, tI] es /\ (-9223372036854775808 <= a /\ a <= 9223372036854775807), [.agg [.v (.int .i64 (F.smM cs us es a)), .v (.int .i64 (F.smF cs us es a))]])
 | _, _ => none
theorem am : aV Tryz.prog (ct F0) := by
 intro f ds pre res h hp;unfold ct at h;split at h <;> (try split at h) <;> cases h
 exact oy _ _ _ _ hp
def B : TB Tryz.prog := tb am
end Ob3
theorem uk (cs us es : List (List L)) (a : Int) (hp : Rw [.sl [tI]] cs /\ Rw [tB] us /\ Rw [tI, tI] es /\ (-9223372036854775808 <= a /\ a <= 9223372036854775807)) : aO Tryz.prog 71 [.agg [.s 1 cs, .s 1 us, .s 2 es], .one (.v (.int .i64 a))] [.one (.v (.int .i64 (ldV cs us es a))), .one (.v (.int .i64 (ldK cs us es a)))] := by
 obtain ⟨hc, hu, he, hb⟩ := hp;have lk := Av (a := a);have hr : ¬ a < 0 -> bu .rem .i64 a 16 = a % 16 := fun h => uT (by omega)
 refine aj Ob3.B ai mixed 24 _ [3, 3] [.tmp 4, .tmp 5] Tryz.func71 rfl rfl rfl rfl rfl ?_;intro O r (F : Ob3.Fns) hO hr (hF : F = Ob3.F0);cbv
 repeat' first | refine And.intro ?_ ?_ | (refine aK (fun hb => ?_) (fun hb => ?_) <;> cbv)
 all_goals (subst hO hr hF; (try simp only [ah, SS, sa, az] at *); (try simp only [nc] at *); (try simp only [aF] at *))
 all_goals (try simp only [Ob3.F0] at *)
 all_goals (try have hz : smM cs us es a ≠ 0 := (by assumption))
 all_goals (try have fr := JI hz)
 all_goals (try have ok := BH hz)
 all_goals (try have hrr : Rw [tI] (ay cs (smF cs us es a) 0) := Rw.sub (fs := [.sl [tI]]) hc (by omega) rfl)
 all_goals (try rw [hr (by omega)])
 all_goals first
  | (show (_ : List DV) = _
     first
      | (have q := Ga (by assumption); exact ed q.1.symm q.2.symm)
      | (have q := Gb hz; exact ed q.1.symm q.2.symm)
      | done)
  | (refine ⟨by omega, by omega, (Rw.eta (by first | assumption | exact Rw.sub (by first | assumption | exact Rw.sub (by assumption) (by omega) rfl) (by omega) rfl) (by omega) (by omega)).trans ?_⟩; rfl)
  | exact ⟨hc, hu, he, hb⟩
  | (show au _ _ = true; kernel_rfl)
  | exact True.intro
  | omega
  | done
namespace Ob4
structure Fns where
 hpI : List (List L) -> List (List L) -> List (List L) -> Int -> List (List L) -> List (List L) -> List (List L) -> List (List L) -> List (List L) -> List (List L) -> List (List L) -> List (List L) -> Int -> List (List L) -> Int -> Int -> Int -> Int -> Bool -> Int -> Int -> List (List L) -> Int -> Int -> Bool
 mpT : List (List L) -> Int
 ufN : List (List L) -> List (List L) -> Int
 ooI : Bool -> List (List L) -> Int -> Int
 ldV : List (List L) -> List (List L) -> List (List L) -> Int -> Int
 ldK : List (List L) -> List (List L) -> List (List L) -> Int -> Int
def F0 : Fns := ⟨hpI, mpT, ufN, ooI, ldV, ldK⟩
def ct (F : Fns) : CT := fun f ds => match f with
 | 55 => match ds with
   | [.agg [.s 1 a0, .s 1 a1, .s 2 a2, .v (.int .i64 a3), .s 1 a4, .s 2 a5, .s 3 a6, .s 3 a7, .s 4 a8, .s 1 a9, .s 1 a10, .s 1 a11, .v (.int .i64 a12), .s 3 a13, .v (.int .i64 a14), .v (.int .i64 a15), .v (.int .i64 a16), .v (.int .i64 a17), .v (.bool a18), .v (.int .i64 a19), .v (.int .i64 a20), .s 1 a21, .v (.int .i64 a22), .v (.int .i64 a23)]] => some (fun _ => nK a0 a1 a2 a4 a5 a6 a7 a8 a9 a10 a11 a13 a21, [.one (.v (.bool (F.hpI a0 a1 a2 a3 a4 a5 a6 a7 a8 a9 a10 a11 a12 a13 a14 a15 a16 a17 a18 a19 a20 a21 a22 a23)))])
   | _ => none
 | 44 => match ds with
   | [.agg [.s 1 a0, .s 1 a1, .s 2 a2, .v (.int .i64 a3), .s 1 a4, .s 2 a5, .s 3 a6, .s 3 a7, .s 4 a8, .s 1 a9, .s 1 a10, .s 1 a11, .v (.int .i64 a12), .s 3 a13, .v (.int .i64 a14), .v (.int .i64 a15), .v (.int .i64 a16), .v (.int .i64 a17), .v (.bool a18), .v (.int .i64 a19), .v (.int .i64 a20), .s 1 a21, .v (.int .i64 a22), .v (.int .i64 a23)]] => some (fun _ => nK a0 a1 a2 a4 a5 a6 a7 a8 a9 a10 a11 a13 a21, [.one (.v (.bool (F.hpI a0 a1 a2 a3 a4 a5 a6 a7 a8 a9 a10 a11 a12 a13 a14 a15 a16 a17 a18 a19 a20 a21 a22 a23)))])
   | _ => none
 | 68 => match ds with
   | [.agg [.s 2 es]] => some (fun _ => Rw [tI, tI] es /\ es.length <= 1099511627776, [.one (.v (.int .i64 (F.mpT es)))])
   | _ => none
 | 66 => match ds with
   | [.agg [.s 2 es]] => some (fun _ => Rw [tI, tI] es /\ es.length <= 1099511627776, [.one (.v (.int .i64 (F.mpT es)))])
   | _ => none
 | 69 => match ds with
   | [.agg [.s 1 cs, .s 1 us]] => some (fun _ => Rw [.sl [tI]] cs /\ Rw [tB] us, [.one (.v (.int .i64 (F.ufN cs us)))])
   | _ => none
 | 67 => match ds with
   | [.agg [.s 1 cs, .s 1 us]] => some (fun _ => Rw [.sl [tI]] cs /\ Rw [tB] us, [.one (.v (.int .i64 (F.ufN cs us)))])
   | _ => none
 | 13 => match ds with
   | [.agg [.s 1 a0, .s 1 a1, .s 2 a2, .v (.int .i64 a3), .s 1 a4, .s 2 a5, .s 3 a6, .s 3 a7, .s 4 a8, .s 1 a9, .s 1 a10, .s 1 a11, .v (.int .i64 a12), .s 3 a13, .v (.int .i64 a14), .v (.int .i64 a15), .v (.int .i64 a16), .v (.int .i64 a17), .v (.bool a18), .v (.int .i64 a19), .v (.int .i64 a20), .s 1 a21, .v (.int .i64 a22), .v (.int .i64 a23)], .one (.v (.int .i64 ad))] => some (fun _ => nK a0 a1 a2 a4 a5 a6 a7 a8 a9 a10 a11 a13 a21, [.one (.v (.int .i64 (F.ooI (F.hpI a0 a1 a2 a3 a4 a5 a6 a7 a8 a9 a10 a11 a12 a13 a14 a15 a16 a17 a18 a19 a20 a21 a22 a23) a8 ad)))])
   | _ => none
 | 11 => match ds with
   | [.agg [.s 1 a0, .s 1 a1, .s 2 a2, .v (.int .i64 a3), .s 1 a4, .s 2 a5, .s 3 a6, .s 3 a7, .s 4 a8, .s 1 a9, .s 1 a10, .s 1 a11, .v (.int .i64 a12), .s 3 a13, .v (.int .i64 a14), .v (.int .i64 a15), .v (.int .i64 a16), .v (.int .i64 a17), .v (.bool a18), .v (.int .i64 a19), .v (.int .i64 a20), .s 1 a21, .v (.int .i64 a22), .v (.int .i64 a23)], .one (.v (.int .i64 ad))] => some (fun _ => nK a0 a1 a2 a4 a5 a6 a7 a8 a9 a10 a11 a13 a21, [.one (.v (.int .i64 (F.ooI (F.hpI a0 a1 a2 a3 a4 a5 a6 a7 a8 a9 a10 a11 a12 a13 a14 a15 a16 a17 a18 a19 a20 a21 a22 a23) a8 ad)))])
   | _ => none
 | 71 => match ds with
   | [.agg [.s 1 cs, .s 1 us, .s 2 es], .one (.v (.int .i64 a))] => some (fun _ => Rw [.sl [tI]] cs /\ Rw [tB] us /\ Rw [tI, tI] es /\ (-9223372036854775808 <= a /\ a <= 9223372036854775807), [.one (.v (.int .i64 (F.ldV cs us es a))), .one (.v (.int .i64 (F.ldK cs us es a)))])
   | _ => none
 | 70 => match ds with
   | [.agg [.s 1 cs, .s 1 us, .s 2 es], .one (.v (.int .i64 a))] => some (fun _ => Rw [.sl [tI]] cs /\ Rw [tB] us /\ Rw [tI, tI] es /\ (-9223372036854775808 <= a /\ a <= 9223372036854775807), [.one (.v (.int .i64 (F.ldV cs us es a))), .one (.v (.int .i64 (F.ldK cs us es a)))])
   | _ => none
 | _ => none
theorem am : aV Tryz.prog (ct F0) := by
 intro f ds pre res h hp;unfold ct at h;split at h <;> (try split at h) <;> cases h
 exact jd _ _ _ _ _ _ _ _ _ _ _ _ _ _ _ _ _ _ _ _ _ _ _ _ hp;exact jf _ _ _ _ _ _ _ _ _ _ _ _ _ _ _ _ _ _ _ _ _ _ _ _ hp;exact jq _ hp;exact ju _ hp;exact jW _ _ hp;exact jZ _ _ hp;exact gD _ _ _ _ _ _ _ _ _ _ _ _ _ _ _ _ _ _ _ _ _ _ _ _ _ hp;exact gH _ _ _ _ _ _ _ _ _ _ _ _ _ _ _ _ _ _ _ _ _ _ _ _ _ hp;exact uk _ _ _ _ hp;exact ul _ _ _ _ hp
def B : TB Tryz.prog := tb am
end Ob4
theorem jr (a0 a1 a2 : List (List L)) (a3 : Int) (a4 a5 a6 a7 a8 a9 a10 a11 : List (List L)) (a12 : Int) (a13 : List (List L)) (a14 a15 a16 a17 : Int) (a18 : Bool) (a19 a20 : Int) (a21 : List (List L)) (a22 a23 : Int) (hp : nK a0 a1 a2 a4 a5 a6 a7 a8 a9 a10 a11 a13 a21) : aO Tryz.prog 16 [.agg [.s 1 a0, .s 1 a1, .s 2 a2, .v (.int .i64 a3), .s 1 a4, .s 2 a5, .s 3 a6, .s 3 a7, .s 4 a8, .s 1 a9, .s 1 a10, .s 1 a11, .v (.int .i64 a12), .s 3 a13, .v (.int .i64 a14), .v (.int .i64 a15), .v (.int .i64 a16), .v (.int .i64 a17), .v (.bool a18), .v (.int .i64 a19), .v (.int .i64 a20), .s 1 a21, .v (.int .i64 a22), .v (.int .i64 a23)]] [.one (.v (.int .i64 (sfI (hpI a0 a1 a2 a3 a4 a5 a6 a7 a8 a9 a10 a11 a12 a13 a14 a15 a16 a17 a18 a19 a20 a21 a22 a23) (mpT a2) (ufN a0 a1))))] := by
 refine aj Ob4.B ai mixed 17 _ [3] [.tmp 2] Tryz.func16 rfl rfl rfl rfl rfl ?_;intro O r (F : Ob4.Fns) hO hr (hF : F = Ob4.F0);cbv
 repeat' first | refine And.intro ?_ ?_ | (refine aK (fun hb => ?_) (fun hb => ?_) <;> cbv)
 all_goals (subst hO hr hF; (try simp only [ah, SS, sa, az] at *); (try simp only [nc] at *); (try simp only [aF] at *))
 all_goals (try simp only [Ob4.F0] at *)
 all_goals first | exact hp | exact ba (JG (by assumption)).symm | exact ba (JF (by assumption)).symm | exact ⟨hp.e, by have := hp.el; omega⟩ | exact ⟨hp.c, hp.u⟩ | (show au _ _ = true; kernel_rfl) | trivial | done
theorem mq (a0 a1 a2 : List (List L)) (a3 : Int) (a4 a5 a6 a7 a8 a9 a10 a11 : List (List L)) (a12 : Int) (a13 : List (List L)) (a14 a15 a16 a17 : Int) (a18 : Bool) (a19 a20 : Int) (a21 : List (List L)) (a22 a23 a : Int) (hp : nK a0 a1 a2 a4 a5 a6 a7 a8 a9 a10 a11 a13 a21 /\ (-9223372036854775808 <= a /\ a <= 9223372036854775807)) : aO Tryz.prog 18 [.agg [.s 1 a0, .s 1 a1, .s 2 a2, .v (.int .i64 a3), .s 1 a4, .s 2 a5, .s 3 a6, .s 3 a7, .s 4 a8, .s 1 a9, .s 1 a10, .s 1 a11, .v (.int .i64 a12), .s 3 a13, .v (.int .i64 a14), .v (.int .i64 a15), .v (.int .i64 a16), .v (.int .i64 a17), .v (.bool a18), .v (.int .i64 a19), .v (.int .i64 a20), .s 1 a21, .v (.int .i64 a22), .v (.int .i64 a23)], .one (.v (.int .i64 a))] [.one (.v (.int .i64 (hlV (ooI (hpI a0 a1 a2 a3 a4 a5 a6 a7 a8 a9 a10 a11 a12 a13 a14 a15 a16 a17 a18 a19 a20 a21 a22 a23) a8 a) (ldV a0 a1 a2 a)))), .one (.v (.int .i64 (hlK (ooI (hpI a0 a1 a2 a3 a4 a5 a6 a7 a8 a9 a10 a11 a12 a13 a14 a15 a16 a17 a18 a19 a20 a21 a22 a23) a8 a))))] := by
 obtain ⟨hp, hB⟩ := hp;refine aj Ob4.B ai mixed 21 _ [3, 3] [.tmp 4, .tmp 5] Tryz.func18 rfl rfl rfl rfl rfl ?_;intro O r (F : Ob4.Fns) hO hr (hF : F = Ob4.F0);cbv
 repeat' first | refine And.intro ?_ ?_ | (refine aK (fun hb => ?_) (fun hb => ?_) <;> cbv)
 all_goals (subst hO hr hF; (try simp only [ah, SS, sa, az] at *); (try simp only [nc] at *); (try simp only [aF] at *))
 all_goals (try simp only [Ob4.F0] at *)
 all_goals first | exact hp | exact ed (sN (by omega)).1.symm (sN (v := 0) (by omega)).2.symm | exact ed (xm (by omega)).1.symm (xm (v := 0) (by omega)).2.symm | exact ⟨hp.c, hp.u, hp.e, hB⟩ | (show au _ _ = true; kernel_rfl) | trivial | done
theorem jv (a0 a1 a2 : List (List L)) (a3 : Int) (a4 a5 a6 a7 a8 a9 a10 a11 : List (List L)) (a12 : Int) (a13 : List (List L)) (a14 a15 a16 a17 : Int) (a18 : Bool) (a19 a20 : Int) (a21 : List (List L)) (a22 a23 : Int) (hp : nK a0 a1 a2 a4 a5 a6 a7 a8 a9 a10 a11 a13 a21) : aO Tryz.prog 15 [.agg [.s 1 a0, .s 1 a1, .s 2 a2, .v (.int .i64 a3), .s 1 a4, .s 2 a5, .s 3 a6, .s 3 a7, .s 4 a8, .s 1 a9, .s 1 a10, .s 1 a11, .v (.int .i64 a12), .s 3 a13, .v (.int .i64 a14), .v (.int .i64 a15), .v (.int .i64 a16), .v (.int .i64 a17), .v (.bool a18), .v (.int .i64 a19), .v (.int .i64 a20), .s 1 a21, .v (.int .i64 a22), .v (.int .i64 a23)]] [.one (.v (.int .i64 (sfI (hpI a0 a1 a2 a3 a4 a5 a6 a7 a8 a9 a10 a11 a12 a13 a14 a15 a16 a17 a18 a19 a20 a21 a22 a23) (mpT a2) (ufN a0 a1))))] := by
 refine aj Ob4.B ai mixed 17 _ [3] [.tmp 2] Tryz.func15 rfl rfl rfl rfl rfl ?_;intro O r (F : Ob4.Fns) hO hr (hF : F = Ob4.F0);cbv
 repeat' first | refine And.intro ?_ ?_ | (refine aK (fun hb => ?_) (fun hb => ?_) <;> cbv)
 all_goals (subst hO hr hF; (try simp only [ah, SS, sa, az] at *); (try simp only [nc] at *); (try simp only [aF] at *))
 all_goals (try simp only [Ob4.F0] at *)
 all_goals first | exact hp | exact ba (JG (by assumption)).symm | exact ba (JF (by assumption)).symm | exact ⟨hp.e, by have := hp.el; omega⟩ | exact ⟨hp.c, hp.u⟩ | (show au _ _ = true; kernel_rfl) | trivial | done
theorem nh (a0 a1 a2 : List (List L)) (a3 : Int) (a4 a5 a6 a7 a8 a9 a10 a11 : List (List L)) (a12 : Int) (a13 : List (List L)) (a14 a15 a16 a17 : Int) (a18 : Bool) (a19 a20 : Int) (a21 : List (List L)) (a22 a23 a : Int) (hp : nK a0 a1 a2 a4 a5 a6 a7 a8 a9 a10 a11 a13 a21 /\ (-9223372036854775808 <= a /\ a <= 9223372036854775807)) : aO Tryz.prog 17 [.agg [.s 1 a0, .s 1 a1, .s 2 a2, .v (.int .i64 a3), .s 1 a4, .s 2 a5, .s 3 a6, .s 3 a7, .s 4 a8, .s 1 a9, .s 1 a10, .s 1 a11, .v (.int .i64 a12), .s 3 a13, .v (.int .i64 a14), .v (.int .i64 a15), .v (.int .i64 a16), .v (.int .i64 a17), .v (.bool a18), .v (.int .i64 a19), .v (.int .i64 a20), .s 1 a21, .v (.int .i64 a22), .v (.int .i64 a23)], .one (.v (.int .i64 a))] [.one (.v (.int .i64 (hlV (ooI (hpI a0 a1 a2 a3 a4 a5 a6 a7 a8 a9 a10 a11 a12 a13 a14 a15 a16 a17 a18 a19 a20 a21 a22 a23) a8 a) (ldV a0 a1 a2 a)))), .one (.v (.int .i64 (hlK (ooI (hpI a0 a1 a2 a3 a4 a5 a6 a7 a8 a9 a10 a11 a12 a13 a14 a15 a16 a17 a18 a19 a20 a21 a22 a23) a8 a))))] := by
 obtain ⟨hp, hB⟩ := hp;refine aj Ob4.B ai mixed 21 _ [3, 3] [.tmp 4, .tmp 5] Tryz.func17 rfl rfl rfl rfl rfl ?_;intro O r (F : Ob4.Fns) hO hr (hF : F = Ob4.F0);cbv
 repeat' first | refine And.intro ?_ ?_ | (refine aK (fun hb => ?_) (fun hb => ?_) <;> cbv)
 all_goals (subst hO hr hF; (try simp only [ah, SS, sa, az] at *); (try simp only [nc] at *); (try simp only [aF] at *))
 all_goals (try simp only [Ob4.F0] at *)
 all_goals first | exact hp | exact ed (sN (by omega)).1.symm (sN (v := 0) (by omega)).2.symm | exact ed (xm (by omega)).1.symm (xm (v := 0) (by omega)).2.symm | exact ⟨hp.c, hp.u, hp.e, hB⟩ | (show au _ _ = true; kernel_rfl) | trivial | done
end Go.V