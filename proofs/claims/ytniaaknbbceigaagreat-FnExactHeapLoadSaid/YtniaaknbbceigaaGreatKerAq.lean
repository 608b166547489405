/-
  Contracts, by evaluation.
-/
import Derived.Test.YtniaaknbbceigaaGreatS10
import Derived.Test.YtniaaknbbceigaaGreatHA
import Derived.Test.YtniaaknbbceigaaGreatHeapBq
set_option linter.all false
namespace Go.V
open Go Go.Proofs
set_option maxRecDepth 1000000
set_option maxHeartbeats 8000000
namespace KA1
structure Fns where
 inR : Int -> Int -> Int -> Bool
def F0 : Fns := ⟨inR⟩
def ct (F : Fns) : CT := fun f ds => match f, ds with
 | 152, [.one (.v (.int .i64 x)), .one (.v (.int .i64 a)), .one (.v (.int .i64 b))] => some (fun _ => True, [.one (.v (.bool (F.inR x a b)))])
 | 126, [.one (.v (.int .i64 x)), .one (.v (.int .i64 a)), .one (.v (.int .i64 b))] => some (fun _ => True, [.one (.v (.bool (F.inR x a b)))])
 | _, _ => none
theorem am : aV Tryz.prog (ct F0) := by
 intro f ds pre res h hp;unfold ct at h;split at h <;> (try split at h) <;> cases h
 exact aC _ _ _ hp;exact aN _ _ _ hp
def B : TB Tryz.prog := tb am
end KA1
theorem gA (cs us : List (List L)) (hp : Rw [.sl [tI]] cs /\ Rw [tB] us) : aO Tryz.prog 167 [.agg [.s 1 cs, .s 1 us]] [.one (.v (.bool (framesOk cs us)))] := by
 obtain ⟨hc, hu⟩ := hp;have hcw := hc.wf; have huw := hu.wf;have hlen := hc.1; unfold maxLen at hlen;refine aj KA1.B ai mixed 55 _ [4] [.tmp 2] Tryz.func167 rfl rfl rfl rfl rfl ?_;intro O r (F : KA1.Fns) hO hr (hF : F = KA1.F0);cbv
 repeat' first | refine And.intro ?_ ?_ | (refine aK (fun hb => ?_) (fun hb => ?_) <;> cbv) | (refine ⟨[1, 22, 23, 24], [1], Int, fun i => [.reg 24 (.one (.v (.int .i64 i)))], fun i => 0 <= i /\ i <= ((cs.length : Nat) : Int) /\ upto (dG cs us) i, fun i => (cs.length) - i.toNat, ⟨0, ?_, ?_⟩, ?_⟩; rotate_left; (focus (cbv; done)); intro i hi; replace hi : 0 <= i /\ i <= ((cs.length : Nat) : Int) /\ upto (dG cs us) i := hi; obtain ⟨i0, i1, i2⟩ := hi; cbv) | (refine aa (O.ar .add .i64 i 1) ?_ ?_ ?_; rotate_left 2; focus (cbv; done)) | (refine ⟨[1, 3, 22, 23, 24, 32, 33, 34], [1], Int, fun k => [.reg 34 (.one (.v (.int .i64 k)))], fun k => 0 <= k /\ k <= (((O.gs cs i 0).length : Nat) : Int) /\ upto (fW cs us i) k, fun k => ((O.gs cs i 0).length) - k.toNat, ⟨0, ?_, ?_⟩, ?_⟩; rotate_left; (focus (cbv; done)); intro k hk; replace hk : 0 <= k /\ k <= (((O.gs cs i 0).length : Nat) : Int) /\ upto (fW cs us i) k := hk; obtain ⟨k0, k1, k2⟩ := hk; cbv) | (refine aa (O.ar .add .i64 k 1) ?_ ?_ ?_; rotate_left 2; focus (cbv; done))
 all_goals (subst hO hr hF; (try simp only [ah, SS, sa, az] at *); (try simp only [nc] at *); (try simp only [aF] at *))
 all_goals (try simp only [KA1.F0] at *)
 all_goals try rw [bK (by omega) (by omega)]
 all_goals first | omega | (refine ⟨by omega, by omega, (Rw.eta (by first | assumption | exact Rw.sub (by first | assumption | exact Rw.sub (by assumption) (by omega) rfl) (by omega) rfl) (by omega) (by omega)).trans ?_⟩; rfl) | exact aG | contradiction | exact af (zO (by assumption)).symm | exact af (zP (by omega)).symm | exact af (zQ i0 (by omega) (by omega)).symm | exact af (sJ i0 (by omega) k0 (by omega) (.inl (by assumption))).symm | exact af (sJ i0 (by omega) k0 (by omega) (.inr ⟨by assumption, by assumption⟩)).symm | exact af (zS (by assumption) (by omega) i2 (by omega)).symm | exact aw i2 (D9 (by omega) k2 (by omega)) | exact aw k2 (DO (by assumption) (by first | exact .inl (by assumption) | exact .inr (by assumption))) | trace_state
theorem gF (cs us : List (List L)) (hp : Rw [.sl [tI]] cs /\ Rw [tB] us) : aO Tryz.prog 166 [.agg [.s 1 cs, .s 1 us]] [.one (.v (.bool (framesOk cs us)))] := by
 obtain ⟨hc, hu⟩ := hp;have hlen := hc.1; unfold maxLen at hlen;refine aj KA1.B ai mixed 61 _ [4] [.tmp 2] Tryz.func166 rfl rfl rfl rfl rfl ?_;intro O r (F : KA1.Fns) hO hr (hF : F = KA1.F0);cbv
 repeat' first | refine And.intro ?_ ?_ | (refine aK (fun hb => ?_) (fun hb => ?_) <;> cbv) | (refine ⟨[1, 3], [1], Int, fun i => [.reg 3 (.one (.v (.int .i64 i)))], fun i => 0 <= i /\ i <= ((cs.length : Nat) : Int) /\ upto (dG cs us) i, fun i => (cs.length) - i.toNat, ⟨0, ?_, ?_⟩, ?_⟩; rotate_left; (focus (cbv; done)); intro i hi; replace hi : 0 <= i /\ i <= ((cs.length : Nat) : Int) /\ upto (dG cs us) i := hi; obtain ⟨i0, i1, i2⟩ := hi; cbv) | (refine aa (O.ar .add .i64 i 1) ?_ ?_ ?_; rotate_left 2; focus (cbv; done)) | (refine ⟨[1, 3, 4], [1], Int, fun k => [.reg 4 (.one (.v (.int .i64 k)))], fun k => 0 <= k /\ k <= ((16 : Nat) : Int) /\ upto (fW cs us i) k, fun k => (16) - k.toNat, ⟨0, ?_, ?_⟩, ?_⟩; rotate_left; (focus (cbv; done)); intro k hk; replace hk : 0 <= k /\ k <= ((16 : Nat) : Int) /\ upto (fW cs us i) k := hk; obtain ⟨k0, k1, k2⟩ := hk; cbv) | (refine aa (O.ar .add .i64 k 1) ?_ ?_ ?_; rotate_left 2; focus (cbv; done))
 all_goals (subst hO hr hF; (try simp only [ah, SS, sa, az] at *); (try simp only [nc] at *); (try simp only [aF] at *))
 all_goals (try simp only [KA1.F0] at *)
 all_goals try rw [bK (by omega) (by omega)]
 all_goals first | omega | (refine ⟨by omega, by omega, (Rw.eta (by first | assumption | exact Rw.sub (by first | assumption | exact Rw.sub (by assumption) (by omega) rfl) (by omega) rfl) (by omega) (by omega)).trans ?_⟩; rfl) | exact aG | contradiction | exact af (zO (by assumption)).symm | exact af (zP (by omega)).symm | exact af (zQ i0 (by omega) (by omega)).symm | exact af (sJ i0 (by omega) k0 (by omega) (.inl (by assumption))).symm | exact af (sJ i0 (by omega) k0 (by omega) (.inr ⟨by assumption, by assumption⟩)).symm | exact af (zS (by assumption) (by omega) i2 (by omega)).symm | exact aw i2 (D9 (by omega) k2 (by omega)) | exact aw k2 (DO (by assumption) (by first | exact .inl (by assumption) | exact .inr (by assumption))) | trace_state
theorem ox (es : List (List L)) (n : Int) (hp : Rw [tI, tI] es) : aO Tryz.prog 235 [.agg [.s 2 es], .one (.v (.int .i64 n))] [.one (.v (.bool (tableOk es n)))] := by
 have hlen := hp.1; unfold maxLen at hlen;refine aj KA1.B ai mixed 49 _ [4] [.tmp 4] Tryz.func235 rfl rfl rfl rfl rfl ?_;intro O r (F : KA1.Fns) hO hr (hF : F = KA1.F0);cbv
 repeat' first | refine And.intro ?_ ?_ | (refine aK (fun hb => ?_) (fun hb => ?_) <;> cbv) | (refine ⟨[1, 2, 8, 9, 10], [2], Int, fun i => [.reg 10 (.one (.v (.int .i64 i)))], fun i => 0 <= i /\ i <= ((es.length : Nat) : Int) /\ upto (hE es n) i, fun i => (es.length) - i.toNat, ⟨0, ?_, ?_⟩, ?_⟩; rotate_left; (focus (cbv; done)); intro i hi; replace hi : 0 <= i /\ i <= ((es.length : Nat) : Int) /\ upto (hE es n) i := hi; obtain ⟨i0, i1, i2⟩ := hi; cbv) | (refine aa (O.ar .add .i64 i 1) ?_ ?_ ?_; rotate_left 2; focus (cbv; done))
 all_goals (subst hO hr hF; (try simp only [ah, SS, sa, az] at *); (try simp only [nc] at *); (try simp only [aF] at *))
 all_goals (try simp only [KA1.F0] at *)
 all_goals try rw [bK (by omega) (by omega)]
 all_goals first | omega | (refine ⟨by omega, by omega, (Rw.eta (by first | assumption | exact Rw.sub (by first | assumption | exact Rw.sub (by assumption) (by omega) rfl) (by omega) rfl) (by omega) (by omega)).trans ?_⟩; rfl) | exact aG | contradiction | exact af (BL i2 (by omega)).symm | (simp only [bc, ji] at *; first | exact af (E2 i0 (by omega) (by omega)).symm | exact aw i2 (E1 (by omega))) | trace_state
theorem pa (es : List (List L)) (n : Int) (hp : Rw [tI, tI] es) : aO Tryz.prog 233 [.agg [.s 2 es], .one (.v (.int .i64 n))] [.one (.v (.bool (tableOk es n)))] := by
 have hlen := hp.1; unfold maxLen at hlen;refine aj KA1.B ai mixed 54 _ [4] [.tmp 4] Tryz.func233 rfl rfl rfl rfl rfl ?_;intro O r (F : KA1.Fns) hO hr (hF : F = KA1.F0);cbv
 repeat' first | refine And.intro ?_ ?_ | (refine aK (fun hb => ?_) (fun hb => ?_) <;> cbv) | (refine ⟨[1, 2, 5], [2], Int, fun i => [.reg 5 (.one (.v (.int .i64 i)))], fun i => 0 <= i /\ i <= ((es.length : Nat) : Int) /\ upto (hE es n) i, fun i => (es.length) - i.toNat, ⟨0, ?_, ?_⟩, ?_⟩; rotate_left; (focus (cbv; done)); intro i hi; replace hi : 0 <= i /\ i <= ((es.length : Nat) : Int) /\ upto (hE es n) i := hi; obtain ⟨i0, i1, i2⟩ := hi; cbv) | (refine aa (O.ar .add .i64 i 1) ?_ ?_ ?_; rotate_left 2; focus (cbv; done))
 all_goals (subst hO hr hF; (try simp only [ah, SS, sa, az] at *); (try simp only [nc] at *); (try simp only [aF] at *))
 all_goals (try simp only [KA1.F0] at *)
 all_goals try rw [bK (by omega) (by omega)]
 all_goals first | omega | (refine ⟨by omega, by omega, (Rw.eta (by first | assumption | exact Rw.sub (by first | assumption | exact Rw.sub (by assumption) (by omega) rfl) (by omega) rfl) (by omega) (by omega)).trans ?_⟩; rfl) | exact aG | contradiction | exact af (BL i2 (by omega)).symm | (simp only [bc, ji] at *; first | exact af (E2 i0 (by omega) (by omega)).symm | exact aw i2 (E1 (by omega))) | trace_state
namespace KD4
structure Fns where
 framesOk : List (List L) -> List (List L) -> Bool
 tableOk : List (List L) -> Int -> Bool
 pagesOn : List (List L) -> Int -> List (List L)
def F0 : Fns := ⟨framesOk, tableOk, pagesOn⟩
def ct (F : Fns) : CT := fun f ds => match f, ds with
 | 167, [.agg [.s 1 cs, .s 1 us]] => some (fun _ => Rw [.sl [tI]] cs /\ Rw [tB] us, [.one (.v (.bool (F.framesOk cs us)))])
 | 235, [.agg [.s 2 es], .one (.v (.int .i64 n))] => some (fun _ => Rw [tI, tI] es, [.one (.v (.bool (F.tableOk es n)))])
 | 236, [.agg [.s 2 es], .one (.v (.int .i64 f))] => some (fun _ => Rw [tI, tI] es /\ es.length <= 1099511627776, [.one (.s 1 (F.pagesOn es f))])
 | _, _ => none
theorem am : aV Tryz.prog (ct F0) := by
 intro f ds pre res h hp;unfold ct at h;split at h <;> (try split at h) <;> cases h
 exact gA _ _ hp;exact ox _ _ hp;exact gU _ _ hp
def B : TB Tryz.prog := tb am
end KD4
theorem fG (cs us es : List (List L)) (hp : Rw [.sl [tI]] cs /\ Rw [tB] us /\ Rw [tI, tI] es) : aO Tryz.prog 177 [.agg [.s 1 cs, .s 1 us, .s 2 es]] [.one (.v (.bool (machOk cs us es)))] := by
 obtain ⟨hc, hu, ht⟩ := hp;have hm := hu.1; unfold maxLen at hm;refine aj KD4.B ai mixed 37 _ [4] [.tmp 2] Tryz.func177 rfl rfl rfl rfl rfl ?_;intro O r (F : KD4.Fns) hO hr (hF : F = KD4.F0);cbv
 repeat' first | refine And.intro ?_ ?_ | (refine aK (fun hb => ?_) (fun hb => ?_) <;> cbv) | (refine ⟨[1, 21, 22, 23], [1], Int, fun i => [.reg 23 (.one (.v (.int .i64 i)))], fun i => 0 <= i /\ i <= ((us.length : Nat) : Int) /\ upto (fy us es) i, fun i => (us.length) - i.toNat, ⟨0, ?_, ?_⟩, ?_⟩; rotate_left; (focus (cbv; done)); intro i hi; replace hi : 0 <= i /\ i <= ((us.length : Nat) : Int) /\ upto (fy us es) i := hi; obtain ⟨i0, i1, i2⟩ := hi; cbv) | (refine aa (O.ar .add .i64 i 1) ?_ ?_ ?_; rotate_left 2; focus (cbv; done))
 all_goals (subst hO hr hF; (try simp only [ah, SS, sa, az] at *); (try simp only [nc] at *); (try simp only [aF] at *))
 all_goals (try simp only [KD4.F0, xF] at *)
 all_goals try rw [bK (by omega) (by omega)]
 all_goals try (have hfl := sI (cs := cs) (us := us) (by assumption))
 all_goals try (have htl := tC (es := es) (n := (us.length : Int)) (by assumption))
 all_goals try (have htl := tC (es := es) (n := (cs.length : Int)) (by assumption))
 all_goals first | omega | (refine ⟨by omega, by omega, (Rw.eta (by first | assumption | exact Rw.sub (by first | assumption | exact Rw.sub (by assumption) (by omega) rfl) (by omega) rfl) (by omega) (by omega)).trans ?_⟩; rfl) | (show au _ _ = true; kernel_rfl) | exact aG | contradiction | exact ⟨hc, hu⟩ | exact ht | exact ⟨ht, by omega⟩ | exact af (uH (.inl (by assumption))).symm | exact af (uH (.inr (by assumption))).symm | exact af (AJ (by assumption) (by assumption)).symm | exact af (AK i0 (by omega) (by assumption)).symm | exact aw i2 (Ew (by assumption)) | exact af (sW (by assumption) (by assumption) i2 (by omega)).symm | (refine af (sW (by assumption) ?_ i2 (by omega)).symm; rw [hfl.1]; assumption) | trivial | exact rfl | trace_state
namespace KD5
structure Fns where
 framesOk : List (List L) -> List (List L) -> Bool
 tableOk : List (List L) -> Int -> Bool
 pagesOn : List (List L) -> Int -> List (List L)
def F0 : Fns := ⟨framesOk, tableOk, pagesOn⟩
def ct (F : Fns) : CT := fun f ds => match f, ds with
 | 166, [.agg [.s 1 cs, .s 1 us]] => some (fun _ => Rw [.sl [tI]] cs /\ Rw [tB] us, [.one (.v (.bool (F.framesOk cs us)))])
 | 233, [.agg [.s 2 es], .one (.v (.int .i64 n))] => some (fun _ => Rw [tI, tI] es, [.one (.v (.bool (F.tableOk es n)))])
 | 234, [.agg [.s 2 es], .one (.v (.int .i64 f))] => some (fun _ => Rw [tI, tI] es /\ es.length <= 1099511627776, [.one (.s 1 (F.pagesOn es f))])
 | _, _ => none
theorem am : aV Tryz.prog (ct F0) := by
 intro f ds pre res h hp;unfold ct at h;split at h <;> (try split at h) <;> cases h
 exact gF _ _ hp;exact pa _ _ hp;exact gX _ _ hp
def B : TB Tryz.prog := tb am
end KD5
theorem fH (cs us es : List (List L)) (hp : Rw [.sl [tI]] cs /\ Rw [tB] us /\ Rw [tI, tI] es) : aO Tryz.prog 169 [.agg [.s 1 cs, .s 1 us, .s 2 es]] [.one (.v (.bool (machOk cs us es)))] := by
 obtain ⟨hc, hu, ht⟩ := hp;have hm := hu.1; unfold maxLen at hm;refine aj KD5.B ai mixed 39 _ [4] [.tmp 2] Tryz.func169 rfl rfl rfl rfl rfl ?_;intro O r (F : KD5.Fns) hO hr (hF : F = KD5.F0);cbv
 repeat' first | refine And.intro ?_ ?_ | (refine aK (fun hb => ?_) (fun hb => ?_) <;> cbv) | (refine ⟨[1, 3], [1], Int, fun i => [.reg 3 (.one (.v (.int .i64 i)))], fun i => 0 <= i /\ i <= ((us.length : Nat) : Int) /\ upto (fy us es) i, fun i => (us.length) - i.toNat, ⟨0, ?_, ?_⟩, ?_⟩; rotate_left; (focus (cbv; done)); intro i hi; replace hi : 0 <= i /\ i <= ((us.length : Nat) : Int) /\ upto (fy us es) i := hi; obtain ⟨i0, i1, i2⟩ := hi; cbv) | (refine aa (O.ar .add .i64 i 1) ?_ ?_ ?_; rotate_left 2; focus (cbv; done))
 all_goals (subst hO hr hF; (try simp only [ah, SS, sa, az] at *); (try simp only [nc] at *); (try simp only [aF] at *))
 all_goals (try simp only [KD5.F0, xF] at *)
 all_goals try rw [bK (by omega) (by omega)]
 all_goals try (have hfl := sI (cs := cs) (us := us) (by assumption))
 all_goals try (have htl := tC (es := es) (n := (us.length : Int)) (by assumption))
 all_goals try (have htl := tC (es := es) (n := (cs.length : Int)) (by assumption))
 all_goals first | omega | (refine ⟨by omega, by omega, (Rw.eta (by first | assumption | exact Rw.sub (by first | assumption | exact Rw.sub (by assumption) (by omega) rfl) (by omega) rfl) (by omega) (by omega)).trans ?_⟩; rfl) | (show au _ _ = true; kernel_rfl) | exact aG | contradiction | exact ⟨hc, hu⟩ | exact ht | exact ⟨ht, by omega⟩ | exact af (uH (.inl (by assumption))).symm | exact af (uH (.inr (by assumption))).symm | exact af (AJ (by assumption) (by assumption)).symm | exact af (AK i0 (by omega) (by assumption)).symm | exact aw i2 (Ew (by assumption)) | exact af (sW (by assumption) (by assumption) i2 (by omega)).symm | (refine af (sW (by assumption) ?_ i2 (by omega)).symm; rw [hfl.1]; assumption) | trivial | exact rfl | trace_state
end Go.V