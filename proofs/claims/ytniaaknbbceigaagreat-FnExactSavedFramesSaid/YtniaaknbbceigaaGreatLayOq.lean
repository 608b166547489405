/-
  Contracts, by evaluation.
-/
import Derived.Test.YtniaaknbbceigaaGreatS10
import Derived.Test.YtniaaknbbceigaaGreatHB
import Derived.Test.YtniaaknbbceigaaGreatLayNq
set_option linter.all false
namespace Go.V
open Go Go.Proofs
set_option maxRecDepth 1000000
set_option maxHeartbeats 8000000
namespace Oa1
structure Fns where
 dnK : List (List L) -> List (List L) -> Int -> Int
 dnI : List (List L) -> List (List L) -> Int -> Int
 dnS : List (List L) -> Int -> Int
 dnO : List (List L) -> List (List L) -> Int -> Int
 dzK : List (List L) -> List (List L) -> Int -> Int
 dzI : List (List L) -> List (List L) -> Int -> Int
 dzS : List (List L) -> List (List L) -> Int -> Int
 dzO : List (List L) -> List (List L) -> Int -> Int
def F0 : Fns := ⟨dnK, dnI, dnS, dnO, dzK, dzI, dzS, dzO⟩
def ct (F : Fns) : CT := fun f ds => match f, ds with
 | 98, [.one (.s 3 sp), .one (.s 3 lg), .one (.v (.int .i64 a))] => some (fun _ => Rw [tI, tI, tI] sp /\ Rw [tI, tI, tI] lg, [.agg [.v (.int .i64 (F.dnK sp lg a)), .v (.int .i64 (F.dnI sp lg a)), .v (.int .i64 (F.dnS sp a)), .v (.int .i64 (F.dnO sp lg a))]])
 | 77, [.one (.s 3 sp), .one (.s 3 lg), .one (.v (.int .i64 a))] => some (fun _ => Rw [tI, tI, tI] sp /\ Rw [tI, tI, tI] lg /\ sp.length <= 1073741824 /\ lg.length <= 1073741824 /\ -9223372036854775808 <= a /\ a <= 9223372036854775807, [.agg [.v (.int .i64 (F.dzK sp lg a)), .v (.int .i64 (F.dzI sp lg a)), .v (.int .i64 (F.dzS sp lg a)), .v (.int .i64 (F.dzO sp lg a))]])
 | _, _ => none
theorem am : aV Tryz.prog (ct F0) := by
 intro f ds pre res h hp;unfold ct at h;split at h <;> (try split at h) <;> cases h
 exact gV _ _ _ hp;exact eF _ _ _ hp
def B : TB Tryz.prog := tb am
end Oa1
theorem js (ad k : Int) (es a0 a1 a2 : List (List L)) (a3 : Int) (a4 a5 a6 a7 a8 a9 a10 a11 : List (List L)) (a12 : Int) (a13 : List (List L)) (a14 a15 a16 a17 : Int) (a18 : Bool) (a19 a20 : Int) (a21 : List (List L)) (a22 a23 : Int) (hp : Rw [tI, tI, tI] a6 /\ Rw [tI, tI, tI] a7) : se Tryz.prog 224 [.one (.v (.int .i64 ad)), .one (.v (.int .i64 k)), .mp [.own (.m false es)], .mp [.ro (.s 1 a0), .ro (.s 1 a1), .ro (.s 2 a2), .own (.v (.int .i64 a3)), .ro (.s 1 a4), .ro (.s 2 a5), .ro (.s 3 a6), .ro (.s 3 a7), .ro (.s 4 a8), .ro (.s 1 a9), .ro (.s 1 a10), .ro (.s 1 a11), .own (.v (.int .i64 a12)), .ro (.s 3 a13), .own (.v (.int .i64 a14)), .own (.v (.int .i64 a15)), .own (.v (.int .i64 a16)), .own (.v (.int .i64 a17)), .own (.v (.bool a18)), .own (.v (.int .i64 a19)), .own (.v (.int .i64 a20)), .ro (.s 1 a21), .own (.v (.int .i64 a22)), .own (.v (.int .i64 a23))]] [[.own (.m false (huI es ad))], [.ro (.s 1 a0), .ro (.s 1 a1), .ro (.s 2 a2), .own (.v (.int .i64 a3)), .ro (.s 1 a4), .ro (.s 2 a5), .ro (.s 3 a6), .ro (.s 3 a7), .ro (.s 4 a8), .ro (.s 1 a9), .ro (.s 1 a10), .ro (.s 1 a11), .own (.v (.int .i64 a12)), .ro (.s 3 a13), .own (.v (.int .i64 a14)), .own (.v (.int .i64 a15)), .own (.v (.int .i64 a16)), .own (.v (.int .i64 a17)), .own (.v (.bool a18)), .own (.v (.int .i64 a19)), .own (.v (.int .i64 a20)), .ro (.s 1 a21), .own (.v (.int .i64 a22)), .own (.v (.int .i64 a23))]] [.one (.v (.bool (hlB a6 a7 ad k)))] := by
 obtain ⟨hsw, hlw⟩ := hp;refine A9 Oa1.B ai mixed 41 _ [4] [.tmp 6] Tryz.func224 rfl rfl rfl rfl rfl rfl rfl ?_;intro O r os (F : Oa1.Fns) hO hr hos (hF : F = Oa1.F0);cbv
 repeat' first | refine And.intro ?_ ?_ | (refine aK (fun hb => ?_) (fun hb => ?_) <;> cbv)
 all_goals ((try subst hos); subst hO hr hF; (try simp only [ah, SS, sa, az] at *); (try simp only [nc] at *); (try simp only [aF] at *))
 all_goals (try simp only [Oa1.F0] at *)
 all_goals (try have d1 := fun h => ut (sp := a6) (lg := a7) (a := ad) h)
 all_goals first | (show (_ : List DV) = _; refine af ?_; unfold hlB; simp [*]; done) | (show (_ : List DV) = _; refine af ?_; unfold hlB; rw [decide_eq_false (p := k < 0) (by omega), cmp_eq]; simp [*]; done) | (show (_ : List H) = _; exact rfl) | exact ⟨hsw, hlw⟩ | exact True.intro | (have e := d1 (by assumption); omega) | (have e := d1 (by assumption); (refine ⟨by omega, by omega, (Rw.eta (by first | assumption | exact Rw.sub (by first | assumption | exact Rw.sub (by assumption) (by omega) rfl) (by omega) rfl) (by omega) (by omega)).trans ?_⟩; rfl)) | (show au _ _ = true; kernel_rfl) | done
theorem pe (a0 a1 a2 : List (List L)) (a3 : Int) (a4 a5 a6 a7 a8 a9 a10 a11 : List (List L)) (a12 : Int) (a13 : List (List L)) (a14 a15 a16 a17 : Int) (a18 : Bool) (a19 a20 : Int) (a21 : List (List L)) (a22 a23 ad k : Int) (hp : sd a6 a7 a8 a9 a10 a11 a13 /\ layOk a6 a7 = true /\ -9223372036854775808 <= ad /\ ad <= 9223372036854775807) : aO Tryz.prog 207 [.agg [.s 1 a0, .s 1 a1, .s 2 a2, .v (.int .i64 a3), .s 1 a4, .s 2 a5, .s 3 a6, .s 3 a7, .s 4 a8, .s 1 a9, .s 1 a10, .s 1 a11, .v (.int .i64 a12), .s 3 a13, .v (.int .i64 a14), .v (.int .i64 a15), .v (.int .i64 a16), .v (.int .i64 a17), .v (.bool a18), .v (.int .i64 a19), .v (.int .i64 a20), .s 1 a21, .v (.int .i64 a22), .v (.int .i64 a23)], .one (.v (.int .i64 ad)), .one (.v (.int .i64 k))] [.one (.v (.bool (hlB a6 a7 ad k)))] := by
 obtain ⟨N, hlay, ad0, ad1⟩ := hp;have hsw := N.sw; have hlw := N.lw; have hsl := N.sl; have hll := N.ll;refine aj Oa1.B ai mixed 37 _ [4] [.tmp 6] Tryz.func207 rfl rfl rfl rfl rfl ?_;intro O r (F : Oa1.Fns) hO hr (hF : F = Oa1.F0);cbv
 repeat' first | refine And.intro ?_ ?_ | (refine aK (fun hb => ?_) (fun hb => ?_) <;> cbv)
 all_goals (subst hO hr hF; (try simp only [ah, SS, sa, az] at *); (try simp only [nc] at *); (try simp only [aF] at *))
 all_goals (try simp only [Oa1.F0] at *)
 all_goals (try simp only [DY hlay, DZ hlay, D1 hlay] at *)
 all_goals (try have d1 := fun h => ut (sp := a6) (lg := a7) (a := ad) h)
 all_goals first | (show (_ : List DV) = _; refine af ?_; unfold hlB; simp [*]; done) | (show (_ : List DV) = _; refine af ?_; unfold hlB; rw [decide_eq_false (p := k < 0) (by omega), cmp_eq]; simp [*]; done) | exact ⟨hsw, hlw, hsl, hll, ad0, ad1⟩ | exact True.intro | (have e := d1 (by assumption); omega) | (have e := d1 (by assumption); (refine ⟨by omega, by omega, (Rw.eta (by first | assumption | exact Rw.sub (by first | assumption | exact Rw.sub (by assumption) (by omega) rfl) (by omega) rfl) (by omega) (by omega)).trans ?_⟩; rfl)) | (show au _ _ = true; kernel_rfl) | done
namespace Oa2
structure Fns where
 hlB : List (List L) -> List (List L) -> Int -> Int -> Bool
 huI : List (List L) -> Int -> List (List L)
 ifL : List (List L) -> List (List L) -> List (List L)
 iaL : List (List L) -> List (List L) -> List (List L)
def F0 : Fns := ⟨hlB, huI, ifL, iaL⟩
def ct (F : Fns) : CT := fun f ds => match f, ds with
 | 97, [.agg [.s 1 b, .s 1 x]] => some (fun _ => tZ b x, [.one (.s 1 (F.ifL b x))])
 | 225, [.one (.s 3 sp), .one (.s 3 lg)] => some (fun _ => Rw [tI, tI, tI] sp /\ Rw [tI, tI, tI] lg /\ sp.length <= 1073741824 /\ lg.length <= 1073741824, [.one (.s 1 (F.iaL sp lg))])
 | _, _ => none
theorem am : aV Tryz.prog (ct F0) := by
 intro f ds pre res h hp;unfold ct at h;split at h <;> (try split at h) <;> cases h
 exact mr _ _ hp;exact kR _ _ hp
def pt (F : Fns) : PT := fun f => match f with
 | 224 => some fun ds => match ds with
   | [.one (.v (.int .i64 ad)), .one (.v (.int .i64 k)), .mp [.own (.m false es)], .mp [.ro (.s 1 a0), .ro (.s 1 a1), .ro (.s 2 a2), .own (.v (.int .i64 a3)), .ro (.s 1 a4), .ro (.s 2 a5), .ro (.s 3 a6), .ro (.s 3 a7), .ro (.s 4 a8), .ro (.s 1 a9), .ro (.s 1 a10), .ro (.s 1 a11), .own (.v (.int .i64 a12)), .ro (.s 3 a13), .own (.v (.int .i64 a14)), .own (.v (.int .i64 a15)), .own (.v (.int .i64 a16)), .own (.v (.int .i64 a17)), .own (.v (.bool a18)), .own (.v (.int .i64 a19)), .own (.v (.int .i64 a20)), .ro (.s 1 a21), .own (.v (.int .i64 a22)), .own (.v (.int .i64 a23))]] => some (fun _ => Rw [tI, tI, tI] a6 /\ Rw [tI, tI, tI] a7, [[.own (.m false (F.huI es ad))], [.ro (.s 1 a0), .ro (.s 1 a1), .ro (.s 2 a2), .own (.v (.int .i64 a3)), .ro (.s 1 a4), .ro (.s 2 a5), .ro (.s 3 a6), .ro (.s 3 a7), .ro (.s 4 a8), .ro (.s 1 a9), .ro (.s 1 a10), .ro (.s 1 a11), .own (.v (.int .i64 a12)), .ro (.s 3 a13), .own (.v (.int .i64 a14)), .own (.v (.int .i64 a15)), .own (.v (.int .i64 a16)), .own (.v (.int .i64 a17)), .own (.v (.bool a18)), .own (.v (.int .i64 a19)), .own (.v (.int .i64 a20)), .ro (.s 1 a21), .own (.v (.int .i64 a22)), .own (.v (.int .i64 a23))]], [.one (.v (.bool (F.hlB a6 a7 ad k)))])
   | _ => none
 | _ => none
theorem Bi : vF Tryz.prog (pt F0) := by
 intro f mk h ds pre outs res hm hp;unfold pt at h;split at h
 ·cases h; dsimp only at hm; split at hm
  ·cases hm; exact js _ _ _ _ _ _ _ _ _ _ _ _ _ _ _ _ _ _ _ _ _ _ _ _ _ _ _ hp
  ·cases hm
 ·cases h
def B : TB Tryz.prog := {Φ := Fns, F0 := F0, ct := ct, hc := am, pt := pt, hp := Bi}
end Oa2
theorem kS (a0 a1 a2 : List (List L)) (a3 : Int) (a4 a5 a6 a7 a8 a9 a10 a11 : List (List L)) (a12 : Int) (a13 : List (List L)) (a14 a15 a16 a17 : Int) (a18 : Bool) (a19 a20 : Int) (a21 : List (List L)) (a22 a23 : Int) (hp : sd a6 a7 a8 a9 a10 a11 a13 /\ layOk a6 a7 = true) : aO Tryz.prog 150 [.agg [.s 1 a0, .s 1 a1, .s 2 a2, .v (.int .i64 a3), .s 1 a4, .s 2 a5, .s 3 a6, .s 3 a7, .s 4 a8, .s 1 a9, .s 1 a10, .s 1 a11, .v (.int .i64 a12), .s 3 a13, .v (.int .i64 a14), .v (.int .i64 a15), .v (.int .i64 a16), .v (.int .i64 a17), .v (.bool a18), .v (.int .i64 a19), .v (.int .i64 a20), .s 1 a21, .v (.int .i64 a22), .v (.int .i64 a23)]] [.one (.v (.bool (hoI a6 a7 a8 a9 a10 a11 a13 a15)))] := by
 obtain ⟨N, hlay⟩ := hp;have hsw := N.sw; have hlw := N.lw; have hsl := N.sl; have hll := N.ll; have how := N.ow; have hol := N.ol; have hcw := N.cw; have hcl := N.cl; have hqw := N.qw; have hql := N.ql; have hcc := N.c;have hlc := iH (es := a9);have hfr := Aj N.m;have hfl := vX (b := a10) (x := a11);have hlr := Ig (sp := a6) (lg := a7);have hla := Aq (sp := a6) (lg := a7);refine aj Oa2.B ai mixed 114 _ [4] [.tmp 2] Tryz.func150 rfl rfl rfl rfl rfl ?_;intro O r (F : Oa2.Fns) hO hr (hF : F = Oa2.F0);cbv
 repeat' first | refine And.intro ?_ ?_ | (refine aK (fun hb => ?_) (fun hb => ?_) <;> cbv) | (refine ⟨[1, 3, 4, 22, 23, 24], [1, 3], Int × List (List L), fun s_ => match s_ with | (i, es) => [.reg 24 (.one (.v (.int .i64 i))), .leaf 3 0 ⟨0, 0, none, .own (.m false es)⟩], fun s_ => match s_ with | (i, es) => 0 <= i /\ i <= (a9.length : Int) /\ GV a6 a7 a9 i es, fun s_ => match s_ with | (i, es) => a9.length - i.toNat, ⟨(0, []), ?_, ?_⟩, ?_⟩; rotate_left; (focus (cbv; done)); intro s_ hi; obtain ⟨i, es⟩ := s_; replace hi : 0 <= i /\ i <= (a9.length : Int) /\ GV a6 a7 a9 i es := hi; obtain ⟨i0, i1, i2⟩ := hi; cbv) | (refine ⟨[1, 3, 4, 22, 23, 24, 29, 30, 31], [1, 3], Int × List (List L), fun s_ => match s_ with | (k, es1) => [.reg 31 (.one (.v (.int .i64 k))), .leaf 3 0 ⟨0, 0, none, .own (.m false es1)⟩], fun s_ => match s_ with | (k, es1) => 0 <= k /\ k <= ((ay a9 i 0).length : Int) /\ GX a6 a7 a9 i k es1, fun s_ => match s_ with | (k, es1) => (ay a9 i 0).length - k.toNat, ⟨(0, es), ?_, ?_⟩, ?_⟩; rotate_left; (focus (cbv; done)); intro s_ hk; obtain ⟨k, es1⟩ := s_; replace hk : 0 <= k /\ k <= ((ay a9 i 0).length : Int) /\ GX a6 a7 a9 i k es1 := hk; obtain ⟨k0, k1, k2⟩ := hk; cbv) | (refine ⟨[1, 3, 4, 7, 22, 23, 24, 29, 30, 31, 36, 37, 38], [1, 3], Int × List (List L), fun s_ => match s_ with | (j, es2) => [.reg 38 (.one (.v (.int .i64 j))), .leaf 3 0 ⟨0, 0, none, .own (.m false es2)⟩], fun s_ => match s_ with | (j, es2) => 0 <= j /\ j <= ((ay (ay a9 i 0) k 0).length : Int) /\ GW a6 a7 a9 i k j es2, fun s_ => match s_ with | (j, es2) => (ay (ay a9 i 0) k 0).length - j.toNat, ⟨(0, es1), ?_, ?_⟩, ?_⟩; rotate_left; (focus (cbv; done)); intro s_ hj; obtain ⟨j, es2⟩ := s_; replace hj : 0 <= j /\ j <= ((ay (ay a9 i 0) k 0).length : Int) /\ GW a6 a7 a9 i k j es2 := hj; obtain ⟨j0, j1, j2⟩ := hj; cbv) | (refine ⟨[1, 3, 4, 52, 53, 54], [1, 3], Int × List (List L), fun s_ => match s_ with | (q, es3) => [.reg 54 (.one (.v (.int .i64 q))), .leaf 3 0 ⟨0, 0, none, .own (.m false es3)⟩], fun s_ => match s_ with | (q, es3) => 0 <= q /\ q <= (a13.length : Int) /\ GY a6 a7 a9 a13 a15 q es3, fun s_ => match s_ with | (q, es3) => a13.length - q.toNat, ⟨(0, es), ?_, ?_⟩, ?_⟩; rotate_left; (focus (cbv; done)); intro s_ hq; obtain ⟨q, es3⟩ := s_; replace hq : 0 <= q /\ q <= (a13.length : Int) /\ GY a6 a7 a9 a13 a15 q es3 := hq; obtain ⟨q0, q1, q2⟩ := hq; cbv) | (refine ⟨[1, 3, 4, 75, 76, 77], [1, 3, 75], Int × List (List L), fun s_ => match s_ with | (f, es4) => [.reg 77 (.one (.v (.int .i64 f))), .leaf 3 0 ⟨0, 0, none, .own (.m false es4)⟩], fun s_ => match s_ with | (f, es4) => 0 <= f /\ f <= ((ifL a10 a11).length : Int) /\ GU a6 a7 a9 a13 (ifL a10 a11) a15 f es4, fun s_ => match s_ with | (f, es4) => (ifL a10 a11).length - f.toNat, ⟨(0, es3), ?_, ?_⟩, ?_⟩; rotate_left; (focus (cbv; done)); intro s_ hf; obtain ⟨f, es4⟩ := s_; replace hf : 0 <= f /\ f <= ((ifL a10 a11).length : Int) /\ GU a6 a7 a9 a13 (ifL a10 a11) a15 f es4 := hf; obtain ⟨f0, f1, f2⟩ := hf; cbv) | (refine ⟨[1, 3, 87, 88, 89], [1, 3], Int × List (List L), fun s_ => match s_ with | (p, es5) => [.reg 89 (.one (.v (.int .i64 p))), .leaf 3 0 ⟨0, 0, none, .own (.m false es5)⟩], fun s_ => match s_ with | (p, es5) => 0 <= p /\ p <= (a8.length : Int) /\ E6 a6 a7 a8 a9 a13 (ifL a10 a11) a15 p es5, fun s_ => match s_ with | (p, es5) => a8.length - p.toNat, ⟨(0, es4), ?_, ?_⟩, ?_⟩; rotate_left; (focus (cbv; done)); intro s_ hp; obtain ⟨p, es5⟩ := s_; replace hp : 0 <= p /\ p <= (a8.length : Int) /\ E6 a6 a7 a8 a9 a13 (ifL a10 a11) a15 p es5 := hp; obtain ⟨p0, p1, p2⟩ := hp; cbv) | (refine ⟨[3, 103, 104, 105], [3, 103], Int × List (List L), fun s_ => match s_ with | (t, es6) => [.reg 105 (.one (.v (.int .i64 t))), .leaf 3 0 ⟨0, 0, none, .own (.m false es6)⟩], fun s_ => match s_ with | (t, es6) => 0 <= t /\ t <= ((iaL a6 a7).length : Int) /\ Ds a6 a7 a8 a9 a13 (ifL a10 a11) a15 t es6, fun s_ => match s_ with | (t, es6) => (iaL a6 a7).length - t.toNat, ⟨(0, es5), ?_, ?_⟩, ?_⟩; rotate_left; (focus (cbv; done)); intro s_ ht; obtain ⟨t, es6⟩ := s_; replace ht : 0 <= t /\ t <= ((iaL a6 a7).length : Int) /\ Ds a6 a7 a8 a9 a13 (ifL a10 a11) a15 t es6 := ht; obtain ⟨t0, t1, t2⟩ := ht; cbv) | (refine aa (O.ar .add .i64 j 1, F.huI es2 (O.gi (O.gs (O.gs a9 i 0) k 0) j 0)) ?_ ?_ ?_; rotate_left 2; focus (cbv; done)) | (refine aa (O.ar .add .i64 k 1, es2) ?_ ?_ ?_; rotate_left 2; focus (cbv; done)) | (refine aa (O.ar .add .i64 i 1, es1) ?_ ?_ ?_; rotate_left 2; focus (cbv; done)) | (refine aa (O.ar .add .i64 t 1, es6) ?_ ?_ ?_; rotate_left 2; focus (cbv; done)) | (refine aa (O.ar .add .i64 p 1, O.mu es5 (O.gi a8 p 1) (.v (.int .i64 (O.ar .add .i64 (O.mgi es5 (O.gi a8 p 1)) 1)))) ?_ ?_ ?_; rotate_left 2; focus (cbv; done)) | (refine aa (O.ar .add .i64 f 1, F.huI es4 (O.pi (.s 1 (F.ifL a10 a11)) [(O.ad 0 f, 0)])) ?_ ?_ ?_; rotate_left 2; focus (cbv; done)) | (refine aa (O.ar .add .i64 q 1, F.huI es3 (O.gi a13 q 0)) ?_ ?_ ?_; rotate_left 2; focus (cbv; done))
 all_goals (subst hO hr hF; (try simp only [ah, SS, sa, az] at *); (try simp only [nc] at *); (try simp only [aF] at *))
 all_goals (try simp only [Oa2.F0] at *)
 all_goals try rw [bK (by omega) (by omega)]
 all_goals (try simp only [lr f0] at *)
 all_goals (try simp only [lr t0, CR] at *)
 all_goals (try have z8 : bu .add .i64 t 1 = t + 1 := bG (by omega))
 all_goals (try simp only [z8] at *)
 all_goals (try have w6 := hcc.n i i0 (by assumption))
 all_goals (try have w7 := w6.el k0 (by assumption))
 all_goals (try have w8 := w7.1)
 all_goals (try have z6 : bu .add .i64 k 1 = k + 1 := bG (by have := w6.l; omega))
 all_goals (try simp only [z6] at *)
 all_goals (try have z7 : bu .add .i64 j 1 = j + 1 := bG (by have := w7.2; omega))
 all_goals (try simp only [z7] at *)
 all_goals first
  | (show (_ : List DV) = _
     first
      | (refine af ?_; symm; exact FD i0 (by assumption) (H3 k0 (by assumption) j0 (by assumption) (by assumption)))
      | (refine af ?_; symm; exact zX q0 (by assumption) (Jl (by assumption)))
      | (refine af ?_; symm; exact zX q0 (by assumption) (Jm (by assumption)))
      | (refine af ?_; symm; exact FE f0 (by assumption) (by assumption))
      | (refine af ?_; symm; exact Ke t2 t0 (by assumption) (by assumption))
      | (refine af ?_; symm; exact FC t2 (by omega))
      | done)
  | omega
  | (refine ⟨by omega, by omega, (Rw.eta (by first | assumption | exact Rw.sub (by first | assumption | exact Rw.sub (by assumption) (by omega) rfl) (by omega) rfl) (by omega) (by omega)).trans ?_⟩; rfl)
  | (show au _ _ = true; kernel_rfl)
  | exact ⟨hsw, hlw⟩
  | exact ⟨hsw, hlw, hsl, hll⟩
  | exact N.m
  | exact rP hfr f0 (by assumption)
  | exact rP hlr t0 (by assumption)
  | (refine ⟨by omega, by omega, Eq.trans (Rw.eta (fs := [.sl [tI]]) w6.w (by omega) (by omega)) ?_⟩; rfl)
  | exact HJ j2 i0 (by assumption) k0 (by assumption) j0 (by assumption) hcl (by assumption)
  | exact HK j2 k0 j1 (by omega)
  | exact HI k2 i0 k1 (by omega)
  | exact Kb k2
  | exact Kc i2
  | exact Ka
  | exact Kj i2 i1 (by omega)
  | exact H2 q2 q0 (by assumption) hcl hql (KQ (by assumption) (by omega))
  | exact J9 q2 q1 (by omega)
  | exact HH f2 f0 (by assumption) hcl hql hfl (by assumption)
  | exact Kf f2 f1 (by omega)
  | exact HN p2 p0 (by assumption) hcl hql hol hfl
  | exact Kd p2 p1 (by omega)
  | exact HM t2 (by assumption)
  | (show (lk _ _).isSome = true; kernel_rfl)
  | exact Int.natCast_nonneg _
  | exact ⟨True.intro, True.intro⟩
  | exact True.intro
  | done
namespace Oa3
structure Fns where
 hlB : List (List L) -> List (List L) -> Int -> Int -> Bool
 ifL : List (List L) -> List (List L) -> List (List L)
 laL : List (List L) -> List (List L) -> List (List L)
 hasB : List (List L) -> Int -> Bool
def F0 : Fns := ⟨hlB, ifL, laL, hasB⟩
def ct (F : Fns) : CT := fun f ds => match f, ds with
 | 207, [.agg [.s 1 a0, .s 1 a1, .s 2 a2, .v (.int .i64 a3), .s 1 a4, .s 2 a5, .s 3 a6, .s 3 a7, .s 4 a8, .s 1 a9, .s 1 a10, .s 1 a11, .v (.int .i64 a12), .s 3 a13, .v (.int .i64 a14), .v (.int .i64 a15), .v (.int .i64 a16), .v (.int .i64 a17), .v (.bool a18), .v (.int .i64 a19), .v (.int .i64 a20), .s 1 a21, .v (.int .i64 a22), .v (.int .i64 a23)], .one (.v (.int .i64 ad)), .one (.v (.int .i64 k))] => some (fun _ => sd a6 a7 a8 a9 a10 a11 a13 /\ layOk a6 a7 = true /\ -9223372036854775808 <= ad /\ ad <= 9223372036854775807, [.one (.v (.bool (F.hlB a6 a7 ad k)))])
 | 90, [.agg [.s 1 b, .s 1 x]] => some (fun _ => tZ b x, [.one (.s 1 (F.ifL b x))])
 | 208, [.one (.s 3 sp), .one (.s 3 lg)] => some (fun _ => Rw [tI, tI, tI] sp /\ Rw [tI, tI, tI] lg /\ sp.length <= 1073741824 /\ lg.length <= 1073741824, [.one (.s 1 (F.laL sp lg))])
 | 201, [.one (.s 1 l), .one (.v (.int .i64 x))] => some (fun _ => Rw [tI] l, [.one (.v (.bool (F.hasB l x)))])
 | _, _ => none
theorem am : aV Tryz.prog (ct F0) := by
 intro f ds pre res h hp;unfold ct at h;split at h <;> (try split at h) <;> cases h
 exact pe _ _ _ _ _ _ _ _ _ _ _ _ _ _ _ _ _ _ _ _ _ _ _ _ _ _ hp;exact ni _ _ hp;exact kX _ _ hp;exact dT _ _ hp
def B : TB Tryz.prog := tb am
end Oa3
theorem pd (a0 a1 a2 : List (List L)) (a3 : Int) (a4 a5 a6 a7 a8 a9 a10 a11 : List (List L)) (a12 : Int) (a13 : List (List L)) (a14 a15 a16 a17 : Int) (a18 : Bool) (a19 a20 : Int) (a21 : List (List L)) (a22 a23 : Int) (hp : sd a6 a7 a8 a9 a10 a11 a13 /\ layOk a6 a7 = true) : aO Tryz.prog 128 [.agg [.s 1 a0, .s 1 a1, .s 2 a2, .v (.int .i64 a3), .s 1 a4, .s 2 a5, .s 3 a6, .s 3 a7, .s 4 a8, .s 1 a9, .s 1 a10, .s 1 a11, .v (.int .i64 a12), .s 3 a13, .v (.int .i64 a14), .v (.int .i64 a15), .v (.int .i64 a16), .v (.int .i64 a17), .v (.bool a18), .v (.int .i64 a19), .v (.int .i64 a20), .s 1 a21, .v (.int .i64 a22), .v (.int .i64 a23)]] [.one (.v (.bool (hoS a6 a7 a8 a9 a10 a11 a13)))] := by
 obtain ⟨N, hlay⟩ := hp;have hsw := N.sw; have hlw := N.lw; have hsl := N.sl; have hll := N.ll; have how := N.ow; have hol := N.ol; have hcw := N.cw; have hcl := N.cl; have hqw := N.qw; have hql := N.ql; have hcc := N.c;have hlc := iH (es := a9);have hfr := Aj N.m;have hfl := vX (b := a10) (x := a11);refine aj Oa3.B ai mixed 159 _ [4] [.tmp 2] Tryz.func128 rfl rfl rfl rfl rfl ?_;intro O r (F : Oa3.Fns) hO hr (hF : F = Oa3.F0);cbv
 repeat' first | refine And.intro ?_ ?_ | (refine aK (fun hb => ?_) (fun hb => ?_) <;> cbv) | (refine ⟨[1, 3, 4], [1, 3], Int × List (List L), fun s_ => match s_ with | (i, o) => [.reg 4 (.one (.v (.int .i64 i))), .reg 3 (.one (.vw 3 0 0 0 (O.ln o))), .leaf 3 0 ⟨0, 0, none, .own (.s 1 o)⟩], fun s_ => match s_ with | (i, o) => 0 <= i /\ i <= (a8.length : Int) /\ Ff a8 i o, fun s_ => match s_ with | (i, o) => a8.length - i.toNat, ⟨(0, []), ?_, ?_⟩, ?_⟩; rotate_left; (focus (cbv; done)); intro s_ hi; obtain ⟨i, o⟩ := s_; replace hi : 0 <= i /\ i <= (a8.length : Int) /\ Ff a8 i o := hi; obtain ⟨i0, i1, i2⟩ := hi; cbv) | (refine ⟨[1, 3, 5], [1, 3], Int × List (List L), fun s_ => match s_ with | (j, o1) => [.reg 5 (.one (.v (.int .i64 j))), .reg 3 (.one (.vw 3 0 0 0 (O.ln o1))), .leaf 3 0 ⟨0, 0, none, .own (.s 1 o1)⟩], fun s_ => match s_ with | (j, o1) => 0 <= j /\ j <= (a9.length : Int) /\ G8 a6 a7 a8 a9 j o1, fun s_ => match s_ with | (j, o1) => a9.length - j.toNat, ⟨(0, o), ?_, ?_⟩, ?_⟩; rotate_left; (focus (cbv; done)); intro s_ hj; obtain ⟨j, o1⟩ := s_; replace hj : 0 <= j /\ j <= (a9.length : Int) /\ G8 a6 a7 a8 a9 j o1 := hj; obtain ⟨j0, j1, j2⟩ := hj; cbv) | (refine ⟨[1, 3, 5, 6], [1, 3], Int × List (List L), fun s_ => match s_ with | (k, o2) => [.reg 6 (.one (.v (.int .i64 k))), .reg 3 (.one (.vw 3 0 0 0 (O.ln o2))), .leaf 3 0 ⟨0, 0, none, .own (.s 1 o2)⟩], fun s_ => match s_ with | (k, o2) => 0 <= k /\ k <= ((ay a9 j 0).length : Int) /\ G9 a6 a7 a8 a9 j k o2, fun s_ => match s_ with | (k, o2) => (ay a9 j 0).length - k.toNat, ⟨(0, o1), ?_, ?_⟩, ?_⟩; rotate_left; (focus (cbv; done)); intro s_ hk; obtain ⟨k, o2⟩ := s_; replace hk : 0 <= k /\ k <= ((ay a9 j 0).length : Int) /\ G9 a6 a7 a8 a9 j k o2 := hk; obtain ⟨k0, k1, k2⟩ := hk; cbv) | (refine ⟨[1, 3, 5, 6, 7, 8], [1, 3], Int × List (List L), fun s_ => match s_ with | (m, o3) => [.reg 8 (.one (.v (.int .i64 m))), .reg 3 (.one (.vw 3 0 0 0 (O.ln o3))), .leaf 3 0 ⟨0, 0, none, .own (.s 1 o3)⟩], fun s_ => match s_ with | (m, o3) => 0 <= m /\ m <= ((ay (ay a9 j 0) k 0).length : Int) /\ Fg a6 a7 a8 a9 j k m o3, fun s_ => match s_ with | (m, o3) => (ay (ay a9 j 0) k 0).length - m.toNat, ⟨(0, o2), ?_, ?_⟩, ?_⟩; rotate_left; (focus (cbv; done)); intro s_ hm; obtain ⟨m, o3⟩ := s_; replace hm : 0 <= m /\ m <= ((ay (ay a9 j 0) k 0).length : Int) /\ Fg a6 a7 a8 a9 j k m o3 := hm; obtain ⟨m0, m1, m2⟩ := hm; cbv) | (refine ⟨[1, 3, 9], [1, 3], Int × List (List L), fun s_ => match s_ with | (q, o4) => [.reg 9 (.one (.v (.int .i64 q))), .reg 3 (.one (.vw 3 0 0 0 (O.ln o4))), .leaf 3 0 ⟨0, 0, none, .own (.s 1 o4)⟩], fun s_ => match s_ with | (q, o4) => 0 <= q /\ q <= (a13.length : Int) /\ Fh a6 a7 a8 a9 a13 q o4, fun s_ => match s_ with | (q, o4) => a13.length - q.toNat, ⟨(0, o1), ?_, ?_⟩, ?_⟩; rotate_left; (focus (cbv; done)); intro s_ hq; obtain ⟨q, o4⟩ := s_; replace hq : 0 <= q /\ q <= (a13.length : Int) /\ Fh a6 a7 a8 a9 a13 q o4 := hq; obtain ⟨q0, q1, q2⟩ := hq; cbv) | (refine ⟨[1, 3, 10, 11], [1, 3, 10], Int × List (List L), fun s_ => match s_ with | (f, o5) => [.reg 11 (.one (.v (.int .i64 f))), .reg 3 (.one (.vw 3 0 0 0 (O.ln o5))), .leaf 3 0 ⟨0, 0, none, .own (.s 1 o5)⟩], fun s_ => match s_ with | (f, o5) => 0 <= f /\ f <= ((ifL a10 a11).length : Int) /\ Fi a6 a7 a8 a9 a13 (ifL a10 a11) f o5, fun s_ => match s_ with | (f, o5) => (ifL a10 a11).length - f.toNat, ⟨(0, o4), ?_, ?_⟩, ?_⟩; rotate_left; (focus (cbv; done)); intro s_ hf; obtain ⟨f, o5⟩ := s_; replace hf : 0 <= f /\ f <= ((ifL a10 a11).length : Int) /\ Fi a6 a7 a8 a9 a13 (ifL a10 a11) f o5 := hf; obtain ⟨f0, f1, f2⟩ := hf; cbv) | (refine ⟨[1, 3, 12], [1, 3], Int, fun t => [.reg 12 (.one (.v (.int .i64 t)))], fun t => 0 <= t /\ t <= (o5.length : Int) /\ Cj a6 a7 a8 a9 a13 (ifL a10 a11) t o5, fun t => o5.length - t.toNat, ⟨0, ?_, ?_⟩, ?_⟩; rotate_left; (focus (cbv; done)); intro t ht; replace ht : 0 <= t /\ t <= (o5.length : Int) /\ Cj a6 a7 a8 a9 a13 (ifL a10 a11) t o5 := ht; obtain ⟨t0, t1, t2⟩ := ht; cbv) | (refine aa (O.ar .add .i64 m 1, O.cat o3 (O.sub [[.v (.int .i64 (O.gi (O.gs (O.gs a9 j 0) k 0) m 0))]] 0 (O.ln [[.v (.int .i64 (O.gi (O.gs (O.gs a9 j 0) k 0) m 0))]]))) ?_ ?_ ?_; rotate_left 2; focus (cbv; done)) | (refine aa (O.ar .add .i64 k 1, o3) ?_ ?_ ?_; rotate_left 2; focus (cbv; done)) | (refine aa (O.ar .add .i64 j 1, o2) ?_ ?_ ?_; rotate_left 2; focus (cbv; done)) | (refine aa (O.ar .add .i64 t 1) ?_ ?_ ?_; rotate_left 2; focus (cbv; done)) | (refine aa (O.ar .add .i64 f 1, O.cat o5 (O.sub [[.v (.int .i64 (O.pi (.s 1 (F.ifL a10 a11)) [(O.ad 0 f, 0)]))]] 0 (O.ln [[.v (.int .i64 (O.pi (.s 1 (F.ifL a10 a11)) [(O.ad 0 f, 0)]))]]))) ?_ ?_ ?_; rotate_left 2; focus (cbv; done)) | (refine aa (O.ar .add .i64 q 1, O.cat o4 (O.sub [[.v (.int .i64 (O.gi a13 q 0))]] 0 (O.ln [[.v (.int .i64 (O.gi a13 q 0))]]))) ?_ ?_ ?_; rotate_left 2; focus (cbv; done)) | (refine aa (O.ar .add .i64 i 1, O.cat o (O.sub [[.v (.int .i64 (O.gi a8 i 1))]] 0 (O.ln [[.v (.int .i64 (O.gi a8 i 1))]]))) ?_ ?_ ?_; rotate_left 2; focus (cbv; done))
 all_goals (subst hO hr hF; (try simp only [ah, SS, sa, az] at *); (try simp only [nc] at *); (try simp only [aF] at *))
 all_goals (try simp only [Oa3.F0] at *)
 all_goals try rw [bK (by omega) (by omega)]
 all_goals (try simp only [lr f0] at *)
 all_goals (try simp only [lr t0] at *)
 all_goals (try simp only [qa] at *)
 all_goals (try have w6 := hcc.n j j0 (by assumption))
 all_goals (try have w7 := w6.el k0 (by assumption))
 all_goals (try have w8 := w7.1)
 all_goals (try have z6 : bu .add .i64 k 1 = k + 1 := bG (by have := w6.l; omega))
 all_goals (try simp only [z6] at *)
 all_goals (try have z7 : bu .add .i64 m 1 = m + 1 := bG (by have := w7.2; omega))
 all_goals (try simp only [z7] at *)
 all_goals (try have w1 := KT (by assumption))
 all_goals (try have w4 := KX m2 j0 (by assumption) k0 (by assumption) m0 (by omega) hcl hol)
 all_goals (try have w5 := KZ q2 (by omega) hcl hol hql)
 all_goals (try have w9 := K1 f2 (by omega) hcl hol hql hfl)
 all_goals (try have wa := Jy t2 hcl hol hql hfl)
 all_goals (try have wb := Jz N t2)
 all_goals (try have z8 : bu .add .i64 t 1 = t + 1 := bG (by omega))
 all_goals (try simp only [z8] at *)
 all_goals first
  | (show (_ : List DV) = _
     first
      | (refine af ?_; symm; exact FG j0 (by assumption) (H3 k0 (by assumption) m0 (by assumption) (by assumption)))
      | (refine af ?_; symm; exact FH q0 (by assumption) (by assumption))
      | (refine af ?_; symm; exact FI f0 (by assumption) (by assumption))
      | (refine af ?_; symm; exact K3 t2 t0 (by assumption) (by assumption))
      | (refine af ?_; rw [cmp_eq]; exact GJ t2 (by omega))
      | done)
  | omega
  | (refine ⟨by omega, by omega, (Rw.eta (by first | assumption | exact Rw.sub (by first | assumption | exact Rw.sub (by assumption) (by omega) rfl) (by omega) rfl) (by omega) (by omega)).trans ?_⟩; rfl)
  | (show au _ _ = true; kernel_rfl)
  | exact ⟨hsw, hlw, hsl, hll⟩
  | exact N.m
  | exact ⟨N, hlay, rJ (fs := [tI]) w8 rfl (by omega)⟩
  | exact ⟨N, hlay, rJ hqw rfl (by omega)⟩
  | exact ⟨N, hlay, rJ hfr rfl (by omega)⟩
  | exact wb _
  | exact rP hfr f0 (by assumption)
  | exact rP (by have q := wb o5.length; rwa [List.take_length] at q) t0 (by assumption)
  | (refine ⟨by omega, by omega, Eq.trans (Rw.eta (fs := [.sl [tI]]) w6.w (by omega) (by omega)) ?_⟩; rfl)
  | exact scal_one
  | (constructor <;> (simp only [List.length_cons, List.length_nil]; omega))
  | exact Jv m2 m0 (by assumption)
  | exact Ju m2 k0 m1 (by omega)
  | exact Jt k2 j0 k1 (by omega)
  | exact KW k2
  | exact KV j2
  | exact KU i2 i1 (by omega)
  | exact Js i2 i0
  | exact KS
  | exact KY j2 j1 (by omega)
  | exact Jw q2 q0 (by assumption)
  | exact K0 q2 q1 (by omega)
  | exact Jx f2 f0 (by assumption)
  | exact K2 f2 f1 (by omega)
  | exact JA t2 t0 (by assumption) (by assumption)
  | exact Int.natCast_nonneg _
  | exact ⟨True.intro, True.intro⟩
  | exact True.intro
  | done
end Go.V