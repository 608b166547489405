/-
  Contracts, by evaluation.
-/import Derived.Test.YticfhgfgobafbaaGreatS9
import Derived.Test.YticfhgfgobafbaaGreatHB
import Derived.Test.YticfhgfgobafbaaGreatLayNm
set_option linter.all false
namespace Go.V
open Go Go.Proofs
set_option maxRecDepth 1000000
set_option maxHeartbeats 8000000
namespace Oa1
structure Fns where
 dnK : List (List L) -> List (List L) -> Int -> Int
 dnI : List (List L) -> List (List L) -> Int -> Int
 dnS : List (List L) -> Int -> Int
 dnO : List (List L) -> List (List L) -> Int -> Int
 dzK : List (List L) -> List (List L) -> Int -> Int
 dzI : List (List L) -> List (List L) -> Int -> Int
 dzS : List (List L) -> List (List L) -> Int -> Int
 dzO : List (List L) -> List (List L) -> Int -> Int
def F0 : Fns := ⟨dnK, dnI, dnS, dnO, dzK, dzI, dzS, dzO⟩
def ct (F : Fns) : CT := fun f ds => match f with
 | 166 => match ds with
   | [.one (.s 3 sp), .one (.s 3 lg), .one (.v (.int .i64 a))] => some (fun _ => Rw [tI, tI, tI] sp /\ Rw [tI, tI, tI] lg, [.agg [.v (.int .i64 (F.dnK sp lg a)), .v (.int .i64 (F.dnI sp lg a)), .v (.int .i64 (F.dnS sp a)), .v (.int .i64 (F.dnO sp lg a))]])
   | _ => none
 | 97 => match ds with
   | [.one (.s 3 sp), .one (.s 3 lg), .one (.v (.int .i64 a))] => some (fun _ => Rw [tI, tI, tI] sp /\ Rw [tI, tI, tI] lg /\ sp.length <= 1073741824 /\ lg.length <= 1073741824 /\ -9223372036854775808 <= a /\ a <= 9223372036854775807, [.agg [.v (.int .i64 (F.dzK sp lg a)), .v (.int .i64 (F.dzI sp lg a)), .v (.int .i64 (F.dzS sp lg a)), .v (.int .i64 (F.dzO sp lg a))]])
   | _ => none
 | _ => none
theorem ct_ok : CTok Tryz.prog (ct F0) := by
 intro f ds pre res h hp
 unfold ct at h
 split at h <;> (try split at h) <;> cases h
 exact c_impl_denotes _ _ _ hp
 exact c_spec_Denotes _ _ _ hp
def B : TB Tryz.prog := tb ct_ok
end Oa1
theorem c_impl_holdersOk_1 (ad k : Int) (es a0 a1 a2 : List (List L)) (a3 : Int) (a4 a5 a6 a7 a8 a9 a10 a11 : List (List L)) (a12 : Int) (a13 : List (List L)) (a14 a15 a16 a17 : Int) (a18 : Bool) (a19 a20 : Int) (a21 : List (List L)) (a22 a23 : Int) (hp : Rw [tI, tI, tI] a6 /\ Rw [tI, tI, tI] a7) : PCtr Tryz.prog 168 [.one (.v (.int .i64 ad)), .one (.v (.int .i64 k)), .mp [.own (.m false es)], .mp [.ro (.s 1 a0), .ro (.s 1 a1), .ro (.s 2 a2), .own (.v (.int .i64 a3)), .ro (.s 1 a4), .ro (.s 2 a5), .ro (.s 3 a6), .ro (.s 3 a7), .ro (.s 4 a8), .ro (.s 1 a9), .ro (.s 1 a10), .ro (.s 1 a11), .own (.v (.int .i64 a12)), .ro (.s 3 a13), .own (.v (.int .i64 a14)), .own (.v (.int .i64 a15)), .own (.v (.int .i64 a16)), .own (.v (.int .i64 a17)), .own (.v (.bool a18)), .own (.v (.int .i64 a19)), .own (.v (.int .i64 a20)), .ro (.s 1 a21), .own (.v (.int .i64 a22)), .own (.v (.int .i64 a23))]] [[.own (.m false (huI es ad))], [.ro (.s 1 a0), .ro (.s 1 a1), .ro (.s 2 a2), .own (.v (.int .i64 a3)), .ro (.s 1 a4), .ro (.s 2 a5), .ro (.s 3 a6), .ro (.s 3 a7), .ro (.s 4 a8), .ro (.s 1 a9), .ro (.s 1 a10), .ro (.s 1 a11), .own (.v (.int .i64 a12)), .ro (.s 3 a13), .own (.v (.int .i64 a14)), .own (.v (.int .i64 a15)), .own (.v (.int .i64 a16)), .own (.v (.int .i64 a17)), .own (.v (.bool a18)), .own (.v (.int .i64 a19)), .own (.v (.int .i64 a20)), .ro (.s 1 a21), .own (.v (.int .i64 a22)), .own (.v (.int .i64 a23))]] [.one (.v (.bool (hlB a6 a7 ad k)))] := by
 obtain ⟨hsw, hlw⟩ := hp
 refine pctr_b Oa1.B tabOk mixed 41 _ [4] [.tmp 6] Tryz.func168 rfl rfl rfl rfl rfl rfl rfl ?_
 intro O r os (F : Oa1.Fns) hO hr hos (hF : F = Oa1.F0)
 cbv
 repeat' first | refine And.intro ?_ ?_ | (refine cbi (fun hb => ?_) (fun hb => ?_) <;> cbv)
 all_goals ((try subst hos); subst hO hr hF; (try simp only [stdO, SS, sa, az] at *); (try simp only [nc] at *); (try simp only [onc] at *))
 all_goals (try simp only [Oa1.F0] at *)
 all_goals (try have d1 := fun h => dn_i1 (sp := a6) (lg := a7) (a := ad) h)
 all_goals first | (show (_ : List DV) = _; refine db_eq ?_; unfold hlB; simp [*]; done) | (show (_ : List DV) = _; refine db_eq ?_; unfold hlB; rw [decide_eq_false (p := k < 0) (by omega), cmp_eq]; simp [*]; done) | (show (_ : List H) = _; exact rfl) | exact ⟨hsw, hlw⟩ | exact True.intro | (have e := d1 (by assumption); omega) | (have e := d1 (by assumption); (refine ⟨by omega, by omega, (Rw.eta (by first | assumption | exact Rw.sub (by first | assumption | exact Rw.sub (by assumption) (by omega) rfl) (by omega) rfl) (by omega) (by omega)).trans ?_⟩; rfl)) | (show okOrder _ _ = true; kernel_rfl) | done
theorem c_spec_l27Slot (a0 a1 a2 : List (List L)) (a3 : Int) (a4 a5 a6 a7 a8 a9 a10 a11 : List (List L)) (a12 : Int) (a13 : List (List L)) (a14 a15 a16 a17 : Int) (a18 : Bool) (a19 a20 : Int) (a21 : List (List L)) (a22 a23 ad k : Int) (hp : NsH a6 a7 a8 a9 a10 a11 a13 /\ layOk a6 a7 = true /\ -9223372036854775808 <= ad /\ ad <= 9223372036854775807) : Ctr Tryz.prog 148 [.agg [.s 1 a0, .s 1 a1, .s 2 a2, .v (.int .i64 a3), .s 1 a4, .s 2 a5, .s 3 a6, .s 3 a7, .s 4 a8, .s 1 a9, .s 1 a10, .s 1 a11, .v (.int .i64 a12), .s 3 a13, .v (.int .i64 a14), .v (.int .i64 a15), .v (.int .i64 a16), .v (.int .i64 a17), .v (.bool a18), .v (.int .i64 a19), .v (.int .i64 a20), .s 1 a21, .v (.int .i64 a22), .v (.int .i64 a23)], .one (.v (.int .i64 ad)), .one (.v (.int .i64 k))] [.one (.v (.bool (hlB a6 a7 ad k)))] := by
 obtain ⟨N, hlay, ad0, ad1⟩ := hp
 have hsw := N.sw; have hlw := N.lw; have hsl := N.sl; have hll := N.ll
 refine ctr_b Oa1.B tabOk mixed 37 _ [4] [.tmp 6] Tryz.func148 rfl rfl rfl rfl rfl ?_
 intro O r (F : Oa1.Fns) hO hr (hF : F = Oa1.F0)
 cbv
 repeat' first | refine And.intro ?_ ?_ | (refine cbi (fun hb => ?_) (fun hb => ?_) <;> cbv)
 all_goals (subst hO hr hF; (try simp only [stdO, SS, sa, az] at *); (try simp only [nc] at *); (try simp only [onc] at *))
 all_goals (try simp only [Oa1.F0] at *)
 all_goals (try simp only [dz_t1 hlay, dz_t2 hlay, dz_t3 hlay] at *)
 all_goals (try have d1 := fun h => dn_i1 (sp := a6) (lg := a7) (a := ad) h)
 all_goals first | (show (_ : List DV) = _; refine db_eq ?_; unfold hlB; simp [*]; done) | (show (_ : List DV) = _; refine db_eq ?_; unfold hlB; rw [decide_eq_false (p := k < 0) (by omega), cmp_eq]; simp [*]; done) | exact ⟨hsw, hlw, hsl, hll, ad0, ad1⟩ | exact True.intro | (have e := d1 (by assumption); omega) | (have e := d1 (by assumption); (refine ⟨by omega, by omega, (Rw.eta (by first | assumption | exact Rw.sub (by first | assumption | exact Rw.sub (by assumption) (by omega) rfl) (by omega) rfl) (by omega) (by omega)).trans ?_⟩; rfl)) | (show okOrder _ _ = true; kernel_rfl) | done
namespace Oa2
structure Fns where
 hlB : List (List L) -> List (List L) -> Int -> Int -> Bool
 huI : List (List L) -> Int -> List (List L)
 ifL : List (List L) -> List (List L) -> List (List L)
 iaL : List (List L) -> List (List L) -> List (List L)
def F0 : Fns := ⟨hlB, huI, ifL, iaL⟩
def ct (F : Fns) : CT := fun f ds => match f with
 | 37 => match ds with
   | [.agg [.s 1 b, .s 1 x]] => some (fun _ => NsM b x, [.one (.s 1 (F.ifL b x))])
   | _ => none
 | 38 => match ds with
   | [.one (.s 3 sp), .one (.s 3 lg)] => some (fun _ => Rw [tI, tI, tI] sp /\ Rw [tI, tI, tI] lg /\ sp.length <= 1073741824 /\ lg.length <= 1073741824, [.one (.s 1 (F.iaL sp lg))])
   | _ => none
 | _ => none
theorem ct_ok : CTok Tryz.prog (ct F0) := by
 intro f ds pre res h hp
 unfold ct at h
 split at h <;> (try split at h) <;> cases h
 exact c_impl_InFlight _ _ hp
 exact c_impl_LiveAddrs _ _ hp
def pt (F : Fns) : PT := fun f => match f with
 | 168 => some fun ds => match ds with
   | [.one (.v (.int .i64 ad)), .one (.v (.int .i64 k)), .mp [.own (.m false es)], .mp [.ro (.s 1 a0), .ro (.s 1 a1), .ro (.s 2 a2), .own (.v (.int .i64 a3)), .ro (.s 1 a4), .ro (.s 2 a5), .ro (.s 3 a6), .ro (.s 3 a7), .ro (.s 4 a8), .ro (.s 1 a9), .ro (.s 1 a10), .ro (.s 1 a11), .own (.v (.int .i64 a12)), .ro (.s 3 a13), .own (.v (.int .i64 a14)), .own (.v (.int .i64 a15)), .own (.v (.int .i64 a16)), .own (.v (.int .i64 a17)), .own (.v (.bool a18)), .own (.v (.int .i64 a19)), .own (.v (.int .i64 a20)), .ro (.s 1 a21), .own (.v (.int .i64 a22)), .own (.v (.int .i64 a23))]] => some (fun _ => Rw [tI, tI, tI] a6 /\ Rw [tI, tI, tI] a7, [[.own (.m false (F.huI es ad))], [.ro (.s 1 a0), .ro (.s 1 a1), .ro (.s 2 a2), .own (.v (.int .i64 a3)), .ro (.s 1 a4), .ro (.s 2 a5), .ro (.s 3 a6), .ro (.s 3 a7), .ro (.s 4 a8), .ro (.s 1 a9), .ro (.s 1 a10), .ro (.s 1 a11), .own (.v (.int .i64 a12)), .ro (.s 3 a13), .own (.v (.int .i64 a14)), .own (.v (.int .i64 a15)), .own (.v (.int .i64 a16)), .own (.v (.int .i64 a17)), .own (.v (.bool a18)), .own (.v (.int .i64 a19)), .own (.v (.int .i64 a20)), .ro (.s 1 a21), .own (.v (.int .i64 a22)), .own (.v (.int .i64 a23))]], [.one (.v (.bool (F.hlB a6 a7 ad k)))])
   | _ => none
 | _ => none
theorem pt_ok : PTok Tryz.prog (pt F0) := by
 intro f mk h ds pre outs res hm hp
 unfold pt at h
 split at h
 ·cases h; dsimp only at hm; split at hm
  ·cases hm; exact c_impl_holdersOk_1 _ _ _ _ _ _ _ _ _ _ _ _ _ _ _ _ _ _ _ _ _ _ _ _ _ _ _ hp
  ·cases hm
 ·cases h
def B : TB Tryz.prog := {Φ := Fns, F0 := F0, ct := ct, hc := ct_ok, pt := pt, hp := pt_ok}
end Oa2
theorem c_impl_holdersOk (a0 a1 a2 : List (List L)) (a3 : Int) (a4 a5 a6 a7 a8 a9 a10 a11 : List (List L)) (a12 : Int) (a13 : List (List L)) (a14 a15 a16 a17 : Int) (a18 : Bool) (a19 a20 : Int) (a21 : List (List L)) (a22 a23 : Int) (hp : NsH a6 a7 a8 a9 a10 a11 a13 /\ layOk a6 a7 = true) : Ctr Tryz.prog 85 [.agg [.s 1 a0, .s 1 a1, .s 2 a2, .v (.int .i64 a3), .s 1 a4, .s 2 a5, .s 3 a6, .s 3 a7, .s 4 a8, .s 1 a9, .s 1 a10, .s 1 a11, .v (.int .i64 a12), .s 3 a13, .v (.int .i64 a14), .v (.int .i64 a15), .v (.int .i64 a16), .v (.int .i64 a17), .v (.bool a18), .v (.int .i64 a19), .v (.int .i64 a20), .s 1 a21, .v (.int .i64 a22), .v (.int .i64 a23)]] [.one (.v (.bool (hoI a6 a7 a8 a9 a10 a11 a13 a15)))] := by
 obtain ⟨N, hlay⟩ := hp
 have hsw := N.sw; have hlw := N.lw; have hsl := N.sl; have hll := N.ll; have how := N.ow; have hol := N.ol; have hcw := N.cw; have hcl := N.cl; have hqw := N.qw; have hql := N.ql; have hcc := N.c
 have hlc := len_cnt (es := a9)
 have hfr := if_rw N.m
 have hfl := if_len (b := a10) (x := a11)
 have hlr := la_rw (sp := a6) (lg := a7)
 have hla := la_len (sp := a6) (lg := a7)
 refine ctr_b Oa2.B tabOk mixed 114 _ [4] [.tmp 2] Tryz.func85 rfl rfl rfl rfl rfl ?_
 intro O r (F : Oa2.Fns) hO hr (hF : F = Oa2.F0)
 cbv
 repeat' first | refine And.intro ?_ ?_ | (refine cbi (fun hb => ?_) (fun hb => ?_) <;> cbv) | (refine ⟨[1, 3, 4, 22, 23, 24], [1, 3], Int × List (List L), fun s_ => match s_ with | (i, es) => [.reg 24 (.one (.v (.int .i64 i))), .leaf 3 0 ⟨0, 0, none, .own (.m false es)⟩], fun s_ => match s_ with | (i, es) => 0 <= i /\ i <= (a9.length : Int) /\ HiP a6 a7 a9 i es, fun s_ => match s_ with | (i, es) => a9.length - i.toNat, ⟨(0, []), ?_, ?_⟩, ?_⟩; rotate_left; (focus (cbv; done)); intro s_ hi; obtain ⟨i, es⟩ := s_; replace hi : 0 <= i /\ i <= (a9.length : Int) /\ HiP a6 a7 a9 i es := hi; obtain ⟨i0, i1, i2⟩ := hi; cbv) | (refine ⟨[1, 3, 4, 22, 23, 24, 29, 30, 31], [1, 3], Int × List (List L), fun s_ => match s_ with | (k, es1) => [.reg 31 (.one (.v (.int .i64 k))), .leaf 3 0 ⟨0, 0, none, .own (.m false es1)⟩], fun s_ => match s_ with | (k, es1) => 0 <= k /\ k <= ((gsI a9 i 0).length : Int) /\ HkP a6 a7 a9 i k es1, fun s_ => match s_ with | (k, es1) => (gsI a9 i 0).length - k.toNat, ⟨(0, es), ?_, ?_⟩, ?_⟩; rotate_left; (focus (cbv; done)); intro s_ hk; obtain ⟨k, es1⟩ := s_; replace hk : 0 <= k /\ k <= ((gsI a9 i 0).length : Int) /\ HkP a6 a7 a9 i k es1 := hk; obtain ⟨k0, k1, k2⟩ := hk; cbv) | (refine ⟨[1, 3, 4, 7, 22, 23, 24, 29, 30, 31, 36, 37, 38], [1, 3], Int × List (List L), fun s_ => match s_ with | (j, es2) => [.reg 38 (.one (.v (.int .i64 j))), .leaf 3 0 ⟨0, 0, none, .own (.m false es2)⟩], fun s_ => match s_ with | (j, es2) => 0 <= j /\ j <= ((gsI (gsI a9 i 0) k 0).length : Int) /\ HjP a6 a7 a9 i k j es2, fun s_ => match s_ with | (j, es2) => (gsI (gsI a9 i 0) k 0).length - j.toNat, ⟨(0, es1), ?_, ?_⟩, ?_⟩; rotate_left; (focus (cbv; done)); intro s_ hj; obtain ⟨j, es2⟩ := s_; replace hj : 0 <= j /\ j <= ((gsI (gsI a9 i 0) k 0).length : Int) /\ HjP a6 a7 a9 i k j es2 := hj; obtain ⟨j0, j1, j2⟩ := hj; cbv) | (refine ⟨[1, 3, 4, 52, 53, 54], [1, 3], Int × List (List L), fun s_ => match s_ with | (q, es3) => [.reg 54 (.one (.v (.int .i64 q))), .leaf 3 0 ⟨0, 0, none, .own (.m false es3)⟩], fun s_ => match s_ with | (q, es3) => 0 <= q /\ q <= (a13.length : Int) /\ HqP a6 a7 a9 a13 a15 q es3, fun s_ => match s_ with | (q, es3) => a13.length - q.toNat, ⟨(0, es), ?_, ?_⟩, ?_⟩; rotate_left; (focus (cbv; done)); intro s_ hq; obtain ⟨q, es3⟩ := s_; replace hq : 0 <= q /\ q <= (a13.length : Int) /\ HqP a6 a7 a9 a13 a15 q es3 := hq; obtain ⟨q0, q1, q2⟩ := hq; cbv) | (refine ⟨[1, 3, 4, 75, 76, 77], [1, 3, 75], Int × List (List L), fun s_ => match s_ with | (f, es4) => [.reg 77 (.one (.v (.int .i64 f))), .leaf 3 0 ⟨0, 0, none, .own (.m false es4)⟩], fun s_ => match s_ with | (f, es4) => 0 <= f /\ f <= ((ifL a10 a11).length : Int) /\ HfP a6 a7 a9 a13 (ifL a10 a11) a15 f es4, fun s_ => match s_ with | (f, es4) => (ifL a10 a11).length - f.toNat, ⟨(0, es3), ?_, ?_⟩, ?_⟩; rotate_left; (focus (cbv; done)); intro s_ hf; obtain ⟨f, es4⟩ := s_; replace hf : 0 <= f /\ f <= ((ifL a10 a11).length : Int) /\ HfP a6 a7 a9 a13 (ifL a10 a11) a15 f es4 := hf; obtain ⟨f0, f1, f2⟩ := hf; cbv) | (refine ⟨[1, 3, 87, 88, 89], [1, 3], Int × List (List L), fun s_ => match s_ with | (p, es5) => [.reg 89 (.one (.v (.int .i64 p))), .leaf 3 0 ⟨0, 0, none, .own (.m false es5)⟩], fun s_ => match s_ with | (p, es5) => 0 <= p /\ p <= (a8.length : Int) /\ HoP a6 a7 a8 a9 a13 (ifL a10 a11) a15 p es5, fun s_ => match s_ with | (p, es5) => a8.length - p.toNat, ⟨(0, es4), ?_, ?_⟩, ?_⟩; rotate_left; (focus (cbv; done)); intro s_ hp; obtain ⟨p, es5⟩ := s_; replace hp : 0 <= p /\ p <= (a8.length : Int) /\ HoP a6 a7 a8 a9 a13 (ifL a10 a11) a15 p es5 := hp; obtain ⟨p0, p1, p2⟩ := hp; cbv) | (refine ⟨[3, 103, 104, 105], [3, 103], Int × List (List L), fun s_ => match s_ with | (t, es6) => [.reg 105 (.one (.v (.int .i64 t))), .leaf 3 0 ⟨0, 0, none, .own (.m false es6)⟩], fun s_ => match s_ with | (t, es6) => 0 <= t /\ t <= ((iaL a6 a7).length : Int) /\ HlP a6 a7 a8 a9 a13 (ifL a10 a11) a15 t es6, fun s_ => match s_ with | (t, es6) => (iaL a6 a7).length - t.toNat, ⟨(0, es5), ?_, ?_⟩, ?_⟩; rotate_left; (focus (cbv; done)); intro s_ ht; obtain ⟨t, es6⟩ := s_; replace ht : 0 <= t /\ t <= ((iaL a6 a7).length : Int) /\ HlP a6 a7 a8 a9 a13 (ifL a10 a11) a15 t es6 := ht; obtain ⟨t0, t1, t2⟩ := ht; cbv) | (refine loop_step (O.ar .add .i64 j 1, F.huI es2 (O.gi (O.gs (O.gs a9 i 0) k 0) j 0)) ?_ ?_ ?_; rotate_left 2; focus (cbv; done)) | (refine loop_step (O.ar .add .i64 k 1, es2) ?_ ?_ ?_; rotate_left 2; focus (cbv; done)) | (refine loop_step (O.ar .add .i64 i 1, es1) ?_ ?_ ?_; rotate_left 2; focus (cbv; done)) | (refine loop_step (O.ar .add .i64 t 1, es6) ?_ ?_ ?_; rotate_left 2; focus (cbv; done)) | (refine loop_step (O.ar .add .i64 p 1, O.mu es5 (O.gi a8 p 1) (.v (.int .i64 (O.ar .add .i64 (O.mgi es5 (O.gi a8 p 1)) 1)))) ?_ ?_ ?_; rotate_left 2; focus (cbv; done)) | (refine loop_step (O.ar .add .i64 f 1, F.huI es4 (O.pi (.s 1 (F.ifL a10 a11)) [(O.ad 0 f, 0)])) ?_ ?_ ?_; rotate_left 2; focus (cbv; done)) | (refine loop_step (O.ar .add .i64 q 1, F.huI es3 (O.gi a13 q 0)) ?_ ?_ ?_; rotate_left 2; focus (cbv; done))
 all_goals (subst hO hr hF; (try simp only [stdO, SS, sa, az] at *); (try simp only [nc] at *); (try simp only [onc] at *))
 all_goals (try simp only [Oa2.F0] at *)
 all_goals try rw [up64 (by omega) (by omega)]
 all_goals (try simp only [pi_row f0] at *)
 all_goals (try simp only [pi_row t0, live_eq] at *)
 all_goals (try have z8 : arI .add .i64 t 1 = t + 1 := add64 (by omega))
 all_goals (try simp only [z8] at *)
 all_goals (try have w6 := hcc.n i i0 (by assumption))
 all_goals (try have w7 := w6.el k0 (by assumption))
 all_goals (try have w8 := w7.1)
 all_goals (try have z6 : arI .add .i64 k 1 = k + 1 := add64 (by have := w6.l; omega))
 all_goals (try simp only [z6] at *)
 all_goals (try have z7 : arI .add .i64 j 1 = j + 1 := add64 (by have := w7.2; omega))
 all_goals (try simp only [z7] at *)
 all_goals first
  | (show (_ : List DV) = _
     first
      | (refine db_eq ?_; symm; exact hoI_f1 i0 (by assumption) (iA_f k0 (by assumption) j0 (by assumption) (by assumption)))
      | (refine db_eq ?_; symm; exact hoI_f2 q0 (by assumption) (qs_f1 (by assumption)))
      | (refine db_eq ?_; symm; exact hoI_f2 q0 (by assumption) (qs_f2 (by assumption)))
      | (refine db_eq ?_; symm; exact hoI_f3 f0 (by assumption) (by assumption))
      | (refine db_eq ?_; symm; exact hl_f t2 t0 (by assumption) (by assumption))
      | (refine db_eq ?_; symm; exact hl_end t2 (by omega))
      | done)
  | omega
  | (refine ⟨by omega, by omega, (Rw.eta (by first | assumption | exact Rw.sub (by first | assumption | exact Rw.sub (by assumption) (by omega) rfl) (by omega) rfl) (by omega) (by omega)).trans ?_⟩; rfl)
  | (show okOrder _ _ = true; kernel_rfl)
  | exact ⟨hsw, hlw⟩
  | exact ⟨hsw, hlw, hsl, hll⟩
  | exact N.m
  | exact own1L hfr f0 (by assumption)
  | exact own1L hlr t0 (by assumption)
  | (refine ⟨by omega, by omega, Eq.trans (Rw.eta (fs := [.sl [tI]]) w6.w (by omega) (by omega)) ?_⟩; rfl)
  | exact hj_up j2 i0 (by assumption) k0 (by assumption) j0 (by assumption) hcl (by assumption)
  | exact hk_up j2 k0 j1 (by omega)
  | exact hi_up k2 i0 k1 (by omega)
  | exact hj_0 k2
  | exact hk_0 i2
  | exact hi_0
  | exact hq_0 i2 i1 (by omega)
  | exact hq_up q2 q0 (by assumption) hcl hql (qs_t (by assumption) (by omega))
  | exact hf_0 q2 q1 (by omega)
  | exact hf_up f2 f0 (by assumption) hcl hql hfl (by assumption)
  | exact ho_0 f2 f1 (by omega)
  | exact ho_up p2 p0 (by assumption) hcl hql hol hfl
  | exact hl_0 p2 p1 (by omega)
  | exact hl_up t2 (by assumption)
  | (show (lk _ _).isSome = true; kernel_rfl)
  | exact Int.natCast_nonneg _
  | exact ⟨True.intro, True.intro⟩
  | exact True.intro
  | done
namespace Oa3
structure Fns where
 hlB : List (List L) -> List (List L) -> Int -> Int -> Bool
 ifL : List (List L) -> List (List L) -> List (List L)
 laL : List (List L) -> List (List L) -> List (List L)
 hasB : List (List L) -> Int -> Bool
def F0 : Fns := ⟨hlB, ifL, laL, hasB⟩
def ct (F : Fns) : CT := fun f ds => match f with
 | 148 => match ds with
   | [.agg [.s 1 a0, .s 1 a1, .s 2 a2, .v (.int .i64 a3), .s 1 a4, .s 2 a5, .s 3 a6, .s 3 a7, .s 4 a8, .s 1 a9, .s 1 a10, .s 1 a11, .v (.int .i64 a12), .s 3 a13, .v (.int .i64 a14), .v (.int .i64 a15), .v (.int .i64 a16), .v (.int .i64 a17), .v (.bool a18), .v (.int .i64 a19), .v (.int .i64 a20), .s 1 a21, .v (.int .i64 a22), .v (.int .i64 a23)], .one (.v (.int .i64 ad)), .one (.v (.int .i64 k))] => some (fun _ => NsH a6 a7 a8 a9 a10 a11 a13 /\ layOk a6 a7 = true /\ -9223372036854775808 <= ad /\ ad <= 9223372036854775807, [.one (.v (.bool (F.hlB a6 a7 ad k)))])
   | _ => none
 | 98 => match ds with
   | [.agg [.s 1 b, .s 1 x]] => some (fun _ => NsM b x, [.one (.s 1 (F.ifL b x))])
   | _ => none
 | 25 => match ds with
   | [.one (.s 3 sp), .one (.s 3 lg)] => some (fun _ => Rw [tI, tI, tI] sp /\ Rw [tI, tI, tI] lg /\ sp.length <= 1073741824 /\ lg.length <= 1073741824, [.one (.s 1 (F.laL sp lg))])
   | _ => none
 | 27 => match ds with
   | [.one (.s 1 l), .one (.v (.int .i64 x))] => some (fun _ => Rw [tI] l, [.one (.v (.bool (F.hasB l x)))])
   | _ => none
 | _ => none
theorem ct_ok : CTok Tryz.prog (ct F0) := by
 intro f ds pre res h hp
 unfold ct at h
 split at h <;> (try split at h) <;> cases h
 exact c_spec_l27Slot _ _ _ _ _ _ _ _ _ _ _ _ _ _ _ _ _ _ _ _ _ _ _ _ _ _ hp
 exact c_spec_InFlight _ _ hp
 exact c_spec_LiveAddrs _ _ hp
 exact c_spec_l08Has _ _ hp
def B : TB Tryz.prog := tb ct_ok
end Oa3
theorem c_spec_l27Once (a0 a1 a2 : List (List L)) (a3 : Int) (a4 a5 a6 a7 a8 a9 a10 a11 : List (List L)) (a12 : Int) (a13 : List (List L)) (a14 a15 a16 a17 : Int) (a18 : Bool) (a19 a20 : Int) (a21 : List (List L)) (a22 a23 : Int) (hp : NsH a6 a7 a8 a9 a10 a11 a13 /\ layOk a6 a7 = true) : Ctr Tryz.prog 73 [.agg [.s 1 a0, .s 1 a1, .s 2 a2, .v (.int .i64 a3), .s 1 a4, .s 2 a5, .s 3 a6, .s 3 a7, .s 4 a8, .s 1 a9, .s 1 a10, .s 1 a11, .v (.int .i64 a12), .s 3 a13, .v (.int .i64 a14), .v (.int .i64 a15), .v (.int .i64 a16), .v (.int .i64 a17), .v (.bool a18), .v (.int .i64 a19), .v (.int .i64 a20), .s 1 a21, .v (.int .i64 a22), .v (.int .i64 a23)]] [.one (.v (.bool (hoS a6 a7 a8 a9 a10 a11 a13)))] := by
 obtain ⟨N, hlay⟩ := hp
 have hsw := N.sw; have hlw := N.lw; have hsl := N.sl; have hll := N.ll; have how := N.ow; have hol := N.ol; have hcw := N.cw; have hcl := N.cl; have hqw := N.qw; have hql := N.ql; have hcc := N.c
 have hlc := len_cnt (es := a9)
 have hfr := if_rw N.m
 have hfl := if_len (b := a10) (x := a11)
 refine ctr_b Oa3.B tabOk mixed 159 _ [4] [.tmp 2] Tryz.func73 rfl rfl rfl rfl rfl ?_
 intro O r (F : Oa3.Fns) hO hr (hF : F = Oa3.F0)
 cbv
 repeat' first | refine And.intro ?_ ?_ | (refine cbi (fun hb => ?_) (fun hb => ?_) <;> cbv) | (refine ⟨[1, 3, 4], [1, 3], Int × List (List L), fun s_ => match s_ with | (i, o) => [.reg 4 (.one (.v (.int .i64 i))), .reg 3 (.one (.vw 3 0 0 0 (O.ln o))), .leaf 3 0 ⟨0, 0, none, .own (.s 1 o)⟩], fun s_ => match s_ with | (i, o) => 0 <= i /\ i <= (a8.length : Int) /\ S1P a8 i o, fun s_ => match s_ with | (i, o) => a8.length - i.toNat, ⟨(0, []), ?_, ?_⟩, ?_⟩; rotate_left; (focus (cbv; done)); intro s_ hi; obtain ⟨i, o⟩ := s_; replace hi : 0 <= i /\ i <= (a8.length : Int) /\ S1P a8 i o := hi; obtain ⟨i0, i1, i2⟩ := hi; cbv) | (refine ⟨[1, 3, 5], [1, 3], Int × List (List L), fun s_ => match s_ with | (j, o1) => [.reg 5 (.one (.v (.int .i64 j))), .reg 3 (.one (.vw 3 0 0 0 (O.ln o1))), .leaf 3 0 ⟨0, 0, none, .own (.s 1 o1)⟩], fun s_ => match s_ with | (j, o1) => 0 <= j /\ j <= (a9.length : Int) /\ S2P a6 a7 a8 a9 j o1, fun s_ => match s_ with | (j, o1) => a9.length - j.toNat, ⟨(0, o), ?_, ?_⟩, ?_⟩; rotate_left; (focus (cbv; done)); intro s_ hj; obtain ⟨j, o1⟩ := s_; replace hj : 0 <= j /\ j <= (a9.length : Int) /\ S2P a6 a7 a8 a9 j o1 := hj; obtain ⟨j0, j1, j2⟩ := hj; cbv) | (refine ⟨[1, 3, 5, 6], [1, 3], Int × List (List L), fun s_ => match s_ with | (k, o2) => [.reg 6 (.one (.v (.int .i64 k))), .reg 3 (.one (.vw 3 0 0 0 (O.ln o2))), .leaf 3 0 ⟨0, 0, none, .own (.s 1 o2)⟩], fun s_ => match s_ with | (k, o2) => 0 <= k /\ k <= ((gsI a9 j 0).length : Int) /\ S3P a6 a7 a8 a9 j k o2, fun s_ => match s_ with | (k, o2) => (gsI a9 j 0).length - k.toNat, ⟨(0, o1), ?_, ?_⟩, ?_⟩; rotate_left; (focus (cbv; done)); intro s_ hk; obtain ⟨k, o2⟩ := s_; replace hk : 0 <= k /\ k <= ((gsI a9 j 0).length : Int) /\ S3P a6 a7 a8 a9 j k o2 := hk; obtain ⟨k0, k1, k2⟩ := hk; cbv) | (refine ⟨[1, 3, 5, 6, 7, 8], [1, 3], Int × List (List L), fun s_ => match s_ with | (m, o3) => [.reg 8 (.one (.v (.int .i64 m))), .reg 3 (.one (.vw 3 0 0 0 (O.ln o3))), .leaf 3 0 ⟨0, 0, none, .own (.s 1 o3)⟩], fun s_ => match s_ with | (m, o3) => 0 <= m /\ m <= ((gsI (gsI a9 j 0) k 0).length : Int) /\ S4P a6 a7 a8 a9 j k m o3, fun s_ => match s_ with | (m, o3) => (gsI (gsI a9 j 0) k 0).length - m.toNat, ⟨(0, o2), ?_, ?_⟩, ?_⟩; rotate_left; (focus (cbv; done)); intro s_ hm; obtain ⟨m, o3⟩ := s_; replace hm : 0 <= m /\ m <= ((gsI (gsI a9 j 0) k 0).length : Int) /\ S4P a6 a7 a8 a9 j k m o3 := hm; obtain ⟨m0, m1, m2⟩ := hm; cbv) | (refine ⟨[1, 3, 9], [1, 3], Int × List (List L), fun s_ => match s_ with | (q, o4) => [.reg 9 (.one (.v (.int .i64 q))), .reg 3 (.one (.vw 3 0 0 0 (O.ln o4))), .leaf 3 0 ⟨0, 0, none, .own (.s 1 o4)⟩], fun s_ => match s_ with | (q, o4) => 0 <= q /\ q <= (a13.length : Int) /\ S5P a6 a7 a8 a9 a13 q o4, fun s_ => match s_ with | (q, o4) => a13.length - q.toNat, ⟨(0, o1), ?_, ?_⟩, ?_⟩; rotate_left; (focus (cbv; done)); intro s_ hq; obtain ⟨q, o4⟩ := s_; replace hq : 0 <= q /\ q <= (a13.length : Int) /\ S5P a6 a7 a8 a9 a13 q o4 := hq; obtain ⟨q0, q1, q2⟩ := hq; cbv) | (refine ⟨[1, 3, 10, 11], [1, 3, 10], Int × List (List L), fun s_ => match s_ with | (f, o5) => [.reg 11 (.one (.v (.int .i64 f))), .reg 3 (.one (.vw 3 0 0 0 (O.ln o5))), .leaf 3 0 ⟨0, 0, none, .own (.s 1 o5)⟩], fun s_ => match s_ with | (f, o5) => 0 <= f /\ f <= ((ifL a10 a11).length : Int) /\ S6P a6 a7 a8 a9 a13 (ifL a10 a11) f o5, fun s_ => match s_ with | (f, o5) => (ifL a10 a11).length - f.toNat, ⟨(0, o4), ?_, ?_⟩, ?_⟩; rotate_left; (focus (cbv; done)); intro s_ hf; obtain ⟨f, o5⟩ := s_; replace hf : 0 <= f /\ f <= ((ifL a10 a11).length : Int) /\ S6P a6 a7 a8 a9 a13 (ifL a10 a11) f o5 := hf; obtain ⟨f0, f1, f2⟩ := hf; cbv) | (refine ⟨[1, 3, 12], [1, 3], Int, fun t => [.reg 12 (.one (.v (.int .i64 t)))], fun t => 0 <= t /\ t <= (o5.length : Int) /\ S7P a6 a7 a8 a9 a13 (ifL a10 a11) t o5, fun t => o5.length - t.toNat, ⟨0, ?_, ?_⟩, ?_⟩; rotate_left; (focus (cbv; done)); intro t ht; replace ht : 0 <= t /\ t <= (o5.length : Int) /\ S7P a6 a7 a8 a9 a13 (ifL a10 a11) t o5 := ht; obtain ⟨t0, t1, t2⟩ := ht; cbv) | (refine loop_step (O.ar .add .i64 m 1, O.cat o3 (O.sub [[.v (.int .i64 (O.gi (O.gs (O.gs a9 j 0) k 0) m 0))]] 0 (O.ln [[.v (.int .i64 (O.gi (O.gs (O.gs a9 j 0) k 0) m 0))]]))) ?_ ?_ ?_; rotate_left 2; focus (cbv; done)) | (refine loop_step (O.ar .add .i64 k 1, o3) ?_ ?_ ?_; rotate_left 2; focus (cbv; done)) | (refine loop_step (O.ar .add .i64 j 1, o2) ?_ ?_ ?_; rotate_left 2; focus (cbv; done)) | (refine loop_step (O.ar .add .i64 t 1) ?_ ?_ ?_; rotate_left 2; focus (cbv; done)) | (refine loop_step (O.ar .add .i64 f 1, O.cat o5 (O.sub [[.v (.int .i64 (O.pi (.s 1 (F.ifL a10 a11)) [(O.ad 0 f, 0)]))]] 0 (O.ln [[.v (.int .i64 (O.pi (.s 1 (F.ifL a10 a11)) [(O.ad 0 f, 0)]))]]))) ?_ ?_ ?_; rotate_left 2; focus (cbv; done)) | (refine loop_step (O.ar .add .i64 q 1, O.cat o4 (O.sub [[.v (.int .i64 (O.gi a13 q 0))]] 0 (O.ln [[.v (.int .i64 (O.gi a13 q 0))]]))) ?_ ?_ ?_; rotate_left 2; focus (cbv; done)) | (refine loop_step (O.ar .add .i64 i 1, O.cat o (O.sub [[.v (.int .i64 (O.gi a8 i 1))]] 0 (O.ln [[.v (.int .i64 (O.gi a8 i 1))]]))) ?_ ?_ ?_; rotate_left 2; focus (cbv; done))
 all_goals (subst hO hr hF; (try simp only [stdO, SS, sa, az] at *); (try simp only [nc] at *); (try simp only [onc] at *))
 all_goals (try simp only [Oa3.F0] at *)
 all_goals try rw [up64 (by omega) (by omega)]
 all_goals (try simp only [pi_row f0] at *)
 all_goals (try simp only [pi_row t0] at *)
 all_goals (try simp only [sub_tk] at *)
 all_goals (try have w6 := hcc.n j j0 (by assumption))
 all_goals (try have w7 := w6.el k0 (by assumption))
 all_goals (try have w8 := w7.1)
 all_goals (try have z6 : arI .add .i64 k 1 = k + 1 := add64 (by have := w6.l; omega))
 all_goals (try simp only [z6] at *)
 all_goals (try have z7 : arI .add .i64 m 1 = m + 1 := add64 (by have := w7.2; omega))
 all_goals (try simp only [z7] at *)
 all_goals (try have w1 := s1_l (by assumption))
 all_goals (try have w4 := s4_l m2 j0 (by assumption) k0 (by assumption) m0 (by omega) hcl hol)
 all_goals (try have w5 := s5_l q2 (by omega) hcl hol hql)
 all_goals (try have w9 := s6_l f2 (by omega) hcl hol hql hfl)
 all_goals (try have wa := s7_l t2 hcl hol hql hfl)
 all_goals (try have wb := s7_rw N t2)
 all_goals (try have z8 : arI .add .i64 t 1 = t + 1 := add64 (by omega))
 all_goals (try simp only [z8] at *)
 all_goals first
  | (show (_ : List DV) = _
     first
      | (refine db_eq ?_; symm; exact hoS_f1 j0 (by assumption) (iA_f k0 (by assumption) m0 (by assumption) (by assumption)))
      | (refine db_eq ?_; symm; exact hoS_f2 q0 (by assumption) (by assumption))
      | (refine db_eq ?_; symm; exact hoS_f3 f0 (by assumption) (by assumption))
      | (refine db_eq ?_; symm; exact s7_f t2 t0 (by assumption) (by assumption))
      | (refine db_eq ?_; rw [cmp_eq]; exact s7_end t2 (by omega))
      | done)
  | omega
  | (refine ⟨by omega, by omega, (Rw.eta (by first | assumption | exact Rw.sub (by first | assumption | exact Rw.sub (by assumption) (by omega) rfl) (by omega) rfl) (by omega) (by omega)).trans ?_⟩; rfl)
  | (show okOrder _ _ = true; kernel_rfl)
  | exact ⟨hsw, hlw, hsl, hll⟩
  | exact N.m
  | exact ⟨N, hlay, gi_rg (fs := [tI]) w8 rfl (by omega)⟩
  | exact ⟨N, hlay, gi_rg hqw rfl (by omega)⟩
  | exact ⟨N, hlay, gi_rg hfr rfl (by omega)⟩
  | exact wb _
  | exact own1L hfr f0 (by assumption)
  | exact own1L (by have q := wb o5.length; rwa [List.take_length] at q) t0 (by assumption)
  | (refine ⟨by omega, by omega, Eq.trans (Rw.eta (fs := [.sl [tI]]) w6.w (by omega) (by omega)) ?_⟩; rfl)
  | exact scal_one
  | (constructor <;> (simp only [List.length_cons, List.length_nil]; omega))
  | exact s4_up m2 m0 (by assumption)
  | exact s3_up m2 k0 m1 (by omega)
  | exact s2_up k2 j0 k1 (by omega)
  | exact s4_0 k2
  | exact s3_0 j2
  | exact s2_0 i2 i1 (by omega)
  | exact s1_up i2 i0
  | exact s1_0
  | exact s5_0 j2 j1 (by omega)
  | exact s5_up q2 q0 (by assumption)
  | exact s6_0 q2 q1 (by omega)
  | exact s6_up f2 f0 (by assumption)
  | exact s7_0 f2 f1 (by omega)
  | exact s7_up t2 t0 (by assumption) (by assumption)
  | exact Int.natCast_nonneg _
  | exact ⟨True.intro, True.intro⟩
  | exact True.intro
  | done
end Go.V