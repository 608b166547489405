/-
  Contracts of functions, by evaluation of conditions on their code.
-/import Derived.Test.YticfhgfgobafbaaGreatS9
import Derived.Test.YticfhgfgobafbaaGreatH45
import Derived.Test.YticfhgfgobafbaaGreatLayKm
set_option linter.all false
namespace Go.V
open Go Go.Proofs
set_option maxRecDepth 1000000
set_option maxHeartbeats 8000000
namespace Lm1
structure Fns where
 ifL : List (List L) -> List (List L) -> List (List L)
def F0 : Fns := ⟨ifL⟩
def ct (F : Fns) : CT := fun f ds => match f with
 | 98 => match ds with
   | [.agg [.s 1 b, .s 1 x]] => some (fun _ => NsM b x, [.one (.s 1 (F.ifL b x))])
   | _ => none
 | _ => none
theorem ct_ok : CTok Tryz.prog (ct F0) := by
 intro f ds pre res h hp
 unfold ct at h
 split at h
 ·split at h
  ·cases h; exact c_spec_InFlight _ _ hp
  ·cases h
 ·cases h
def B : TB Tryz.prog := {Φ := Fns, F0 := F0, ct := ct, hc := ct_ok}
end Lm1
theorem c_spec_l32Held (a0 : List (List L)) (a1 : List (List L)) (a2 : List (List L)) (a3 : Int) (a4 : List (List L)) (a5 : List (List L)) (a6 : List (List L)) (a7 : List (List L)) (a8 : List (List L)) (a9 : List (List L)) (a10 : List (List L)) (a11 : List (List L)) (a12 : Int) (a13 : List (List L)) (a14 : Int) (a15 : Int) (a16 : Int) (a17 : Int) (a18 : Bool) (a19 : Int) (a20 : Int) (a21 : List (List L)) (a22 : Int) (a23 : Int) (hp : NsH a6 a7 a8 a9 a10 a11 a13) : Ctr Tryz.prog 26 [.agg [.s 1 a0, .s 1 a1, .s 2 a2, .v (.int .i64 a3), .s 1 a4, .s 2 a5, .s 3 a6, .s 3 a7, .s 4 a8, .s 1 a9, .s 1 a10, .s 1 a11, .v (.int .i64 a12), .s 3 a13, .v (.int .i64 a14), .v (.int .i64 a15), .v (.int .i64 a16), .v (.int .i64 a17), .v (.bool a18), .v (.int .i64 a19), .v (.int .i64 a20), .s 1 a21, .v (.int .i64 a22), .v (.int .i64 a23)]] [.one (.s 1 (hdL a8 a9 a13 a10 a11))] := by
 have N := hp
 have how := hp.ow; have hcw := hp.cw; have hqw := hp.qw; have hol := hp.ol; have hql := hp.ql; have hcl := hp.cl; have hcc := hp.c
 have hlc := len_cnt (es := a9)
 refine ctr_b Lm1.B tabOk mixed 77 _ [31] [.tmp 2] Tryz.func26 rfl rfl rfl rfl rfl ?_
 intro O r (F : Lm1.Fns) hO hr (hF : F = Lm1.F0)
 cbv
 repeat' first | refine And.intro ?_ ?_ | (refine caseB_intro (fun hb => ?_) (fun hb => ?_) <;> cbv) | (refine ⟨[1, 3, 4], [1, 3], Int × List (List L), fun s_ => match s_ with | (i, o) => [.reg 4 (.one (.v (.int .i64 i))), .reg 3 (.one (.vw 3 0 0 0 (O.ln o))), .leaf 3 0 ⟨0, 0, none, .own (.s 1 o)⟩], fun s_ => match s_ with | (i, o) => 0 <= i /\ i <= (a8.length : Int) /\ O1P a8 i o, fun s_ => match s_ with | (i, o) => a8.length - i.toNat, ⟨(0, []), ?_, ?_⟩, ?_⟩; rotate_left; (focus (cbv; done)); intro s_ hi; obtain ⟨i, o⟩ := s_; replace hi : 0 <= i /\ i <= (a8.length : Int) /\ O1P a8 i o := hi; obtain ⟨i0, i1, i2⟩ := hi; cbv) | (refine ⟨[1, 3, 5], [1, 3], Int × List (List L), fun s_ => match s_ with | (j, o1) => [.reg 5 (.one (.v (.int .i64 j))), .reg 3 (.one (.vw 3 0 0 0 (O.ln o1))), .leaf 3 0 ⟨0, 0, none, .own (.s 1 o1)⟩], fun s_ => match s_ with | (j, o1) => 0 <= j /\ j <= (a9.length : Int) /\ O2P a8 a9 j o1, fun s_ => match s_ with | (j, o1) => a9.length - j.toNat, ⟨(0, o), ?_, ?_⟩, ?_⟩; rotate_left; (focus (cbv; done)); intro s_ hj; obtain ⟨j, o1⟩ := s_; replace hj : 0 <= j /\ j <= (a9.length : Int) /\ O2P a8 a9 j o1 := hj; obtain ⟨j0, j1, j2⟩ := hj; cbv) | (refine ⟨[1, 3, 5, 6], [1, 3], Int × List (List L), fun s_ => match s_ with | (k, o2) => [.reg 6 (.one (.v (.int .i64 k))), .reg 3 (.one (.vw 3 0 0 0 (O.ln o2))), .leaf 3 0 ⟨0, 0, none, .own (.s 1 o2)⟩], fun s_ => match s_ with | (k, o2) => 0 <= k /\ k <= ((gsI a9 j 0).length : Int) /\ O3P a8 a9 j k o2, fun s_ => match s_ with | (k, o2) => (gsI a9 j 0).length - k.toNat, ⟨(0, o1), ?_, ?_⟩, ?_⟩; rotate_left; (focus (cbv; done)); intro s_ hk; obtain ⟨k, o2⟩ := s_; replace hk : 0 <= k /\ k <= ((gsI a9 j 0).length : Int) /\ O3P a8 a9 j k o2 := hk; obtain ⟨k0, k1, k2⟩ := hk; cbv) | (refine ⟨[1, 3, 7], [1, 3], Int × List (List L), fun s_ => match s_ with | (q, o3) => [.reg 7 (.one (.v (.int .i64 q))), .reg 3 (.one (.vw 3 0 0 0 (O.ln o3))), .leaf 3 0 ⟨0, 0, none, .own (.s 1 o3)⟩], fun s_ => match s_ with | (q, o3) => 0 <= q /\ q <= (a13.length : Int) /\ O4P a8 a9 a13 q o3, fun s_ => match s_ with | (q, o3) => a13.length - q.toNat, ⟨(0, o1), ?_, ?_⟩, ?_⟩; rotate_left; (focus (cbv; done)); intro s_ hq; obtain ⟨q, o3⟩ := s_; replace hq : 0 <= q /\ q <= (a13.length : Int) /\ O4P a8 a9 a13 q o3 := hq; obtain ⟨q0, q1, q2⟩ := hq; cbv) | (refine loop_step (O.ar .add .i64 k 1, O.cat o2 (O.gs (O.gs a9 j 0) k 0)) ?_ ?_ ?_; rotate_left 2; focus (cbv; done)) | (refine loop_step (O.ar .add .i64 j 1, o2) ?_ ?_ ?_; rotate_left 2; focus (cbv; done)) | (refine loop_step (O.ar .add .i64 q 1, O.cat o3 (O.sub [[.v (.int .i64 (O.gi a13 q 0))]] 0 (O.ln [[.v (.int .i64 (O.gi a13 q 0))]]))) ?_ ?_ ?_; rotate_left 2; focus (cbv; done)) | (refine loop_step (O.ar .add .i64 i 1, O.cat o (O.sub [[.v (.int .i64 (O.gi a8 i 1))]] 0 (O.ln [[.v (.int .i64 (O.gi a8 i 1))]]))) ?_ ?_ ?_; rotate_left 2; focus (cbv; done))
 all_goals ((try subst hos); subst hO hr hF; (try simp only [stdO, SS, sub_all, ad_zero] at *); (try simp only [ncast] at *); (try simp only [Int.ofNat_eq_natCast] at *))
 all_goals (try simp only [Lm1.F0] at *)
 all_goals try rw [up64 (by omega) (by omega)]
 all_goals (try have w1 := o1_l (by assumption))
 all_goals (try have w2 := o2_l N j2 j1)
 all_goals (try have w3 := o3_g N k2 j0 (by assumption) k0 (by assumption))
 all_goals (try have w4 := o4_l N q2 (by omega))
 all_goals (try have w5 := if_len (b := a10) (x := a11))
 all_goals (try have w6 := hcc.n j j0 (by assumption))
 all_goals (try have z6 : arI .add .i64 k 1 = k + 1 := add64 (by have := w6.l; omega))
 all_goals (try simp only [z6] at *)
 all_goals first
  | (show (_ : List DV) = _
     first
      | (refine rw1_eq ?_; exact o4_end q2 q1 (by assumption))
      | done)
  | omega
  | (refine ⟨by omega, by omega, Eq.trans (Rw.eta (fs := _) (by (first | assumption | exact Rw.sub (by first | assumption | exact Rw.sub (by assumption) (by omega) rfl) (by omega) rfl)) (by omega) (by omega)) ?_⟩; rfl)
  | (show okOrder _ _ = true; kernel_rfl)
  | exact N.m
  | exact scal_one
  | exact Rw.scal (if_rw N.m) rfl
  | exact Rw.scal (Rw.sub (fs := [.sl [tI]]) w6.w (by omega) rfl) rfl
  | (refine ⟨by omega, by omega, Eq.trans (Rw.eta (fs := [.sl [tI]]) w6.w (by omega) (by omega)) ?_⟩; rfl)
  | (constructor <;> (simp only [List.length_cons, List.length_nil]; omega))
  | exact o3_up k2 k0
  | exact o2_up k2 j0 k1 (by omega)
  | exact o3_0 j2
  | exact o2_0 i2 i1 (by omega)
  | exact o4_0 j2 j1 (by omega)
  | exact o4_up q2 q0
  | exact o1_up i2 i0
  | exact o1_0
  | exact Int.natCast_nonneg _
  | exact ⟨True.intro, True.intro⟩
  | exact True.intro
  | done
namespace Lm2
structure Fns where
 laL : List (List L) -> List (List L) -> List (List L)
 hdL : List (List L) -> List (List L) -> List (List L) -> List (List L) -> List (List L) -> List (List L)
 hasB : List (List L) -> Int -> Bool
def F0 : Fns := ⟨laL, hdL, hasB⟩
def ct (F : Fns) : CT := fun f ds => match f with
 | 25 => match ds with
   | [.one (.s 3 sp), .one (.s 3 lg)] => some (fun _ => Rw [tI, tI, tI] sp /\ Rw [tI, tI, tI] lg /\ sp.length <= 1073741824 /\ lg.length <= 1073741824, [.one (.s 1 (F.laL sp lg))])
   | _ => none
 | 26 => match ds with
   | [.agg [.s 1 a0, .s 1 a1, .s 2 a2, .v (.int .i64 a3), .s 1 a4, .s 2 a5, .s 3 a6, .s 3 a7, .s 4 a8, .s 1 a9, .s 1 a10, .s 1 a11, .v (.int .i64 a12), .s 3 a13, .v (.int .i64 a14), .v (.int .i64 a15), .v (.int .i64 a16), .v (.int .i64 a17), .v (.bool a18), .v (.int .i64 a19), .v (.int .i64 a20), .s 1 a21, .v (.int .i64 a22), .v (.int .i64 a23)]] => some (fun _ => NsH a6 a7 a8 a9 a10 a11 a13, [.one (.s 1 (F.hdL a8 a9 a13 a10 a11))])
   | _ => none
 | 27 => match ds with
   | [.one (.s 1 l), .one (.v (.int .i64 x))] => some (fun _ => Rw [tI] l, [.one (.v (.bool (F.hasB l x)))])
   | _ => none
 | _ => none
theorem ct_ok : CTok Tryz.prog (ct F0) := by
 intro f ds pre res h hp
 unfold ct at h
 split at h
 ·split at h
  ·cases h; exact c_spec_LiveAddrs _ _ hp
  ·cases h
 ·split at h
  ·cases h; exact c_spec_l32Held _ _ _ _ _ _ _ _ _ _ _ _ _ _ _ _ _ _ _ _ _ _ _ _ hp
  ·cases h
 ·split at h
  ·cases h; exact c_spec_l08Has _ _ hp
  ·cases h
 ·cases h
def B : TB Tryz.prog := {Φ := Fns, F0 := F0, ct := ct, hc := ct_ok}
end Lm2
theorem c_spec_Leaks (a0 : List (List L)) (a1 : List (List L)) (a2 : List (List L)) (a3 : Int) (a4 : List (List L)) (a5 : List (List L)) (a6 : List (List L)) (a7 : List (List L)) (a8 : List (List L)) (a9 : List (List L)) (a10 : List (List L)) (a11 : List (List L)) (a12 : Int) (a13 : List (List L)) (a14 : Int) (a15 : Int) (a16 : Int) (a17 : Int) (a18 : Bool) (a19 : Int) (a20 : Int) (a21 : List (List L)) (a22 : Int) (a23 : Int) (hp : NsH a6 a7 a8 a9 a10 a11 a13) : Ctr Tryz.prog 6 [.agg [.s 1 a0, .s 1 a1, .s 2 a2, .v (.int .i64 a3), .s 1 a4, .s 2 a5, .s 3 a6, .s 3 a7, .s 4 a8, .s 1 a9, .s 1 a10, .s 1 a11, .v (.int .i64 a12), .s 3 a13, .v (.int .i64 a14), .v (.int .i64 a15), .v (.int .i64 a16), .v (.int .i64 a17), .v (.bool a18), .v (.int .i64 a19), .v (.int .i64 a20), .s 1 a21, .v (.int .i64 a22), .v (.int .i64 a23)]] [.one (.s 1 (lksL a6 a7 a8 a9 a10 a11 a13))] := by
 have N := hp
 have hlr := la_rw (sp := a6) (lg := a7)
 have hll := la_len (sp := a6) (lg := a7)
 have hhr := hd_rw N
 have hhl := hd_len N
 refine ctr_b Lm2.B tabOk mixed 36 _ [31] [.tmp 2] Tryz.func6 rfl rfl rfl rfl rfl ?_
 intro O r (F : Lm2.Fns) hO hr (hF : F = Lm2.F0)
 cbv
 repeat' first | refine And.intro ?_ ?_ | (refine caseB_intro (fun hb => ?_) (fun hb => ?_) <;> cbv) | (refine ⟨[3, 4, 5, 6], [3, 4, 5], Int × List (List L), fun s_ => match s_ with | (i, o) => [.reg 6 (.one (.v (.int .i64 i))), .reg 3 (.one (.vw 3 0 0 0 (O.ln o))), .leaf 3 0 ⟨0, 0, none, .own (.s 1 o)⟩], fun s_ => match s_ with | (i, o) => 0 <= i /\ i <= ((laL a6 a7).length : Int) /\ FltP (nhB a8 a9 a13 a10 a11) (laL a6 a7) i o, fun s_ => match s_ with | (i, o) => (laL a6 a7).length - i.toNat, ⟨(0, []), ?_, ?_⟩, ?_⟩; rotate_left; (focus (cbv; done)); intro s_ hi; obtain ⟨i, o⟩ := s_; replace hi : 0 <= i /\ i <= ((laL a6 a7).length : Int) /\ FltP (nhB a8 a9 a13 a10 a11) (laL a6 a7) i o := hi; obtain ⟨i0, i1, i2⟩ := hi; cbv) | (refine loop_step (O.ar .add .i64 i 1, O.cat o (O.sub [[.v (.int .i64 (O.pi (.s 1 (F.laL a6 a7)) [(O.ad 0 i, 0)]))]] 0 (O.ln [[.v (.int .i64 (O.pi (.s 1 (F.laL a6 a7)) [(O.ad 0 i, 0)]))]]))) ?_ ?_ ?_; rotate_left 2; focus (cbv; done)) | (refine loop_step (O.ar .add .i64 i 1, o) ?_ ?_ ?_; rotate_left 2; focus (cbv; done))
 all_goals ((try subst hos); subst hO hr hF; (try simp only [stdO, SS, sub_all, ad_zero] at *); (try simp only [ncast] at *); (try simp only [Int.ofNat_eq_natCast] at *))
 all_goals (try simp only [Lm2.F0] at *)
 all_goals try rw [up64 (by omega) (by omega)]
 all_goals (try simp only [pi_row i0] at *)
 all_goals (try have w1 := i2.l)
 all_goals first
  | (show (_ : List DV) = _
     first
      | (refine rw1_eq ?_; exact flt_end i2 i1 (by assumption))
      | done)
  | omega
  | (refine ⟨by omega, by omega, Eq.trans (Rw.eta (fs := _) (by (first | assumption | exact Rw.sub (by first | assumption | exact Rw.sub (by assumption) (by omega) rfl) (by omega) rfl)) (by omega) (by omega)) ?_⟩; rfl)
  | (show okOrder _ _ = true; kernel_rfl)
  | exact N
  | exact hhr
  | exact ⟨N.sw, N.lw, N.sl, N.ll⟩
  | exact scal_one
  | (constructor <;> (simp only [List.length_cons, List.length_nil]; omega))
  | exact flt_yes i2 i0 (nh_h (by assumption))
  | exact flt_no i2 i0 (nh_h (by assumption))
  | exact flt_yes i2 i0 (by rw [nh_h (by assumption)]; rfl)
  | exact flt_no i2 i0 (by rw [nh_h (by assumption)]; rfl)
  | exact own1L hlr i0 (by assumption)
  | exact flt_0
  | exact Int.natCast_nonneg _
  | exact ⟨True.intro, True.intro⟩
  | exact True.intro
  | done
namespace Lm3
structure Fns where
 iaL : List (List L) -> List (List L) -> List (List L)
 ifL : List (List L) -> List (List L) -> List (List L)
 lkB : List (List L) -> Int -> Bool
 obI : List (List L) -> Int -> Int
 qtB : List (List L) -> Int -> Bool
 hasB : List (List L) -> Int -> Bool
def F0 : Fns := ⟨iaL, ifL, lkB, obI, qtB, hasB⟩
def ct (F : Fns) : CT := fun f ds => match f with
 | 38 => match ds with
   | [.one (.s 3 sp), .one (.s 3 lg)] => some (fun _ => Rw [tI, tI, tI] sp /\ Rw [tI, tI, tI] lg /\ sp.length <= 1073741824 /\ lg.length <= 1073741824, [.one (.s 1 (F.iaL sp lg))])
   | _ => none
 | 37 => match ds with
   | [.agg [.s 1 b, .s 1 x]] => some (fun _ => NsM b x, [.one (.s 1 (F.ifL b x))])
   | _ => none
 | 39 => match ds with
   | [.one (.s 1 os), .fn 40 [[.v (.int .i64 id)]]] => some (fun _ => NsC os, [.one (.v (.bool (F.lkB os id)))])
   | _ => none
 | 42 => match ds with
   | [.agg [.s 1 a0, .s 1 a1, .s 2 a2, .v (.int .i64 a3), .s 1 a4, .s 2 a5, .s 3 a6, .s 3 a7, .s 4 a8, .s 1 a9, .s 1 a10, .s 1 a11, .v (.int .i64 a12), .s 3 a13, .v (.int .i64 a14), .v (.int .i64 a15), .v (.int .i64 a16), .v (.int .i64 a17), .v (.bool a18), .v (.int .i64 a19), .v (.int .i64 a20), .s 1 a21, .v (.int .i64 a22), .v (.int .i64 a23)], .one (.v (.int .i64 ad))] => some (fun _ => Rw [tI, tI, tI, tI] a8 /\ a8.length <= 1099511627776, [.one (.v (.int .i64 (F.obI a8 ad)))])
   | _ => none
 | 43 => match ds with
   | [.agg [.v (.int .i64 rm), .s 3 os], .one (.v (.int .i64 id))] => some (fun _ => Rw [tI, tI, tI] os /\ os.length <= 1099511627776, [.one (.v (.bool (F.qtB os id)))])
   | _ => none
 | 44 => match ds with
   | [.one (.s 1 l), .one (.v (.int .i64 x))] => some (fun _ => Rw [tI] l /\ l.length <= 1099511627776, [.one (.v (.bool (F.hasB l x)))])
   | _ => none
 | _ => none
theorem ct_ok : CTok Tryz.prog (ct F0) := by
 intro f ds pre res h hp
 unfold ct at h
 split at h
 ·split at h
  ·cases h; exact c_impl_LiveAddrs _ _ hp
  ·cases h
 ·split at h
  ·cases h; exact c_impl_InFlight _ _ hp
  ·cases h
 ·split at h
  ·cases h; exact c_slices_ContainsFunc_loop_example_g00978_impl_Cache_loop_example_g00978_impl_Cache _ _ hp
  ·cases h
 ·split at h
  ·cases h; exact c_impl_ObjAt _ _ _ _ _ _ _ _ _ _ _ _ _ _ _ _ _ _ _ _ _ _ _ _ _ hp
  ·cases h
 ·split at h
  ·cases h; exact c_impl_QuarHas _ _ _ hp
  ·cases h
 ·split at h
  ·cases h; exact c_slices_Contains_int_int _ _ hp
  ·cases h
 ·cases h
def B : TB Tryz.prog := {Φ := Fns, F0 := F0, ct := ct, hc := ct_ok}
end Lm3
theorem c_impl_Leaks (a0 : List (List L)) (a1 : List (List L)) (a2 : List (List L)) (a3 : Int) (a4 : List (List L)) (a5 : List (List L)) (a6 : List (List L)) (a7 : List (List L)) (a8 : List (List L)) (a9 : List (List L)) (a10 : List (List L)) (a11 : List (List L)) (a12 : Int) (a13 : List (List L)) (a14 : Int) (a15 : Int) (a16 : Int) (a17 : Int) (a18 : Bool) (a19 : Int) (a20 : Int) (a21 : List (List L)) (a22 : Int) (a23 : Int) (hp : NsH a6 a7 a8 a9 a10 a11 a13) : Ctr Tryz.prog 8 [.agg [.s 1 a0, .s 1 a1, .s 2 a2, .v (.int .i64 a3), .s 1 a4, .s 2 a5, .s 3 a6, .s 3 a7, .s 4 a8, .s 1 a9, .s 1 a10, .s 1 a11, .v (.int .i64 a12), .s 3 a13, .v (.int .i64 a14), .v (.int .i64 a15), .v (.int .i64 a16), .v (.int .i64 a17), .v (.bool a18), .v (.int .i64 a19), .v (.int .i64 a20), .s 1 a21, .v (.int .i64 a22), .v (.int .i64 a23)]] [.one (.s 1 (lksL a6 a7 a8 a9 a10 a11 a13))] := by
 have N := hp
 have hlr := la_rw (sp := a6) (lg := a7)
 have hll := la_len (sp := a6) (lg := a7)
 rw [<- live_eq] at hlr hll
 have hfr := if_rw N.m
 have hfl := if_len (b := a10) (x := a11)
 refine ctr_b Lm3.B tabOk mixed 53 _ [31] [.tmp 2] Tryz.func8 rfl rfl rfl rfl rfl ?_
 intro O r (F : Lm3.Fns) hO hr (hF : F = Lm3.F0)
 cbv
 repeat' first | refine And.intro ?_ ?_ | (refine caseB_intro (fun hb => ?_) (fun hb => ?_) <;> cbv) | (refine ⟨[1, 3, 4, 16, 17, 18], [1, 3, 4, 16], Int × List (List L), fun s_ => match s_ with | (i, o) => [.reg 18 (.one (.v (.int .i64 i))), .reg 3 (.one (.vw 3 0 0 0 (O.ln o))), .leaf 3 0 ⟨0, 0, none, .own (.s 1 o)⟩], fun s_ => match s_ with | (i, o) => 0 <= i /\ i <= ((iaL a6 a7).length : Int) /\ FltP (nhB a8 a9 a13 a10 a11) (iaL a6 a7) i o, fun s_ => match s_ with | (i, o) => (iaL a6 a7).length - i.toNat, ⟨(0, []), ?_, ?_⟩, ?_⟩; rotate_left; (focus (cbv; done)); intro s_ hi; obtain ⟨i, o⟩ := s_; replace hi : 0 <= i /\ i <= ((iaL a6 a7).length : Int) /\ FltP (nhB a8 a9 a13 a10 a11) (iaL a6 a7) i o := hi; obtain ⟨i0, i1, i2⟩ := hi; cbv) | (refine loop_step (O.ar .add .i64 i 1, O.cat o (O.sub [[.v (.int .i64 (O.pi (.s 1 (F.iaL a6 a7)) [(O.ad 0 i, 0)]))]] 0 (O.ln [[.v (.int .i64 (O.pi (.s 1 (F.iaL a6 a7)) [(O.ad 0 i, 0)]))]]))) ?_ ?_ ?_; rotate_left 2; focus (cbv; done)) | (refine loop_step (O.ar .add .i64 i 1, o) ?_ ?_ ?_; rotate_left 2; focus (cbv; done))
 all_goals ((try subst hos); subst hO hr hF; (try simp only [stdO, SS, sub_all, ad_zero] at *); (try simp only [ncast] at *); (try simp only [Int.ofNat_eq_natCast] at *))
 all_goals (try simp only [Lm3.F0] at *)
 all_goals try rw [up64 (by omega) (by omega)]
 all_goals (try simp only [pi_row i0] at *)
 all_goals (try have w1 := i2.l)
 all_goals first
  | (show (_ : List DV) = _
     first
      | (refine rw1_eq ?_; unfold lksL; rw [<- live_eq]; exact flt_end i2 i1 (by assumption))
      | done)
  | omega
  | (refine ⟨by omega, by omega, Eq.trans (Rw.eta (fs := _) (by (first | assumption | exact Rw.sub (by first | assumption | exact Rw.sub (by assumption) (by omega) rfl) (by omega) rfl)) (by omega) (by omega)) ?_⟩; rfl)
  | (show okOrder _ _ = true; kernel_rfl)
  | exact N.m
  | exact N.c
  | exact ⟨N.sw, N.lw, N.sl, N.ll⟩
  | exact ⟨N.ow, by have := N.ol; omega⟩
  | exact ⟨N.qw, by have := N.ql; omega⟩
  | exact ⟨hfr, by omega⟩
  | exact scal_one
  | (constructor <;> (simp only [List.length_cons, List.length_nil]; omega))
  | exact flt_yes i2 i0 (nh_t (by assumption) (by assumption) (by assumption) (by assumption))
  | exact flt_no i2 i0 (nh_f4 (by assumption))
  | exact flt_no i2 i0 (nh_f3 (by assumption))
  | exact flt_no i2 i0 (nh_f2 (by assumption))
  | exact flt_no i2 i0 (nh_f1 (by omega))
  | exact own1L hlr i0 (by assumption)
  | exact flt_0
  | exact Int.natCast_nonneg _
  | exact ⟨True.intro, True.intro⟩
  | exact True.intro
  | done
end Go.V