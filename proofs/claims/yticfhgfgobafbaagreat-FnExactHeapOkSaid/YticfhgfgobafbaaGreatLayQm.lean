/-
  Contracts, by evaluation.
-/import Derived.Test.YticfhgfgobafbaaGreatS9
import Derived.Test.YticfhgfgobafbaaGreatHB
import Derived.Test.YticfhgfgobafbaaGreatLayPm
import Derived.Test.YticfhgfgobafbaaGreatKerBm
set_option linter.all false
namespace Go.V
open Go Go.Proofs
set_option maxRecDepth 1000000
set_option maxHeartbeats 8000000
namespace Qa0
structure Fns where
 no : Unit
def F0 : Fns := ⟨()⟩
def B : TB Tryz.prog := {Φ := Fns, F0 := F0}
end Qa0
theorem c_spec_l27Job (k m : Int) (cs : List (List L)) (ph nx : Int) (hp : True) : Ctr Tryz.prog 74 [.agg [.v (.int .i64 k), .v (.int .i64 m), .s 1 cs, .v (.int .i64 ph), .v (.int .i64 nx)]] [.one (.v (.bool (jobZ k m cs ph nx)))] := by
 refine ctr_b Qa0.B tabOk mixed 30 _ [4] [.tmp 2] Tryz.func74 rfl rfl rfl rfl rfl ?_
 intro O r (F : Qa0.Fns) hO hr (hF : F = Qa0.F0)
 cbv
 repeat' first | refine And.intro ?_ ?_ | (refine cbi (fun hb => ?_) (fun hb => ?_) <;> cbv)
 all_goals (subst hO hr hF; (try simp only [stdO, SS, sa, az] at *); (try simp only [nc] at *); (try simp only [onc] at *))
 all_goals first | (show (_ : List DV) = _; refine db_eq ?_; unfold jobZ; simp [*, cmp_eq]; done) | (show (_ : List DV) = _; refine db_eq ?_; unfold jobZ; rw [decide_eq_true (p := cs.length = 0) (by omega), cmp_eq]; simp [*]; done) | (show (_ : List DV) = _; refine db_eq ?_; unfold jobZ; rw [decide_eq_false (p := cs.length = 0) (by omega)]; simp; done) | trivial | done
namespace Qa1
structure Fns where
 kerOk : List (List L) -> List (List L) -> List (List L) -> Int -> List (List L) -> Bool
 rgOk : Int -> List (List L) -> Bool
 layOk : List (List L) -> List (List L) -> Bool
 pgI : List (List L) -> List (List L) -> List (List L) -> List (List L) -> Bool
 mailOk : List (List L) -> List (List L) -> Bool
 quarOk : Int -> List (List L) -> Bool
 caOk : List (List L) -> Bool
 objOk : List (List L) -> List (List L) -> List (List L) -> List (List L) -> Int -> Bool
 hoI : List (List L) -> List (List L) -> List (List L) -> List (List L) -> List (List L) -> List (List L) -> List (List L) -> Int -> Bool
 inR : Int -> Int -> Int -> Bool
 jbOk : Int -> Int -> List (List L) -> Int -> Int -> Bool
 spI : List (List L) -> Int -> Int
def F0 : Fns := ⟨kerOk, rgOk, layOk, pgI, mailOk, quarOk, caOk, objOk, hoI, inR, jbOk, spI⟩
def ct (F : Fns) : CT := fun f ds => match f with
 | 77 => match ds with
   | [.agg [.s 1 cs, .s 1 us, .s 2 es, .v (.int .i64 c), .s 1 rs]] => some (fun _ => Rw [.sl [tI]] cs /\ Rw [tB] us /\ Rw [tI, tI] es /\ Rw [tI] rs, [.one (.v (.bool (F.kerOk cs us es c rs)))])
   | _ => none
 | 78 => match ds with
   | [.one (.v (.int .i64 n)), .one (.s 2 rs)] => some (fun _ => 0 <= n /\ n <= 1099511627776 /\ Rw [tI, tI] rs /\ rs.length <= 1099511627776, [.one (.v (.bool (F.rgOk n rs)))])
   | _ => none
 | 79 => match ds with
   | [.one (.s 3 sp), .one (.s 3 lg)] => some (fun _ => Rw [tI, tI, tI] sp /\ Rw [tI, tI, tI] lg /\ sp.length <= 1073741824 /\ lg.length <= 1073741824, [.one (.v (.bool (F.layOk sp lg)))])
   | _ => none
 | 80 => match ds with
   | [.agg [.s 1 a0, .s 1 a1, .s 2 a2, .v (.int .i64 a3), .s 1 a4, .s 2 a5, .s 3 a6, .s 3 a7, .s 4 a8, .s 1 a9, .s 1 a10, .s 1 a11, .v (.int .i64 a12), .s 3 a13, .v (.int .i64 a14), .v (.int .i64 a15), .v (.int .i64 a16), .v (.int .i64 a17), .v (.bool a18), .v (.int .i64 a19), .v (.int .i64 a20), .s 1 a21, .v (.int .i64 a22), .v (.int .i64 a23)]] => some (fun _ => NsH a6 a7 a8 a9 a10 a11 a13 /\ layOk a6 a7 = true /\ Rw [tI, tI] a2 /\ a2.length <= 1099511627776 /\ Rw [tI, tI] a5 /\ a5.length <= 1099511627776, [.one (.v (.bool (F.pgI a2 a5 a6 a7)))])
   | _ => none
 | 81 => match ds with
   | [.agg [.s 1 b, .s 1 x]] => some (fun _ => NsM b x, [.one (.v (.bool (F.mailOk b x)))])
   | _ => none
 | 82 => match ds with
   | [.agg [.v (.int .i64 rm), .s 3 qs]] => some (fun _ => Rw [tI, tI, tI] qs /\ qs.length <= 1073741824, [.one (.v (.bool (F.quarOk rm qs)))])
   | _ => none
 | 83 => match ds with
   | [.agg [.s 1 ls]] => some (fun _ => NsL ls, [.one (.v (.bool (F.caOk ls)))])
   | _ => none
 | 84 => match ds with
   | [.agg [.s 1 a0, .s 1 a1, .s 2 a2, .v (.int .i64 a3), .s 1 a4, .s 2 a5, .s 3 a6, .s 3 a7, .s 4 a8, .s 1 a9, .s 1 a10, .s 1 a11, .v (.int .i64 a12), .s 3 a13, .v (.int .i64 a14), .v (.int .i64 a15), .v (.int .i64 a16), .v (.int .i64 a17), .v (.bool a18), .v (.int .i64 a19), .v (.int .i64 a20), .s 1 a21, .v (.int .i64 a22), .v (.int .i64 a23)]] => some (fun _ => NsH a6 a7 a8 a9 a10 a11 a13 /\ layOk a6 a7 = true, [.one (.v (.bool (F.objOk a6 a7 a8 a9 a17)))])
   | _ => none
 | 85 => match ds with
   | [.agg [.s 1 a0, .s 1 a1, .s 2 a2, .v (.int .i64 a3), .s 1 a4, .s 2 a5, .s 3 a6, .s 3 a7, .s 4 a8, .s 1 a9, .s 1 a10, .s 1 a11, .v (.int .i64 a12), .s 3 a13, .v (.int .i64 a14), .v (.int .i64 a15), .v (.int .i64 a16), .v (.int .i64 a17), .v (.bool a18), .v (.int .i64 a19), .v (.int .i64 a20), .s 1 a21, .v (.int .i64 a22), .v (.int .i64 a23)]] => some (fun _ => NsH a6 a7 a8 a9 a10 a11 a13 /\ layOk a6 a7 = true, [.one (.v (.bool (F.hoI a6 a7 a8 a9 a10 a11 a13 a15)))])
   | _ => none
 | 86 => match ds with
   | [.one (.v (.int .i64 c))] => some (fun _ => True, [.one (.v (.bool (F.inR c 0 1073741823)))])
   | _ => none
 | 87 => match ds with
   | [.one (.v (.int .i64 x)), .one (.v (.int .i64 a)), .one (.v (.int .i64 b))] => some (fun _ => True, [.one (.v (.bool (F.inR x a b)))])
   | _ => none
 | 88 => match ds with
   | [.agg [.v (.int .i64 k), .v (.int .i64 m), .s 1 cs, .v (.int .i64 ph), .v (.int .i64 nx)]] => some (fun _ => Rw [tI] cs /\ cs.length <= 1099511627776, [.one (.v (.bool (F.jbOk k m cs ph nx)))])
   | _ => none
 | 89 => match ds with
   | [.agg [.s 1 a0, .s 1 a1, .s 2 a2, .v (.int .i64 a3), .s 1 a4, .s 2 a5, .s 3 a6, .s 3 a7, .s 4 a8, .s 1 a9, .s 1 a10, .s 1 a11, .v (.int .i64 a12), .s 3 a13, .v (.int .i64 a14), .v (.int .i64 a15), .v (.int .i64 a16), .v (.int .i64 a17), .v (.bool a18), .v (.int .i64 a19), .v (.int .i64 a20), .s 1 a21, .v (.int .i64 a22), .v (.int .i64 a23)], .one (.v (.int .i64 pg))] => some (fun _ => Rw [tI, tI, tI] a6 /\ a6.length <= 1099511627776, [.one (.v (.int .i64 (F.spI a6 pg)))])
   | _ => none
 | _ => none
theorem ct_ok : CTok Tryz.prog (ct F0) := by
 intro f ds pre res h hp
 unfold ct at h
 split at h <;> (try split at h) <;> cases h
 exact c_impl_KernelOk _ _ _ _ _ hp
 exact c_impl_RangesOk _ _ hp
 exact c_impl_LayoutOk _ _ hp
 exact c_impl_pagesOk _ _ _ _ _ _ _ _ _ _ _ _ _ _ _ _ _ _ _ _ _ _ _ _ hp
 exact c_impl_MailOk _ _ hp
 exact c_impl_QuarOk _ _ hp
 exact c_impl_CacheOk _ hp
 exact c_impl_objsOk _ _ _ _ _ _ _ _ _ _ _ _ _ _ _ _ _ _ _ _ _ _ _ _ hp
 exact c_impl_holdersOk _ _ _ _ _ _ _ _ _ _ _ _ _ _ _ _ _ _ _ _ _ _ _ _ hp
 exact c_impl_seedOk _ hp
 exact c_impl_between _ _ _ hp
 exact c_impl_JobOk _ _ _ _ _ hp
 exact c_impl_SpanOn _ _ _ _ _ _ _ _ _ _ _ _ _ _ _ _ _ _ _ _ _ _ _ _ _ hp
def B : TB Tryz.prog := tb ct_ok
end Qa1
theorem c_impl_HeapOk (a0 a1 a2 : List (List L)) (a3 : Int) (a4 a5 a6 a7 a8 a9 a10 a11 : List (List L)) (a12 : Int) (a13 : List (List L)) (a14 a15 a16 a17 : Int) (a18 : Bool) (a19 a20 : Int) (a21 : List (List L)) (a22 a23 : Int) (hp : HpN a0 a1 a2 a4 a5 a6 a7 a8 a9 a10 a11 a13 a21) : Ctr Tryz.prog 15 [.agg [.s 1 a0, .s 1 a1, .s 2 a2, .v (.int .i64 a3), .s 1 a4, .s 2 a5, .s 3 a6, .s 3 a7, .s 4 a8, .s 1 a9, .s 1 a10, .s 1 a11, .v (.int .i64 a12), .s 3 a13, .v (.int .i64 a14), .v (.int .i64 a15), .v (.int .i64 a16), .v (.int .i64 a17), .v (.bool a18), .v (.int .i64 a19), .v (.int .i64 a20), .s 1 a21, .v (.int .i64 a22), .v (.int .i64 a23)]] [.one (.v (.bool (hpI a0 a1 a2 a3 a4 a5 a6 a7 a8 a9 a10 a11 a12 a13 a14 a15 a16 a17 a18 a19 a20 a21 a22 a23)))] := by
 have N := hp.n
 have hcc := N.c
 have hcw := N.cw
 have hel := hp.el; have hfl := hp.fl; have hsl := N.sl
 have hcl := N.cl
 have hlc := len_cnt (es := a9)
 refine ctr_b Qa1.B tabOk mixed 154 _ [4] [.tmp 2] Tryz.func15 rfl rfl rfl rfl rfl ?_
 intro O r (F : Qa1.Fns) hO hr (hF : F = Qa1.F0)
 cbv
 repeat' first | refine And.intro ?_ ?_ | (refine cbi (fun hb => ?_) (fun hb => ?_) <;> cbv) | (refine ⟨[1, 57, 58, 59], [1], Int, fun i => [.reg 59 (.one (.v (.int .i64 i)))], fun i => 0 <= i /\ i <= ((a9.length : Nat) : Int) /\ upto (ccA a9) i, fun i => (a9.length) - i.toNat, ⟨0, ?_, ?_⟩, ?_⟩; rotate_left; (focus (cbv; done)); intro i hi; replace hi : 0 <= i /\ i <= ((a9.length : Nat) : Int) /\ upto (ccA a9) i := hi; obtain ⟨i0, i1, i2⟩ := hi; cbv) | (refine loop_step (O.ar .add .i64 i 1) ?_ ?_ ?_; rotate_left 2; focus (cbv; done))
 all_goals (subst hO hr hF; (try simp only [stdO, SS, sa, az] at *); (try simp only [nc] at *); (try simp only [onc] at *))
 all_goals (try simp only [Qa1.F0] at *)
 all_goals try rw [up64 (by omega) (by omega)]
 all_goals first
  | (show (_ : List DV) = _
     first
      | (refine db_eq ?_; symm; exact hp_k (by assumption))
      | (refine db_eq ?_; symm; exact hp_r (by assumption))
      | (refine db_eq ?_; symm; exact hp_l (by assumption))
      | (refine db_eq ?_; symm; exact hp_p (by assumption))
      | (refine db_eq ?_; symm; exact hp_m (by assumption))
      | (refine db_eq ?_; symm; exact hp_n' (by assumption))
      | (refine db_eq ?_; symm; exact hp_q (by assumption))
      | (refine db_eq ?_; symm; exact hp_c' i0 (by assumption) (by assumption))
      | (refine db_eq ?_; symm; exact hp_o (by assumption))
      | (refine db_eq ?_; symm; exact hp_h (by assumption))
      | (refine db_eq ?_; symm; exact hp_s (by assumption))
      | (refine db_eq ?_; symm; exact hp_t (by assumption))
      | (refine db_eq ?_; symm; exact hp_w (by assumption))
      | (refine db_eq ?_; symm; exact hp_x (by assumption))
      | (refine db_eq ?_; rw [hpOk_t (by assumption) (by assumption) (by assumption) (by assumption) (by assumption) (decide_eq_true (by omega)) (by assumption) (allI_of i2 (by omega)) (by assumption) (by assumption) (by assumption) (by assumption) (by assumption) (by assumption)]; subst_vars; first | exact job_1 (by assumption) | exact job_2 (by assumption) | exact job_3 (by assumption) (by assumption) | exact rfl | ((try rw [cmp_eq]); unfold jobB jobZ; simp [*]; done))
      | (have q : false = true := (by assumption); cases q)
      | (have q : true = false := (by assumption); cases q)
      | done)
  | omega
  | (refine ⟨by omega, by omega, (Rw.eta (by first | assumption | exact Rw.sub (by first | assumption | exact Rw.sub (by assumption) (by omega) rfl) (by omega) rfl) (by omega) (by omega)).trans ?_⟩; rfl)
  | (show okOrder _ _ = true; kernel_rfl)
  | exact ⟨hp.c, hp.u, hp.e, hp.r⟩
  | exact ⟨by omega, by omega, hp.f, by omega⟩
  | exact ⟨N.sw, N.lw, N.sl, N.ll⟩
  | exact ⟨N, by assumption, hp.e, by omega, hp.f, by omega⟩
  | exact N.m
  | exact ⟨N.qw, N.ql⟩
  | exact hcc.n i i0 (by assumption)
  | exact ⟨N, by assumption⟩
  | exact ⟨hp.j, by have := hp.jl; omega⟩
  | exact ⟨N.sw, by omega⟩
  | exact upto_z
  | exact upto_s i2 (by assumption)
  | (have q : true = false := (by assumption); cases q)
  | exact Int.natCast_nonneg _
  | exact True.intro
  | done
namespace Qa2
structure Fns where
 kerOk : List (List L) -> List (List L) -> List (List L) -> Int -> List (List L) -> Bool
 rgOk : Int -> List (List L) -> Bool
 layOk : List (List L) -> List (List L) -> Bool
 pgS : List (List L) -> List (List L) -> List (List L) -> List (List L) -> Bool
 smS : List (List L) -> List (List L) -> Bool
 mailOk : List (List L) -> List (List L) -> Bool
 quarOk : Int -> List (List L) -> Bool
 caOk : List (List L) -> Bool
 objOk : List (List L) -> List (List L) -> List (List L) -> List (List L) -> Int -> Bool
 hoS : List (List L) -> List (List L) -> List (List L) -> List (List L) -> List (List L) -> List (List L) -> List (List L) -> Bool
 inR : Int -> Int -> Int -> Bool
 jbOk : Int -> Int -> List (List L) -> Int -> Int -> Bool
 spI : List (List L) -> Int -> Int
 jobZ : Int -> Int -> List (List L) -> Int -> Int -> Bool
def F0 : Fns := ⟨kerOk, rgOk, layOk, pgS, smS, mailOk, quarOk, caOk, objOk, hoS, inR, jbOk, spI, jobZ⟩
def ct (F : Fns) : CT := fun f ds => match f with
 | 63 => match ds with
   | [.agg [.s 1 cs, .s 1 us, .s 2 es, .v (.int .i64 c), .s 1 rs]] => some (fun _ => Rw [.sl [tI]] cs /\ Rw [tB] us /\ Rw [tI, tI] es /\ Rw [tI] rs, [.one (.v (.bool (F.kerOk cs us es c rs)))])
   | _ => none
 | 64 => match ds with
   | [.one (.v (.int .i64 n)), .one (.s 2 rs)] => some (fun _ => 0 <= n /\ n <= 1099511627776 /\ Rw [tI, tI] rs /\ rs.length <= 1099511627776, [.one (.v (.bool (F.rgOk n rs)))])
   | _ => none
 | 65 => match ds with
   | [.one (.s 3 sp), .one (.s 3 lg)] => some (fun _ => Rw [tI, tI, tI] sp /\ Rw [tI, tI, tI] lg /\ sp.length <= 1073741824 /\ lg.length <= 1073741824, [.one (.v (.bool (F.layOk sp lg)))])
   | _ => none
 | 66 => match ds with
   | [.agg [.s 1 a0, .s 1 a1, .s 2 a2, .v (.int .i64 a3), .s 1 a4, .s 2 a5, .s 3 a6, .s 3 a7, .s 4 a8, .s 1 a9, .s 1 a10, .s 1 a11, .v (.int .i64 a12), .s 3 a13, .v (.int .i64 a14), .v (.int .i64 a15), .v (.int .i64 a16), .v (.int .i64 a17), .v (.bool a18), .v (.int .i64 a19), .v (.int .i64 a20), .s 1 a21, .v (.int .i64 a22), .v (.int .i64 a23)]] => some (fun _ => NsH a6 a7 a8 a9 a10 a11 a13 /\ layOk a6 a7 = true /\ Rw [tI, tI] a2 /\ a2.length <= 1099511627776 /\ Rw [tI, tI] a5 /\ a5.length <= 1099511627776, [.one (.v (.bool (F.pgS a2 a5 a6 a7)))])
   | _ => none
 | 67 => match ds with
   | [.agg [.s 1 a0, .s 1 a1, .s 2 a2, .v (.int .i64 a3), .s 1 a4, .s 2 a5, .s 3 a6, .s 3 a7, .s 4 a8, .s 1 a9, .s 1 a10, .s 1 a11, .v (.int .i64 a12), .s 3 a13, .v (.int .i64 a14), .v (.int .i64 a15), .v (.int .i64 a16), .v (.int .i64 a17), .v (.bool a18), .v (.int .i64 a19), .v (.int .i64 a20), .s 1 a21, .v (.int .i64 a22), .v (.int .i64 a23)]] => some (fun _ => NsH a6 a7 a8 a9 a10 a11 a13 /\ Rw [tI, tI] a2 /\ a2.length <= 1099511627776, [.one (.v (.bool (F.smS a2 a6)))])
   | _ => none
 | 68 => match ds with
   | [.agg [.s 1 b, .s 1 x]] => some (fun _ => NsM b x, [.one (.v (.bool (F.mailOk b x)))])
   | _ => none
 | 69 => match ds with
   | [.agg [.v (.int .i64 rm), .s 3 qs]] => some (fun _ => Rw [tI, tI, tI] qs /\ qs.length <= 1073741824, [.one (.v (.bool (F.quarOk rm qs)))])
   | _ => none
 | 70 => match ds with
   | [.agg [.s 1 ls]] => some (fun _ => NsL ls, [.one (.v (.bool (F.caOk ls)))])
   | _ => none
 | 72 => match ds with
   | [.agg [.s 1 a0, .s 1 a1, .s 2 a2, .v (.int .i64 a3), .s 1 a4, .s 2 a5, .s 3 a6, .s 3 a7, .s 4 a8, .s 1 a9, .s 1 a10, .s 1 a11, .v (.int .i64 a12), .s 3 a13, .v (.int .i64 a14), .v (.int .i64 a15), .v (.int .i64 a16), .v (.int .i64 a17), .v (.bool a18), .v (.int .i64 a19), .v (.int .i64 a20), .s 1 a21, .v (.int .i64 a22), .v (.int .i64 a23)]] => some (fun _ => NsH a6 a7 a8 a9 a10 a11 a13 /\ layOk a6 a7 = true, [.one (.v (.bool (F.objOk a6 a7 a8 a9 a17)))])
   | _ => none
 | 73 => match ds with
   | [.agg [.s 1 a0, .s 1 a1, .s 2 a2, .v (.int .i64 a3), .s 1 a4, .s 2 a5, .s 3 a6, .s 3 a7, .s 4 a8, .s 1 a9, .s 1 a10, .s 1 a11, .v (.int .i64 a12), .s 3 a13, .v (.int .i64 a14), .v (.int .i64 a15), .v (.int .i64 a16), .v (.int .i64 a17), .v (.bool a18), .v (.int .i64 a19), .v (.int .i64 a20), .s 1 a21, .v (.int .i64 a22), .v (.int .i64 a23)]] => some (fun _ => NsH a6 a7 a8 a9 a10 a11 a13 /\ layOk a6 a7 = true, [.one (.v (.bool (F.hoS a6 a7 a8 a9 a10 a11 a13)))])
   | _ => none
 | 71 => match ds with
   | [.one (.v (.int .i64 x)), .one (.v (.int .i64 a)), .one (.v (.int .i64 b))] => some (fun _ => True, [.one (.v (.bool (F.inR x a b)))])
   | _ => none
 | 75 => match ds with
   | [.agg [.v (.int .i64 k), .v (.int .i64 m), .s 1 cs, .v (.int .i64 ph), .v (.int .i64 nx)]] => some (fun _ => Rw [tI] cs /\ cs.length <= 1099511627776, [.one (.v (.bool (F.jbOk k m cs ph nx)))])
   | _ => none
 | 76 => match ds with
   | [.agg [.s 1 a0, .s 1 a1, .s 2 a2, .v (.int .i64 a3), .s 1 a4, .s 2 a5, .s 3 a6, .s 3 a7, .s 4 a8, .s 1 a9, .s 1 a10, .s 1 a11, .v (.int .i64 a12), .s 3 a13, .v (.int .i64 a14), .v (.int .i64 a15), .v (.int .i64 a16), .v (.int .i64 a17), .v (.bool a18), .v (.int .i64 a19), .v (.int .i64 a20), .s 1 a21, .v (.int .i64 a22), .v (.int .i64 a23)], .one (.v (.int .i64 pg))] => some (fun _ => Rw [tI, tI, tI] a6 /\ a6.length <= 1099511627776, [.one (.v (.int .i64 (F.spI a6 pg)))])
   | _ => none
 | 74 => match ds with
   | [.agg [.v (.int .i64 k), .v (.int .i64 m), .s 1 cs, .v (.int .i64 ph), .v (.int .i64 nx)]] => some (fun _ => True, [.one (.v (.bool (F.jobZ k m cs ph nx)))])
   | _ => none
 | _ => none
theorem ct_ok : CTok Tryz.prog (ct F0) := by
 intro f ds pre res h hp
 unfold ct at h
 split at h <;> (try split at h) <;> cases h
 exact c_spec_KernelOk _ _ _ _ _ hp
 exact c_spec_RangesOk _ _ hp
 exact c_spec_LayoutOk _ _ hp
 exact c_spec_l27Pages _ _ _ _ _ _ _ _ _ _ _ _ _ _ _ _ _ _ _ _ _ _ _ _ hp
 exact c_spec_l27Meshed _ _ _ _ _ _ _ _ _ _ _ _ _ _ _ _ _ _ _ _ _ _ _ _ hp
 exact c_spec_MailOk _ _ hp
 exact c_spec_QuarOk _ _ hp
 exact c_spec_CacheOk _ hp
 exact c_spec_l27Objs _ _ _ _ _ _ _ _ _ _ _ _ _ _ _ _ _ _ _ _ _ _ _ _ hp
 exact c_spec_l27Once _ _ _ _ _ _ _ _ _ _ _ _ _ _ _ _ _ _ _ _ _ _ _ _ hp
 exact c_spec_l01In _ _ _ hp
 exact c_spec_JobOk _ _ _ _ _ hp
 exact c_spec_SpanOn _ _ _ _ _ _ _ _ _ _ _ _ _ _ _ _ _ _ _ _ _ _ _ _ _ hp
 exact c_spec_l27Job _ _ _ _ _ hp
def B : TB Tryz.prog := tb ct_ok
end Qa2
theorem c_spec_HeapOk (a0 a1 a2 : List (List L)) (a3 : Int) (a4 a5 a6 a7 a8 a9 a10 a11 : List (List L)) (a12 : Int) (a13 : List (List L)) (a14 a15 a16 a17 : Int) (a18 : Bool) (a19 a20 : Int) (a21 : List (List L)) (a22 a23 : Int) (hp : HpN a0 a1 a2 a4 a5 a6 a7 a8 a9 a10 a11 a13 a21) : Ctr Tryz.prog 14 [.agg [.s 1 a0, .s 1 a1, .s 2 a2, .v (.int .i64 a3), .s 1 a4, .s 2 a5, .s 3 a6, .s 3 a7, .s 4 a8, .s 1 a9, .s 1 a10, .s 1 a11, .v (.int .i64 a12), .s 3 a13, .v (.int .i64 a14), .v (.int .i64 a15), .v (.int .i64 a16), .v (.int .i64 a17), .v (.bool a18), .v (.int .i64 a19), .v (.int .i64 a20), .s 1 a21, .v (.int .i64 a22), .v (.int .i64 a23)]] [.one (.v (.bool (hpI a0 a1 a2 a3 a4 a5 a6 a7 a8 a9 a10 a11 a12 a13 a14 a15 a16 a17 a18 a19 a20 a21 a22 a23)))] := by
 have N := hp.n
 have hcc := N.c
 have hcw := N.cw; have hqw := N.qw; have hql := N.ql
 have hel := hp.el; have hfl := hp.fl; have hsl := N.sl
 have hcl := N.cl
 have hlc := len_cnt (es := a9)
 refine ctr_b Qa2.B tabOk mixed 150 _ [4] [.tmp 2] Tryz.func14 rfl rfl rfl rfl rfl ?_
 intro O r (F : Qa2.Fns) hO hr (hF : F = Qa2.F0)
 cbv
 repeat' first | refine And.intro ?_ ?_ | (refine cbi (fun hb => ?_) (fun hb => ?_) <;> cbv) | (refine ⟨[1, 3], [1], Int, fun q => [.reg 3 (.one (.v (.int .i64 q)))], fun q => 0 <= q /\ q <= (a13.length : Int) /\ upto (sA a13 a15) q, fun q => a13.length - q.toNat, ⟨0, ?_, ?_⟩, ?_⟩; rotate_left; (focus (cbv; done)); intro q hq; replace hq : 0 <= q /\ q <= (a13.length : Int) /\ upto (sA a13 a15) q := hq; obtain ⟨q0, q1, q2⟩ := hq; cbv) | (refine ⟨[1, 4], [1], Int, fun i => [.reg 4 (.one (.v (.int .i64 i)))], fun i => 0 <= i /\ i <= (a9.length : Int) /\ upto (ccA a9) i, fun i => a9.length - i.toNat, ⟨0, ?_, ?_⟩, ?_⟩; rotate_left; (focus (cbv; done)); intro i hi; replace hi : 0 <= i /\ i <= (a9.length : Int) /\ upto (ccA a9) i := hi; obtain ⟨i0, i1, i2⟩ := hi; cbv) | (refine loop_step (O.ar .add .i64 i 1) ?_ ?_ ?_; rotate_left 2; focus (cbv; done)) | (refine loop_step (O.ar .add .i64 q 1) ?_ ?_ ?_; rotate_left 2; focus (cbv; done))
 all_goals (subst hO hr hF; (try simp only [stdO, SS, sa, az] at *); (try simp only [nc] at *); (try simp only [onc] at *))
 all_goals (try simp only [Qa2.F0] at *)
 all_goals try rw [up64 (by omega) (by omega)]
 all_goals first
  | (show (_ : List DV) = _
     first
      | (refine db_eq ?_; symm; exact hp_k (by assumption))
      | (refine db_eq ?_; symm; exact hp_r (by assumption))
      | (refine db_eq ?_; symm; exact hp_l (by assumption))
      | (refine db_eq ?_; symm; exact hp_pS (by assumption) (by assumption))
      | (refine db_eq ?_; symm; exact hp_mS (by assumption) (by assumption))
      | (refine db_eq ?_; symm; exact hp_m (by assumption))
      | (refine db_eq ?_; symm; exact hp_n' (by assumption))
      | (refine db_eq ?_; symm; exact hp_q (by assumption))
      | (refine db_eq ?_; symm; exact hp_s' q0 (by assumption) (by assumption) (by assumption))
      | (refine db_eq ?_; symm; exact hp_c' i0 (by assumption) (by assumption))
      | (refine db_eq ?_; symm; exact hp_o (by assumption))
      | (refine db_eq ?_; symm; exact hp_hS (by assumption) (by assumption) (by assumption))
      | (refine db_eq ?_; symm; exact hp_s (by assumption))
      | (refine db_eq ?_; symm; exact hp_t (by assumption))
      | (refine db_eq ?_; symm; exact hp_w (by assumption))
      | (refine db_eq ?_; symm; exact hp_x (by assumption))
      | (refine db_eq ?_; rw [hpOk_t (by assumption) (by assumption) (by assumption) (pg_t (by assumption) (by assumption) (by assumption)) (by assumption) (decide_eq_true (by omega)) (by assumption) (allI_of i2 (by omega)) (by assumption) (ho_t (by assumption) (by assumption) (by assumption) (by omega) q2) (by assumption) (by assumption) (by assumption) (by assumption)]; subst_vars; first | exact job_1 (by assumption) | exact job_2 (by assumption) | exact job_3 (by assumption) (by assumption) | exact rfl | ((try rw [cmp_eq]); unfold jobB jobZ; simp [*]; done))
      | (have q : false = true := (by assumption); cases q)
      | (have q : true = false := (by assumption); cases q)
      | done)
  | omega
  | (refine ⟨by omega, by omega, (Rw.eta (by first | assumption | exact Rw.sub (by first | assumption | exact Rw.sub (by assumption) (by omega) rfl) (by omega) rfl) (by omega) (by omega)).trans ?_⟩; rfl)
  | (show okOrder _ _ = true; kernel_rfl)
  | exact ⟨hp.c, hp.u, hp.e, hp.r⟩
  | exact ⟨by omega, by omega, hp.f, by omega⟩
  | exact ⟨N.sw, N.lw, N.sl, N.ll⟩
  | exact ⟨N, by assumption, hp.e, by omega, hp.f, by omega⟩
  | exact ⟨N, hp.e, by omega⟩
  | exact N.m
  | exact ⟨N.qw, N.ql⟩
  | exact hcc.n i i0 (by assumption)
  | exact ⟨N, by assumption⟩
  | exact ⟨hp.j, by have := hp.jl; omega⟩
  | exact ⟨N.sw, by omega⟩
  | exact upto_z
  | exact upto_s i2 (by assumption)
  | exact upto_s q2 (sA_t (by assumption))
  | (have q : true = false := (by assumption); cases q)
  | exact Int.natCast_nonneg _
  | exact True.intro
  | done
end Go.V