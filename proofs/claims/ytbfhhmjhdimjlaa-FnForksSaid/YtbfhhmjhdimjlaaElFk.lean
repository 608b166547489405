/-
  Contracts, by evaluation.
-/
import Derived.Test.YtbfhhmjhdimjlaaS8
import Derived.Test.YtbfhhmjhdimjlaaH66
import Derived.Test.YtbfhhmjhdimjlaaMachDk
import Derived.Test.YtbfhhmjhdimjlaaCowHk
set_option linter.all false
namespace Go.V
open Go Go.Proofs
set_option maxRecDepth 1000000
set_option maxHeartbeats 8000000
namespace Lf0
structure Fns where
 framesOk : List (List L) -> List (List L) -> Bool
def F0 : Fns := ⟨framesOk⟩
def ct (F : Fns) : CT := fun f ds => match f with
 | 74 => match ds with
   | [.agg [.s 1 cs, .s 1 us]] => some (fun _ => Rw [.sl [tI]] cs /\ Rw [tB] us, [.one (.v (.bool (F.framesOk cs us)))])
   | _ => none
 | _ => none
theorem ct_ok : CTok Try.prog (ct F0) := by
 intro f ds pre res h hp
 unfold ct at h
 split at h <;> (try split at h) <;> cases h
 exact c_spec_FramesOk _ _ hp
def B : TB Try.prog := tb ct_ok
end Lf0
theorem c_laws_big (cs : List (List L)) (hp : cs.length <= maxLen) : Ctr Try.prog 11 [.one (.s 1 cs)] [.one (.v (.bool (bgB cs)))] := by
 refine ctr_b Lf0.B tabOk mixed 6 _ [4] [.tmp 2] Try.func11 rfl rfl rfl rfl rfl ?_
 intro O r (F : Lf0.Fns) hO hr (hF : F = Lf0.F0)
 cbv
 repeat' first | refine And.intro ?_ ?_ | (refine cbi (fun hb => ?_) (fun hb => ?_) <;> cbv)
 all_goals (subst hO hr hF; (try simp only [stdO, SS, sa, az] at *); (try simp only [nc] at *); (try simp only [onc] at *))
 all_goals first
  | (show (_ : List DV) = _
     first
      | exact db_eq (b_iff (by unfold bgB; simp only [SS, decide_eq_true_eq]))
      | done)
  | exact hp
  | exact True.intro
  | done
namespace Lf1
structure Fns where
 leM : List (List L) -> Int -> Int
 leF : List (List L) -> Int -> Int
 leK : Int -> Int
 machOk : List (List L) -> List (List L) -> List (List L) -> Bool
def F0 : Fns := ⟨leM, leF, leK, machOk⟩
def ct (F : Fns) : CT := fun f ds => match f with
 | 71 => match ds with
   | [.agg [.s 1 b0, .s 1 b1, .s 2 es], .one (.v (.int .i64 a))] => some (fun _ => Rw [tI, tI] es /\ (-9223372036854775808 <= a /\ a <= 9223372036854775807), [.agg [.v (.int .i64 (F.leM es a)), .v (.int .i64 (F.leF es a))], .one (.v (.int .i64 (F.leK a)))])
   | _ => none
 | 42 => match ds with
   | [.agg [.s 1 cs, .s 1 us, .s 2 es]] => some (fun _ => Rw [.sl [tI]] cs /\ Rw [tB] us /\ Rw [tI, tI] es, [.one (.v (.bool (F.machOk cs us es)))])
   | _ => none
 | _ => none
theorem ct_ok : CTok Try.prog (ct F0) := by
 intro f ds pre res h hp
 unfold ct at h
 split at h <;> (try split at h) <;> cases h
 exact c_spec_l07Entry _ _ _ _ hp
 exact c_spec_MachineOk _ _ _ hp
def B : TB Try.prog := tb ct_ok
end Lf1
theorem c_spec_Load (cs us es : List (List L)) (a : Int) (hp : Rw [.sl [tI]] cs /\ Rw [tB] us /\ Rw [tI, tI] es /\ (-9223372036854775808 <= a /\ a <= 9223372036854775807)) : Ctr Try.prog 37 [.agg [.s 1 cs, .s 1 us, .s 2 es], .one (.v (.int .i64 a))] [.one (.v (.int .i64 (ldV cs us es a))), .one (.v (.int .i64 (ldK cs us es a)))] := by
 obtain ⟨hc, hu, he, hb⟩ := hp
 have lk := leK_bd (a := a)
 refine ctr_b Lf1.B tabOk mixed 32 _ [3, 3] [.tmp 4, .tmp 5] Try.func37 rfl rfl rfl rfl rfl ?_
 intro O r (F : Lf1.Fns) hO hr (hF : F = Lf1.F0)
 cbv
 repeat' first | refine And.intro ?_ ?_ | (refine cbi (fun hb => ?_) (fun hb => ?_) <;> cbv)
 all_goals (subst hO hr hF; (try simp only [stdO, SS, sa, az] at *); (try simp only [nc] at *); (try simp only [onc] at *))
 all_goals (try simp only [Lf1.F0] at *)
 all_goals try (have fr := ld_fr (cs := cs) (us := us) (es := es) (a := a) (by assumption) (by assumption); have hr : Rw [tI] (gsI cs (leF es a) 0) := Rw.sub (fs := [.sl [tI]]) hc (by omega) rfl)
 all_goals first
  | (show (_ : List DV) = _
     first
      | (have q := ld_yes (cs := cs) (us := us) (es := es) (a := a) (by assumption) (by assumption); exact dd_eq q.1.symm q.2.symm)
      | (have q := ld_no (cs := cs) (us := us) (es := es) (a := a) (.inl (by assumption)); exact dd_eq q.1.symm q.2.symm)
      | (have q := ld_no (cs := cs) (us := us) (es := es) (a := a) (.inr (by assumption)); exact dd_eq q.1.symm q.2.symm)
      | done)
  | exact ⟨he, hb⟩
  | exact ⟨hc, hu, he⟩
  | exact ⟨True.intro, True.intro⟩
  | exact True.intro
  | (refine ⟨by omega, by omega, (Rw.eta (by first | assumption | exact Rw.sub (by first | assumption | exact Rw.sub (by assumption) (by omega) rfl) (by omega) rfl) (by omega) (by omega)).trans ?_⟩; rfl)
  | (show okOrder _ _ = true; kernel_rfl)
  | omega
  | done
namespace Lf4
structure Fns where
 bgB : List (List L) -> Bool
 dmC : List (List L) -> List (List L)
 dmU : List (List L) -> List (List L)
 dmE : List (List L) -> List (List L)
 dpl : List (List L) -> List (List L)
 cnC : List (List L) -> List (List L) -> List (List L) -> List (List L)
 cnU : List (List L) -> List (List L) -> List (List L) -> List (List L)
 cnT : List (List L) -> List (List L) -> List (List L) -> List (List L)
 machOk : List (List L) -> List (List L) -> List (List L) -> Bool
 csC : List (List L) -> List (List L) -> List (List L) -> Int -> Int -> Int -> List (List L)
 csU : List (List L) -> List (List L) -> List (List L) -> Int -> Int -> Int -> List (List L)
 csT : List (List L) -> List (List L) -> List (List L) -> Int -> Int -> Int -> List (List L)
 csK : List (List L) -> List (List L) -> List (List L) -> Int -> Int -> Int -> Int
 stC : List (List L) -> List (List L) -> List (List L) -> Int -> Int -> List (List L)
 stK : List (List L) -> List (List L) -> List (List L) -> Int -> Int -> Int
 clV : List (List L) -> List (List L) -> List (List L) -> Int -> Int -> Int
 clC : List (List L) -> List (List L) -> List (List L) -> Int -> Int -> Int
 ldV : List (List L) -> List (List L) -> List (List L) -> Int -> Int
 ldK : List (List L) -> List (List L) -> List (List L) -> Int -> Int
 cowOk : List (List L) -> List (List L) -> List (List L) -> Bool
def F0 : Fns := ⟨bgB, dmC, dmU, dmE, dpl, cnC, cnU, cnT, machOk, csC, csU, csT, csK, stC, stK, clV, clC, ldV, ldK, cowOk⟩
def ct (F : Fns) : CT := fun f ds => match f with
 | 11 => match ds with
   | [.one (.s 1 cs)] => some (fun _ => cs.length <= maxLen, [.one (.v (.bool (F.bgB cs)))])
   | _ => none
 | 30 => match ds with
   | [.one (.s 1 cs)] => some (fun _ => Rw [tU] cs /\ cs.length <= 1048576, [.agg [.s 1 (F.dmC cs), .s 1 (F.dmU cs), .s 2 (F.dmE cs)]])
   | _ => none
 | 13 => match ds with
   | [.one (.s 1 cs)] => some (fun _ => Rw [tU] cs /\ cs.length <= 1048576, [.one (.s 1 (F.dpl cs))])
   | _ => none
 | 31 => match ds with
   | [.agg [.s 1 cs, .s 1 us, .s 2 es]] => some (fun _ => Rw [.sl [tI]] cs /\ Rw [tB] us /\ Rw [tI, tI] es /\ cntE cs <= 1099511627776, [.agg [.s 1 (F.cnC cs us es), .s 1 (F.cnU cs us es), .s 1 (F.cnT cs us es)], .one (.v (.bool (F.machOk cs us es)))])
   | _ => none
 | 34 => match ds with
   | [.agg [.s 1 cs, .s 1 us, .s 1 ts], .one (.v (.int .i64 w)), .one (.v (.int .i64 a)), .one (.v (.int .i64 v))] => some (fun _ => Rw [.sl [tI]] cs /\ Rw [tB] us /\ Rw [.sl [tI, tI]] ts /\ cntE cs <= 1099511627776 /\ cntE us <= 1099511627776 /\ cntE ts <= 1099511627776 /\ (-9223372036854775808 <= a /\ a <= 9223372036854775807) /\ (-9223372036854775808 <= v /\ v <= 9223372036854775807), [.agg [.s 1 (F.csC cs us ts w a v), .s 1 (F.csU cs us ts w a v), .s 1 (F.csT cs us ts w a v)], .one (.v (.int .i64 (F.csK cs us ts w a v)))])
   | _ => none
 | 35 => match ds with
   | [.agg [.s 1 cs, .s 1 us, .s 2 es], .one (.v (.int .i64 a)), .one (.v (.int .i64 v))] => some (fun _ => Rw [.sl [tI]] cs /\ Rw [tB] us /\ Rw [tI, tI] es /\ cntE cs <= 1099511627776 /\ cntE us <= 1099511627776 /\ cntE es <= 1099511627776 /\ (-9223372036854775808 <= a /\ a <= 9223372036854775807), [.agg [.s 1 (F.stC cs us es a v), .s 1 us, .s 2 es], .one (.v (.int .i64 (F.stK cs us es a v)))])
   | _ => none
 | 36 => match ds with
   | [.agg [.s 1 cs, .s 1 us, .s 1 ts], .one (.v (.int .i64 wh)), .one (.v (.int .i64 a))] => some (fun _ => Rw [.sl [tI]] cs /\ Rw [tB] us /\ Rw [.sl [tI, tI]] ts /\ (-9223372036854775808 <= a /\ a <= 9223372036854775807), [.one (.v (.int .i64 (F.clV cs us ts wh a))), .one (.v (.int .i64 (F.clC cs us ts wh a)))])
   | _ => none
 | 37 => match ds with
   | [.agg [.s 1 cs, .s 1 us, .s 2 es], .one (.v (.int .i64 a))] => some (fun _ => Rw [.sl [tI]] cs /\ Rw [tB] us /\ Rw [tI, tI] es /\ (-9223372036854775808 <= a /\ a <= 9223372036854775807), [.one (.v (.int .i64 (F.ldV cs us es a))), .one (.v (.int .i64 (F.ldK cs us es a)))])
   | _ => none
 | 38 => match ds with
   | [.agg [.s 1 cs, .s 1 us, .s 1 ts]] => some (fun _ => Rw [.sl [tI]] cs /\ Rw [tB] us /\ Rw [.sl [tI, tI]] ts, [.one (.v (.bool (F.cowOk cs us ts)))])
   | _ => none
 | _ => none
theorem ct_ok : CTok Try.prog (ct F0) := by
 intro f ds pre res h hp
 unfold ct at h
 split at h <;> (try split at h) <;> cases h
 exact c_laws_big _ hp
 exact c_spec_DrawMachine _ hp
 exact c_spec_DrawPlaces _ hp
 exact c_impl_CowNew _ _ _ hp
 exact c_impl_CowStore _ _ _ _ _ _ hp
 exact c_spec_Store _ _ _ _ _ hp
 exact c_impl_CowLoad _ _ _ _ _ hp
 exact c_spec_Load _ _ _ _ hp
 exact c_impl_CowOk _ _ _ hp
def B : TB Try.prog := tb ct_ok
end Lf4
theorem c_laws_FnForks (cs : List (List L)) (hp : Rw [tU] cs) : Ctr Try.prog 9 [.one (.s 1 cs)] [.one (.v (.bool true))] := by
 have hw := hp
 have hml := hw.1
 obtain ⟨dm, rc, ru, re, szc, szu, e0, e1⟩ := dm_facts (cs := cs)
 have hd := dpl_len (cs := cs)
 have hr := dpl_rw (cs := cs)
 have cn : cnC (dmC cs) (dmU cs) (dmE cs) = dmC cs /\ cnU (dmC cs) (dmU cs) (dmE cs) = dmU cs /\ cnT (dmC cs) (dmU cs) (dmE cs) = twT (dmE cs) := cn_yes dm
 have nm : arI .mul .i64 16 ((dmE cs).length : Int) = 16 * ((dmE cs).length : Int) := mul64 (by omega)
 have f0 := fk_0 (cs := cs)
 refine ctrZ_b Lf4.B tabOk mixed 147 _ [4] [.tmp 2] [(3, [3]), (5, [5]), (15, [5]), (17, [7]), (18, [8])] Try.func9 rfl rfl rfl rfl rfl ?_
 intro O r (F : Lf4.Fns) hO hr (hF : F = Lf4.F0)
 cbv
 repeat' first | refine And.intro ?_ ?_ | (refine cbi (fun hb => ?_) (fun hb => ?_) <;> cbv) | (refine ⟨[4, 5, 6, 7, 8, 9, 10], [4, 5, 7, 8], Int × List (List L) × List (List L) × List (List L) × List (List L) × List (List L) × List (List L) × List (List L) × List (List L) × List (List L), fun s_ => match s_ with | (i, c0, c1, c2, p0, p1, p2, q0, q1, q2) => [.reg 10 (.one (.v (.int .i64 i))), .leaf 5 0 ⟨0, 0, none, .ro (.s 1 c0)⟩, .leaf 5 1 ⟨0, 0, none, .ro (.s 1 c1)⟩, .leaf 5 2 ⟨0, 0, none, .ro (.s 1 c2)⟩, .leaf 7 0 ⟨0, 0, none, .ro (.s 1 p0)⟩, .leaf 7 1 ⟨0, 0, none, .ro (.s 1 p1)⟩, .leaf 7 2 ⟨0, 0, none, .ro (.s 2 p2)⟩, .leaf 8 0 ⟨0, 0, none, .ro (.s 1 q0)⟩, .leaf 8 1 ⟨0, 0, none, .ro (.s 1 q1)⟩, .leaf 8 2 ⟨0, 0, none, .ro (.s 2 q2)⟩], fun s_ => match s_ with | (i, c0, c1, c2, p0, p1, p2, q0, q1, q2) => 0 <= i /\ i <= 6 /\ FkP 0 i c0 c1 c2 p0 p1 p2 q0 q1 q2, fun s_ => match s_ with | (i, c0, c1, c2, p0, p1, p2, q0, q1, q2) => (6 - i).toNat, ⟨(0, F.cnC (F.dmC cs) (F.dmU cs) (F.dmE cs), F.cnU (F.dmC cs) (F.dmU cs) (F.dmE cs), F.cnT (F.dmC cs) (F.dmU cs) (F.dmE cs), F.dmC cs, F.dmU cs, F.dmE cs, F.dmC cs, F.dmU cs, F.dmE cs), ?_, ?_⟩, ?_⟩; rotate_left; (focus (cbv; done)); intro s_ hi; obtain ⟨i, c0, c1, c2, p0, p1, p2, q0, q1, q2⟩ := s_; replace hi : 0 <= i /\ i <= 6 /\ FkP 0 i c0 c1 c2 p0 p1 p2 q0 q1 q2 := hi; obtain ⟨i0, i1, i2⟩ := hi; cbv) | (refine ⟨[5, 6, 7, 8, 9, 14], [5, 7, 8], Int, fun ad => [.reg 14 (.one (.v (.int .i64 ad)))], fun ad => 0 <= ad /\ ad <= ((16 * (dmE cs).length : Nat) : Int) /\ True, fun ad => (16 * (dmE cs).length) - ad.toNat, ⟨0, ?_, ?_⟩, ?_⟩; rotate_left; (focus (cbv; done)); intro ad had; replace had : 0 <= ad /\ ad <= ((16 * (dmE cs).length : Nat) : Int) /\ True := had; obtain ⟨ad0, ad1, ad2⟩ := had; cbv) | (refine loop_step (O.ar .add .i64 ad 1) ?_ ?_ ?_; rotate_left 2; focus (cbv; done)) | (refine loop_step (O.ar .add .i64 i 1, F.csC c0 c1 c2 (O.ar .rem .i64 i 2) (O.ar .rem .i64 (O.pi (.s 1 (F.dpl cs)) [(O.ad 0 i, 0)]) (O.ar .mul .i64 16 (O.zi (O.ln (F.dmE cs))))) (O.ar .rem .i64 (O.pi (.s 1 (F.dpl cs)) [(O.ad 0 (O.ar .add .i64 i 1), 0)]) 1000), F.csU c0 c1 c2 (O.ar .rem .i64 i 2) (O.ar .rem .i64 (O.pi (.s 1 (F.dpl cs)) [(O.ad 0 i, 0)]) (O.ar .mul .i64 16 (O.zi (O.ln (F.dmE cs))))) (O.ar .rem .i64 (O.pi (.s 1 (F.dpl cs)) [(O.ad 0 (O.ar .add .i64 i 1), 0)]) 1000), F.csT c0 c1 c2 (O.ar .rem .i64 i 2) (O.ar .rem .i64 (O.pi (.s 1 (F.dpl cs)) [(O.ad 0 i, 0)]) (O.ar .mul .i64 16 (O.zi (O.ln (F.dmE cs))))) (O.ar .rem .i64 (O.pi (.s 1 (F.dpl cs)) [(O.ad 0 (O.ar .add .i64 i 1), 0)]) 1000), F.stC p0 p1 p2 (O.ar .rem .i64 (O.pi (.s 1 (F.dpl cs)) [(O.ad 0 i, 0)]) (O.ar .mul .i64 16 (O.zi (O.ln (F.dmE cs))))) (O.ar .rem .i64 (O.pi (.s 1 (F.dpl cs)) [(O.ad 0 (O.ar .add .i64 i 1), 0)]) 1000), p1, p2, q0, q1, q2) ?_ ?_ ?_; rotate_left 2; focus (cbv; done)) | (refine loop_step (O.ar .add .i64 i 1, F.csC c0 c1 c2 (O.ar .rem .i64 i 2) (O.ar .rem .i64 (O.pi (.s 1 (F.dpl cs)) [(O.ad 0 i, 0)]) (O.ar .mul .i64 16 (O.zi (O.ln (F.dmE cs))))) (O.ar .rem .i64 (O.pi (.s 1 (F.dpl cs)) [(O.ad 0 (O.ar .add .i64 i 1), 0)]) 1000), F.csU c0 c1 c2 (O.ar .rem .i64 i 2) (O.ar .rem .i64 (O.pi (.s 1 (F.dpl cs)) [(O.ad 0 i, 0)]) (O.ar .mul .i64 16 (O.zi (O.ln (F.dmE cs))))) (O.ar .rem .i64 (O.pi (.s 1 (F.dpl cs)) [(O.ad 0 (O.ar .add .i64 i 1), 0)]) 1000), F.csT c0 c1 c2 (O.ar .rem .i64 i 2) (O.ar .rem .i64 (O.pi (.s 1 (F.dpl cs)) [(O.ad 0 i, 0)]) (O.ar .mul .i64 16 (O.zi (O.ln (F.dmE cs))))) (O.ar .rem .i64 (O.pi (.s 1 (F.dpl cs)) [(O.ad 0 (O.ar .add .i64 i 1), 0)]) 1000), p0, p1, p2, F.stC q0 q1 q2 (O.ar .rem .i64 (O.pi (.s 1 (F.dpl cs)) [(O.ad 0 i, 0)]) (O.ar .mul .i64 16 (O.zi (O.ln (F.dmE cs))))) (O.ar .rem .i64 (O.pi (.s 1 (F.dpl cs)) [(O.ad 0 (O.ar .add .i64 i 1), 0)]) 1000), q1, q2) ?_ ?_ ?_; rotate_left 2; focus (cbv; done)) | (refine loop_step (O.ar .add .i64 i 1, c0, c1, c2, p0, p1, p2, q0, q1, q2) ?_ ?_ ?_; rotate_left 2; focus (cbv; done))
 all_goals (subst hO hr hF; (try simp only [stdO, SS, sa, az] at *); (try simp only [nc] at *); (try simp only [onc] at *))
 all_goals (try simp only [Lf4.F0] at *)
 all_goals (try simp only [nm] at *)
 all_goals try rw [up64 (by omega) (by omega)]
 all_goals (try have z1 : arI .add .i64 i 1 = i + 1 := up64 (by omega) (by omega))
 all_goals (try simp only [z1] at *)
 all_goals (try simp only [pi_row i0] at *)
 all_goals (try simp only [pi_row (show (0 : Int) <= i + 1 from by omega)] at *)
 all_goals (try have bd := fk_bd i2 i1)
 all_goals (try have da := dpl_at (cs := cs) (j := i) i0 (by omega))
 all_goals (try have db := dpl_at (cs := cs) (j := i + 1) (by omega) (by omega))
 all_goals (try have ra := rem_bound (a := giI (dpl cs) i 0) (n := 16 * ((dmE cs).length : Int)) da.1 (by omega))
 all_goals (try have rb := rem_bound (a := giI (dpl cs) (i + 1) 0) (n := 1000) db.1 (by omega))
 all_goals (try have rm : arI .rem .i64 i 2 = i % 2 := rem64 i0)
 all_goals (try have L := fk_load (a := ad) i2)
 all_goals first
  | (show (_ : List DV) = _
     first
      | exact rfl
      | (refine dbt ?_; exact i2.ok)
      | (exfalso; simp only [L.1.1, L.1.2, L.2.1, L.2.2] at *; first | contradiction | omega)
      | (exfalso; simp only [dm] at *; first | contradiction | omega)
      | done)
  | exact hml
  | exact ⟨hw, bg_no (by assumption)⟩
  | exact ⟨True.intro, True.intro⟩
  | exact ⟨rc, ru, re, by omega⟩
  | exact fk_stay i2 i0
  | (have e : arI .rem .i64 i 2 = 0 := (by assumption); simp only [e] at *; exact fk_a i2 i0 (by assumption))
  | (have e : arI .rem .i64 i 2 = 1 := (by omega); simp only [e] at *; exact fk_b i2 i0 (by assumption))
  | (rw [cn.1, cn.2.1, cn.2.2]; exact f0)
  | exact get_int hr i0 (by omega)
  | exact get_int hr (by omega) (by omega)
  | exact ⟨i2.wC, i2.wU, i2.wT, by omega, by have := i2.cU; omega, by omega, by omega, by omega⟩
  | exact ⟨i2.wp0, i2.wp1, i2.wp2, by have := i2.cp0; omega, by have := i2.cp1; omega, by have := i2.cp2; omega, by omega⟩
  | exact ⟨i2.wq0, i2.wq1, i2.wq2, by have := i2.cq0; omega, by have := i2.cq1; omega, by have := i2.cq2; omega, by omega⟩
  | exact ⟨i2.wC, i2.wU, i2.wT, by omega⟩
  | exact ⟨i2.wp0, i2.wp1, i2.wp2, by omega⟩
  | exact ⟨i2.wq0, i2.wq1, i2.wq2, by omega⟩
  | exact ⟨i2.wC, i2.wU, i2.wT⟩
  | (show okOrder _ _ = true; kernel_rfl)
  | (rw [hd]; omega)
  | omega
  | exact True.intro
  | done
theorem r_FnForks (recs : List (List L)) (h : confs [(false, [.sl [tU]])] recs) : Ctr Try.prog 9 (argDVs [(false, [.sl [tU]])] recs) [.one (.v (.bool true))] := by
 match recs, h with
 | [[.s _ a0]], h =>
   simp only [confs, confR, confL] at h
   obtain ⟨⟨⟨rfl, ha0, ka0⟩, _⟩, _⟩ := h
   exact c_laws_FnForks a0 ⟨ha0, ka0⟩
end Go.V