/-
  Contracts of functions, by evaluation of conditions on their code.
-/
import Derived.Test.YtbfhhmjhdimjlaaS8
import Derived.Test.YtbfhhmjhdimjlaaH30
import Derived.Test.YtbfhhmjhdimjlaaMachDk
import Derived.Test.YtbfhhmjhdimjlaaSameAk
import Derived.Test.YtbfhhmjhdimjlaaCowHk

set_option linter.all false
namespace Go.V
open Go Go.Proofs
set_option maxRecDepth 1000000
set_option maxHeartbeats 8000000
namespace Lx0
structure Fns where
  framesOk : List (List L) → List (List L) → Bool
def F0 : Fns := ⟨framesOk⟩
def ct (F : Fns) : CT := fun f ds => match f with
  | 74 => match ds with
    | [.agg [.s 1 cs, .s 1 us]] => some (fun _ => Rw [.sl [tI]] cs ∧ Rw [tB] us, [.one (.v (.bool (F.framesOk cs us)))])
    | _ => none
  | _ => none
theorem ct_ok : CTok Try.prog (ct F0) := by
  intro f ds pre res h hp
  unfold ct at h
  split at h
  · split at h
    · cases h; exact c_spec_FramesOk _ _ hp
    · cases h
  · cases h
def mt : Fns → MT := noMT
theorem mt_ok : MTok Try.prog (mt F0) := noMT_ok
def pt : Fns → PT := noPT
theorem pt_ok : PTok Try.prog (pt F0) := noPT_ok
def nt : Fns → NT := noNT
theorem nt_ok : NTok Try.prog (nt F0) := noNT_ok
def ot : Fns → OT := noOT
theorem ot_ok : OTok Try.prog (ot F0) := noOT_ok
end Lx0
theorem c_laws_big (cs : List (List L)) (hp : cs.length ≤ maxLen) : Ctr Try.prog 11 [.one (.s 1 cs)] [.one (.v (.bool (bgB cs)))] := by
  refine ctr_of (ctF := Lx0.ct) (mtF := Lx0.mt) (ptF := Lx0.pt) (ntF := Lx0.nt) (otF := Lx0.ot) (F0 := Lx0.F0) tabOk Lx0.ct_ok Lx0.mt_ok Lx0.pt_ok Lx0.nt_ok Lx0.ot_ok mixed 6 _ [4] [.tmp 2] Try.func11 rfl rfl rfl rfl rfl ?_
  intro O r F hO hr hF
  cbv
  repeat' first | refine And.intro ?_ ?_ | (refine caseB_intro (fun hb => ?_) (fun hb => ?_) <;> cbv)
  all_goals ((try subst hos); subst hO hr hF; (try simp only [stdO, SS, sub_all, ad_zero] at *); (try simp only [ncast] at *); (try simp only [Int.ofNat_eq_natCast] at *))
  all_goals first
    | (show (_ : List DV) = _
       first
         | exact db_eq (b_iff (by unfold bgB; simp only [SS, decide_eq_true_eq]))
         | done)
    | exact hp
    | exact True.intro
    | done
theorem c_spec_UsedFrames (cs us : List (List L)) (hp : Rw [.sl [tI]] cs ∧ Rw [tB] us) : Ctr Try.prog 39 [.agg [.s 1 cs, .s 1 us]] [.one (.v (.int .i64 (ufN cs us)))] := by
  obtain ⟨hc, hu⟩ := hp
  have hm := hu.1; unfold maxLen at hm
  refine ctr_of (ctF := Lx0.ct) (mtF := Lx0.mt) (ptF := Lx0.pt) (ntF := Lx0.nt) (otF := Lx0.ot) (F0 := Lx0.F0) tabOk Lx0.ct_ok Lx0.mt_ok Lx0.pt_ok Lx0.nt_ok Lx0.ot_ok mixed 24 _ [3] [.tmp 2] Try.func39 rfl rfl rfl rfl rfl ?_
  intro O r F hO hr hF
  cbv
  repeat' first | refine And.intro ?_ ?_ | (refine caseB_intro (fun hb => ?_) (fun hb => ?_) <;> cbv) | (refine ⟨[1, 3, 4], [1], Int × Int, fun s_ => match s_ with | (i, n) => [.reg 4 (.one (.v (.int .i64 i))), .reg 3 (.one (.v (.int .i64 n)))], fun s_ => match s_ with | (i, n) => 0 ≤ i ∧ i ≤ (us.length : Int) ∧ n = unN us i.toNat ∧ (i = 0 ∨ framesOk cs us = true), fun s_ => match s_ with | (i, n) => us.length - i.toNat, ⟨(0, 0), ?_, ?_⟩, ?_⟩; rotate_left; (focus (cbv; done)); intro s_ hi; obtain ⟨i, n⟩ := s_; replace hi : 0 ≤ i ∧ i ≤ (us.length : Int) ∧ n = unN us i.toNat ∧ (i = 0 ∨ framesOk cs us = true) := hi; obtain ⟨i0, i1, i2, i3⟩ := hi; cbv) | (refine loop_step (O.ar .add .i64 i 1, O.ar .add .i64 n 1) ?_ ?_ ?_; rotate_left 2; focus (cbv; done)) | (refine loop_step (O.ar .add .i64 i 1, n) ?_ ?_ ?_; rotate_left 2; focus (cbv; done))
  all_goals ((try subst hos); subst hO hr hF; (try simp only [stdO, SS, sub_all, ad_zero] at *); (try simp only [ncast] at *); (try simp only [Int.ofNat_eq_natCast] at *))
  all_goals (try simp only [Lx0.F0] at *)
  all_goals try rw [up64 (by omega) (by omega)]
  all_goals try (have un := unN_bd (us := us) (n := i.toNat); have en : arI .add .i64 n 1 = n + 1 := add64 (by omega); simp only [en])
  all_goals first
    | (show (_ : List DV) = _
       first
         | exact di_eq (uf_bad i2 i3 (by assumption))
         | exact di_eq (i2.trans (uf_nil i1 (by omega) i3).symm)
         | done)
    | exact ⟨hc, hu⟩
    | (refine ⟨by omega, by omega, Eq.trans (Rw.eta (fs := _) (by (first | assumption | exact Rw.sub (by first | assumption | exact Rw.sub (by assumption) (by omega) rfl) (by omega) rfl)) (by omega) (by omega)) ?_⟩; rfl)
    | omega
    | exact .inr (by assumption)
    | exact .inl rfl
    | exact .inl trivial
    | (rw [up64 (by omega) (by omega), unI_yes i0 (by assumption), ← i2])
    | (rw [unI_no i0 (by assumption)]; exact i2)
    | exact rfl
    | (show okOrder _ _ = true; kernel_rfl)
    | exact Int.natCast_nonneg _
    | done
namespace Lx1
structure Fns where
  leM : List (List L) → Int → Int
  leF : List (List L) → Int → Int
  leK : Int → Int
  machOk : List (List L) → List (List L) → List (List L) → Bool
def F0 : Fns := ⟨leM, leF, leK, machOk⟩
def ct (F : Fns) : CT := fun f ds => match f with
  | 71 => match ds with
    | [.agg [.s 1 b0, .s 1 b1, .s 2 es], .one (.v (.int .i64 a))] => some (fun _ => Rw [tI, tI] es ∧ (-9223372036854775808 ≤ a ∧ a ≤ 9223372036854775807), [.agg [.v (.int .i64 (F.leM es a)), .v (.int .i64 (F.leF es a))], .one (.v (.int .i64 (F.leK a)))])
    | _ => none
  | 42 => match ds with
    | [.agg [.s 1 cs, .s 1 us, .s 2 es]] => some (fun _ => Rw [.sl [tI]] cs ∧ Rw [tB] us ∧ Rw [tI, tI] es, [.one (.v (.bool (F.machOk cs us es)))])
    | _ => none
  | _ => none
theorem ct_ok : CTok Try.prog (ct F0) := by
  intro f ds pre res h hp
  unfold ct at h
  split at h
  · split at h
    · cases h; exact c_spec_l07Entry _ _ _ _ hp
    · cases h
  · split at h
    · cases h; exact c_spec_MachineOk _ _ _ hp
    · cases h
  · cases h
def mt : Fns → MT := noMT
theorem mt_ok : MTok Try.prog (mt F0) := noMT_ok
def pt : Fns → PT := noPT
theorem pt_ok : PTok Try.prog (pt F0) := noPT_ok
def nt : Fns → NT := noNT
theorem nt_ok : NTok Try.prog (nt F0) := noNT_ok
def ot : Fns → OT := noOT
theorem ot_ok : OTok Try.prog (ot F0) := noOT_ok
end Lx1
theorem c_spec_Load (cs us es : List (List L)) (a : Int) (hp : Rw [.sl [tI]] cs ∧ Rw [tB] us ∧ Rw [tI, tI] es ∧ (-9223372036854775808 ≤ a ∧ a ≤ 9223372036854775807)) : Ctr Try.prog 37 [.agg [.s 1 cs, .s 1 us, .s 2 es], .one (.v (.int .i64 a))] [.one (.v (.int .i64 (ldV cs us es a))), .one (.v (.int .i64 (ldK cs us es a)))] := by
  obtain ⟨hc, hu, he, hb⟩ := hp
  have lk := leK_bd (a := a)
  refine ctr_of (ctF := Lx1.ct) (mtF := Lx1.mt) (ptF := Lx1.pt) (ntF := Lx1.nt) (otF := Lx1.ot) (F0 := Lx1.F0) tabOk Lx1.ct_ok Lx1.mt_ok Lx1.pt_ok Lx1.nt_ok Lx1.ot_ok mixed 32 _ [3, 3] [.tmp 4, .tmp 5] Try.func37 rfl rfl rfl rfl rfl ?_
  intro O r F hO hr hF
  cbv
  repeat' first | refine And.intro ?_ ?_ | (refine caseB_intro (fun hb => ?_) (fun hb => ?_) <;> cbv)
  all_goals ((try subst hos); subst hO hr hF; (try simp only [stdO, SS, sub_all, ad_zero] at *); (try simp only [ncast] at *); (try simp only [Int.ofNat_eq_natCast] at *))
  all_goals (try simp only [Lx1.F0] at *)
  all_goals try (have fr := ld_fr (cs := cs) (us := us) (es := es) (a := a) (by assumption) (by assumption); have hr : Rw [tI] (gsI cs (leF es a) 0) := Rw.sub (fs := [.sl [tI]]) hc (by omega) rfl)
  all_goals first
    | (show (_ : List DV) = _
       first
         | (have q := ld_yes (cs := cs) (us := us) (es := es) (a := a) (by assumption) (by assumption); exact dd_eq q.1.symm q.2.symm)
         | (have q := ld_no (cs := cs) (us := us) (es := es) (a := a) (.inl (by assumption)); exact dd_eq q.1.symm q.2.symm)
         | (have q := ld_no (cs := cs) (us := us) (es := es) (a := a) (.inr (by assumption)); exact dd_eq q.1.symm q.2.symm)
         | done)
    | exact ⟨he, hb⟩
    | exact ⟨hc, hu, he⟩
    | exact ⟨True.intro, True.intro⟩
    | exact True.intro
    | (refine ⟨by omega, by omega, Eq.trans (Rw.eta (fs := _) (by (first | assumption | exact Rw.sub (by first | assumption | exact Rw.sub (by assumption) (by omega) rfl) (by omega) rfl)) (by omega) (by omega)) ?_⟩; rfl)
    | (show okOrder _ _ = true; kernel_rfl)
    | omega
    | done
namespace Lx2
structure Fns where
  no : Unit
def F0 : Fns := ⟨()⟩
def ct (F : Fns) : CT := fun f ds => match f with
  | 64 => match ds with
    | [.one (.s 2 a), .one (.s 2 b)] => some (fun _ => a = b ∧ Rw [tI, tI] a, [.one (.v (.bool true))])
    | _ => none
  | 63 => match ds with
    | [.agg [.s 1 a, .s 1 u], .agg [.s 1 b, .s 1 v]] => some (fun _ => a = b ∧ u = v ∧ Rw [.sl [tI]] a ∧ Rw [tB] u, [.one (.v (.bool true))])
    | _ => none
  | _ => none
theorem ct_ok : CTok Try.prog (ct F0) := by
  intro f ds pre res h hp
  unfold ct at h
  split at h
  · split at h
    · cases h; exact c_laws_sameEntries _ _ hp
    · cases h
  · split at h
    · cases h; exact c_laws_sameFrames _ _ _ _ hp
    · cases h
  · cases h
def mt : Fns → MT := noMT
theorem mt_ok : MTok Try.prog (mt F0) := noMT_ok
def pt : Fns → PT := noPT
theorem pt_ok : PTok Try.prog (pt F0) := noPT_ok
def nt : Fns → NT := noNT
theorem nt_ok : NTok Try.prog (nt F0) := noNT_ok
def ot : Fns → OT := noOT
theorem ot_ok : OTok Try.prog (ot F0) := noOT_ok
end Lx2
theorem c_laws_sameTables (a b : List (List L)) (hp : a = b ∧ Rw [.sl [tI, tI]] a) : Ctr Try.prog 75 [.one (.s 1 a), .one (.s 1 b)] [.one (.v (.bool true))] := by
  obtain ⟨rfl, hw⟩ := hp
  have hm := hw.1; unfold maxLen at hm
  refine ctr_of (ctF := Lx2.ct) (mtF := Lx2.mt) (ptF := Lx2.pt) (ntF := Lx2.nt) (otF := Lx2.ot) (F0 := Lx2.F0) tabOk Lx2.ct_ok Lx2.mt_ok Lx2.pt_ok Lx2.nt_ok Lx2.ot_ok mixed 29 _ [4] [.tmp 4] Try.func75 rfl rfl rfl rfl rfl ?_
  intro O r F hO hr hF
  cbv
  repeat' first | refine And.intro ?_ ?_ | (refine caseB_intro (fun hb => ?_) (fun hb => ?_) <;> cbv) | (refine ⟨[0, 1, 5], [], Int, fun i => [.reg 5 (.one (.v (.int .i64 i)))], fun i => 0 ≤ i ∧ i ≤ (a.length : Int), fun i => a.length - i.toNat, ⟨0, ?_, ?_⟩, ?_⟩; rotate_left; (focus (cbv; done)); intro i hi; replace hi : 0 ≤ i ∧ i ≤ (a.length : Int) := hi; obtain ⟨i0, i1⟩ := hi; cbv) | (refine loop_step (O.ar .add .i64 i 1) ?_ ?_ ?_; rotate_left 2; focus (cbv; done))
  all_goals ((try subst hos); subst hO hr hF; (try simp only [stdO, SS, sub_all, ad_zero] at *); (try simp only [ncast] at *); (try simp only [Int.ofNat_eq_natCast] at *))
  all_goals (try simp only [Lx2.F0] at *)
  all_goals try rw [up64 (by omega) (by omega)]
  all_goals first
    | (show (_ : List DV) = _
       first
         | exact rfl
         | (exfalso; simp_all; done)
         | (exfalso; simp_all [selI, cmpI, bnI]; done)
         | done)
    | omega
    | (refine ⟨by omega, by omega, Eq.trans (Rw.eta (fs := _) (by (first | assumption | exact Rw.sub (by first | assumption | exact Rw.sub (by assumption) (by omega) rfl) (by omega) rfl)) (by omega) (by omega)) ?_⟩; rfl)
    | (show okOrder _ _ = true; kernel_rfl)
    | exact ⟨True.intro, Rw.sub (fs := [.sl [tI, tI]]) hw (by omega) rfl⟩
    | exact Int.natCast_nonneg _
    | exact True.intro
    | done
namespace Lx3
structure Fns where
  no : Unit
def F0 : Fns := ⟨()⟩
def ct (F : Fns) : CT := fun f ds => match f with
  | 75 => match ds with
    | [.one (.s 1 a), .one (.s 1 b)] => some (fun _ => a = b ∧ Rw [.sl [tI, tI]] a, [.one (.v (.bool true))])
    | _ => none
  | 63 => match ds with
    | [.agg [.s 1 a, .s 1 u], .agg [.s 1 b, .s 1 v]] => some (fun _ => a = b ∧ u = v ∧ Rw [.sl [tI]] a ∧ Rw [tB] u, [.one (.v (.bool true))])
    | _ => none
  | _ => none
theorem ct_ok : CTok Try.prog (ct F0) := by
  intro f ds pre res h hp
  unfold ct at h
  split at h
  · split at h
    · cases h; exact c_laws_sameTables _ _ hp
    · cases h
  · split at h
    · cases h; exact c_laws_sameFrames _ _ _ _ hp
    · cases h
  · cases h
def mt : Fns → MT := noMT
theorem mt_ok : MTok Try.prog (mt F0) := noMT_ok
def pt : Fns → PT := noPT
theorem pt_ok : PTok Try.prog (pt F0) := noPT_ok
def nt : Fns → NT := noNT
theorem nt_ok : NTok Try.prog (nt F0) := noNT_ok
def ot : Fns → OT := noOT
theorem ot_ok : OTok Try.prog (ot F0) := noOT_ok
end Lx3
theorem c_laws_sameCow (a u t b v s : List (List L)) (hp : a = b ∧ u = v ∧ t = s ∧ Rw [.sl [tI]] a ∧ Rw [tB] u ∧ Rw [.sl [tI, tI]] t) : Ctr Try.prog 41 [.agg [.s 1 a, .s 1 u, .s 1 t], .agg [.s 1 b, .s 1 v, .s 1 s]] [.one (.v (.bool true))] := by
  obtain ⟨rfl, rfl, rfl, h1, h2, h3⟩ := hp
  refine ctr_of (ctF := Lx3.ct) (mtF := Lx3.mt) (ptF := Lx3.pt) (ntF := Lx3.nt) (otF := Lx3.ot) (F0 := Lx3.F0) tabOk Lx3.ct_ok Lx3.mt_ok Lx3.pt_ok Lx3.nt_ok Lx3.ot_ok mixed 17 _ [4] [.tmp 4] Try.func41 rfl rfl rfl rfl rfl ?_
  intro O r F hO hr hF
  cbv
  repeat' first | refine And.intro ?_ ?_ | (refine caseB_intro (fun hb => ?_) (fun hb => ?_) <;> cbv)
  all_goals ((try subst hos); subst hO hr hF; (try simp only [stdO, SS, sub_all, ad_zero] at *); (try simp only [ncast] at *); (try simp only [Int.ofNat_eq_natCast] at *))
  all_goals (try simp only [Lx3.F0] at *)
  all_goals first
    | (show (_ : List DV) = _; exact rfl)
    | exact ⟨True.intro, True.intro, h1, h2⟩
    | exact ⟨True.intro, h3⟩
    | exact True.intro
    | exact ⟨True.intro, True.intro⟩
    | (show okOrder _ _ = true; kernel_rfl)
    | done
namespace Lx4
structure Fns where
  bgB : List (List L) → Bool
  dmC : List (List L) → List (List L)
  dmU : List (List L) → List (List L)
  dmE : List (List L) → List (List L)
  dpl : List (List L) → List (List L)
  cnC : List (List L) → List (List L) → List (List L) → List (List L)
  cnU : List (List L) → List (List L) → List (List L) → List (List L)
  cnT : List (List L) → List (List L) → List (List L) → List (List L)
  machOk : List (List L) → List (List L) → List (List L) → Bool
  ufN : List (List L) → List (List L) → Int
  csC : List (List L) → List (List L) → List (List L) → Int → Int → Int → List (List L)
  csU : List (List L) → List (List L) → List (List L) → Int → Int → Int → List (List L)
  csT : List (List L) → List (List L) → List (List L) → Int → Int → Int → List (List L)
  csK : List (List L) → List (List L) → List (List L) → Int → Int → Int → Int
  sharedN : List (List L) → List (List L) → List (List L) → Int
  cpC : List (List L) → List (List L) → List (List L) → Int → List (List L)
  cpU : List (List L) → List (List L) → List (List L) → Int → List (List L)
  cpT : List (List L) → List (List L) → List (List L) → Int → List (List L)
  isOk : List (List L) → List (List L) → List (List L) → Int → Bool
  ldV : List (List L) → List (List L) → List (List L) → Int → Int
  ldK : List (List L) → List (List L) → List (List L) → Int → Int
def F0 : Fns := ⟨bgB, dmC, dmU, dmE, dpl, cnC, cnU, cnT, machOk, ufN, csC, csU, csT, csK, sharedN, cpC, cpU, cpT, isOk, ldV, ldK⟩
def ct (F : Fns) : CT := fun f ds => match f with
  | 11 => match ds with
    | [.one (.s 1 cs)] => some (fun _ => cs.length ≤ maxLen, [.one (.v (.bool (F.bgB cs)))])
    | _ => none
  | 30 => match ds with
    | [.one (.s 1 cs)] => some (fun _ => Rw [tU] cs ∧ cs.length ≤ 1048576, [.agg [.s 1 (F.dmC cs), .s 1 (F.dmU cs), .s 2 (F.dmE cs)]])
    | _ => none
  | 13 => match ds with
    | [.one (.s 1 cs)] => some (fun _ => Rw [tU] cs ∧ cs.length ≤ 1048576, [.one (.s 1 (F.dpl cs))])
    | _ => none
  | 31 => match ds with
    | [.agg [.s 1 cs, .s 1 us, .s 2 es]] => some (fun _ => Rw [.sl [tI]] cs ∧ Rw [tB] us ∧ Rw [tI, tI] es ∧ cntE cs ≤ 1099511627776, [.agg [.s 1 (F.cnC cs us es), .s 1 (F.cnU cs us es), .s 1 (F.cnT cs us es)], .one (.v (.bool (F.machOk cs us es)))])
    | _ => none
  | 39 => match ds with
    | [.agg [.s 1 cs, .s 1 us]] => some (fun _ => Rw [.sl [tI]] cs ∧ Rw [tB] us, [.one (.v (.int .i64 (F.ufN cs us)))])
    | _ => none
  | 34 => match ds with
    | [.agg [.s 1 cs, .s 1 us, .s 1 ts], .one (.v (.int .i64 w)), .one (.v (.int .i64 a)), .one (.v (.int .i64 v))] => some (fun _ => Rw [.sl [tI]] cs ∧ Rw [tB] us ∧ Rw [.sl [tI, tI]] ts ∧ cntE cs ≤ 1099511627776 ∧ cntE us ≤ 1099511627776 ∧ cntE ts ≤ 1099511627776 ∧ (-9223372036854775808 ≤ a ∧ a ≤ 9223372036854775807) ∧ (-9223372036854775808 ≤ v ∧ v ≤ 9223372036854775807), [.agg [.s 1 (F.csC cs us ts w a v), .s 1 (F.csU cs us ts w a v), .s 1 (F.csT cs us ts w a v)], .one (.v (.int .i64 (F.csK cs us ts w a v)))])
    | _ => none
  | 40 => match ds with
    | [.agg [.s 1 cs, .s 1 us, .s 1 ts]] => some (fun _ => Rw [.sl [tI]] cs ∧ Rw [tB] us ∧ Rw [.sl [tI, tI]] ts, [.one (.v (.int .i64 (F.sharedN cs us ts)))])
    | _ => none
  | 41 => match ds with
    | [.agg [.s 1 a, .s 1 u, .s 1 t], .agg [.s 1 b, .s 1 v, .s 1 s]] => some (fun _ => a = b ∧ u = v ∧ t = s ∧ Rw [.sl [tI]] a ∧ Rw [tB] u ∧ Rw [.sl [tI, tI]] t, [.one (.v (.bool true))])
    | _ => none
  | 32 => match ds with
    | [.agg [.s 1 cs, .s 1 us, .s 1 ts], .one (.v (.int .i64 wh))] => some (fun _ => Rw [.sl [tI]] cs ∧ Rw [tB] us ∧ Rw [.sl [tI, tI]] ts ∧ cntE cs ≤ 1099511627776, [.agg [.s 1 (F.cpC cs us ts wh), .s 1 (F.cpU cs us ts wh), .s 2 (F.cpT cs us ts wh)], .one (.v (.bool (F.isOk cs us ts wh)))])
    | _ => none
  | 37 => match ds with
    | [.agg [.s 1 cs, .s 1 us, .s 2 es], .one (.v (.int .i64 a))] => some (fun _ => Rw [.sl [tI]] cs ∧ Rw [tB] us ∧ Rw [tI, tI] es ∧ (-9223372036854775808 ≤ a ∧ a ≤ 9223372036854775807), [.one (.v (.int .i64 (F.ldV cs us es a))), .one (.v (.int .i64 (F.ldK cs us es a)))])
    | _ => none
  | 33 => match ds with
    | [.agg [.s 1 a, .s 1 u, .s 2 t], .agg [.s 1 b, .s 1 v, .s 2 s]] => some (fun _ => a = b ∧ u = v ∧ t = s ∧ Rw [.sl [tI]] a ∧ Rw [tB] u ∧ Rw [tI, tI] t, [.one (.v (.bool true))])
    | _ => none
  | 42 => match ds with
    | [.agg [.s 1 cs, .s 1 us, .s 2 es]] => some (fun _ => Rw [.sl [tI]] cs ∧ Rw [tB] us ∧ Rw [tI, tI] es, [.one (.v (.bool (F.machOk cs us es)))])
    | _ => none
  | _ => none
theorem ct_ok : CTok Try.prog (ct F0) := by
  intro f ds pre res h hp
  unfold ct at h
  split at h
  · split at h
    · cases h; exact c_laws_big _ hp
    · cases h
  · split at h
    · cases h; exact c_spec_DrawMachine _ hp
    · cases h
  · split at h
    · cases h; exact c_spec_DrawPlaces _ hp
    · cases h
  · split at h
    · cases h; exact c_impl_CowNew _ _ _ hp
    · cases h
  · split at h
    · cases h; exact c_spec_UsedFrames _ _ hp
    · cases h
  · split at h
    · cases h; exact c_impl_CowStore _ _ _ _ _ _ hp
    · cases h
  · split at h
    · cases h; exact c_impl_CowShared _ _ _ hp
    · cases h
  · split at h
    · cases h; exact c_laws_sameCow _ _ _ _ _ _ hp
    · cases h
  · split at h
    · cases h; exact c_impl_CowDrop _ _ _ _ hp
    · cases h
  · split at h
    · cases h; exact c_spec_Load _ _ _ _ hp
    · cases h
  · split at h
    · cases h; exact c_laws_sameMachine _ _ _ _ _ _ hp
    · cases h
  · split at h
    · cases h; exact c_spec_MachineOk _ _ _ hp
    · cases h
  · cases h
def mt : Fns → MT := noMT
theorem mt_ok : MTok Try.prog (mt F0) := noMT_ok
def pt : Fns → PT := noPT
theorem pt_ok : PTok Try.prog (pt F0) := noPT_ok
def nt : Fns → NT := noNT
theorem nt_ok : NTok Try.prog (nt F0) := noNT_ok
def ot : Fns → OT := noOT
theorem ot_ok : OTok Try.prog (ot F0) := noOT_ok
end Lx4
theorem c_laws_FnForkFrames (cs : List (List L)) (hp : Rw [tU] cs) : Ctr Try.prog 10 [.one (.s 1 cs)] [.one (.v (.bool true))] := by
  have hw := hp
  have hml := hw.1
  obtain ⟨dm, rc, ru, re, szc, szu, e0, e1⟩ := dm_facts (cs := cs)
  have hd := dpl_len (cs := cs)
  have hr := dpl_rw (cs := cs)
  have d0 := dpl_at (cs := cs) (j := 0) (by omega) (by omega)
  have rt := tw_rw dm rc ru re
  have ct := tw_cnt re
  have cu := ru.cnt rfl
  have cn : cnC (dmC cs) (dmU cs) (dmE cs) = dmC cs ∧ cnU (dmC cs) (dmU cs) (dmE cs) = dmU cs ∧ cnT (dmC cs) (dmU cs) (dmE cs) = twT (dmE cs) := cn_yes dm
  have sh := sh_tw dm
  refine ctr_of (ctF := Lx4.ct) (mtF := Lx4.mt) (ptF := Lx4.pt) (ntF := Lx4.nt) (otF := Lx4.ot) (F0 := Lx4.F0) tabOk Lx4.ct_ok Lx4.mt_ok Lx4.pt_ok Lx4.nt_ok Lx4.ot_ok mixed 109 _ [4] [.tmp 2] Try.func10 rfl rfl rfl rfl rfl ?_
  intro O r F hO hr hF
  cbv
  repeat' first | refine And.intro ?_ ?_ | (refine caseB_intro (fun hb => ?_) (fun hb => ?_) <;> cbv)
  all_goals ((try subst hos); subst hO hr hF; (try simp only [stdO, SS, sub_all, ad_zero] at *); (try simp only [ncast] at *); (try simp only [Int.ofNat_eq_natCast] at *))
  all_goals (try simp only [Lx4.F0] at *)
  all_goals (try simp only [show piI (L.s 1 (dpl cs)) [(Int.toNat 0, 0)] = giI (dpl cs) 0 0 from pi_at (by omega)] at *)
  all_goals (try simp only [show arI .rem .i64 (giI (dpl cs) 0 0) (arI .mul .i64 16 ((dmE cs).length : Int)) = ffA cs from rfl] at *)
  all_goals (try simp only [cn.1, cn.2.1, cn.2.2] at *)
  all_goals (have fa := ffA_b (cs := cs))
  all_goals try (have hk : csK (dmC cs) (dmU cs) (twT (dmE cs)) 1 (ffA cs) 5 ≠ 0 := (by assumption); have q := cs_k hk; (try simp only [q.1, q.2.1, q.2.2, sh, dm]))
  all_goals try (have hk : csK (dmC cs) (dmU cs) (twT (dmE cs)) 1 (ffA cs) 5 = 0 := (by assumption); have P := ff_p dm rc ru hk; have gc := cs_c (us := dmU cs) (ts := twT (dmE cs)) (w := 1) (a := ffA cs) (v := 5) rc; have gu := cs_u (cs := dmC cs) (ts := twT (dmE cs)) (w := 1) (a := ffA cs) (v := 5) ru; have gt := cs_t (cs := dmC cs) (us := dmU cs) (w := 1) (a := ffA cs) (v := 5) rt; have wz := cp_wf (w := 0) gc.1 gu.1 gt.1; (try simp only [P.d1.1, P.d1.2.1, P.d1.2.2, P.i0, P.i1, P.m0, P.v, P.sh, sh, dm]))
  all_goals first
    | (show (_ : List DV) = _
       first
         | exact rfl
         | (refine dbt ?_; rw [P.m0])
         | (exfalso; exact absurd P.v (by assumption))
         | (exfalso; simp only [P.d1.1, P.d1.2.1, P.d1.2.2, P.i0, P.i1, P.v, P.sh, sh] at *; first | contradiction | omega | (have := unN_bd (us := dmU cs) (n := (dmU cs).length); have : 0 ≤ ufN (dmC cs) (dmU cs) ∧ ufN (dmC cs) (dmU cs) ≤ 5 := (by unfold ufN; split <;> omega); have e1 : arI .sub .i64 (ufN (dmC cs) (dmU cs)) 1 = ufN (dmC cs) (dmU cs) - 1 := sub64 (by omega); simp only [e1] at *; first | contradiction | omega))
         | (exfalso; simp only [sh, dm] at *; first | contradiction | omega)
         | done)
    | exact hml
    | exact ⟨hw, bg_no (by assumption)⟩
    | exact ⟨True.intro, True.intro⟩
    | exact ⟨trivial, trivial⟩
    | exact ⟨rc, ru, re, by omega⟩
    | exact ⟨rc, ru⟩
    | (rw [hd]; omega)
    | exact get_int hr (by omega) (by omega)
    | (rw [fa.1]; omega)
    | (show okOrder _ _ = true; kernel_rfl)
    | exact ⟨rc, ru, rt, by omega, by omega, by omega, by omega, by omega⟩
    | exact ⟨rc, ru, rt⟩
    | exact ⟨trivial, trivial, trivial, rc, ru, rt⟩
    | exact ⟨rfl, rfl, rfl, rc, ru, rt⟩
    | exact ⟨trivial, trivial, trivial, rc, ru, re⟩
    | exact ⟨rfl, rfl, rfl, rc, ru, re⟩
    | exact ⟨gc.1, gu.1, gt.1, by omega⟩
    | exact ⟨gc.1, gu.1, gt.1⟩
    | exact ⟨wz.1, wz.2.1, wz.2.2, by omega⟩
    | exact ⟨wz.1, wz.2.1, wz.2.2⟩
    | omega
    | done
theorem r_FnForkFrames (recs : List (List L)) (h : confs [(false, [.sl [tU]])] recs) : Ctr Try.prog 10 (argDVs [(false, [.sl [tU]])] recs) [.one (.v (.bool true))] := by
  match recs, h with
  | [[.s _ a0]], h =>
    simp only [confs, confR, confL] at h
    obtain ⟨⟨⟨rfl, ha0, ka0⟩, _⟩, _⟩ := h
    exact c_laws_FnForkFrames a0 ⟨ha0, ka0⟩

end Go.V
