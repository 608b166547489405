/-
  Contracts of functions, by evaluation of conditions on their code.
-/
import Derived.Test.YtbfhhmjhdimjlaaS8
import Derived.Test.YtbfhhmjhdimjlaaH4
import Derived.Test.YtbfhhmjhdimjlaaCowDk

set_option linter.all false
namespace Go.V
open Go Go.Proofs
set_option maxRecDepth 1000000
set_option maxHeartbeats 8000000
namespace E1
structure Fns where
  inR : Int → Int → Int → Bool
  cowOk : List (List L) → List (List L) → List (List L) → Bool
  mapsB : List (List L) → Int → Bool
def F0 : Fns := ⟨inR, cowOk, mapsB⟩
def ct (F : Fns) : CT := fun f ds => match f with
  | 46 => match ds with
    | [.one (.v (.int .i64 x)), .one (.v (.int .i64 a)), .one (.v (.int .i64 b))] => some (fun _ => True, [.one (.v (.bool (F.inR x a b)))])
    | _ => none
  | 38 => match ds with
    | [.agg [.s 1 cs, .s 1 us, .s 1 ts]] => some (fun _ => Rw [.sl [tI]] cs ∧ Rw [tB] us ∧ Rw [.sl [tI, tI]] ts, [.one (.v (.bool (F.cowOk cs us ts)))])
    | _ => none
  | 60 => match ds with
    | [.agg [.s 1 cs, .s 1 us]] => some (fun _ => Rw [.sl [tI]] cs ∧ Rw [tB] us ∧ cntE cs ≤ 1099511627776 ∧ cntE us ≤ 1099511627776, [.agg [.s 1 cs, .s 1 us]])
    | _ => none
  | 61 => match ds with
    | [.agg [.s 2 es]] => some (fun _ => Rw [tI, tI] es ∧ es.length ≤ 1099511627776, [.agg [.s 2 es]])
    | _ => none
  | 62 => match ds with
    | [.agg [.s 2 es], .one (.v (.int .i64 f))] => some (fun _ => Rw [tI, tI] es ∧ es.length ≤ 1099511627776, [.one (.v (.bool (F.mapsB es f)))])
    | _ => none
  | _ => none
theorem ct_ok : CTok Try.prog (ct F0) := by
  intro f ds pre res h hp
  unfold ct at h
  split at h
  · split at h
    · cases h; exact c_impl_between _ _ _ hp
    · cases h
  · split at h
    · cases h; exact c_impl_CowOk _ _ _ hp
    · cases h
  · split at h
    · cases h; exact c_impl_copyFrames _ _ hp
    · cases h
  · split at h
    · cases h; exact c_impl_copyTable _ hp
    · cases h
  · split at h
    · cases h; exact c_impl_maps _ _ hp
    · cases h
  · cases h
def mt : Fns → MT := noMT
theorem mt_ok : MTok Try.prog (mt F0) := noMT_ok
def pt : Fns → PT := noPT
theorem pt_ok : PTok Try.prog (pt F0) := noPT_ok
def nt : Fns → NT := noNT
theorem nt_ok : NTok Try.prog (nt F0) := noNT_ok
def ot : Fns → OT := noOT
theorem ot_ok : OTok Try.prog (ot F0) := noOT_ok
end E1
theorem c_impl_CowDrop (cs us ts : List (List L)) (wh : Int) (hp : Rw [.sl [tI]] cs ∧ Rw [tB] us ∧ Rw [.sl [tI, tI]] ts ∧ cntE cs ≤ 1099511627776) : Ctr Try.prog 32 [.agg [.s 1 cs, .s 1 us, .s 1 ts], .one (.v (.int .i64 wh))] [.agg [.s 1 (cpC cs us ts wh), .s 1 (cpU cs us ts wh), .s 2 (cpT cs us ts wh)], .one (.v (.bool (isOk cs us ts wh)))] := by
  obtain ⟨hc, hu, ht, hn⟩ := hp
  have huc := hu.cnt rfl
  refine ctr_of (ctF := E1.ct) (mtF := E1.mt) (ptF := E1.pt) (ntF := E1.nt) (otF := E1.ot) (F0 := E1.F0) tabOk E1.ct_ok E1.mt_ok E1.pt_ok E1.nt_ok E1.ot_ok mixed 53 _ [61, 4] [.cell 4 61, .tmp 5] Try.func32 rfl rfl rfl rfl rfl ?_
  intro O r F hO hr hF
  cbv
  repeat' first | refine And.intro ?_ ?_ | (refine caseB_intro (fun hb => ?_) (fun hb => ?_) <;> cbv) | (refine ⟨[4, 6, 31, 32], [4, 6], Int × List (List L) × List (List L), fun s_ => match s_ with | (i, c, u) => [.reg 32 (.one (.v (.int .i64 i))), .leaf 6 0 ⟨0, 0, none, .own (.s 1 c)⟩, .leaf 6 1 ⟨0, 0, none, .own (.s 1 u)⟩], fun s_ => match s_ with | (i, c, u) => 0 ≤ i ∧ i ≤ (us.length : Int) ∧ c = cdC cs (O.gs ts (O.ar .sub .i64 1 wh) 0) i.toNat ∧ u = cdU us (O.gs ts (O.ar .sub .i64 1 wh) 0) i.toNat, fun s_ => match s_ with | (i, c, u) => us.length - i.toNat, ⟨(0, cs, us), ?_, ?_⟩, ?_⟩; rotate_left; (focus (cbv; done)); intro s_ hi; obtain ⟨i, c, u⟩ := s_; replace hi : 0 ≤ i ∧ i ≤ (us.length : Int) ∧ c = cdC cs (O.gs ts (O.ar .sub .i64 1 wh) 0) i.toNat ∧ u = cdU us (O.gs ts (O.ar .sub .i64 1 wh) 0) i.toNat := hi; obtain ⟨i0, i1, i2, i3⟩ := hi; cbv) | (refine loop_step (O.ar .add .i64 i 1, c, u) ?_ ?_ ?_; rotate_left 2; focus (cbv; done)) | (refine loop_step (O.ar .add .i64 i 1, O.up (.s 1 c) [(O.ad 0 i, 0)] [.s 1 (O.rep 16 [.v (.int .i64 0)])], O.up (.s 1 u) [(O.ad 0 i, 0)] [.v (.bool false)]) ?_ ?_ ?_; rotate_left 2; focus (cbv; done))
  all_goals ((try subst hos); subst hO hr hF; (try simp only [stdO, SS, sub_all, ad_zero] at *); (try simp only [ncast] at *); (try simp only [Int.ofNat_eq_natCast] at *))
  all_goals (try simp only [E1.F0] at *)
  all_goals try (have hi : isOk cs us ts wh = true := (by first | assumption | exact is_t.2 ⟨by assumption, by rw [← inR_t]; assumption⟩))
  all_goals try (have hco := co_ok (is_t.1 hi).1; have hfl := fr_len hco.1; have hw := (is_t.1 hi).2; have htl := tb_len (is_tab' hi); have hsb : arI .sub .i64 1 wh = 1 - wh := sub64 (by omega); simp only [hsb] at *)
  all_goals try (have hcr : Rw [.sl [tI]] c := (by rw [i2]; exact cdC_rw hc); have hur : Rw [tB] u := (by rw [i3]; exact cdU_rw hu); have hcl : c.length = cs.length := (by rw [i2]; exact cdC_len); have hul : u.length = us.length := (by rw [i3]; exact cdU_len))
  all_goals try rw [up64 (by omega) (by omega)]
  all_goals first
    | omega
    | (show okOrder _ _ = true; kernel_rfl)
    | exact ⟨trivial, trivial⟩
    | trivial
    | exact ⟨hc, hu, ht⟩
    | exact ⟨hc, hu, hn, by omega⟩
    | (refine ⟨by omega, by omega, Eq.trans (Rw.eta (fs := _) (by (first | assumption | exact Rw.sub (by first | assumption | exact Rw.sub (by assumption) (by omega) rfl) (by omega) rfl)) (by omega) (by omega)) ?_⟩; rfl)
    | (first | assumption | exact Rw.sub (by first | assumption | exact Rw.sub (by assumption) (by omega) rfl) (by omega) rfl)
    | exact ⟨by (first | assumption | exact Rw.sub (by first | assumption | exact Rw.sub (by assumption) (by omega) rfl) (by omega) rfl), by omega⟩
    | exact get_1 hur i0 (by omega)
    | exact get_1 hcr i0 (by omega)
    | (have q : isOk cs us ts wh = false := (by first | assumption | exact is_f.2 (.inl (by assumption)) | exact is_f.2 (.inr (by rw [← inR_f]; assumption))); exact mw_eq (cp_no q).1.symm (cp_no q).2.1.symm (cp_no q).2.2.symm q.symm)
    | (rw [cdC_yes i0 (by first | assumption | exact mapsB_t.2 (by omega))]; exact i2)
    | (rw [cdU_yes i0 (by first | assumption | exact mapsB_t.2 (by omega))]; exact i3)
    | (rw [cdC_no i0 (by first | assumption | exact mapsB_f (by omega)), ← i2]; exact up_c hcr i0 (by omega))
    | (rw [cdU_no i0 (by first | assumption | exact mapsB_f (by omega)), ← i3]; exact up_u hur i0 (by omega))
    | (have hie : i.toNat = us.length := (by omega); exact mw_eq (by rw [i2, hie]; exact (cp_yes hi).1.symm) (by rw [i3, hie]; exact (cp_yes hi).2.1.symm) (cp_yes hi).2.2.symm hi.symm)
    | exact rfl
    | trace_state
namespace E2
structure Fns where
  pagesOn : List (List L) → Int → List (List L)
def F0 : Fns := ⟨pagesOn⟩
def ct (F : Fns) : CT := fun f ds => match f with
  | 91 => match ds with
    | [.agg [.s 1 cs, .s 1 us]] => some (fun _ => Rw [.sl [tI]] cs ∧ Rw [tB] us ∧ cntE cs ≤ 1099511627776 ∧ cntE us ≤ 1099511627776, [.agg [.s 1 cs, .s 1 us]])
    | _ => none
  | 92 => match ds with
    | [.agg [.s 2 es]] => some (fun _ => Rw [tI, tI] es ∧ es.length ≤ 1099511627776, [.agg [.s 2 es]])
    | _ => none
  | 77 => match ds with
    | [.agg [.s 2 es], .one (.v (.int .i64 f))] => some (fun _ => Rw [tI, tI] es ∧ es.length ≤ 1099511627776, [.one (.s 1 (F.pagesOn es f))])
    | _ => none
  | _ => none
theorem ct_ok : CTok Try.prog (ct F0) := by
  intro f ds pre res h hp
  unfold ct at h
  split at h
  · split at h
    · cases h; exact c_spec_l05Copy _ _ hp
    · cases h
  · split at h
    · cases h; exact c_spec_l06Copy _ hp
    · cases h
  · split at h
    · cases h; exact c_spec_PagesOn _ _ hp
    · cases h
  · cases h
def mt : Fns → MT := noMT
theorem mt_ok : MTok Try.prog (mt F0) := noMT_ok
def pt : Fns → PT := noPT
theorem pt_ok : PTok Try.prog (pt F0) := noPT_ok
def nt : Fns → NT := noNT
theorem nt_ok : NTok Try.prog (nt F0) := noNT_ok
def ot : Fns → OT := noOT
theorem ot_ok : OTok Try.prog (ot F0) := noOT_ok
end E2
end Go.V
