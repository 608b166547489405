/-
  Contracts, by evaluation.
-/
import Derived.Test.YtbfhhmjhdimjlaaS8
import Derived.Test.YtbfhhmjhdimjlaaH7
import Derived.Test.YtbfhhmjhdimjlaaCowFk
set_option linter.all false
namespace Go.V
open Go Go.Proofs
set_option maxRecDepth 1000000
set_option maxHeartbeats 8000000
namespace H1
structure Fns where
 framesOk : List (List L) -> List (List L) -> Bool
def F0 : Fns := ⟨framesOk⟩
def ct (F : Fns) : CT := fun f ds => match f with
 | 60 => match ds with
   | [.agg [.s 1 cs, .s 1 us]] => some (fun _ => Rw [.sl [tI]] cs /\ Rw [tB] us /\ cntE cs <= 1099511627776 /\ cntE us <= 1099511627776, [.agg [.s 1 cs, .s 1 us]])
   | _ => none
 | 72 => match ds with
   | [.agg [.s 1 cs, .s 1 us]] => some (fun _ => Rw [.sl [tI]] cs /\ Rw [tB] us, [.one (.v (.bool (F.framesOk cs us)))])
   | _ => none
 | _ => none
theorem ct_ok : CTok Try.prog (ct F0) := by
 intro f ds pre res h hp
 unfold ct at h
 split at h <;> (try split at h) <;> cases h
 exact c_impl_copyFrames _ _ hp
 exact c_impl_FramesOk _ _ hp
def B : TB Try.prog := tb ct_ok
end H1
theorem c_impl_FrameTake (cs us : List (List L)) (hp : Rw [.sl [tI]] cs /\ Rw [tB] us /\ cntE cs <= 1099511627776 /\ cntE us <= 1099511627776) : Ctr Try.prog 67 [.agg [.s 1 cs, .s 1 us]] [.agg [.s 1 cs, .s 1 (ftU cs us)], .one (.v (.int .i64 (ftI cs us))), .one (.v (.bool (ftB cs us)))] := by
 obtain ⟨hc, hu, hn, hm⟩ := hp
 have hul := len_cnt (es := us)
 refine ctr_b H1.B tabOk mixed 30 _ [56, 3, 4] [.cell 2 56, .tmp 3, .tmp 4] Try.func67 rfl rfl rfl rfl rfl ?_
 intro O r (F : H1.Fns) hO hr (hF : F = H1.F0)
 cbv
 repeat' first | refine And.intro ?_ ?_ | (refine cbi (fun hb => ?_) (fun hb => ?_) <;> cbv) | (refine ⟨[2, 5, 13, 14, 15], [2, 5, 13], Int, fun i => [.reg 15 (.one (.v (.int .i64 i)))], fun i => 0 <= i /\ i <= ((us.length : Nat) : Int) /\ upto (usedB us) i, fun i => (us.length) - i.toNat, ⟨0, ?_, ?_⟩, ?_⟩; rotate_left; (focus (cbv; done)); intro i hi; replace hi : 0 <= i /\ i <= ((us.length : Nat) : Int) /\ upto (usedB us) i := hi; obtain ⟨i0, i1, i2⟩ := hi; cbv) | (refine loop_step (O.ar .add .i64 i 1) ?_ ?_ ?_; rotate_left 2; focus (cbv; done))
 all_goals (subst hO hr hF; (try simp only [stdO, SS, sa, az] at *); (try simp only [nc] at *); (try simp only [onc] at *))
 all_goals (try simp only [H1.F0] at *)
 all_goals try rw [up64 (by omega) (by omega)]
 all_goals first | omega | (show okOrder _ _ = true; kernel_rfl) | exact ⟨hc, hu, hn, hm⟩ | exact ⟨hc, hu⟩ | (refine ⟨by omega, by omega, (Rw.eta (by first | assumption | exact Rw.sub (by first | assumption | exact Rw.sub (by assumption) (by omega) rfl) (by omega) rfl) (by omega) (by omega)).trans ?_⟩; rfl) | (first | assumption | exact Rw.sub (by first | assumption | exact Rw.sub (by assumption) (by omega) rfl) (by omega) rfl) | exact upto_z | exact upto_s i2 (by assumption) | exact get_1 hu i0 (by omega) | exact ft_eq rfl (ft_no (.inl (by assumption))).2.2.symm (ft_no (.inl (by assumption))).2.1.symm (ft_no (.inl (by assumption))).1.symm | exact ft_eq rfl (ft_no (.inr (free_no i2 (by omega)))).2.2.symm (ft_no (.inr (free_no i2 (by omega)))).2.1.symm (ft_no (.inr (free_no i2 (by omega)))).1.symm | (have q := ft_yes (by assumption) i0 (free_at i2 i0 (by omega) (by assumption)); exact ft_eq rfl ((up_u hu i0 (by omega)).trans q.2.2.symm) q.2.1.symm q.1.symm) | exact ⟨trivial, trivial⟩ | trivial | exact rfl | trace_state
namespace H3
structure Fns where
 ceM : List (List L) -> List (List L) -> List (List L) -> Int -> Int -> Int
 ceF : List (List L) -> List (List L) -> List (List L) -> Int -> Int -> Int
 inR : Int -> Int -> Int -> Bool
 mapsB : List (List L) -> Int -> Bool
 ftU : List (List L) -> List (List L) -> List (List L)
 ftI : List (List L) -> List (List L) -> Int
 ftB : List (List L) -> List (List L) -> Bool
 pagesOn : List (List L) -> Int -> List (List L)
def F0 : Fns := ⟨ceM, ceF, inR, mapsB, ftU, ftI, ftB, pagesOn⟩
def ct (F : Fns) : CT := fun f ds => match f with
 | 65 => match ds with
   | [.agg [.s 1 cs, .s 1 us, .s 1 ts]] => some (fun _ => Rw [.sl [tI]] cs /\ Rw [tB] us /\ Rw [.sl [tI, tI]] ts /\ cntE cs <= 1099511627776 /\ cntE us <= 1099511627776 /\ cntE ts <= 1099511627776, [.agg [.s 1 cs, .s 1 us, .s 1 ts]])
   | _ => none
 | 66 => match ds with
   | [.agg [.s 1 cs, .s 1 us, .s 1 ts], .one (.v (.int .i64 wh)), .one (.v (.int .i64 a))] => some (fun _ => Rw [.sl [tI]] cs /\ Rw [tB] us /\ Rw [.sl [tI, tI]] ts /\ (-9223372036854775808 <= a /\ a <= 9223372036854775807), [.agg [.v (.int .i64 (F.ceM cs us ts wh a)), .v (.int .i64 (F.ceF cs us ts wh a))]])
   | _ => none
 | 46 => match ds with
   | [.one (.v (.int .i64 x)), .one (.v (.int .i64 a)), .one (.v (.int .i64 b))] => some (fun _ => True, [.one (.v (.bool (F.inR x a b)))])
   | _ => none
 | 62 => match ds with
   | [.agg [.s 2 es], .one (.v (.int .i64 f))] => some (fun _ => Rw [tI, tI] es /\ es.length <= 1099511627776, [.one (.v (.bool (F.mapsB es f)))])
   | _ => none
 | 67 => match ds with
   | [.agg [.s 1 cs, .s 1 us]] => some (fun _ => Rw [.sl [tI]] cs /\ Rw [tB] us /\ cntE cs <= 1099511627776 /\ cntE us <= 1099511627776, [.agg [.s 1 cs, .s 1 (F.ftU cs us)], .one (.v (.int .i64 (F.ftI cs us))), .one (.v (.bool (F.ftB cs us)))])
   | _ => none
 | 68 => match ds with
   | [.one (.s 1 es)] => some (fun _ => Rw [tI] es /\ es.length <= 1099511627776, [.one (.s 1 es)])
   | _ => none
 | 69 => match ds with
   | [.agg [.s 2 es], .one (.v (.int .i64 f))] => some (fun _ => Rw [tI, tI] es /\ es.length <= 1099511627776, [.one (.s 1 (F.pagesOn es f))])
   | _ => none
 | _ => none
theorem ct_ok : CTok Try.prog (ct F0) := by
 intro f ds pre res h hp
 unfold ct at h
 split at h <;> (try split at h) <;> cases h
 exact c_impl_copyCow _ _ _ hp
 exact c_impl_cowEntry _ _ _ _ _ hp
 exact c_impl_between _ _ _ hp
 exact c_impl_maps _ _ hp
 exact c_impl_FrameTake _ _ hp
 exact c_impl_copyInts _ hp
 exact c_impl_PagesOn _ _ hp
def B : TB Try.prog := tb ct_ok
end H3
theorem c_impl_CowStore (cs us ts : List (List L)) (w a v : Int) (hp : Rw [.sl [tI]] cs /\ Rw [tB] us /\ Rw [.sl [tI, tI]] ts /\ cntE cs <= 1099511627776 /\ cntE us <= 1099511627776 /\ cntE ts <= 1099511627776 /\ (-9223372036854775808 <= a /\ a <= 9223372036854775807) /\ (-9223372036854775808 <= v /\ v <= 9223372036854775807)) : Ctr Try.prog 34 [.agg [.s 1 cs, .s 1 us, .s 1 ts], .one (.v (.int .i64 w)), .one (.v (.int .i64 a)), .one (.v (.int .i64 v))] [.agg [.s 1 (csC cs us ts w a v), .s 1 (csU cs us ts w a v), .s 1 (csT cs us ts w a v)], .one (.v (.int .i64 (csK cs us ts w a v)))] := by
 obtain ⟨hc, hu, ht, hn, hm, hk, ha, hv⟩ := hp
 refine ctr_b H3.B tabOk mixed 108 _ [65, 3] [.cell 8 65, .tmp 9] Try.func34 rfl rfl rfl rfl rfl ?_
 intro O r (F : H3.Fns) hO hr (hF : F = H3.F0)
 cbv
 repeat' first | refine And.intro ?_ ?_ | (refine cbi (fun hb => ?_) (fun hb => ?_) <;> cbv) | (refine ⟨[1, 2, 3, 8, 10, 14, 79, 80, 81], [8, 10, 79], Int × List (List L), fun s_ => match s_ with | (i, T) => [.reg 81 (.one (.v (.int .i64 i))), .leaf 10 2 ⟨0, 0, none, .own (.s 1 T)⟩], fun s_ => match s_ with | (i, T) => 0 <= i /\ i <= ((pagesOn (gsI ts w 0) (ceF cs us ts w a)).length : Int) /\ T = tsW ts w (rmL (gsI ts w 0) (ftI cs us) (pagesOn (gsI ts w 0) (ceF cs us ts w a)) i.toNat), fun s_ => match s_ with | (i, T) => (pagesOn (gsI ts w 0) (ceF cs us ts w a)).length - i.toNat, ⟨(0, ts), ?_, ?_⟩, ?_⟩; rotate_left; (focus (cbv; done)); intro s_ hi; obtain ⟨i, T⟩ := s_; replace hi : 0 <= i /\ i <= ((pagesOn (gsI ts w 0) (ceF cs us ts w a)).length : Int) /\ T = tsW ts w (rmL (gsI ts w 0) (ftI cs us) (pagesOn (gsI ts w 0) (ceF cs us ts w a)) i.toNat) := hi; obtain ⟨i0, i1, i2⟩ := hi; cbv) | (refine loop_step (O.ar .add .i64 i 1, O.up (.s 1 T) [(O.ad 0 w, 0), (O.ad 0 (O.pi (.s 1 (F.pagesOn (O.gs ts w 0) (F.ceF cs us ts w a))) [(O.ad 0 i, 0)]), 1)] [.v (.int .i64 (F.ftI (O.sub cs 0 (O.ln cs)) (O.sub us 0 (O.ln us))))]) ?_ ?_ ?_; rotate_left 2; focus (cbv; done))
 all_goals (subst hO hr hF; (try simp only [stdO, SS, sa, az] at *); (try simp only [nc] at *); (try simp only [onc] at *))
 all_goals (try simp only [H3.F0, ps_row] at *)
 all_goals try (have hok := ce_ok (cs := cs) (us := us) (ts := ts) (wh := w) (a := a) (by assumption); have hf := ce_fr (cs := cs) (us := us) (ts := ts) (wh := w) (a := a) (by assumption); have hco := co_ok (is_t.1 hok.1).1; have hw := (is_t.1 hok.1).2; have hsb : arI .sub .i64 1 w = 1 - w := sub64 (by omega); have hrm : arI .rem .i64 a 16 = a % 16 := rem64 hok.2; simp only [hsb, hrm] at *)
 all_goals try (have htl := tb_len (is_tab hok.1); have htl' := tb_len (is_tab' hok.1); have htr : Rw [tI, tI] (gsI ts w 0) := Rw.sub (fs := [.sl [tI, tI]]) ht (by omega) rfl)
 all_goals try (have hft := ft_bd (cs := cs) (us := us) (by assumption); have hup : upI (.s 1 cs) [((ftI cs us).toNat, 0)] [.s 1 (gsI cs (ceF cs us ts w a) 0)] = cpF cs us ts w a := up_c hc hft.1 hft.2.1; have hfl := fr_len hco.1; have hcR := cpF_rw (us := us) (ts := ts) (w := w) (a := a) hc hf.1 hf.2.1; have hcl := cpF_len (cs := cs) (us := us) (ts := ts) (w := w) (a := a); have hcg : (gsI (cpF cs us ts w a) (ftI cs us) 0).length = 16 := (by rw [cpF_at hft.1 hft.2.1]; exact hf.2.2.2.2); simp only [hup] at *)
 all_goals try (have hpr := pi_row (l := pagesOn (gsI ts w 0) (ceF cs us ts w a)) (i := i) i0; simp only [hpr] at *)
 all_goals try (have hTR : Rw [.sl [tI, tI]] T := (by rw [i2]; exact tsW_rw ht (rmL_rw htr (by omega))); have hTl : T.length = ts.length := (by rw [i2]; exact tsW_len); have hTg : gsI T w 0 = rmL (gsI ts w 0) (ftI cs us) (pagesOn (gsI ts w 0) (ceF cs us ts w a)) i.toNat := (by rw [i2]; exact tsW_at (by omega) (by omega)); have hTgl : (gsI T w 0).length = (gsI ts w 0).length := (by rw [hTg]; exact rmL_len))
 all_goals try (have hpa := pages_at (es := gsI ts w 0) (f := ceF cs us ts w a) i0 (by assumption))
 all_goals try (have hpl := pages_len (es := gsI ts w 0) (f := ceF cs us ts w a))
 all_goals try rw [up64 (by omega) (by omega)]
 all_goals first
  | (show (_ : List DV) = _
     first
      | (have q := cs_1 (cs := cs) (us := us) (ts := ts) (w := w) (a := a) (v := v) (by assumption); exact ct_eq q.1.symm q.2.1.symm q.2.2.1.symm q.2.2.2.symm)
      | (have q := cs_2 (cs := cs) (us := us) (ts := ts) (w := w) (a := a) (v := v) (by assumption); exact ct_eq q.1.symm q.2.1.symm q.2.2.1.symm q.2.2.2.symm)
      | (have q := cs_3 (cs := cs) (us := us) (ts := ts) (w := w) (a := a) (v := v) (by assumption) (by assumption) (by assumption); exact ct_eq q.1.symm q.2.1.symm q.2.2.1.symm q.2.2.2.symm)
      | (have q := cs_4 (cs := cs) (us := us) (ts := ts) (w := w) (a := a) (v := v) (by assumption) (by assumption) (by assumption) (by assumption) (by assumption); exact ct_eq q.1.symm q.2.1.symm q.2.2.1.symm q.2.2.2.symm)
      | (have q := cs_5 (cs := cs) (us := us) (ts := ts) (w := w) (a := a) (v := v) (by assumption) (by assumption) (by assumption) (by assumption) (by assumption); exact ct_eq ((up_2 hcR hft.1 (by omega) (by omega) (by omega)).trans q.1.symm) q.2.1.symm ((i2.trans (congrArg (tsW ts w) (rmL_end i1 (by omega)))).trans q.2.2.1.symm) q.2.2.2.symm)
      | (have q := cs_6 (cs := cs) (us := us) (ts := ts) (w := w) (a := a) (v := v) (by assumption) (by assumption) (by assumption) (by assumption); exact ct_eq ((up_2 hc hf.1 hf.2.1 (by omega) (by omega)).trans q.1.symm) q.2.1.symm q.2.2.1.symm q.2.2.2.symm)
      | done)
  | (show (_ : List (List L)) = _
     first
      | (rw [rmL_0]; exact (tsW_self ht (by omega) (by omega)).symm)
      | (rw [rmL_up i0, up_e hTR (by omega) (by omega) (by omega) (by omega), hTg, i2, tsW_tsW]; done)
      | done)
  | omega
  | (show okOrder _ _ = true; kernel_rfl)
  | (refine ⟨by omega, by omega, (Rw.eta (by first | assumption | exact Rw.sub (by first | assumption | exact Rw.sub (by assumption) (by omega) rfl) (by omega) rfl) (by omega) (by omega)).trans ?_⟩; rfl)
  | exact ⟨trivial, trivial⟩
  | exact ⟨hc, hu, ht, hn, hm, hk⟩
  | exact ⟨hc, hu, ht, ha⟩
  | exact ⟨hc, hu, hn, hm⟩
  | exact ⟨by (first | assumption | exact Rw.sub (by first | assumption | exact Rw.sub (by assumption) (by omega) rfl) (by omega) rfl), by omega⟩
  | exact get_1 hc hft.1 hft.2.1
  | exact get_int (pages_rw (by omega)) i0 (by assumption)
  | exact get_rowT hTR (by omega) (by omega)
  | exact ⟨by omega, by omega, gets_rowT hTR (by omega) (by omega)⟩
  | exact get_e hTR (by omega) (by omega) (by omega) (by omega)
  | exact get_row hc hf.1 hf.2.1
  | exact get_row hcR hft.1 (by omega)
  | exact ⟨by omega, by omega, gets_row hc hf.1 hf.2.1⟩
  | exact ⟨by omega, by omega, gets_row hcR hft.1 (by omega)⟩
  | exact get_2 hc hf.1 hf.2.1 (by omega) (by omega)
  | exact get_2 hcR hft.1 (by omega) (by omega) (by omega)
  | trivial
  | trace_state
end Go.V