/-
  Contracts, by evaluation.
-/import Derived.Test.YticfhgfgobafbaaGreatS9
import Derived.Test.YticfhgfgobafbaaGreatHB
import Derived.Test.YticfhgfgobafbaaGreatLayEm
set_option linter.all false
namespace Go.V
open Go Go.Proofs
set_option maxRecDepth 1000000
set_option maxHeartbeats 8000000
open Go.Shelf in
shelf_lay Lays.n189 Nm 189 at Tryz as Tryz.lays189
theorem c_slices_Sort_int_int (l : List (List L)) (hp : Rw [tI] l /\ l.length <= 70368744177664) : MCtr Tryz.prog 113 [.one (.s 1 l)] [.s 1 (srtL l)] [] := by
 exact mctr_sort (Any.slices_Sort_int_none Tryz.lays189) (Any.slices_Sort_int Tryz.lays189) l hp
namespace Lf1
structure Fns where
 layOk : List (List L) -> List (List L) -> Bool
 slN : Int -> Int
 hsB : Int -> Int -> Bool
 aaI : Int -> Int -> Int -> Int -> Int
 srtL : List (List L) -> List (List L)
def F0 : Fns := ⟨layOk, slN, hsB, aaI, srtL⟩
def ct (F : Fns) : CT := fun f ds => match f with
 | 79 => match ds with
   | [.one (.s 3 sp), .one (.s 3 lg)] => some (fun _ => Rw [tI, tI, tI] sp /\ Rw [tI, tI, tI] lg /\ sp.length <= 1073741824 /\ lg.length <= 1073741824, [.one (.v (.bool (F.layOk sp lg)))])
   | _ => none
 | 110 => match ds with
   | [.one (.v (.int .i64 k))] => some (fun _ => True, [.one (.v (.int .i64 (F.slN k)))])
   | _ => none
 | 111 => match ds with
   | [.one (.v (.int .i64 b)), .one (.v (.int .i64 i))] => some (fun _ => True, [.one (.v (.bool (F.hsB b i)))])
   | _ => none
 | 112 => match ds with
   | [.agg [.v (.int .i64 p), .v (.int .i64 k), .v (.int .i64 b)], .one (.v (.int .i64 s))] => some (fun _ => True, [.one (.v (.int .i64 (F.aaI p k b s)))])
   | _ => none
 | _ => none
theorem ct_ok : CTok Tryz.prog (ct F0) := by
 intro f ds pre res h hp
 unfold ct at h
 split at h <;> (try split at h) <;> cases h
 exact c_impl_LayoutOk _ _ hp
 exact c_impl_SlotsOf _ hp
 exact c_impl_HasSlot _ _ hp
 exact c_impl_SpanAddr _ _ _ _ hp
def mt (F : Fns) : MT := fun f => match f with
 | 113 => some fun ds => match ds with
   | [.one (.s 1 l)] => some (fun _ => Rw [tI] l /\ l.length <= 70368744177664, [.s 1 (F.srtL l)], [])
   | _ => none
 | _ => none
theorem mt_ok : MTok Tryz.prog (mt F0) := by
 intro f mk h ds pre outs res hm hp
 unfold mt at h
 split at h
 ·cases h; dsimp only at hm; split at hm
  ·cases hm; exact c_slices_Sort_int_int _ hp
  ·cases hm
 ·cases h
def B : TB Tryz.prog := {Φ := Fns, F0 := F0, ct := ct, hc := ct_ok, mt := mt, hm := mt_ok}
end Lf1
theorem c_impl_LiveAddrs (sp lg : List (List L)) (hp : Rw [tI, tI, tI] sp /\ Rw [tI, tI, tI] lg /\ sp.length <= 1073741824 /\ lg.length <= 1073741824) : Ctr Tryz.prog 38 [.one (.s 3 sp), .one (.s 3 lg)] [.one (.s 1 (iaL sp lg))] := by
 obtain ⟨hs, hl, ns, nl⟩ := hp
 refine ctr_b Lf1.B tabOk mixed 56 _ [31] [.tmp 4] Tryz.func38 rfl rfl rfl rfl rfl ?_
 intro O r (F : Lf1.Fns) hO hr (hF : F = Lf1.F0)
 cbv
 repeat' first | refine And.intro ?_ ?_ | (refine cbi (fun hb => ?_) (fun hb => ?_) <;> cbv) | (refine ⟨[1, 5, 16, 17, 18], [5], Int × List (List L), fun s_ => match s_ with | (i, o) => [.reg 18 (.one (.v (.int .i64 i))), .reg 5 (.one (.vw 5 0 0 0 (O.ln o))), .leaf 5 0 ⟨0, 0, none, .own (.s 1 o)⟩], fun s_ => match s_ with | (i, o) => 0 <= i /\ i <= (sp.length : Int) /\ IaP sp i o, fun s_ => match s_ with | (i, o) => sp.length - i.toNat, ⟨(0, []), ?_, ?_⟩, ?_⟩; rotate_left; (focus (cbv; done)); intro s_ hi; obtain ⟨i, o⟩ := s_; replace hi : 0 <= i /\ i <= (sp.length : Int) /\ IaP sp i o := hi; obtain ⟨i0, i1, i2⟩ := hi; cbv) | (refine ⟨[1, 5, 7, 8, 16, 17, 18], [5, 7], Int × List (List L), fun s_ => match s_ with | (k, o1) => [.reg 8 (.one (.v (.int .i64 k))), .reg 5 (.one (.vw 5 0 0 0 (O.ln o1))), .leaf 5 0 ⟨0, 0, none, .own (.s 1 o1)⟩], fun s_ => match s_ with | (k, o1) => 0 <= k /\ k <= slN (giI sp i 1) /\ IbP sp i k o1, fun s_ => match s_ with | (k, o1) => (slN (giI sp i 1) - k).toNat, ⟨(0, o), ?_, ?_⟩, ?_⟩; rotate_left; (focus (cbv; done)); intro s_ hk; obtain ⟨k, o1⟩ := s_; replace hk : 0 <= k /\ k <= slN (giI sp i 1) /\ IbP sp i k o1 := hk; obtain ⟨k0, k1, k2⟩ := hk; cbv) | (refine ⟨[5, 40, 41, 42], [5], Int × List (List L), fun s_ => match s_ with | (j, o2) => [.reg 42 (.one (.v (.int .i64 j))), .reg 5 (.one (.vw 5 0 0 0 (O.ln o2))), .leaf 5 0 ⟨0, 0, none, .own (.s 1 o2)⟩], fun s_ => match s_ with | (j, o2) => 0 <= j /\ j <= (lg.length : Int) /\ IcP sp lg j o2, fun s_ => match s_ with | (j, o2) => lg.length - j.toNat, ⟨(0, o), ?_, ?_⟩, ?_⟩; rotate_left; (focus (cbv; done)); intro s_ hj; obtain ⟨j, o2⟩ := s_; replace hj : 0 <= j /\ j <= (lg.length : Int) /\ IcP sp lg j o2 := hj; obtain ⟨j0, j1, j2⟩ := hj; cbv) | (refine loop_step (O.ar .add .i64 k 1, O.cat o1 (O.sub [[.v (.int .i64 (F.aaI (O.gi sp i 0) (O.gi sp i 1) (O.gi sp i 2) k))]] 0 (O.ln [[.v (.int .i64 (F.aaI (O.gi sp i 0) (O.gi sp i 1) (O.gi sp i 2) k))]]))) ?_ ?_ ?_; rotate_left 2; focus (cbv; done)) | (refine loop_step (O.ar .add .i64 k 1, o1) ?_ ?_ ?_; rotate_left 2; focus (cbv; done)) | (refine loop_step (O.ar .add .i64 i 1, o1) ?_ ?_ ?_; rotate_left 2; focus (cbv; done)) | (refine loop_step (O.ar .add .i64 j 1, O.cat o2 (O.sub [[.v (.int .i64 (O.ar .mul .i64 (O.gi lg j 0) 16))]] 0 (O.ln [[.v (.int .i64 (O.ar .mul .i64 (O.gi lg j 0) 16))]]))) ?_ ?_ ?_; rotate_left 2; focus (cbv; done))
 all_goals (subst hO hr hF; (try simp only [stdO, SS, sa, az] at *); (try simp only [nc] at *); (try simp only [onc] at *))
 all_goals (try simp only [Lf1.F0] at *)
 all_goals try rw [up64 (by omega) (by omega)]
 all_goals (try have z1 := sl_b (sp := sp) (lg := lg) (i := i) (by assumption) i0 (by assumption))
 all_goals (try have z6 : arI .add .i64 k 1 = k + 1 := add64 (by omega))
 all_goals (try simp only [z6] at *)
 all_goals (try have z7 := lg_b (sp := sp) (lg := lg) (j := j) (by assumption) j0 (by assumption))
 all_goals (try have z8 : arI .mul .i64 (giI lg j 0) 16 = giI lg j 0 * 16 := mul64a (by omega))
 all_goals (try simp only [z8] at *)
 all_goals first
  | (show (_ : List DV) = _
     first
      | (refine rw1_eq ?_; exact ia_f (by assumption))
      | (refine rw1_eq ?_; exact ic_end j2 j1 (by assumption) (by assumption))
      | done)
  | omega
  | (refine ⟨by omega, by omega, (Rw.eta (by first | assumption | exact Rw.sub (by first | assumption | exact Rw.sub (by assumption) (by omega) rfl) (by omega) rfl) (by omega) (by omega)).trans ?_⟩; rfl)
  | (show okOrder _ _ = true; kernel_rfl)
  | exact scal_one
  | exact ⟨hs, hl, ns, nl⟩
  | exact ic_rw j2 (by omega) (by omega)
  | (have q := ib_len k2; constructor <;> (simp only [List.length_cons, List.length_nil]; omega))
  | (have q := ic_len j2; constructor <;> (simp only [List.length_cons, List.length_nil]; omega))
  | exact ib_yes k2 k0 (by assumption)
  | exact ib_no k2 k0 (by assumption)
  | exact ib_end k2 i0 k1 (by assumption) z1
  | exact ib_0 i2
  | exact ic_0 i2 i1 (by assumption)
  | exact ic_up j2 j0 z7
  | exact ia_0
  | exact srtL_len
  | exact ⟨True.intro, srtL_len.symm⟩
  | exact ⟨True.intro, True.intro⟩
  | exact True.intro
  | done
end Go.V