/-
  Contracts, by evaluation.
-/
import Derived.Test.YtbfhhmjhdimjlaaS8
import Derived.Test.YtbfhhmjhdimjlaaH18
set_option linter.all false
namespace Go.V
open Go Go.Proofs
set_option maxRecDepth 1000000
set_option maxHeartbeats 8000000
namespace Dw0
structure Fns where
 no : Unit
def F0 : Fns := ⟨()⟩
def B : TB Try.prog := {Φ := Fns, F0 := F0}
end Dw0
theorem c_spec_l01New (cs : List (List L)) (hp : Rw [tU] cs /\ cs.length <= 1048576) : NCtr Try.prog 43 [.one (.s 1 cs)] [.ro (.s 1 cs), .own (.v (.int .i64 0)), .own (.v (.int .i64 (l01h cs)))] := by
 obtain ⟨hw, hl⟩ := hp
 refine nctr_b Dw0.B tabOk mixed 32 _ [83] [.tmp 2] Try.func43 rfl rfl rfl rfl rfl ?_
 intro O r (F : Dw0.Fns) hO hr (hF : F = Dw0.F0)
 cbv
 repeat' first | refine And.intro ?_ ?_ | (refine cbi (fun hb => ?_) (fun hb => ?_) <;> cbv) | (refine ⟨[0, 3, 4], [], Int × Int, fun s_ => match s_ with | (i, h) => [.reg 4 (.one (.v (.int .i64 i))), .reg 3 (.one (.v (.int .i64 h)))], fun s_ => match s_ with | (i, h) => 0 <= i /\ i <= (cs.length : Int) /\ i <= 4000 /\ h = l01hN cs i.toNat, fun s_ => match s_ with | (i, h) => cs.length - i.toNat, ⟨(0, O.ar .add .i64 98801 (O.zi (O.ln cs))), ?_, ?_⟩, ?_⟩; rotate_left; (focus (cbv; done)); intro s_ hi; obtain ⟨i, h⟩ := s_; replace hi : 0 <= i /\ i <= (cs.length : Int) /\ i <= 4000 /\ h = l01hN cs i.toNat := hi; obtain ⟨i0, i1, i2, i3⟩ := hi; cbv) | (refine loop_step (O.ar .add .i64 i 1, O.ar .and .i64 (O.ar .add .i64 (O.ar .add .i64 (O.ar .mul .i64 h 131) (O.wr .i64 (O.gi cs i 0))) 7) 1073741823) ?_ ?_ ?_; rotate_left 2; focus (cbv; done))
 all_goals (subst hO hr hF; (try simp only [stdO, SS, sa, az] at *); (try simp only [nc] at *); (try simp only [onc] at *))
 all_goals try rw [up64 (by omega) (by omega)]
 all_goals first
  | (show (_ : List H) = _
     first
      | exact cur_eq rfl (i3.trans (l01h_end i0 i1 i2 (by omega)))
      | done)
  | omega
  | (refine ⟨by omega, by omega, (Rw.eta (by first | assumption | exact Rw.sub (by first | assumption | exact Rw.sub (by assumption) (by omega) rfl) (by omega) rfl) (by omega) (by omega)).trans ?_⟩; rfl)
  | exact Int.natCast_nonneg _
  | exact (by rw [i3]; exact (l01h_up i0).symm)
  | exact rfl
  | exact True.intro
  | done
theorem c_spec_l01Byte (cs : List (List L)) (i h : Int) (hp : Rw [tU] cs /\ cs.length <= 1048576 /\ 0 <= i /\ i <= cs.length) : PCtr Try.prog 78 [.mp [.ro (.s 1 cs), .own (.v (.int .i64 i)), .own (.v (.int .i64 h))]] [[.ro (.s 1 cs), .own (.v (.int .i64 (bI cs i))), .own (.v (.int .i64 (bH h)))]] [.one (.v (.int .i64 (bX cs i h)))] := by
 obtain ⟨hw, hl, h0, h1⟩ := hp
 refine pctr_b Dw0.B tabOk mixed 58 _ [3] [.tmp 2] Try.func78 rfl rfl rfl rfl rfl rfl rfl ?_
 intro O r os (F : Dw0.Fns) hO hr hos (hF : F = Dw0.F0)
 cbv
 repeat' first | refine And.intro ?_ ?_ | (refine cbi (fun hb => ?_) (fun hb => ?_) <;> cbv)
 all_goals ((try subst hos); subst hO hr hF; (try simp only [stdO, SS, sa, az] at *); (try simp only [nc] at *); (try simp only [onc] at *))
 all_goals try rw [up64 (by omega) (by omega)]
 all_goals first
  | (show (_ : List DV) = _
     first
      | (have q := b_yes (cs := cs) (i := i) (h := h) (by assumption); exact di_eq q.2.symm)
      | (have q := b_no (cs := cs) (i := i) (h := h) (by omega); exact di_eq q.2.symm)
      | done)
  | (show (_ : List H) = _
     first
      | (have q := b_yes (cs := cs) (i := i) (h := h) (by assumption); exact cur_eq q.1.symm rfl)
      | (have q := b_no (cs := cs) (i := i) (h := h) (by omega); exact cur_eq q.1.symm rfl)
      | done)
  | omega
  | (show okOrder _ _ = true; kernel_rfl)
  | (refine ⟨by omega, by omega, (Rw.eta (by first | assumption | exact Rw.sub (by first | assumption | exact Rw.sub (by assumption) (by omega) rfl) (by omega) rfl) (by omega) (by omega)).trans ?_⟩; rfl)
  | exact True.intro
  | done
namespace Dw1
structure Fns where
 bX : List (List L) -> Int -> Int -> Int
 bI : List (List L) -> Int -> Int
 bH : Int -> Int
def F0 : Fns := ⟨bX, bI, bH⟩
def pt (F : Fns) : PT := fun f => match f with
 | 78 => some fun ds => match ds with
   | [.mp [.ro (.s 1 cs), .own (.v (.int .i64 i)), .own (.v (.int .i64 h))]] => some (fun _ => Rw [tU] cs /\ cs.length <= 1048576 /\ 0 <= i /\ i <= cs.length, [[.ro (.s 1 cs), .own (.v (.int .i64 (F.bI cs i))), .own (.v (.int .i64 (F.bH h)))]], [.one (.v (.int .i64 (F.bX cs i h)))])
   | _ => none
 | _ => none
theorem pt_ok : PTok Try.prog (pt F0) := by
 intro f mk h ds pre outs res hm hp
 unfold pt at h
 split at h
 ·cases h; dsimp only at hm; split at hm
  ·cases hm; exact c_spec_l01Byte _ _ _ hp
  ·cases hm
 ·cases h
def B : TB Try.prog := {Φ := Fns, F0 := F0, pt := pt, hp := pt_ok}
end Dw1
theorem c_spec_l01Below (cs : List (List L)) (i h n : Int) (hp : Rw [tU] cs /\ cs.length <= 1048576 /\ 0 <= i /\ i <= cs.length) : PCtr Try.prog 44 [.mp [.ro (.s 1 cs), .own (.v (.int .i64 i)), .own (.v (.int .i64 h))], .one (.v (.int .i64 n))] [[.ro (.s 1 cs), .own (.v (.int .i64 (wI cs i n))), .own (.v (.int .i64 (wH h n)))]] [.one (.v (.int .i64 (wX cs i h n)))] := by
 obtain ⟨hw, hl, h0, h1⟩ := hp
 have q1 := bI_ok (cs := cs) h0 h1
 have q2 := bI_ok (cs := cs) q1.1 q1.2
 have q3 := bI_ok (cs := cs) q2.1 q2.2
 refine pctr_b Dw1.B tabOk mixed 37 _ [3] [.tmp 4] Try.func44 rfl rfl rfl rfl rfl rfl rfl ?_
 intro O r os (F : Dw1.Fns) hO hr hos (hF : F = Dw1.F0)
 cbv
 repeat' first | refine And.intro ?_ ?_ | (refine cbi (fun hb => ?_) (fun hb => ?_) <;> cbv)
 all_goals ((try subst hos); subst hO hr hF; (try simp only [stdO, SS, sa, az] at *); (try simp only [nc] at *); (try simp only [onc] at *))
 all_goals (try simp only [Dw1.F0] at *)
 all_goals first
  | (show (_ : List DV) = _
     first
      | (have q := w_0 (cs := cs) (i := i) (h := h) (n := n) (by assumption); exact di_eq q.2.2.symm)
      | (have q := w_1 (cs := cs) (i := i) (h := h) (n := n) (by assumption) (by assumption); exact di_eq q.2.2.symm)
      | (have q := w_4 (cs := cs) (i := i) (h := h) (n := n) (by assumption); exact di_eq q.2.2.symm)
      | done)
  | (show (_ : List H) = _
     first
      | (have q := w_0 (cs := cs) (i := i) (h := h) (n := n) (by assumption); exact cur_eq q.1.symm q.2.1.symm)
      | (have q := w_1 (cs := cs) (i := i) (h := h) (n := n) (by assumption) (by assumption); exact cur_eq q.1.symm q.2.1.symm)
      | (have q := w_4 (cs := cs) (i := i) (h := h) (n := n) (by assumption); exact cur_eq q.1.symm q.2.1.symm)
      | done)
  | omega
  | exact ⟨hw, hl, by omega, by omega⟩
  | (show okOrder _ _ = true; kernel_rfl)
  | (refine ⟨by omega, by omega, (Rw.eta (by first | assumption | exact Rw.sub (by first | assumption | exact Rw.sub (by assumption) (by omega) rfl) (by omega) rfl) (by omega) (by omega)).trans ?_⟩; rfl)
  | exact True.intro
  | done
namespace Dw2
structure Fns where
 l01h : List (List L) -> Int
 wX : List (List L) -> Int -> Int -> Int -> Int
 wI : List (List L) -> Int -> Int -> Int
 wH : Int -> Int -> Int
def F0 : Fns := ⟨l01h, wX, wI, wH⟩
def pt (F : Fns) : PT := fun f => match f with
 | 44 => some fun ds => match ds with
   | [.mp [.ro (.s 1 cs), .own (.v (.int .i64 i)), .own (.v (.int .i64 h))], .one (.v (.int .i64 n))] => some (fun _ => Rw [tU] cs /\ cs.length <= 1048576 /\ 0 <= i /\ i <= cs.length, [[.ro (.s 1 cs), .own (.v (.int .i64 (F.wI cs i n))), .own (.v (.int .i64 (F.wH h n)))]], [.one (.v (.int .i64 (F.wX cs i h n)))])
   | _ => none
 | _ => none
theorem pt_ok : PTok Try.prog (pt F0) := by
 intro f mk h ds pre outs res hm hp
 unfold pt at h
 split at h
 ·cases h; dsimp only at hm; split at hm
  ·cases hm; exact c_spec_l01Below _ _ _ _ hp
  ·cases hm
 ·cases h
def nt (F : Fns) : NT := fun f => match f with
 | 43 => some fun ds => match ds with
   | [.one (.s 1 cs)] => some (fun _ => Rw [tU] cs /\ cs.length <= 1048576, [.ro (.s 1 cs), .own (.v (.int .i64 0)), .own (.v (.int .i64 (F.l01h cs)))])
   | _ => none
 | _ => none
theorem nt_ok : NTok Try.prog (nt F0) := by
 intro f mk h ds pre hs hm hp
 unfold nt at h
 split at h
 ·cases h; dsimp only at hm; split at hm
  ·cases hm; exact c_spec_l01New _ hp
  ·cases hm
 ·cases h
def B : TB Try.prog := {Φ := Fns, F0 := F0, pt := pt, hp := pt_ok, nt := nt, hn := nt_ok}
end Dw2
theorem c_spec_DrawPlaces (cs : List (List L)) (hp : Rw [tU] cs /\ cs.length <= 1048576) : Ctr Try.prog 13 [.one (.s 1 cs)] [.one (.s 1 (dpl cs))] := by
 obtain ⟨hw, hl⟩ := hp
 refine ctr_b Dw2.B tabOk mixed 19 _ [24] [.tmp 2] Try.func13 rfl rfl rfl rfl rfl ?_
 intro O r (F : Dw2.Fns) hO hr (hF : F = Dw2.F0)
 cbv
 repeat' first | refine And.intro ?_ ?_ | (refine cbi (fun hb => ?_) (fun hb => ?_) <;> cbv) | (refine ⟨[3, 4, 5], [4, 7], Int × Int × Int × List (List L), fun s_ => match s_ with | (i, a, b, o) => [.reg 5 (.one (.v (.int .i64 i))), .reg 4 (.one (.vw 4 0 0 0 (O.ln o))), .leaf 4 0 ⟨0, 0, none, .own (.s 1 o)⟩, .leaf 7 1 ⟨0, 0, none, .own (.v (.int .i64 a))⟩, .leaf 7 2 ⟨0, 0, none, .own (.v (.int .i64 b))⟩], fun s_ => match s_ with | (i, a, b, o) => 0 <= i /\ i <= 12 /\ (a, b, o) = dpN cs i.toNat, fun s_ => match s_ with | (i, a, b, o) => 12 - i.toNat, ⟨(0, 0, F.l01h cs, []), ?_, ?_⟩, ?_⟩; rotate_left; (focus (cbv; done)); intro s_ hi; obtain ⟨i, a, b, o⟩ := s_; replace hi : 0 <= i /\ i <= 12 /\ (a, b, o) = dpN cs i.toNat := hi; obtain ⟨i0, i1, i2⟩ := hi; cbv) | (refine loop_step (O.ar .add .i64 i 1, F.wI cs a 10000, F.wH b 10000, O.cat o (O.sub [[.v (.int .i64 (F.wX cs a b 10000))]] 0 (O.ln [[.v (.int .i64 (F.wX cs a b 10000))]]))) ?_ ?_ ?_; rotate_left 2; focus (cbv; done))
 all_goals (subst hO hr hF; (try simp only [stdO, SS, sa, az] at *); (try simp only [nc] at *); (try simp only [onc] at *))
 all_goals (try simp only [Dw2.F0] at *)
 all_goals try rw [up64 (by omega) (by omega)]
 all_goals try (have hok := dp_ok (cs := cs) i.toNat; rw [<- i2] at hok; have hok1 : 0 <= a := hok.1; have hok2 : a <= (cs.length : Int) := hok.2.1; have hok3 : o.length = i.toNat := hok.2.2.1)
 all_goals first
  | (show (_ : List DV) = _
     first
      | exact row1_eq (by rw [show i.toNat = 12 by omega] at i2; exact congrArg (·.2.2) i2)
      | done)
  | omega
  | exact ⟨hw, hl⟩
  | exact ⟨hw, hl, by omega, by omega⟩
  | exact ⟨True.intro, True.intro⟩
  | (show _ = dpN _ _
     first
      | exact rfl
      | (rw [dp_up i0, <- i2]; exact rfl)
      | done)
  | (show okOrder _ _ = true; kernel_rfl)
  | (refine ⟨by omega, by omega, (Rw.eta (by first | assumption | exact Rw.sub (by first | assumption | exact Rw.sub (by assumption) (by omega) rfl) (by omega) rfl) (by omega) (by omega)).trans ?_⟩; rfl)
  | exact scal_one
  | (simp only [List.length_nil, List.length_cons]; omega)
  | exact True.intro
  | done
end Go.V