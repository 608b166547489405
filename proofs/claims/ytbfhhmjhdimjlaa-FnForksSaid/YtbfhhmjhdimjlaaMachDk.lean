/-
  Contracts, by evaluation.
-/
import Derived.Test.YtbfhhmjhdimjlaaS8
import Derived.Test.YtbfhhmjhdimjlaaH26
import Derived.Test.YtbfhhmjhdimjlaaCowEk
import Derived.Test.YtbfhhmjhdimjlaaDrawk
set_option linter.all false
namespace Go.V
open Go Go.Proofs
set_option maxRecDepth 1000000
set_option maxHeartbeats 8000000
namespace M1
structure Fns where
 inR : Int -> Int -> Int -> Bool
 wX : List (List L) -> Int -> Int -> Int -> Int
 wI : List (List L) -> Int -> Int -> Int
 wH : Int -> Int -> Int
def F0 : Fns := ⟨inR, wX, wI, wH⟩
def ct (F : Fns) : CT := fun f ds => match f with
 | 53 => match ds with
   | [.one (.v (.int .i64 x)), .one (.v (.int .i64 a)), .one (.v (.int .i64 b))] => some (fun _ => True, [.one (.v (.bool (F.inR x a b)))])
   | _ => none
 | _ => none
theorem ct_ok : CTok Try.prog (ct F0) := by
 intro f ds pre res h hp
 unfold ct at h
 split at h <;> (try split at h) <;> cases h
 exact c_spec_l01In _ _ _ hp
def pt (F : Fns) : PT := fun f => match f with
 | 44 => some fun ds => match ds with
   | [.mp [.ro (.s 1 cs), .own (.v (.int .i64 i)), .own (.v (.int .i64 h))], .one (.v (.int .i64 n))] => some (fun _ => Rw [tU] cs /\ cs.length <= 1048576 /\ 0 <= i /\ i <= cs.length, [[.ro (.s 1 cs), .own (.v (.int .i64 (F.wI cs i n))), .own (.v (.int .i64 (F.wH h n)))]], [.one (.v (.int .i64 (F.wX cs i h n)))])
   | _ => none
 | _ => none
theorem pt_ok : PTok Try.prog (pt F0) := by
 intro f mk h ds pre outs res hm hp
 unfold pt at h
 split at h
 ·cases h; dsimp only at hm; split at hm
  ·cases hm; exact c_spec_l01Below _ _ _ _ hp
  ·cases hm
 ·cases h
def B : TB Try.prog := {Φ := Fns, F0 := F0, ct := ct, hc := ct_ok, pt := pt, hp := pt_ok}
end M1
theorem c_spec_FramesNew (n : Int) (hp : True) : Ctr Try.prog 86 [.one (.v (.int .i64 n))] [.agg [.s 1 (fnC n), .s 1 (fnU n)], .one (.v (.bool (inR n 1 32)))] := by
 refine ctr_b M1.B tabOk mixed 28 _ [56, 4] [.cell 2 56, .tmp 3] Try.func86 rfl rfl rfl rfl rfl ?_
 intro O r (F : M1.Fns) hO hr (hF : F = M1.F0)
 cbv
 repeat' first | refine And.intro ?_ ?_ | (refine cbi (fun hb => ?_) (fun hb => ?_) <;> cbv) | (refine ⟨[0, 2, 4, 5], [2, 4], Int × List (List L) × List (List L), fun s_ => match s_ with | (i, out, us) => [.reg 5 (.one (.v (.int .i64 i))), .leaf 4 0 ⟨0, 0, none, .own (.s 1 out)⟩, .leaf 4 1 ⟨0, 0, none, .own (.s 1 us)⟩], fun s_ => match s_ with | (i, out, us) => 0 <= i /\ i <= n /\ out = List.replicate i.toNat [.s 1 zr16] /\ us = List.replicate i.toNat [.v (.bool false)], fun s_ => match s_ with | (i, out, us) => (n - i).toNat, ⟨(0, [], []), ?_, ?_⟩, ?_⟩; rotate_left; (focus (cbv; done)); intro s_ hi; obtain ⟨i, out, us⟩ := s_; replace hi : 0 <= i /\ i <= n /\ out = List.replicate i.toNat [.s 1 zr16] /\ us = List.replicate i.toNat [.v (.bool false)] := hi; obtain ⟨i0, i1, i2, i3⟩ := hi; cbv) | (refine loop_step (O.ar .add .i64 i 1, O.cat out [[.s 1 (O.rep 16 [.v (.int .i64 0)])]], O.cat us (O.sub [[.v (.bool false)]] 0 (O.ln [[.v (.bool false)]]))) ?_ ?_ ?_; rotate_left 2; focus (cbv; done))
 all_goals (subst hO hr hF; (try simp only [stdO, SS, sa, az] at *); (try simp only [nc] at *); (try simp only [onc] at *))
 all_goals (try simp only [M1.F0] at *)
 all_goals try (have hn := inR_t.1 (‹inR n 1 32 = true›))
 all_goals try rw [up64 (by omega) (by omega)]
 all_goals first
  | (show (_ : List DV) = _
     first
      | (have q := fn_no (‹inR n 1 32 = false›); exact r2_eq q.1.symm q.2.1.symm (by symm; assumption))
      | (have q := fn_yes (‹inR n 1 32 = true›); exact r2_eq (by rw [q.1, i2]; congr 1; omega) (by rw [q.2.1, i3]; congr 1; omega) (by symm; assumption))
      | done)
  | (show (_ : List (List L)) = _
     first
      | (rw [i2]; exact rep_up i0)
      | (rw [i3]; exact rep_up i0)
      | exact rfl
      | done)
  | omega
  | (show okOrder _ _ = true; kernel_rfl)
  | (rw [i2, List.length_replicate]; exact ⟨by simp only [List.length_cons, List.length_nil]; omega, by simp only [List.length_cons, List.length_nil]; omega⟩)
  | (rw [i3, List.length_replicate]; exact ⟨by simp only [List.length_cons, List.length_nil]; omega, by simp only [List.length_cons, List.length_nil]; omega⟩)
  | exact ⟨True.intro, True.intro⟩
  | trivial
  | trace_state
theorem c_spec_TableNew (n : Int) (hp : True) : Ctr Try.prog 97 [.one (.v (.int .i64 n))] [.agg [.s 2 (tnE n)], .one (.v (.bool (inR n 1 32)))] := by
 refine ctr_b M1.B tabOk mixed 11 _ [59, 4] [.cell 2 59, .tmp 3] Try.func97 rfl rfl rfl rfl rfl ?_
 intro O r (F : M1.Fns) hO hr (hF : F = M1.F0)
 cbv
 repeat' first | refine And.intro ?_ ?_ | (refine cbi (fun hb => ?_) (fun hb => ?_) <;> cbv)
 all_goals (subst hO hr hF; (try simp only [stdO, SS, sa, az] at *); (try simp only [nc] at *); (try simp only [onc] at *))
 all_goals (try simp only [M1.F0] at *)
 all_goals try (have hn := inR_t.1 (‹inR n 1 32 = true›))
 all_goals first
  | (show (_ : List DV) = _
     first
      | (have q := fn_no (‹inR n 1 32 = false›); exact r1_eq q.2.2.symm (by symm; assumption))
      | (have q := fn_yes (‹inR n 1 32 = true›); exact r1_eq q.2.2.symm (by symm; assumption))
      | done)
  | omega
  | (show okOrder _ _ = true; kernel_rfl)
  | exact ⟨True.intro, True.intro⟩
  | trivial
  | trace_state
theorem c_spec_l01Once (cs : List (List L)) (i h n : Int) (hp : Rw [tU] cs /\ cs.length <= 1048576 /\ 0 <= i /\ i <= cs.length) : PCtr Try.prog 98 [.mp [.ro (.s 1 cs), .own (.v (.int .i64 i)), .own (.v (.int .i64 h))], .one (.v (.int .i64 n))] [[.ro (.s 1 cs), .own (.v (.int .i64 (wI cs i n))), .own (.v (.int .i64 (wH h n)))]] [.one (.v (.bool (onB cs i h n)))] := by
 obtain ⟨hw, hl, h0, h1⟩ := hp
 refine pctr_b M1.B tabOk mixed 9 _ [4] [.tmp 4] Try.func98 rfl rfl rfl rfl rfl rfl rfl ?_
 intro O r os (F : M1.Fns) hO hr hos (hF : F = M1.F0)
 cbv
 repeat' first | refine And.intro ?_ ?_ | (refine cbi (fun hb => ?_) (fun hb => ?_) <;> cbv)
 all_goals ((try subst hos); subst hO hr hF; (try simp only [stdO, SS, sa, az] at *); (try simp only [nc] at *); (try simp only [onc] at *))
 all_goals (try simp only [M1.F0] at *)
 all_goals first | (show (_ : List DV) = _; exact rfl) | (show (_ : List H) = _; exact rfl) | exact ⟨hw, hl, h0, h1⟩ | exact ⟨True.intro, True.intro⟩ | exact True.intro | (show okOrder _ _ = true; kernel_rfl) | done
namespace M2
structure Fns where
 wX : List (List L) -> Int -> Int -> Int -> Int
 wI : List (List L) -> Int -> Int -> Int
 wH : Int -> Int -> Int
 onB : List (List L) -> Int -> Int -> Int -> Bool
 tnE : Int -> List (List L)
 inR : Int -> Int -> Int -> Bool
def F0 : Fns := ⟨wX, wI, wH, onB, tnE, inR⟩
def ct (F : Fns) : CT := fun f ds => match f with
 | 97 => match ds with
   | [.one (.v (.int .i64 n))] => some (fun _ => True, [.agg [.s 2 (F.tnE n)], .one (.v (.bool (F.inR n 1 32)))])
   | _ => none
 | _ => none
theorem ct_ok : CTok Try.prog (ct F0) := by
 intro f ds pre res h hp
 unfold ct at h
 split at h <;> (try split at h) <;> cases h
 exact c_spec_TableNew _ hp
def pt (F : Fns) : PT := fun f => match f with
 | 44 => some fun ds => match ds with
   | [.mp [.ro (.s 1 cs), .own (.v (.int .i64 i)), .own (.v (.int .i64 h))], .one (.v (.int .i64 n))] => some (fun _ => Rw [tU] cs /\ cs.length <= 1048576 /\ 0 <= i /\ i <= cs.length, [[.ro (.s 1 cs), .own (.v (.int .i64 (F.wI cs i n))), .own (.v (.int .i64 (F.wH h n)))]], [.one (.v (.int .i64 (F.wX cs i h n)))])
   | _ => none
 | 98 => some fun ds => match ds with
   | [.mp [.ro (.s 1 cs), .own (.v (.int .i64 i)), .own (.v (.int .i64 h))], .one (.v (.int .i64 n))] => some (fun _ => Rw [tU] cs /\ cs.length <= 1048576 /\ 0 <= i /\ i <= cs.length, [[.ro (.s 1 cs), .own (.v (.int .i64 (F.wI cs i n))), .own (.v (.int .i64 (F.wH h n)))]], [.one (.v (.bool (F.onB cs i h n)))])
   | _ => none
 | _ => none
theorem pt_ok : PTok Try.prog (pt F0) := by
 intro f mk h ds pre outs res hm hp
 unfold pt at h
 split at h
 ·cases h; dsimp only at hm; split at hm
  ·cases hm; exact c_spec_l01Below _ _ _ _ hp
  ·cases hm
 ·cases h; dsimp only at hm; split at hm
  ·cases hm; exact c_spec_l01Once _ _ _ _ hp
  ·cases hm
 ·cases h
def B : TB Try.prog := {Φ := Fns, F0 := F0, ct := ct, hc := ct_ok, pt := pt, hp := pt_ok}
end M2
theorem c_spec_l06Case (cs : List (List L)) (i h fr : Int) (hp : Rw [tU] cs /\ cs.length <= 1048576 /\ 0 <= i /\ i <= cs.length /\ 1 <= fr /\ fr <= 32) : PCtr Try.prog 87 [.mp [.ro (.s 1 cs), .own (.v (.int .i64 i)), .own (.v (.int .i64 h))], .one (.v (.int .i64 fr))] [[.ro (.s 1 cs), .own (.v (.int .i64 (tcI cs fr i h))), .own (.v (.int .i64 (tcH cs fr i h)))]] [.agg [.s 2 (tcE cs fr i h)]] := by
 obtain ⟨hw, hl, h0, h1, f0, f1⟩ := hp
 have lb := enL_b (cs := cs) (i := i) (h := h)
 refine pctr_b M2.B tabOk mixed 37 _ [59] [.cell 4 59] Try.func87 rfl rfl rfl rfl rfl rfl rfl ?_
 intro O r os (F : M2.Fns) hO hr hos (hF : F = M2.F0)
 cbv
 repeat' first | refine And.intro ?_ ?_ | (refine cbi (fun hb => ?_) (fun hb => ?_) <;> cbv) | (refine ⟨[0, 1, 4, 5, 7], [0, 4, 5], Int × Int × Int × List (List L), fun s_ => match s_ with | (k, a, b, o) => [.reg 7 (.one (.v (.int .i64 k))), .leaf 5 0 ⟨0, 0, none, .own (.s 2 o)⟩, .leaf 0 1 ⟨0, 0, none, .own (.v (.int .i64 a))⟩, .leaf 0 2 ⟨0, 0, none, .own (.v (.int .i64 b))⟩], fun s_ => match s_ with | (k, a, b, o) => 0 <= k /\ k <= (o.length : Int) /\ EnSt cs fr i h k a b o, fun s_ => match s_ with | (k, a, b, o) => (enL cs i h - k).toNat, ⟨(0, F.wI cs i 8, F.wH h 8, F.tnE (O.ar .add .i64 1 (F.wX cs i h 8))), ?_, ?_⟩, ?_⟩; rotate_left; (focus (cbv; done)); intro s_ hk; obtain ⟨k, a, b, o⟩ := s_; replace hk : 0 <= k /\ k <= (o.length : Int) /\ EnSt cs fr i h k a b o := hk; obtain ⟨k0, k1, k2⟩ := hk; cbv) | (refine loop_step (O.ar .add .i64 k 1, F.wI cs a 3, F.wH b 3, o) ?_ ?_ ?_; rotate_left 2; focus (cbv; done)) | (refine loop_step (O.ar .add .i64 k 1, F.wI cs (F.wI cs (F.wI cs a 3) 2) fr, F.wH (F.wH (F.wH b 3) 2) fr, O.up (.s 2 o) [(O.ad 0 k, 0)] [.v (.int .i64 (O.ar .add .i64 1 (F.wX cs (F.wI cs a 3) (F.wH b 3) 2))), .v (.int .i64 (F.wX cs (F.wI cs (F.wI cs a 3) 2) (F.wH (F.wH b 3) 2) fr))]) ?_ ?_ ?_; rotate_left 2; focus (cbv; done))
 all_goals ((try subst hos); subst hO hr hF; (try simp only [stdO, SS, sa, az] at *); (try simp only [nc] at *); (try simp only [onc] at *))
 all_goals (try simp only [M2.F0] at *)
 all_goals try rw [up64 (by omega) (by omega)]
 all_goals try (have ea : arI .add .i64 1 (wX cs (wI cs a 3) (wH b 3) 2) = 1 + wX cs (wI cs a 3) (wH b 3) 2 := (have x := wX_ok (cs := cs) (i := wI cs a 3) (h := wH b 3) (n := 2) (by omega); add64 (by omega)); simp only [ea])
 all_goals try (have up := enSt_up k2 k0 (x := 1 + wX cs (wI cs a 3) (wH b 3) 2) (y := wX cs (wI cs (wI cs a 3) 2) (wH (wH b 3) 2) fr) (by omega); simp only [up])
 all_goals try (have a1 := wI_ok (cs := cs) (n := 3) k2.q.1 k2.q.2.1; have a2 := wI_ok (cs := cs) (n := 2) a1.1 a1.2)
 all_goals try (have lo := k2.q.2.2.1)
 all_goals try rw [up64 (by omega) (by omega)]
 all_goals first
  | (show (_ : List DV) = _
     first
      | (have q := enSt_end k2 (by omega); rw [<- q.1]; exact rfl)
      | done)
  | (show (_ : List H) = _
     first
      | (have q := enSt_end k2 (by omega); rw [<- q.2.1, <- q.2.2]; exact rfl)
      | done)
  | exact ⟨hw, hl, h0, h1⟩
  | exact ⟨hw, hl, k2.q.1, k2.q.2.1⟩
  | exact ⟨hw, hl, a1.1, a1.2⟩
  | exact ⟨hw, hl, a2.1, a2.2⟩
  | exact ⟨True.intro, True.intro⟩
  | (show okOrder _ _ = true; kernel_rfl)
  | (show EnSt _ _ _ _ _ _ _ _
     first
      | (rw [tnE_eq]; exact enSt_0 h0 h1)
      | exact enSt_no k2 k0 (by omega) (on_t (by assumption))
      | exact enSt_yes k2 k0 (by omega) (on_f (by assumption))
      | done)
  | omega
  | exact enSt_get k2 k0 (by omega)
  | (rw [List.length_set]; omega)
  | exact Int.natCast_nonneg _
  | done
namespace M3
structure Fns where
 wX : List (List L) -> Int -> Int -> Int -> Int
 wI : List (List L) -> Int -> Int -> Int
 wH : Int -> Int -> Int
 tcE : List (List L) -> Int -> Int -> Int -> List (List L)
 tcI : List (List L) -> Int -> Int -> Int -> Int
 tcH : List (List L) -> Int -> Int -> Int -> Int
 fnC : Int -> List (List L)
 fnU : Int -> List (List L)
 inR : Int -> Int -> Int -> Bool
def F0 : Fns := ⟨wX, wI, wH, tcE, tcI, tcH, fnC, fnU, inR⟩
def ct (F : Fns) : CT := fun f ds => match f with
 | 86 => match ds with
   | [.one (.v (.int .i64 n))] => some (fun _ => True, [.agg [.s 1 (F.fnC n), .s 1 (F.fnU n)], .one (.v (.bool (F.inR n 1 32)))])
   | _ => none
 | _ => none
theorem ct_ok : CTok Try.prog (ct F0) := by
 intro f ds pre res h hp
 unfold ct at h
 split at h <;> (try split at h) <;> cases h
 exact c_spec_FramesNew _ hp
def pt (F : Fns) : PT := fun f => match f with
 | 44 => some fun ds => match ds with
   | [.mp [.ro (.s 1 cs), .own (.v (.int .i64 i)), .own (.v (.int .i64 h))], .one (.v (.int .i64 n))] => some (fun _ => Rw [tU] cs /\ cs.length <= 1048576 /\ 0 <= i /\ i <= cs.length, [[.ro (.s 1 cs), .own (.v (.int .i64 (F.wI cs i n))), .own (.v (.int .i64 (F.wH h n)))]], [.one (.v (.int .i64 (F.wX cs i h n)))])
   | _ => none
 | 87 => some fun ds => match ds with
   | [.mp [.ro (.s 1 cs), .own (.v (.int .i64 i)), .own (.v (.int .i64 h))], .one (.v (.int .i64 fr))] => some (fun _ => Rw [tU] cs /\ cs.length <= 1048576 /\ 0 <= i /\ i <= cs.length /\ 1 <= fr /\ fr <= 32, [[.ro (.s 1 cs), .own (.v (.int .i64 (F.tcI cs fr i h))), .own (.v (.int .i64 (F.tcH cs fr i h)))]], [.agg [.s 2 (F.tcE cs fr i h)]])
   | _ => none
 | _ => none
theorem pt_ok : PTok Try.prog (pt F0) := by
 intro f mk h ds pre outs res hm hp
 unfold pt at h
 split at h
 ·cases h; dsimp only at hm; split at hm
  ·cases hm; exact c_spec_l01Below _ _ _ _ hp
  ·cases hm
 ·cases h; dsimp only at hm; split at hm
  ·cases hm; exact c_spec_l06Case _ _ _ _ hp
  ·cases hm
 ·cases h
def B : TB Try.prog := {Φ := Fns, F0 := F0, ct := ct, hc := ct_ok, pt := pt, hp := pt_ok}
end M3
theorem c_spec_l07Case (cs : List (List L)) (i h : Int) (hp : Rw [tU] cs /\ cs.length <= 1048576 /\ 0 <= i /\ i <= cs.length) : PCtr Try.prog 58 [.mp [.ro (.s 1 cs), .own (.v (.int .i64 i)), .own (.v (.int .i64 h))]] [[.ro (.s 1 cs), .own (.v (.int .i64 (l7I cs i h))), .own (.v (.int .i64 (l7H cs i h)))]] [.agg [.s 1 (l7C cs i h), .s 1 (l7U cs i h), .s 2 (l7E cs i h)]] := by
 obtain ⟨hw, hl, h0, h1⟩ := hp
 have nb := l7N_b (cs := cs) (i := i) (h := h)
 have w4 := wI_ok (cs := cs) (n := 4) h0 h1
 obtain ⟨la, le, ms⟩ := l7_ok (cs := cs) (h := h) h0 h1
 refine pctr_b M3.B tabOk mixed 58 _ [61] [.cell 2 61] Try.func58 rfl rfl rfl rfl rfl rfl rfl ?_
 intro O r os (F : M3.Fns) hO hr hos (hF : F = M3.F0)
 cbv
 repeat' first | refine And.intro ?_ ?_ | (refine cbi (fun hb => ?_) (fun hb => ?_) <;> cbv) | (refine ⟨[0, 2, 6, 7], [0, 2, 6], Int × Int × Int × List (List L) × List (List L), fun s_ => match s_ with | (k, a, b, c, u) => [.reg 7 (.one (.v (.int .i64 k))), .leaf 6 0 ⟨0, 0, none, .own (.s 1 c)⟩, .leaf 6 1 ⟨0, 0, none, .own (.s 1 u)⟩, .leaf 0 1 ⟨0, 0, none, .own (.v (.int .i64 a))⟩, .leaf 0 2 ⟨0, 0, none, .own (.v (.int .i64 b))⟩], fun s_ => match s_ with | (k, a, b, c, u) => 0 <= k /\ k <= ((l7E cs i h).length : Int) /\ (⟨a, b, c, u⟩ : MS) = l7K cs i h k.toNat, fun s_ => match s_ with | (k, a, b, c, u) => (l7E cs i h).length - k.toNat, ⟨(0, F.tcI cs (O.ar .add .i64 2 (F.wX cs i h 4)) (F.wI cs i 4) (F.wH h 4), F.tcH cs (O.ar .add .i64 2 (F.wX cs i h 4)) (F.wI cs i 4) (F.wH h 4), F.fnC (O.ar .add .i64 2 (F.wX cs i h 4)), F.fnU (O.ar .add .i64 2 (F.wX cs i h 4))), ?_, ?_⟩, ?_⟩; rotate_left; (focus (cbv; done)); intro s_ hk; obtain ⟨k, a, b, c, u⟩ := s_; replace hk : 0 <= k /\ k <= ((l7E cs i h).length : Int) /\ (⟨a, b, c, u⟩ : MS) = l7K cs i h k.toNat := hk; obtain ⟨k0, k1, k2⟩ := hk; cbv) | (refine loop_step (O.ar .add .i64 k 1, a, b, c, u) ?_ ?_ ?_; rotate_left 2; focus (cbv; done)) | (refine loop_step (O.ar .add .i64 k 1, F.wI cs (F.wI cs a 16) 1000, F.wH (F.wH b 16) 1000, O.up (.s 1 c) [(O.ad 0 (O.pi (.s 2 (F.tcE cs (O.ar .add .i64 2 (F.wX cs i h 4)) (F.wI cs i 4) (F.wH h 4))) [(O.ad 0 k, 1)]), 0), (O.ad 0 (F.wX cs a b 16), 0)] [.v (.int .i64 (F.wX cs (F.wI cs a 16) (F.wH b 16) 1000))], O.up (.s 1 u) [(O.ad 0 (O.pi (.s 2 (F.tcE cs (O.ar .add .i64 2 (F.wX cs i h 4)) (F.wI cs i 4) (F.wH h 4))) [(O.ad 0 k, 1)]), 0)] [.v (.bool true)]) ?_ ?_ ?_; rotate_left 2; focus (cbv; done))
 all_goals ((try subst hos); subst hO hr hF; (try simp only [stdO, SS, sa, az] at *); (try simp only [nc] at *); (try simp only [onc] at *))
 all_goals (try simp only [M3.F0] at *)
 all_goals (try simp only [show arI .add .i64 2 (wX cs i h 4) = l7N cs i h from (have x := wX_ok (cs := cs) (i := i) (h := h) (n := 4) (by omega); add64 (by omega))] at *)
 all_goals (try simp only [show tcE cs (l7N cs i h) (wI cs i 4) (wH h 4) = l7E cs i h from rfl] at *)
 all_goals try rw [up64 (by omega) (by omega)]
 all_goals try (have p0 := pi_at (w := 2) (l := l7E cs i h) (j := 0) k0; have p1 := pi_at (w := 2) (l := l7E cs i h) (j := 1) k0; simp only [p0, p1] at *)
 all_goals try (have M : MsOk cs (l7E cs i h) (l7N cs i h) k.toNat ⟨a, b, c, u⟩ := (by rw [k2]; exact l7_ms h0 h1 k0 (by omega)); have ma0 : 0 <= a := M.i0; have ma1 : a <= cs.length := M.i1; have lc : (c.length : Int) = l7N cs i h := M.lc; have lu : (u.length : Int) = l7N cs i h := M.lu; have rc : Rw [.sl [tI]] c := M.rc; have ru : Rw [tB] u := M.ru; have wa := wI_ok (cs := cs) (n := 16) ma0 ma1; have x16 := wX_ok (cs := cs) (i := a) (h := b) (n := 16) (by omega))
 all_goals try (have g := (enOk_gi le (i := k) k0 (by omega)).2.2.2 (by assumption); have hr : (gsI c (giI (l7E cs i h) k 1) 0).length = 16 := (M.row _ g.1 g.2).1)
 all_goals try (have e2 := up_2 rc (fr := giI (l7E cs i h) k 1) (k := wX cs a b 16) (v := wX cs (wI cs a 16) (wH b 16) 1000) g.1 (by omega) x16.1 (by omega); have e1 := up_u ru (i := giI (l7E cs i h) k 1) (b := true) g.1 (by omega); simp only [e1, e2, ps_row])
 all_goals first
  | (show (_ : List DV) = _
     first
      | (have q := l7_end k2 (by omega); rw [<- q.1, <- q.2.1]; exact rfl)
      | done)
  | (show (_ : List H) = _
     first
      | (have q := l7_end k2 (by omega); rw [<- q.2.2.1, <- q.2.2.2]; exact rfl)
      | done)
  | (show (_ : MS) = _
     first
      | exact l7_0
      | exact l7_yes k0 k2 (by assumption)
      | exact l7_no k0 k2 (by omega)
      | done)
  | exact ⟨hw, hl, h0, h1⟩
  | exact ⟨hw, hl, w4.1, w4.2, by omega, by omega⟩
  | exact ⟨hw, hl, ma0, ma1⟩
  | exact ⟨hw, hl, wa.1, wa.2⟩
  | exact ⟨True.intro, True.intro⟩
  | (show okOrder _ _ = true; kernel_rfl)
  | omega
  | exact get_en (enOk_rw (fr := l7N cs i h) (by omega) (by omega) le) k0 (by omega)
  | exact get_1 ru g.1 (by omega)
  | exact get_row rc g.1 (by omega)
  | exact ⟨x16.1, by omega, gets_row rc g.1 (by omega)⟩
  | exact get_2 rc g.1 (by omega) x16.1 (by omega)
  | exact ⟨g.1, by omega⟩
  | done
namespace M4
structure Fns where
 l01h : List (List L) -> Int
 l7C : List (List L) -> Int -> Int -> List (List L)
 l7U : List (List L) -> Int -> Int -> List (List L)
 l7E : List (List L) -> Int -> Int -> List (List L)
 l7I : List (List L) -> Int -> Int -> Int
 l7H : List (List L) -> Int -> Int -> Int
def F0 : Fns := ⟨l01h, l7C, l7U, l7E, l7I, l7H⟩
def pt (F : Fns) : PT := fun f => match f with
 | 58 => some fun ds => match ds with
   | [.mp [.ro (.s 1 cs), .own (.v (.int .i64 i)), .own (.v (.int .i64 h))]] => some (fun _ => Rw [tU] cs /\ cs.length <= 1048576 /\ 0 <= i /\ i <= cs.length, [[.ro (.s 1 cs), .own (.v (.int .i64 (F.l7I cs i h))), .own (.v (.int .i64 (F.l7H cs i h)))]], [.agg [.s 1 (F.l7C cs i h), .s 1 (F.l7U cs i h), .s 2 (F.l7E cs i h)]])
   | _ => none
 | _ => none
theorem pt_ok : PTok Try.prog (pt F0) := by
 intro f mk h ds pre outs res hm hp
 unfold pt at h
 split at h
 ·cases h; dsimp only at hm; split at hm
  ·cases hm; exact c_spec_l07Case _ _ _ hp
  ·cases hm
 ·cases h
def nt (F : Fns) : NT := fun f => match f with
 | 43 => some fun ds => match ds with
   | [.one (.s 1 cs)] => some (fun _ => Rw [tU] cs /\ cs.length <= 1048576, [.ro (.s 1 cs), .own (.v (.int .i64 0)), .own (.v (.int .i64 (F.l01h cs)))])
   | _ => none
 | _ => none
theorem nt_ok : NTok Try.prog (nt F0) := by
 intro f mk h ds pre hs hm hp
 unfold nt at h
 split at h
 ·cases h; dsimp only at hm; split at hm
  ·cases hm; exact c_spec_l01New _ hp
  ·cases hm
 ·cases h
def B : TB Try.prog := {Φ := Fns, F0 := F0, pt := pt, hp := pt_ok, nt := nt, hn := nt_ok}
end M4
theorem c_spec_DrawMachine (cs : List (List L)) (hp : Rw [tU] cs /\ cs.length <= 1048576) : Ctr Try.prog 30 [.one (.s 1 cs)] [.agg [.s 1 (dmC cs), .s 1 (dmU cs), .s 2 (dmE cs)]] := by
 obtain ⟨hw, hl⟩ := hp
 refine ctr_b M4.B tabOk mixed 6 _ [61] [.cell 2 61] Try.func30 rfl rfl rfl rfl rfl ?_
 intro O r (F : M4.Fns) hO hr (hF : F = M4.F0)
 cbv
 repeat' first | refine And.intro ?_ ?_ | (refine cbi (fun hb => ?_) (fun hb => ?_) <;> cbv)
 all_goals (subst hO hr hF; (try simp only [stdO, SS, sa, az] at *); (try simp only [nc] at *); (try simp only [onc] at *))
 all_goals (try simp only [M4.F0] at *)
 all_goals first | (show (_ : List DV) = _; exact rfl) | exact ⟨hw, hl⟩ | exact ⟨hw, hl, Int.le_refl 0, Int.natCast_nonneg _⟩ | exact ⟨True.intro, True.intro⟩ | exact True.intro | (show okOrder _ _ = true; kernel_rfl) | done
end Go.V