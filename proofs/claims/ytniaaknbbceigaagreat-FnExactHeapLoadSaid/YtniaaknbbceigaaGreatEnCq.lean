/-
  Contracts, by evaluation.
-/
import Derived.Test.YtniaaknbbceigaaGreatS10
import Derived.Test.YtniaaknbbceigaaGreatLawHDq
import Derived.Test.YtniaaknbbceigaaGreatOfBq
set_option linter.all false
namespace Go.V
open Go Go.Proofs
set_option maxRecDepth 1000000
set_option maxHeartbeats 8000000
namespace FnExactHeapLoadC
structure Fns where
 szN : List (List (List L)) -> Int -> Int
 hlV : Int -> Int -> Int
 ooI : Bool -> List (List L) -> Int -> Int
 hpI : List (List L) -> List (List L) -> List (List L) -> Int -> List (List L) -> List (List L) -> List (List L) -> List (List L) -> List (List L) -> List (List L) -> List (List L) -> List (List L) -> Int -> List (List L) -> Int -> Int -> Int -> Int -> Bool -> Int -> Int -> List (List L) -> Int -> Int -> Bool
 ldV : List (List L) -> List (List L) -> List (List L) -> Int -> Int
 hlK : Int -> Int
def F0 : Fns := ⟨aY, hlV, ooI, hpI, ldV, hlK⟩
def ct (F : Fns) : CT := fun f ds => match f with
 | 10 => match ds with
   | [.agg [.s 1 a0, .s 1 a1, .s 2 a2, .v (.int .i64 a3), .s 1 a4, .s 2 a5, .s 3 a6, .s 3 a7, .s 4 a8, .s 1 a9, .s 1 a10, .s 1 a11, .v (.int .i64 a12), .s 3 a13, .v (.int .i64 a14), .v (.int .i64 a15), .v (.int .i64 a16), .v (.int .i64 a17), .v (.bool a18), .v (.int .i64 a19), .v (.int .i64 a20), .s 1 a21, .v (.int .i64 a22), .v (.int .i64 a23)], .one (.v (.int .i64 left))] => some (fun _ => Rw [.sl [tI]] a0 /\ Rw [tB] a1 /\ Rw [tI, tI] a2 /\ Rw [tI] a4 /\ Rw [tI, tI] a5 /\ Rw [tI, tI, tI] a6 /\ Rw [tI, tI, tI] a7 /\ Rw [tI, tI, tI, tI] a8 /\ Rw [.sl [.sl [tI]]] a9 /\ Rw [.sl [tI, tI]] a10 /\ Rw [.sl [tI]] a11 /\ Rw [tI, tI, tI] a13 /\ Rw [tI] a21 /\ 0 <= left /\ left <= 1048576, [.one (.v (.int .i64 (F.szN [a0, a1, a2, a4, a5, a6, a7, a8, a9, a10, a11, a13, a21] left)))])
   | _ => none
 | 12 => match ds with
   | [.agg [.s 1 a0, .s 1 a1, .s 2 a2, .v (.int .i64 a3), .s 1 a4, .s 2 a5, .s 3 a6, .s 3 a7, .s 4 a8, .s 1 a9, .s 1 a10, .s 1 a11, .v (.int .i64 a12), .s 3 a13, .v (.int .i64 a14), .v (.int .i64 a15), .v (.int .i64 a16), .v (.int .i64 a17), .v (.bool a18), .v (.int .i64 a19), .v (.int .i64 a20), .s 1 a21, .v (.int .i64 a22), .v (.int .i64 a23)]] => some (fun _ => Rw [.sl [tI]] a0 /\ Rw [tB] a1 /\ Rw [tI, tI] a2 /\ Rw [tI] a4 /\ Rw [tI, tI] a5 /\ Rw [tI, tI, tI] a6 /\ Rw [tI, tI, tI] a7 /\ Rw [tI, tI, tI, tI] a8 /\ Rw [.sl [.sl [tI]]] a9 /\ Rw [.sl [tI, tI]] a10 /\ Rw [.sl [tI]] a11 /\ Rw [tI, tI, tI] a13 /\ Rw [tI] a21 /\ ag [a0, a1, a2, a4, a5, a6, a7, a8, a9, a10, a11, a13, a21] <= 1048576, [.agg [.s 1 a0, .s 1 a1, .s 2 a2, .v (.int .i64 a3), .s 1 a4, .s 2 a5, .s 3 a6, .s 3 a7, .s 4 a8, .s 1 a9, .s 1 a10, .s 1 a11, .v (.int .i64 a12), .s 3 a13, .v (.int .i64 a14), .v (.int .i64 a15), .v (.int .i64 a16), .v (.int .i64 a17), .v (.bool a18), .v (.int .i64 a19), .v (.int .i64 a20), .s 1 a21, .v (.int .i64 a22), .v (.int .i64 a23)]])
   | _ => none
 | 14 => match ds with
   | [.agg [.s 1 a0, .s 1 a1, .s 2 a2, .v (.int .i64 a3), .s 1 a4, .s 2 a5, .s 3 a6, .s 3 a7, .s 4 a8, .s 1 a9, .s 1 a10, .s 1 a11, .v (.int .i64 a12), .s 3 a13, .v (.int .i64 a14), .v (.int .i64 a15), .v (.int .i64 a16), .v (.int .i64 a17), .v (.bool a18), .v (.int .i64 a19), .v (.int .i64 a20), .s 1 a21, .v (.int .i64 a22), .v (.int .i64 a23)], d] => some (fun _ => d = .agg [.s 1 a0, .s 1 a1, .s 2 a2, .v (.int .i64 a3), .s 1 a4, .s 2 a5, .s 3 a6, .s 3 a7, .s 4 a8, .s 1 a9, .s 1 a10, .s 1 a11, .v (.int .i64 a12), .s 3 a13, .v (.int .i64 a14), .v (.int .i64 a15), .v (.int .i64 a16), .v (.int .i64 a17), .v (.bool a18), .v (.int .i64 a19), .v (.int .i64 a20), .s 1 a21, .v (.int .i64 a22), .v (.int .i64 a23)] /\ Rw [.sl [tI]] a0 /\ Rw [tB] a1 /\ Rw [tI, tI] a2 /\ Rw [tI] a4 /\ Rw [tI, tI] a5 /\ Rw [tI, tI, tI] a6 /\ Rw [tI, tI, tI] a7 /\ Rw [tI, tI, tI, tI] a8 /\ Rw [.sl [.sl [tI]]] a9 /\ Rw [.sl [tI, tI]] a10 /\ Rw [.sl [tI]] a11 /\ Rw [tI, tI, tI] a13 /\ Rw [tI] a21 /\ ag [a0, a1, a2, a4, a5, a6, a7, a8, a9, a10, a11, a13, a21] <= 1099511627776, [.one (.v (.bool true))])
   | _ => none
 | 17 => match ds with
   | [.agg [.s 1 a0, .s 1 a1, .s 2 a2, .v (.int .i64 a3), .s 1 a4, .s 2 a5, .s 3 a6, .s 3 a7, .s 4 a8, .s 1 a9, .s 1 a10, .s 1 a11, .v (.int .i64 a12), .s 3 a13, .v (.int .i64 a14), .v (.int .i64 a15), .v (.int .i64 a16), .v (.int .i64 a17), .v (.bool a18), .v (.int .i64 a19), .v (.int .i64 a20), .s 1 a21, .v (.int .i64 a22), .v (.int .i64 a23)], .one (.v (.int .i64 a))] => some (fun _ => nK a0 a1 a2 a4 a5 a6 a7 a8 a9 a10 a11 a13 a21 /\ (-9223372036854775808 <= a /\ a <= 9223372036854775807), [.one (.v (.int .i64 (F.hlV (F.ooI (F.hpI a0 a1 a2 a3 a4 a5 a6 a7 a8 a9 a10 a11 a12 a13 a14 a15 a16 a17 a18 a19 a20 a21 a22 a23) a8 a) (F.ldV a0 a1 a2 a)))), .one (.v (.int .i64 (F.hlK (F.ooI (F.hpI a0 a1 a2 a3 a4 a5 a6 a7 a8 a9 a10 a11 a12 a13 a14 a15 a16 a17 a18 a19 a20 a21 a22 a23) a8 a))))])
   | _ => none
 | 18 => match ds with
   | [.agg [.s 1 a0, .s 1 a1, .s 2 a2, .v (.int .i64 a3), .s 1 a4, .s 2 a5, .s 3 a6, .s 3 a7, .s 4 a8, .s 1 a9, .s 1 a10, .s 1 a11, .v (.int .i64 a12), .s 3 a13, .v (.int .i64 a14), .v (.int .i64 a15), .v (.int .i64 a16), .v (.int .i64 a17), .v (.bool a18), .v (.int .i64 a19), .v (.int .i64 a20), .s 1 a21, .v (.int .i64 a22), .v (.int .i64 a23)], .one (.v (.int .i64 a))] => some (fun _ => nK a0 a1 a2 a4 a5 a6 a7 a8 a9 a10 a11 a13 a21 /\ (-9223372036854775808 <= a /\ a <= 9223372036854775807), [.one (.v (.int .i64 (F.hlV (F.ooI (F.hpI a0 a1 a2 a3 a4 a5 a6 a7 a8 a9 a10 a11 a12 a13 a14 a15 a16 a17 a18 a19 a20 a21 a22 a23) a8 a) (F.ldV a0 a1 a2 a)))), .one (.v (.int .i64 (F.hlK (F.ooI (F.hpI a0 a1 a2 a3 a4 a5 a6 a7 a8 a9 a10 a11 a12 a13 a14 a15 a16 a17 a18 a19 a20 a21 a22 a23) a8 a))))])
   | _ => none
 | _ => none
theorem am : aV Tryz.prog (ct F0) := by
 intro f ds pre res h hp;unfold ct at h;split at h <;> (try split at h) <;> cases h
 exact fk _ _ _ _ _ _ _ _ _ _ _ _ _ _ _ _ _ _ _ _ _ _ _ _ _ hp;exact fo _ _ _ _ _ _ _ _ _ _ _ _ _ _ _ _ _ _ _ _ _ _ _ _ hp;exact fi _ _ _ _ _ _ _ _ _ _ _ _ _ _ _ _ _ _ _ _ _ _ _ _ _ hp;exact nh _ _ _ _ _ _ _ _ _ _ _ _ _ _ _ _ _ _ _ _ _ _ _ _ _ hp;exact mq _ _ _ _ _ _ _ _ _ _ _ _ _ _ _ _ _ _ _ _ _ _ _ _ _ hp
def B : TB Tryz.prog := tb am
end FnExactHeapLoadC
theorem fU (a0 a1 a2 : List (List L)) (a3 : Int) (a4 a5 a6 a7 a8 a9 a10 a11 : List (List L)) (a12 : Int) (a13 : List (List L)) (a14 a15 a16 a17 : Int) (a18 : Bool) (a19 a20 : Int) (a21 : List (List L)) (a22 a23 a24 : Int) (hp : Rw [.sl [tI]] a0 /\ Rw [tB] a1 /\ Rw [tI, tI] a2 /\ Rw [tI] a4 /\ Rw [tI, tI] a5 /\ Rw [tI, tI, tI] a6 /\ Rw [tI, tI, tI] a7 /\ Rw [tI, tI, tI, tI] a8 /\ Rw [.sl [.sl [tI]]] a9 /\ Rw [.sl [tI, tI]] a10 /\ Rw [.sl [tI]] a11 /\ Rw [tI, tI, tI] a13 /\ Rw [tI] a21 /\ (-9223372036854775808 <= a24 /\ a24 <= 9223372036854775807)) : aO Tryz.prog 5 [.agg [.s 1 a0, .s 1 a1, .s 2 a2, .v (.int .i64 a3), .s 1 a4, .s 2 a5, .s 3 a6, .s 3 a7, .s 4 a8, .s 1 a9, .s 1 a10, .s 1 a11, .v (.int .i64 a12), .s 3 a13, .v (.int .i64 a14), .v (.int .i64 a15), .v (.int .i64 a16), .v (.int .i64 a17), .v (.bool a18), .v (.int .i64 a19), .v (.int .i64 a20), .s 1 a21, .v (.int .i64 a22), .v (.int .i64 a23)], .one (.v (.int .i64 a24))] [.one (.v (.bool true))] := by
 obtain ⟨ha0, ha1, ha2, ha4, ha5, ha6, ha7, ha8, ha9, ha10, ha11, ha13, ha21, ha24⟩ := hp;by_cases hs : ag [a0, a1, a2, a4, a5, a6, a7, a8, a9, a10, a11, a13, a21] <= 1048576
 case neg =>
  have hsz : aY [a0, a1, a2, a4, a5, a6, a7, a8, a9, a10, a11, a13, a21] 1048576 < 0 := er.2 (by omega);refine aj FnExactHeapLoadC.B ai mixed 44 _ [4] [.tmp 4] Tryz.func5 rfl rfl rfl rfl rfl ?_;intro O r (F : FnExactHeapLoadC.Fns) hO hr (hF : F = FnExactHeapLoadC.F0);cbv;refine And.intro ?_ (aK (fun hb => ?_) (fun hb => ?_))
  ·(subst hO hr hF; (try simp only [ah, SS, sa, az] at *); (try simp only [nc] at *); (try simp only [aF] at *))
   exact ⟨ha0, ha1, ha2, ha4, ha5, ha6, ha7, ha8, ha9, ha10, ha11, ha13, ha21, by omega, by omega⟩
  ·cbv
   repeat' first | refine And.intro ?_ ?_ | (refine aK (fun hb => ?_) (fun hb => ?_) <;> cbv)
   all_goals (subst hO hr hF; (try simp only [ah, SS, sa, az] at *); (try simp only [nc] at *); (try simp only [aF] at *))
   all_goals first | trivial | exact rfl
  ·exfalso
   (subst hO hr hF; (try simp only [ah, SS, sa, az] at *); (try simp only [nc] at *); (try simp only [aF] at *))
   simp only [FnExactHeapLoadC.F0] at hb;omega
 case pos =>
 have hsz := wB hs;have hN : nK a0 a1 a2 a4 a5 a6 a7 a8 a9 a10 a11 a13 a21 := vT ha0 ha1 ha2 ha4 ha5 ha6 ha7 ha8 ha9 ha10 ha11 ha13 ha21 ⟨aP hs (by simp), aP hs (by simp), aP hs (by simp), aP hs (by simp), aP hs (by simp), aP hs (by simp), aP hs (by simp), aP hs (by simp), aP hs (by simp), aP hs (by simp), aP hs (by simp), aP hs (by simp), aP hs (by simp)⟩;refine aj FnExactHeapLoadC.B ai mixed 44 _ [4] [.tmp 4] Tryz.func5 rfl rfl rfl rfl rfl ?_;intro O r (F : FnExactHeapLoadC.Fns) hO hr (hF : F = FnExactHeapLoadC.F0);cbv
 repeat' first | refine And.intro ?_ ?_ | (refine aK (fun hb => ?_) (fun hb => ?_) <;> cbv)
 all_goals (subst hO hr hF; (try simp only [ah, SS, sa, az] at *); (try simp only [nc] at *); (try simp only [aF] at *))
 all_goals (try simp only [FnExactHeapLoadC.F0, tz] at *)
 all_goals first | exact True.intro | (show au _ _ = true; kernel_rfl) | exact ⟨True.intro, True.intro⟩ | exact ⟨ha0, ha1, ha2, ha4, ha5, ha6, ha7, ha8, ha9, ha10, ha11, ha13, ha21, by omega, by omega⟩ | exact ⟨ha0, ha1, ha2, ha4, ha5, ha6, ha7, ha8, ha9, ha10, ha11, ha13, ha21, hs⟩ | exact ⟨ha0, ha1, ha2, ha4, ha5, ha6, ha7, ha8, ha9, ha10, ha11, ha13, ha21⟩ | exact ⟨trivial, ha0, ha1, ha2, ha4, ha5, ha6, ha7, ha8, ha9, ha10, ha11, ha13, ha21, by omega⟩ | exact ⟨rfl, ha0, ha1, ha2, ha4, ha5, ha6, ha7, ha8, ha9, ha10, ha11, ha13, ha21, by omega⟩ | exact hN | exact ⟨hN, ha24⟩ | exact rfl | exact absurd rfl (by assumption) | (exfalso; omega) | trivial | trace_state
theorem kz (recs : List (List L)) (h : j6 [(true, [.sl [.sl [tI]], .sl [tB], .sl [tI, tI], tI, .sl [tI], .sl [tI, tI], .sl [tI, tI, tI], .sl [tI, tI, tI], .sl [tI, tI, tI, tI], .sl [.sl [.sl [tI]]], .sl [.sl [tI, tI]], .sl [.sl [tI]], tI, .sl [tI, tI, tI], tI, tI, tI, tI, tB, tI, tI, .sl [tI], tI, tI]), (false, [tI])] recs) : aO Tryz.prog 5 (kO [(true, [.sl [.sl [tI]], .sl [tB], .sl [tI, tI], tI, .sl [tI], .sl [tI, tI], .sl [tI, tI, tI], .sl [tI, tI, tI], .sl [tI, tI, tI, tI], .sl [.sl [.sl [tI]]], .sl [.sl [tI, tI]], .sl [.sl [tI]], tI, .sl [tI, tI, tI], tI, tI, tI, tI, tB, tI, tI, .sl [tI], tI, tI]), (false, [tI])] recs) [.one (.v (.bool true))] := by
 match recs, h with
 | [[.s _ a0, .s _ a1, .s _ a2, .v (.int _ a3), .s _ a4, .s _ a5, .s _ a6, .s _ a7, .s _ a8, .s _ a9, .s _ a10, .s _ a11, .v (.int _ a12), .s _ a13, .v (.int _ a14), .v (.int _ a15), .v (.int _ a16), .v (.int _ a17), .v (.bool a18), .v (.int _ a19), .v (.int _ a20), .s _ a21, .v (.int _ a22), .v (.int _ a23)], [.v (.int _ a24)]], h =>
   simp only [j6, bS, cD] at h;obtain ⟨⟨⟨rfl, ha0, ka0⟩, ⟨rfl, ha1, ka1⟩, ⟨rfl, ha2, ka2⟩, ⟨rfl, ha3⟩, ⟨rfl, ha4, ka4⟩, ⟨rfl, ha5, ka5⟩, ⟨rfl, ha6, ka6⟩, ⟨rfl, ha7, ka7⟩, ⟨rfl, ha8, ka8⟩, ⟨rfl, ha9, ka9⟩, ⟨rfl, ha10, ka10⟩, ⟨rfl, ha11, ka11⟩, ⟨rfl, ha12⟩, ⟨rfl, ha13, ka13⟩, ⟨rfl, ha14⟩, ⟨rfl, ha15⟩, ⟨rfl, ha16⟩, ⟨rfl, ha17⟩, _, ⟨rfl, ha19⟩, ⟨rfl, ha20⟩, ⟨rfl, ha21, ka21⟩, ⟨rfl, ha22⟩, ⟨rfl, ha23⟩, _⟩, ⟨⟨rfl, ha24⟩, _⟩, _⟩ := h;exact fU a0 a1 a2 a3 a4 a5 a6 a7 a8 a9 a10 a11 a12 a13 a14 a15 a16 a17 a18 a19 a20 a21 a22 a23 a24 ⟨⟨ha0, ka0⟩, ⟨ha1, ka1⟩, ⟨ha2, ka2⟩, ⟨ha4, ka4⟩, ⟨ha5, ka5⟩, ⟨ha6, ka6⟩, ⟨ha7, ka7⟩, ⟨ha8, ka8⟩, ⟨ha9, ka9⟩, ⟨ha10, ka10⟩, ⟨ha11, ka11⟩, ⟨ha13, ka13⟩, ⟨ha21, ka21⟩, FV ha24⟩
end Go.V