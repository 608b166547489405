/-
  The cursor of the draws: equations of contents.
-/
import Derived.Test.YtbfhhmjhdimjlaaH17

set_option linter.all false
namespace Go.V

theorem cur_eq {cs : List (List L)} {i i' h h' : Int} (a : i = i') (b : h = h') : [H.ro (.s 1 cs), H.own (.v (.int .i64 i)), H.own (.v (.int .i64 h))] = [H.ro (.s 1 cs), H.own (.v (.int .i64 i')), H.own (.v (.int .i64 h'))] := by rw [a, b]
theorem row1_eq {a b : List (List L)} (h : a = b) : [DV.one (.s 1 a)] = [DV.one (.s 1 b)] := by rw [h]
theorem row2_eq {a b : List (List L)} (h : a = b) : [DV.one (.s 2 a)] = [DV.one (.s 2 b)] := by rw [h]
theorem cons1 {x : Int} {out : List (List L)} : catI out [[.v (.int .i64 x)]] = out ++ [[.v (.int .i64 x)]] := rfl
theorem dpi {cs : List (List L)} {a b c d : Int} {o p : List (List L)} {n : Nat} (h : (a, b, o) = dpN cs n) (h2 : dpS cs (a, b, o) = (c, d, p)) : (c, d, p) = dpN cs (n + 1) := by
  rw [← h2, h]; rfl
end Go.V
