/-
  The cursor of the draws: equations of contents.
-/
import Derived.Test.YtbfhhmjhdimjlaaH17
set_option linter.all false
namespace Go.V
theorem cur_eq {cs : List (List L)} {i i' h h' : Int} (a : i = i') (b : h = h') : [H.ro (.s 1 cs), H.own (.v (.int .i64 i)), H.own (.v (.int .i64 h))] = [H.ro (.s 1 cs), H.own (.v (.int .i64 i')), H.own (.v (.int .i64 h'))] := by rw [a, b]
theorem row1_eq {a b : List (List L)} (h : a = b) : [DV.one (.s 1 a)] = [DV.one (.s 1 b)] := by rw [h]
end Go.V