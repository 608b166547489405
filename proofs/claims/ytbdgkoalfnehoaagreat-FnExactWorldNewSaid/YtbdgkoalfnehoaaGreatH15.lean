/-
  A new world: its leaves, one by one.
-/
import Derived.Test.YtbdgkoalfnehoaaGreatH14

set_option linter.all false
namespace Go.V
theorem wd_eq {c u e r fr k m i c' u' e' r' fr' k' m' i' : List (List L)} {q l n n2 q' l' n' n2' : Int} {b b' : Bool} (h1 : c = c') (h2 : u = u') (h3 : e = e') (h4 : r = r') (h5 : fr = fr') (h6 : k = k') (h7 : m = m') (h8 : i = i') (h9 : q = q') (h10 : l = l') (h11 : n = n') (h13 : n2 = n2') (h12 : b = b') :
    [DV.agg [.s 1 c, .s 1 u, .s 2 e, .v (.int .i64 0), .s 1 r, .s 2 fr, .s 3 [], .s 3 [], .s 4 [], .s 1 k, .s 1 m, .s 1 i, .v (.int .i64 q), .s 3 [], .v (.int .i64 0), .v (.int .i64 0), .v (.int .i64 l), .v (.int .i64 n), .v (.bool false), .v (.int .i64 0), .v (.int .i64 0), .s 1 [], .v (.int .i64 0), .v (.int .i64 0), .v (.int .i64 n2), .s 2 []], .one (.v (.bool b))] =
    [DV.agg [.s 1 c', .s 1 u', .s 2 e', .v (.int .i64 0), .s 1 r', .s 2 fr', .s 3 [], .s 3 [], .s 4 [], .s 1 k', .s 1 m', .s 1 i', .v (.int .i64 q'), .s 3 [], .v (.int .i64 0), .v (.int .i64 0), .v (.int .i64 l'), .v (.int .i64 n'), .v (.bool false), .v (.int .i64 0), .v (.int .i64 0), .s 1 [], .v (.int .i64 0), .v (.int .i64 0), .v (.int .i64 n2'), .s 2 []], .one (.v (.bool b'))] := by
  subst h1 h2 h3 h4 h5 h6 h7 h8 h9 h10 h11 h12 h13; rfl
theorem cnt_more {rs : List (List (List L))} {r : List (List L)} (h : cntRs rs ≤ 1099511627776) (hr : cntE r = 0) : cntRs (rs ++ [r]) ≤ 1099511627776 := by rw [cntRs_append, cntRs_one, hr]; omega
end Go.V
