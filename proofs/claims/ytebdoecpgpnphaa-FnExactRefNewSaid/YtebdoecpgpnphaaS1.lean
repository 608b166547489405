/-
  The table of types of the seat, and that it is the program's.
-/
import Derived.Test.YtebdoecpgpnphaaChecked
import Derived.Test.YtebdoecpgpnphaaV27
set_option linter.all false

namespace Go.V
open Go.Proofs

def tab : Tab where
  tyL := [(2, ⟨false, [none], [.v (.int .i64 0)]⟩),
    (3, ⟨false, [none], [.v (.int .i64 0)]⟩),
    (4, ⟨false, [none], [.v (.bool false)]⟩),
    (5, ⟨false, [none], [.v (.int .u8 0)]⟩),
    (6, ⟨false, [none], [.v (.int .u8 0)]⟩),
    (7, ⟨true, [none, none, none, none], [.v (.int .i64 0), .v (.int .i64 0), .v (.bool false), .v (.int .u8 0)]⟩),
    (8, ⟨true, [none, none, none, none], [.v (.int .i64 0), .v (.int .i64 0), .v (.bool false), .v (.int .u8 0)]⟩),
    (9, ⟨false, [none], [.v (.string .empty)]⟩),
    (10, ⟨false, [none], [.v (.string .empty)]⟩),
    (11, ⟨false, [none], [.v (.string .empty)]⟩),
    (12, ⟨false, [none], [.v (.int .u64 0)]⟩),
    (13, ⟨true, [none, none], [.v (.string .empty), .v (.int .u64 0)]⟩),
    (14, ⟨true, [none, none], [.v (.string .empty), .v (.int .u64 0)]⟩),
    (21, ⟨false, [none], [.v (.int .i32 0)]⟩),
    (22, ⟨true, [none, none, none, none, none, none, none, none], [.v (.int .i64 0), .v (.int .i64 0), .v (.int .i64 0), .v (.int .i64 0), .v (.int .i64 0), .v (.int .i64 0), .v (.int .i64 0), .v (.int .i64 0)]⟩),
    (23, ⟨true, [none, none, none, none, none, none, none, none], [.v (.int .i64 0), .v (.int .i64 0), .v (.int .i64 0), .v (.int .i64 0), .v (.int .i64 0), .v (.int .i64 0), .v (.int .i64 0), .v (.int .i64 0)]⟩),
    (25, ⟨true, [none, none, none, none, none, none, none, none], [.v (.int .i64 0), .v (.int .i64 0), .v (.int .i64 0), .v (.int .i64 0), .v (.int .i64 0), .v (.int .i64 0), .v (.int .i64 0), .v (.int .i64 0)]⟩),
    (28, ⟨false, [some 2], [.s 2 []]⟩),
    (31, ⟨false, [some 2], [.s 2 []]⟩),
    (35, ⟨false, [some 1], [.s 1 []]⟩),
    (37, ⟨false, [some 1], [.s 1 []]⟩),
    (40, ⟨true, [none, none], [.v (.int .i64 0), .v (.int .i64 0)]⟩),
    (41, ⟨true, [none, none], [.v (.int .i64 0), .v (.int .i64 0)]⟩),
    (42, ⟨false, [some 2], [.s 2 []]⟩),
    (43, ⟨true, [none, some 2], [.v (.int .i64 0), .s 2 []]⟩),
    (44, ⟨true, [none, some 2], [.v (.int .i64 0), .s 2 []]⟩),
    (52, ⟨true, [none, none], [.v (.int .i64 0), .v (.int .i64 0)]⟩),
    (60, ⟨true, [some 1, none, none], [.s 1 [], .v (.int .i64 0), .v (.int .i64 0)]⟩),
    (61, ⟨true, [some 1, none, none], [.s 1 [], .v (.int .i64 0), .v (.int .i64 0)]⟩),
    (64, ⟨true, [none, some 1], [.v (.int .i64 0), .s 1 []]⟩),
    (65, ⟨true, [none, some 1], [.v (.int .i64 0), .s 1 []]⟩),
    (66, ⟨false, [none], [.v (.int .u64 0)]⟩),
    (75, ⟨false, [none], [.v (.int .u32 0)]⟩),
    (76, ⟨false, [none], [.v (.int .u8 0)]⟩),
    (77, ⟨false, [none], [.v (.int .u8 0)]⟩),
    (80, ⟨false, [none], [.v (.int .i32 0)]⟩),
    (81, ⟨false, [none], [.v (.int .i32 0)]⟩)]
  elL := [(28, 52, ⟨true, [none, none], [.v (.int .i64 0), .v (.int .i64 0)]⟩, 16),
    (31, 41, ⟨true, [none, none], [.v (.int .i64 0), .v (.int .i64 0)]⟩, 16),
    (35, 5, ⟨false, [none], [.v (.int .u8 0)]⟩, 1),
    (37, 3, ⟨false, [none], [.v (.int .i64 0)]⟩, 8),
    (42, 65, ⟨true, [none, some 1], [.v (.int .i64 0), .s 1 []]⟩, 32)]
  fdL := [(7, [some 0, some 1, some 2, some 3]),
    (8, [some 0, some 1, some 2, some 3]),
    (13, [some 0, some 1]),
    (14, [some 0, some 1]),
    (18, [some 0]),
    (19, [some 0]),
    (22, [some 0, some 1, some 2, some 3, some 4, some 5, some 6, some 7]),
    (23, [some 0, some 1, some 2, some 3, some 4, some 5, some 6, some 7]),
    (25, [some 0, some 1, some 2, some 3, some 4, some 5, some 6, some 7]),
    (40, [some 0, some 1]),
    (41, [some 0, some 1]),
    (43, [some 0, some 1]),
    (44, [some 0, some 1]),
    (52, [some 0, some 1]),
    (60, [some 0, some 1, some 2]),
    (61, [some 0, some 1, some 2]),
    (64, [some 0, some 1]),
    (65, [some 0, some 1]),
    (69, [some 0, some 1, some 2, some 3]),
    (70, [some 0, some 1, some 2, some 3]),
    (72, [none]),
    (73, [none]),
    (82, [some 0, some 1, some 2, some 3, some 4, some 5, some 6, some 7, some 8, some 9, some 10]),
    (83, [some 0, some 1, some 2, some 3, some 4, some 5, some 6, some 7, some 8, some 9, some 10])]
  bdL := [(7, [(0, 1), (1, 1), (2, 1), (3, 1)]),
    (8, [(0, 1), (1, 1), (2, 1), (3, 1)]),
    (13, [(0, 1), (1, 1)]),
    (14, [(0, 1), (1, 1)]),
    (18, [(0, 1)]),
    (19, [(0, 1)]),
    (22, [(0, 1), (1, 1), (2, 1), (3, 1), (4, 1), (5, 1), (6, 1), (7, 1)]),
    (23, [(0, 1), (1, 1), (2, 1), (3, 1), (4, 1), (5, 1), (6, 1), (7, 1)]),
    (25, [(0, 1), (1, 1), (2, 1), (3, 1), (4, 1), (5, 1), (6, 1), (7, 1)]),
    (40, [(0, 1), (1, 1)]),
    (41, [(0, 1), (1, 1)]),
    (43, [(0, 1), (1, 1)]),
    (44, [(0, 1), (1, 1)]),
    (52, [(0, 1), (1, 1)]),
    (60, [(0, 1), (1, 1), (2, 1)]),
    (61, [(0, 1), (1, 1), (2, 1)]),
    (64, [(0, 1), (1, 1)]),
    (65, [(0, 1), (1, 1)]),
    (69, [(0, 1), (1, 1), (2, 1), (3, 1)]),
    (70, [(0, 1), (1, 1), (2, 1), (3, 1)]),
    (72, [(0, 0)]),
    (73, [(0, 0)]),
    (82, [(0, 1), (1, 1), (2, 1), (3, 1), (4, 1), (5, 1), (6, 1), (7, 1), (8, 1), (9, 1), (10, 1)]),
    (83, [(0, 1), (1, 1), (2, 1), (3, 1), (4, 1), (5, 1), (6, 1), (7, 1), (8, 1), (9, 1), (10, 1)])]
  itL := [(2, .i64), (3, .i64), (5, .u8), (6, .u8), (12, .u64), (21, .i32), (66, .u64), (75, .u32), (76, .u8), (77, .u8), (80, .i32), (81, .i32)]
  boL := [(4, ())]
  slL := [(28, ()), (31, ()), (35, ()), (37, ()), (42, ())]
  fnL := [(2, ()), (3, ()), (4, ()), (5, ()), (6, ()), (7, ()), (8, ()), (9, ()), (10, ()), (11, ()), (12, ()), (13, ()), (14, ()), (15, ()), (16, ()), (17, ()), (18, ()), (19, ()), (20, ()), (21, ()), (22, ()), (23, ()), (24, ()), (25, ()), (26, ()), (27, ()), (28, ()), (29, ()), (30, ()), (31, ()), (32, ()), (33, ()), (34, ()), (35, ()), (36, ()), (37, ()), (38, ()), (39, ()), (40, ()), (41, ()), (42, ()), (43, ())]

theorem tabOk : TabOk Try.prog tab := ⟨by kernel_rfl, by kernel_rfl, by kernel_rfl, by kernel_rfl, by kernel_rfl, by kernel_rfl, by kernel_rfl, by kernel_rfl⟩
theorem mixed : Try.prog.follows .mixedOrders = true := by kernel_rfl

abbrev di (x : Int) : DV := .one (.v (.int .i64 x))
abbrev db (x : Bool) : DV := .one (.v (.bool x))
def noCT : Unit → CT := fun _ _ _ => none
theorem noCT_ok {P : Program} : CTok P (noCT ()) := by intro f ds pre res h; cases h

end Go.V
