/-
  The table of types of the seat, and that it is the program's.
-/
import Derived.Test.YtlpkkliogonmnaaChecked
import Derived.Test.YtlpkkliogonmnaaVD

set_option linter.all false
namespace Go.V
open Go.Proofs

def tab : Tab where
  tyL := [(2, ⟨false, [none], [.v (.int .i64 0)]⟩),
    (3, ⟨false, [none], [.v (.int .i64 0)]⟩),
    (4, ⟨false, [none], [.v (.bool false)]⟩),
    (5, ⟨false, [none], [.v (.int .u8 0)]⟩),
    (6, ⟨false, [none], [.v (.int .u8 0)]⟩),
    (7, ⟨true, [none, none, none, none], [.v (.int .i64 0), .v (.int .i64 0), .v (.bool false), .v (.int .u8 0)]⟩),
    (8, ⟨true, [none, none, none, none], [.v (.int .i64 0), .v (.int .i64 0), .v (.bool false), .v (.int .u8 0)]⟩),
    (9, ⟨false, [none], [.v (.string .empty)]⟩),
    (10, ⟨false, [none], [.v (.string .empty)]⟩),
    (11, ⟨false, [none], [.v (.string .empty)]⟩),
    (12, ⟨false, [none], [.v (.int .u64 0)]⟩),
    (13, ⟨true, [none, none], [.v (.string .empty), .v (.int .u64 0)]⟩),
    (14, ⟨true, [none, none], [.v (.string .empty), .v (.int .u64 0)]⟩),
    (21, ⟨false, [none], [.v (.int .i32 0)]⟩),
    (22, ⟨false, [some 1], [.s 1 []]⟩),
    (24, ⟨false, [some 1], [.s 1 []]⟩),
    (26, ⟨false, [some 2], [.s 2 []]⟩),
    (27, ⟨true, [none, some 2], [.v (.int .i64 0), .s 2 []]⟩),
    (28, ⟨true, [none, some 2], [.v (.int .i64 0), .s 2 []]⟩),
    (36, ⟨true, [none, some 1], [.v (.int .i64 0), .s 1 []]⟩),
    (37, ⟨true, [none, some 1], [.v (.int .i64 0), .s 1 []]⟩),
    (38, ⟨false, [some 2], [.s 2 []]⟩),
    (46, ⟨false, [some 2], [.s 2 []]⟩),
    (47, ⟨true, [none, some 2], [.v (.int .i64 0), .s 2 []]⟩),
    (48, ⟨true, [none, some 2], [.v (.int .i64 0), .s 2 []]⟩),
    (62, ⟨true, [none, none], [.v (.int .i64 0), .v (.int .i64 0)]⟩),
    (63, ⟨true, [none, none], [.v (.int .i64 0), .v (.int .i64 0)]⟩),
    (70, ⟨true, [some 1, none, none], [.s 1 [], .v (.int .i64 0), .v (.int .i64 0)]⟩),
    (71, ⟨true, [some 1, none, none], [.s 1 [], .v (.int .i64 0), .v (.int .i64 0)]⟩),
    (76, ⟨true, [none, some 1], [.v (.int .i64 0), .s 1 []]⟩),
    (79, ⟨false, [none], [.v (.int .u64 0)]⟩),
    (87, ⟨false, [none], [.v (.int .u32 0)]⟩),
    (88, ⟨false, [none], [.v (.int .u8 0)]⟩),
    (89, ⟨false, [none], [.v (.int .u8 0)]⟩),
    (92, ⟨false, [none], [.v (.int .i32 0)]⟩),
    (93, ⟨false, [none], [.v (.int .i32 0)]⟩)]
  elL := [(22, 5, ⟨false, [none], [.v (.int .u8 0)]⟩, 1),
    (24, 3, ⟨false, [none], [.v (.int .i64 0)]⟩, 8),
    (26, 37, ⟨true, [none, some 1], [.v (.int .i64 0), .s 1 []]⟩, 32),
    (38, 63, ⟨true, [none, none], [.v (.int .i64 0), .v (.int .i64 0)]⟩, 16),
    (46, 76, ⟨true, [none, some 1], [.v (.int .i64 0), .s 1 []]⟩, 32)]
  fdL := [(7, [some 0, some 1, some 2, some 3]),
    (8, [some 0, some 1, some 2, some 3]),
    (13, [some 0, some 1]),
    (14, [some 0, some 1]),
    (18, [some 0]),
    (19, [some 0]),
    (27, [some 0, some 1]),
    (28, [some 0, some 1]),
    (36, [some 0, some 1]),
    (37, [some 0, some 1]),
    (47, [some 0, some 1]),
    (48, [some 0, some 1]),
    (62, [some 0, some 1]),
    (63, [some 0, some 1]),
    (70, [some 0, some 1, some 2]),
    (71, [some 0, some 1, some 2]),
    (76, [some 0, some 1]),
    (81, [some 0, some 1, some 2, some 3]),
    (82, [some 0, some 1, some 2, some 3]),
    (84, [none]),
    (85, [none]),
    (94, [some 0, some 1, some 2, some 3, some 4, some 5, some 6, some 7, some 8, some 9, some 10]),
    (95, [some 0, some 1, some 2, some 3, some 4, some 5, some 6, some 7, some 8, some 9, some 10])]
  bdL := [(7, [(0, 1), (1, 1), (2, 1), (3, 1)]),
    (8, [(0, 1), (1, 1), (2, 1), (3, 1)]),
    (13, [(0, 1), (1, 1)]),
    (14, [(0, 1), (1, 1)]),
    (18, [(0, 1)]),
    (19, [(0, 1)]),
    (27, [(0, 1), (1, 1)]),
    (28, [(0, 1), (1, 1)]),
    (36, [(0, 1), (1, 1)]),
    (37, [(0, 1), (1, 1)]),
    (47, [(0, 1), (1, 1)]),
    (48, [(0, 1), (1, 1)]),
    (62, [(0, 1), (1, 1)]),
    (63, [(0, 1), (1, 1)]),
    (70, [(0, 1), (1, 1), (2, 1)]),
    (71, [(0, 1), (1, 1), (2, 1)]),
    (76, [(0, 1), (1, 1)]),
    (81, [(0, 1), (1, 1), (2, 1), (3, 1)]),
    (82, [(0, 1), (1, 1), (2, 1), (3, 1)]),
    (84, [(0, 0)]),
    (85, [(0, 0)]),
    (94, [(0, 1), (1, 1), (2, 1), (3, 1), (4, 1), (5, 1), (6, 1), (7, 1), (8, 1), (9, 1), (10, 1)]),
    (95, [(0, 1), (1, 1), (2, 1), (3, 1), (4, 1), (5, 1), (6, 1), (7, 1), (8, 1), (9, 1), (10, 1)])]
  itL := [(2, .i64), (3, .i64), (5, .u8), (6, .u8), (12, .u64), (21, .i32), (79, .u64), (87, .u32), (88, .u8), (89, .u8), (92, .i32), (93, .i32)]
  boL := [(4, ())]
  slL := [(22, ()), (24, ()), (26, ()), (38, ()), (46, ())]
  fnL := [(2, ()), (3, ()), (4, ()), (5, ()), (6, ()), (7, ()), (8, ()), (9, ()), (10, ()), (11, ()), (12, ()), (13, ()), (14, ()), (15, ()), (16, ()), (17, ()), (18, ()), (19, ()), (20, ()), (21, ()), (22, ()), (23, ()), (24, ()), (25, ()), (26, ()), (27, ()), (28, ()), (29, ()), (30, ()), (31, ()), (32, ()), (33, ()), (34, ()), (35, ()), (36, ()), (37, ()), (38, ()), (39, ()), (40, ()), (41, ()), (42, ()), (43, ()), (44, ()), (45, ()), (46, ()), (47, ()), (48, ()), (49, ()), (50, ()), (51, ()), (52, ()), (53, ()), (54, ()), (55, ()), (56, ()), (57, ())]
  ptL := [(56, ⟨true, [some 1, none, none], [.s 1 [], .v (.int .i64 0), .v (.int .i64 0)]⟩),
    (91, ⟨false, [none], [.v (.int .u8 0)]⟩)]
  pnL := [(0, ()), (1, ()), (15, ()), (16, ()), (17, ()), (18, ()), (19, ()), (20, ()), (23, ()), (25, ()), (29, ()), (30, ()), (31, ()), (32, ()), (33, ()), (34, ()), (35, ()), (39, ()), (40, ()), (41, ()), (42, ()), (43, ()), (44, ()), (45, ()), (49, ()), (50, ()), (51, ()), (52, ()), (53, ()), (54, ()), (55, ()), (56, ()), (57, ()), (58, ()), (59, ()), (60, ()), (61, ()), (64, ()), (65, ()), (66, ()), (67, ()), (68, ()), (69, ()), (72, ()), (73, ()), (74, ()), (75, ()), (77, ()), (78, ()), (80, ()), (81, ()), (82, ()), (83, ()), (84, ()), (85, ()), (86, ()), (90, ()), (91, ()), (94, ()), (95, ()), (96, ())]

theorem tabOk : TabOk Try.prog tab := ⟨by kernel_rfl, by kernel_rfl, by kernel_rfl, by kernel_rfl, by kernel_rfl, by kernel_rfl, by kernel_rfl, by kernel_rfl, by kernel_rfl, by kernel_rfl⟩
theorem mixed : Try.prog.follows .mixedOrders = true := by kernel_rfl

abbrev di (x : Int) : DV := .one (.v (.int .i64 x))
abbrev db (x : Bool) : DV := .one (.v (.bool x))
def noCT : Unit → CT := fun _ _ _ => none
theorem noCT_ok {P : Program} : CTok P (noCT ()) := by intro f ds pre res h; cases h

end Go.V
