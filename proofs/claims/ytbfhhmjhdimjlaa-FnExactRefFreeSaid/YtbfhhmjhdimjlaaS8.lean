/-
  The table of types of the seat, and that it is the program's.
-/
import Derived.Test.YtbfhhmjhdimjlaaChecked
import Derived.Test.YtbfhhmjhdimjlaaVE

set_option linter.all false
namespace Go.V
open Go.Proofs

def tab : Tab where
  tyL := [(2, ⟨false, [none], [.v (.int .i64 0)]⟩),
    (3, ⟨false, [none], [.v (.int .i64 0)]⟩),
    (4, ⟨false, [none], [.v (.bool false)]⟩),
    (5, ⟨false, [none], [.v (.int .u8 0)]⟩),
    (6, ⟨false, [none], [.v (.int .u8 0)]⟩),
    (7, ⟨true, [none, none, none, none], [.v (.int .i64 0), .v (.int .i64 0), .v (.bool false), .v (.int .u8 0)]⟩),
    (8, ⟨true, [none, none, none, none], [.v (.int .i64 0), .v (.int .i64 0), .v (.bool false), .v (.int .u8 0)]⟩),
    (9, ⟨false, [none], [.v (.string .empty)]⟩),
    (10, ⟨false, [none], [.v (.string .empty)]⟩),
    (11, ⟨false, [none], [.v (.string .empty)]⟩),
    (12, ⟨false, [none], [.v (.int .u64 0)]⟩),
    (13, ⟨true, [none, none], [.v (.string .empty), .v (.int .u64 0)]⟩),
    (14, ⟨true, [none, none], [.v (.string .empty), .v (.int .u64 0)]⟩),
    (21, ⟨false, [none], [.v (.int .i32 0)]⟩),
    (22, ⟨false, [some 1], [.s 1 []]⟩),
    (24, ⟨false, [some 1], [.s 1 []]⟩),
    (26, ⟨false, [some 2], [.s 2 []]⟩),
    (28, ⟨true, [none, none], [.v (.int .i64 0), .v (.int .i64 0)]⟩),
    (29, ⟨true, [none, none], [.v (.int .i64 0), .v (.int .i64 0)]⟩),
    (32, ⟨false, [some 2], [.s 2 []]⟩),
    (33, ⟨true, [none, some 2], [.v (.int .i64 0), .s 2 []]⟩),
    (34, ⟨true, [none, some 2], [.v (.int .i64 0), .s 2 []]⟩),
    (42, ⟨true, [none, some 1], [.v (.int .i64 0), .s 1 []]⟩),
    (43, ⟨true, [none, some 1], [.v (.int .i64 0), .s 1 []]⟩),
    (44, ⟨false, [some 2], [.s 2 []]⟩),
    (45, ⟨true, [none, some 2], [.v (.int .i64 0), .s 2 []]⟩),
    (46, ⟨true, [none, some 2], [.v (.int .i64 0), .s 2 []]⟩),
    (53, ⟨false, [some 1], [.s 1 []]⟩),
    (54, ⟨false, [some 1], [.s 1 []]⟩),
    (55, ⟨true, [some 1, some 1], [.s 1 [], .s 1 []]⟩),
    (56, ⟨true, [some 1, some 1], [.s 1 [], .s 1 []]⟩),
    (57, ⟨false, [some 2], [.s 2 []]⟩),
    (58, ⟨true, [some 2], [.s 2 []]⟩),
    (59, ⟨true, [some 2], [.s 2 []]⟩),
    (60, ⟨true, [some 1, some 1, some 2], [.s 1 [], .s 1 [], .s 2 []]⟩),
    (61, ⟨true, [some 1, some 1, some 2], [.s 1 [], .s 1 [], .s 2 []]⟩),
    (63, ⟨false, [some 1], [.s 1 []]⟩),
    (64, ⟨true, [some 1, some 1, some 1], [.s 1 [], .s 1 [], .s 1 []]⟩),
    (65, ⟨true, [some 1, some 1, some 1], [.s 1 [], .s 1 [], .s 1 []]⟩),
    (101, ⟨true, [none, none], [.v (.int .i64 0), .v (.int .i64 0)]⟩),
    (102, ⟨true, [none, none], [.v (.int .i64 0), .v (.int .i64 0)]⟩),
    (113, ⟨true, [some 1, none, none], [.s 1 [], .v (.int .i64 0), .v (.int .i64 0)]⟩),
    (114, ⟨true, [some 1, none, none], [.s 1 [], .v (.int .i64 0), .v (.int .i64 0)]⟩),
    (119, ⟨true, [none, some 1], [.v (.int .i64 0), .s 1 []]⟩),
    (128, ⟨false, [none], [.v (.int .u64 0)]⟩),
    (140, ⟨false, [none], [.v (.int .u32 0)]⟩),
    (141, ⟨false, [none], [.v (.int .u8 0)]⟩),
    (142, ⟨false, [none], [.v (.int .u8 0)]⟩),
    (145, ⟨false, [none], [.v (.int .i32 0)]⟩),
    (146, ⟨false, [none], [.v (.int .i32 0)]⟩)]
  elL := [(22, 5, ⟨false, [none], [.v (.int .u8 0)]⟩, 1),
    (24, 3, ⟨false, [none], [.v (.int .i64 0)]⟩, 8),
    (26, 29, ⟨true, [none, none], [.v (.int .i64 0), .v (.int .i64 0)]⟩, 16),
    (32, 43, ⟨true, [none, some 1], [.v (.int .i64 0), .s 1 []]⟩, 32),
    (44, 119, ⟨true, [none, some 1], [.v (.int .i64 0), .s 1 []]⟩, 32),
    (53, 24, ⟨false, [some 1], [.s 1 []]⟩, 24),
    (54, 4, ⟨false, [none], [.v (.bool false)]⟩, 1),
    (57, 102, ⟨true, [none, none], [.v (.int .i64 0), .v (.int .i64 0)]⟩, 16),
    (63, 59, ⟨true, [some 2], [.s 2 []]⟩, 24)]
  fdL := [(7, [some 0, some 1, some 2, some 3]),
    (8, [some 0, some 1, some 2, some 3]),
    (13, [some 0, some 1]),
    (14, [some 0, some 1]),
    (18, [some 0]),
    (19, [some 0]),
    (28, [some 0, some 1]),
    (29, [some 0, some 1]),
    (33, [some 0, some 1]),
    (34, [some 0, some 1]),
    (42, [some 0, some 1]),
    (43, [some 0, some 1]),
    (45, [some 0, some 1]),
    (46, [some 0, some 1]),
    (55, [some 0, some 1]),
    (56, [some 0, some 1]),
    (58, [some 0]),
    (59, [some 0]),
    (60, [some 0, some 2]),
    (61, [some 0, some 2]),
    (64, [some 0, some 2]),
    (65, [some 0, some 2]),
    (101, [some 0, some 1]),
    (102, [some 0, some 1]),
    (113, [some 0, some 1, some 2]),
    (114, [some 0, some 1, some 2]),
    (119, [some 0, some 1]),
    (134, [some 0, some 1, some 2, some 3]),
    (135, [some 0, some 1, some 2, some 3]),
    (137, [none]),
    (138, [none]),
    (147, [some 0, some 1, some 2, some 3, some 4, some 5, some 6, some 7, some 8, some 9, some 10]),
    (148, [some 0, some 1, some 2, some 3, some 4, some 5, some 6, some 7, some 8, some 9, some 10])]
  bdL := [(7, [(0, 1), (1, 1), (2, 1), (3, 1)]),
    (8, [(0, 1), (1, 1), (2, 1), (3, 1)]),
    (13, [(0, 1), (1, 1)]),
    (14, [(0, 1), (1, 1)]),
    (18, [(0, 1)]),
    (19, [(0, 1)]),
    (28, [(0, 1), (1, 1)]),
    (29, [(0, 1), (1, 1)]),
    (33, [(0, 1), (1, 1)]),
    (34, [(0, 1), (1, 1)]),
    (42, [(0, 1), (1, 1)]),
    (43, [(0, 1), (1, 1)]),
    (45, [(0, 1), (1, 1)]),
    (46, [(0, 1), (1, 1)]),
    (55, [(0, 1), (1, 1)]),
    (56, [(0, 1), (1, 1)]),
    (58, [(0, 1)]),
    (59, [(0, 1)]),
    (60, [(0, 2), (2, 1)]),
    (61, [(0, 2), (2, 1)]),
    (64, [(0, 2), (2, 1)]),
    (65, [(0, 2), (2, 1)]),
    (101, [(0, 1), (1, 1)]),
    (102, [(0, 1), (1, 1)]),
    (113, [(0, 1), (1, 1), (2, 1)]),
    (114, [(0, 1), (1, 1), (2, 1)]),
    (119, [(0, 1), (1, 1)]),
    (134, [(0, 1), (1, 1), (2, 1), (3, 1)]),
    (135, [(0, 1), (1, 1), (2, 1), (3, 1)]),
    (137, [(0, 0)]),
    (138, [(0, 0)]),
    (147, [(0, 1), (1, 1), (2, 1), (3, 1), (4, 1), (5, 1), (6, 1), (7, 1), (8, 1), (9, 1), (10, 1)]),
    (148, [(0, 1), (1, 1), (2, 1), (3, 1), (4, 1), (5, 1), (6, 1), (7, 1), (8, 1), (9, 1), (10, 1)])]
  itL := [(2, .i64), (3, .i64), (5, .u8), (6, .u8), (12, .u64), (21, .i32), (128, .u64), (140, .u32), (141, .u8), (142, .u8), (145, .i32), (146, .i32)]
  boL := [(4, ())]
  slL := [(22, ()), (24, ()), (26, ()), (32, ()), (44, ()), (53, ()), (54, ()), (57, ()), (63, ())]
  fnL := [(2, ()), (3, ()), (4, ()), (5, ()), (6, ()), (7, ()), (8, ()), (9, ()), (10, ()), (11, ()), (12, ()), (13, ()), (14, ()), (15, ()), (16, ()), (17, ()), (18, ()), (19, ()), (20, ()), (21, ()), (22, ()), (23, ()), (24, ()), (25, ()), (26, ()), (27, ()), (28, ()), (29, ()), (30, ()), (31, ()), (32, ()), (33, ()), (34, ()), (35, ()), (36, ()), (37, ()), (38, ()), (39, ()), (40, ()), (41, ()), (42, ()), (43, ()), (44, ()), (45, ()), (46, ()), (47, ()), (48, ()), (49, ()), (50, ()), (51, ()), (52, ()), (53, ()), (54, ()), (55, ()), (56, ()), (57, ()), (58, ()), (59, ()), (60, ()), (61, ()), (62, ()), (63, ()), (64, ()), (65, ()), (66, ()), (67, ()), (68, ()), (69, ()), (70, ()), (71, ()), (72, ()), (73, ()), (74, ()), (75, ()), (76, ()), (77, ()), (78, ()), (79, ()), (80, ()), (81, ()), (82, ()), (83, ()), (84, ()), (85, ()), (86, ()), (87, ()), (88, ()), (89, ()), (90, ()), (91, ()), (92, ()), (93, ()), (94, ()), (95, ()), (96, ()), (97, ()), (98, ()), (99, ())]
  ptL := [(83, ⟨true, [some 1, none, none], [.s 1 [], .v (.int .i64 0), .v (.int .i64 0)]⟩),
    (144, ⟨false, [none], [.v (.int .u8 0)]⟩)]
  pnL := [(0, ()), (1, ()), (15, ()), (16, ()), (17, ()), (18, ()), (19, ()), (20, ()), (23, ()), (25, ()), (27, ()), (30, ()), (31, ()), (35, ()), (36, ()), (37, ()), (38, ()), (39, ()), (40, ()), (41, ()), (47, ()), (48, ()), (49, ()), (50, ()), (51, ()), (52, ()), (62, ()), (66, ()), (67, ()), (68, ()), (69, ()), (70, ()), (71, ()), (72, ()), (73, ()), (74, ()), (75, ()), (76, ()), (77, ()), (78, ()), (79, ()), (80, ()), (81, ()), (82, ()), (83, ()), (84, ()), (85, ()), (86, ()), (87, ()), (88, ()), (89, ()), (90, ()), (91, ()), (92, ()), (93, ()), (94, ()), (95, ()), (96, ()), (97, ()), (98, ()), (99, ()), (100, ()), (103, ()), (104, ()), (105, ()), (106, ()), (107, ()), (108, ()), (109, ()), (110, ()), (111, ()), (112, ()), (115, ()), (116, ()), (117, ()), (118, ()), (120, ()), (121, ()), (122, ()), (123, ()), (124, ()), (125, ()), (126, ()), (127, ()), (129, ()), (130, ()), (131, ()), (132, ()), (133, ()), (134, ()), (135, ()), (136, ()), (137, ()), (138, ()), (139, ()), (143, ()), (144, ()), (147, ()), (148, ()), (149, ())]
  mpL := []
  cmL := [(7, [false, false, true, false]), (8, [false, false, true, false]), (28, [false, false]), (29, [false, false]), (101, [false, false]), (102, [false, false])]

theorem tabOk : TabOk Try.prog tab := ⟨by kernel_rfl, by kernel_rfl, by kernel_rfl, by kernel_rfl, by kernel_rfl, by kernel_rfl, by kernel_rfl, by kernel_rfl, by kernel_rfl, by kernel_rfl, by kernel_rfl, by kernel_rfl⟩
theorem mixed : Try.prog.follows .mixedOrders = true := by kernel_rfl

abbrev di (x : Int) : DV := .one (.v (.int .i64 x))
abbrev db (x : Bool) : DV := .one (.v (.bool x))
def noCT : Unit → CT := fun _ _ _ => none
theorem noCT_ok {P : Program} : CTok P (noCT ()) := by intro f ds pre res h; cases h

end Go.V
