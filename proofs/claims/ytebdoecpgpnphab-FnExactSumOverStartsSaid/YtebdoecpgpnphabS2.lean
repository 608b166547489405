/-
  The table of types of the seat, and that it is the program's.
-/
import Derived.Test.YtebdoecpgpnphabChecked
import Derived.Test.YtebdoecpgpnphabV27
set_option linter.all false

namespace Go.V
open Go.Proofs

def tab : Tab where
  tyL := [(2, ⟨false, [none], [.v (.int .i64 0)]⟩),
    (3, ⟨false, [none], [.v (.int .i64 0)]⟩),
    (4, ⟨false, [none], [.v (.bool false)]⟩),
    (5, ⟨false, [none], [.v (.int .u8 0)]⟩),
    (6, ⟨false, [none], [.v (.int .u8 0)]⟩),
    (7, ⟨true, [none, none, none, none], [.v (.int .i64 0), .v (.int .i64 0), .v (.bool false), .v (.int .u8 0)]⟩),
    (8, ⟨true, [none, none, none, none], [.v (.int .i64 0), .v (.int .i64 0), .v (.bool false), .v (.int .u8 0)]⟩),
    (9, ⟨false, [none], [.v (.string .empty)]⟩),
    (10, ⟨false, [none], [.v (.string .empty)]⟩),
    (11, ⟨false, [none], [.v (.string .empty)]⟩),
    (12, ⟨false, [none], [.v (.int .u64 0)]⟩),
    (13, ⟨true, [none, none], [.v (.string .empty), .v (.int .u64 0)]⟩),
    (14, ⟨true, [none, none], [.v (.string .empty), .v (.int .u64 0)]⟩),
    (21, ⟨false, [none], [.v (.int .i32 0)]⟩),
    (22, ⟨false, [some 1], [.s 1 []]⟩),
    (28, ⟨false, [some 2], [.s 2 []]⟩),
    (30, ⟨true, [none, none], [.v (.int .i64 0), .v (.int .i64 0)]⟩),
    (31, ⟨true, [none, none], [.v (.int .i64 0), .v (.int .i64 0)]⟩),
    (40, ⟨false, [none], [.v (.int .u32 0)]⟩),
    (41, ⟨false, [none], [.v (.int .u8 0)]⟩),
    (42, ⟨false, [none], [.v (.int .u8 0)]⟩),
    (45, ⟨false, [none], [.v (.int .i32 0)]⟩),
    (46, ⟨false, [none], [.v (.int .i32 0)]⟩)]
  elL := [(22, 3, ⟨false, [none], [.v (.int .i64 0)]⟩, 8),
    (28, 31, ⟨true, [none, none], [.v (.int .i64 0), .v (.int .i64 0)]⟩, 16)]
  fdL := [(7, [some 0, some 1, some 2, some 3]),
    (8, [some 0, some 1, some 2, some 3]),
    (13, [some 0, some 1]),
    (14, [some 0, some 1]),
    (18, [some 0]),
    (19, [some 0]),
    (30, [some 0, some 1]),
    (31, [some 0, some 1]),
    (34, [some 0, some 1, some 2, some 3]),
    (35, [some 0, some 1, some 2, some 3]),
    (37, [none]),
    (38, [none]),
    (47, [some 0, some 1, some 2, some 3, some 4, some 5, some 6, some 7, some 8, some 9, some 10]),
    (48, [some 0, some 1, some 2, some 3, some 4, some 5, some 6, some 7, some 8, some 9, some 10])]
  bdL := [(7, [(0, 1), (1, 1), (2, 1), (3, 1)]),
    (8, [(0, 1), (1, 1), (2, 1), (3, 1)]),
    (13, [(0, 1), (1, 1)]),
    (14, [(0, 1), (1, 1)]),
    (18, [(0, 1)]),
    (19, [(0, 1)]),
    (30, [(0, 1), (1, 1)]),
    (31, [(0, 1), (1, 1)]),
    (34, [(0, 1), (1, 1), (2, 1), (3, 1)]),
    (35, [(0, 1), (1, 1), (2, 1), (3, 1)]),
    (37, [(0, 0)]),
    (38, [(0, 0)]),
    (47, [(0, 1), (1, 1), (2, 1), (3, 1), (4, 1), (5, 1), (6, 1), (7, 1), (8, 1), (9, 1), (10, 1)]),
    (48, [(0, 1), (1, 1), (2, 1), (3, 1), (4, 1), (5, 1), (6, 1), (7, 1), (8, 1), (9, 1), (10, 1)])]
  itL := [(2, .i64), (3, .i64), (5, .u8), (6, .u8), (12, .u64), (21, .i32), (40, .u32), (41, .u8), (42, .u8), (45, .i32), (46, .i32)]
  boL := [(4, ())]
  slL := [(22, ()), (28, ())]
  fnL := [(2, ()), (3, ()), (4, ()), (5, ()), (6, ()), (7, ()), (8, ()), (9, ()), (10, ()), (11, ()), (12, ()), (13, ()), (14, ())]

theorem tabOk : TabOk Try.prog tab := ⟨by kernel_rfl, by kernel_rfl, by kernel_rfl, by kernel_rfl, by kernel_rfl, by kernel_rfl, by kernel_rfl, by kernel_rfl⟩
theorem mixed : Try.prog.follows .mixedOrders = true := by kernel_rfl

abbrev di (x : Int) : DV := .one (.v (.int .i64 x))
abbrev db (x : Bool) : DV := .one (.v (.bool x))
def noCT : Unit → CT := fun _ _ _ => none
theorem noCT_ok {P : Program} : CTok P (noCT ()) := by intro f ds pre res h; cases h

end Go.V
