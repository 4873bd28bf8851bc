/-
  My own text: a part of the proof.
  My own text: a part of the proof.
  My own text: a part of the proof.
  My own text: a part of the proof.
  My own text: a part of the proof.
  My own text: a part of the proof.
  My own text: a part of the proof.
-/
import Derived.Test.YtiflikkmjeikdaaGreatProg
import Derived.Test.YtiflikkmjeikdaaGreatC4
import Derived.Test.YtiflikkmjeikdaaGreatC7
import Derived.KernelRfl
import Derived.Test.YtiflikkmjeikdaaGreatC3
import Derived.OrdersIn
import Derived.RangeFuncCalls
import Derived.RangeFuncFrom
import Derived.RangeFuncLeaves
import Derived.TacticsInMore
import Derived.WalkKit
import Derived.RangeFuncNested
import Derived.RangeFuncBound
import Derived.Shelf.Abstract
import Derived.Shelf.RegionOpen
import Derived.OwnWalkIn
import Derived.LoopNIn
import Derived.LoopIn
set_option linter.unusedVariables false
set_option linter.unusedSimpArgs false
set_option maxHeartbeats 0
namespace Go.Cat
open Go Go.Proofs.Tryz
noncomputable def tys : List (Nat × TyI) := [
  (1, { d := .other, size := 1, zero := [.lit .nilFunc], en := none, eq := false }),
  (2, { d := .int .i64, size := 1, zero := [.lit (.int .i64 0)], en := some (.int .i64), eq := false }),
  (3, { d := .int .i64, size := 1, zero := [.lit (.int .i64 0)], en := some (.int .i64), eq := false }),
  (4, { d := .bool, size := 1, zero := [.lit (.bool false)], en := some .bool, eq := false }),
  (5, { d := .int .u8, size := 1, zero := [.lit (.int .u8 0)], en := some (.int .u8), eq := false }),
  (6, { d := .int .u8, size := 1, zero := [.lit (.int .u8 0)], en := some (.int .u8), eq := false }),
  (7, { d := .st [(0, 2), (1, 3), (2, 4), (3, 6)], size := 4, zero := [.lit (.int .i64 0), .lit (.int .i64 0), .lit (.bool false), .lit (.int .u8 0)], en := none, eq := false }),
  (8, { d := .st [(0, 2), (1, 3), (2, 4), (3, 6)], size := 4, zero := [.lit (.int .i64 0), .lit (.int .i64 0), .lit (.bool false), .lit (.int .u8 0)], en := none, eq := false }),
  (9, { d := .str, size := 1, zero := [.lit (.string ByteArray.empty)], en := some .str, eq := false }),
  (10, { d := .str, size := 1, zero := [.lit (.string ByteArray.empty)], en := some .str, eq := false }),
  (11, { d := .str, size := 1, zero := [.lit (.string ByteArray.empty)], en := some .str, eq := false }),
  (12, { d := .int .u64, size := 1, zero := [.lit (.int .u64 0)], en := some (.int .u64), eq := false }),
  (13, { d := .st [(0, 9), (1, 12)], size := 2, zero := [.lit (.string ByteArray.empty), .lit (.int .u64 0)], en := none, eq := false }),
  (23, { d := .st [(0, 3), (1, 3), (2, 3), (3, 3), (4, 3), (5, 3)], size := 6, zero := [.lit (.int .i64 0), .lit (.int .i64 0), .lit (.int .i64 0), .lit (.int .i64 0), .lit (.int .i64 0), .lit (.int .i64 0)], en := some (.st .Config), eq := true }),
  (24, { d := .sl 179, size := 1, zero := [.lit (.slice none 0 0)], en := some (.sl (.st .Sector)), eq := false }),
  (25, { d := .sl 181, size := 1, zero := [.lit (.slice none 0 0)], en := some (.sl (.st .Pend)), eq := false }),
  (27, { d := .st [(0, 24), (1, 25)], size := 2, zero := [.lit (.slice none 0 0), .lit (.slice none 0 0)], en := some (.st .Disk), eq := false }),
  (28, { d := .int .u32, size := 1, zero := [.lit (.int .u32 0)], en := some (.int .u32), eq := false }),
  (29, { d := .int .u64, size := 1, zero := [.lit (.int .u64 0)], en := some (.int .u64), eq := false }),
  (31, { d := .st [(0, 28), (1, 3), (2, 29)], size := 3, zero := [.lit (.int .u32 0), .lit (.int .i64 0), .lit (.int .u64 0)], en := some (.st .Super), eq := true }),
  (32, { d := .sl 62, size := 1, zero := [.lit (.slice none 0 0)], en := some (.sl (.st .Rec)), eq := false }),
  (34, { d := .st [(0, 31), (3, 3), (4, 3), (5, 32)], size := 6, zero := [.lit (.int .u32 0), .lit (.int .i64 0), .lit (.int .u64 0), .lit (.int .i64 0), .lit (.int .i64 0), .lit (.slice none 0 0)], en := some (.st .Meta), eq := false }),
  (35, { d := .sl 84, size := 1, zero := [.lit (.slice none 0 0)], en := some (.sl (.st .Side)), eq := false }),
  (36, { d := .sl 48, size := 1, zero := [.lit (.slice none 0 0)], en := some (.sl (.sl (.int .u8))), eq := false }),
  (38, { d := .st [(0, 36), (1, 3), (2, 3)], size := 3, zero := [.lit (.slice none 0 0), .lit (.int .i64 0), .lit (.int .i64 0)], en := some (.st .Queue), eq := false }),
  (40, { d := .st [(0, 28), (1, 28), (2, 4), (3, 4), (4, 28), (5, 28), (6, 38), (9, 28), (10, 3)], size := 11, zero := [.lit (.int .u32 0), .lit (.int .u32 0), .lit (.bool false), .lit (.bool false), .lit (.int .u32 0), .lit (.int .u32 0), .lit (.slice none 0 0), .lit (.int .i64 0), .lit (.int .i64 0), .lit (.int .u32 0), .lit (.int .i64 0)], en := some (.st .End), eq := false }),
  (41, { d := .sl 68, size := 1, zero := [.lit (.slice none 0 0)], en := some (.sl (.st .Act)), eq := false }),
  (42, { d := .sl 73, size := 1, zero := [.lit (.slice none 0 0)], en := some (.sl (.st .Mail)), eq := false }),
  (43, { d := .sl 101, size := 1, zero := [.lit (.slice none 0 0)], en := some (.sl (.st .Ask)), eq := false }),
  (44, { d := .sl 66, size := 1, zero := [.lit (.slice none 0 0)], en := some (.sl (.st .Reply)), eq := false }),
  (45, { d := .sl 3, size := 1, zero := [.lit (.slice none 0 0)], en := some (.sl (.int .i64)), eq := false }),
  (47, { d := .st [(0, 3), (1, 27), (3, 34), (9, 35), (10, 40), (21, 41), (22, 42), (23, 43), (24, 44), (25, 45), (26, 28), (27, 4)], size := 28, zero := [.lit (.int .i64 0), .lit (.slice none 0 0), .lit (.slice none 0 0), .lit (.int .u32 0), .lit (.int .i64 0), .lit (.int .u64 0), .lit (.int .i64 0), .lit (.int .i64 0), .lit (.slice none 0 0), .lit (.slice none 0 0), .lit (.int .u32 0), .lit (.int .u32 0), .lit (.bool false), .lit (.bool false), .lit (.int .u32 0), .lit (.int .u32 0), .lit (.slice none 0 0), .lit (.int .i64 0), .lit (.int .i64 0), .lit (.int .u32 0), .lit (.int .i64 0), .lit (.slice none 0 0), .lit (.slice none 0 0), .lit (.slice none 0 0), .lit (.slice none 0 0), .lit (.slice none 0 0), .lit (.int .u32 0), .lit (.bool false)], en := some (.st .Site), eq := false }),
  (48, { d := .sl 5, size := 1, zero := [.lit (.slice none 0 0)], en := some (.sl (.int .u8)), eq := false }),
  (51, { d := .int .i64, size := 1, zero := [.lit (.int .i64 0)], en := some (.int .i64), eq := false }),
  (60, { d := .int .u64, size := 1, zero := [.lit (.int .u64 0)], en := some (.int .u64), eq := false }),
  (62, { d := .st [(0, 3), (1, 28), (2, 28), (3, 3), (4, 5), (5, 3), (6, 4), (7, 4)], size := 8, zero := [.lit (.int .i64 0), .lit (.int .u32 0), .lit (.int .u32 0), .lit (.int .i64 0), .lit (.int .u8 0), .lit (.int .i64 0), .lit (.bool false), .lit (.bool false)], en := some (.st .Rec), eq := true }),
  (64, { d := .st [(0, 5), (1, 3), (2, 4), (3, 62), (11, 5), (12, 28), (13, 28), (14, 3), (15, 28), (16, 51), (17, 48), (18, 48)], size := 19, zero := [.lit (.int .u8 0), .lit (.int .i64 0), .lit (.bool false), .lit (.int .i64 0), .lit (.int .u32 0), .lit (.int .u32 0), .lit (.int .i64 0), .lit (.int .u8 0), .lit (.int .i64 0), .lit (.bool false), .lit (.bool false), .lit (.int .u8 0), .lit (.int .u32 0), .lit (.int .u32 0), .lit (.int .i64 0), .lit (.int .u32 0), .lit (.int .i64 0), .lit (.slice none 0 0), .lit (.slice none 0 0)], en := some (.st .Msg), eq := false }),
  (66, { d := .st [(0, 3), (1, 51), (2, 5), (3, 48)], size := 4, zero := [.lit (.int .i64 0), .lit (.int .i64 0), .lit (.int .u8 0), .lit (.slice none 0 0)], en := some (.st .Reply), eq := false }),
  (68, { d := .st [(0, 5), (1, 3), (2, 48), (3, 28), (4, 28), (5, 64), (24, 66), (28, 3)], size := 29, zero := [.lit (.int .u8 0), .lit (.int .i64 0), .lit (.slice none 0 0), .lit (.int .u32 0), .lit (.int .u32 0), .lit (.int .u8 0), .lit (.int .i64 0), .lit (.bool false), .lit (.int .i64 0), .lit (.int .u32 0), .lit (.int .u32 0), .lit (.int .i64 0), .lit (.int .u8 0), .lit (.int .i64 0), .lit (.bool false), .lit (.bool false), .lit (.int .u8 0), .lit (.int .u32 0), .lit (.int .u32 0), .lit (.int .i64 0), .lit (.int .u32 0), .lit (.int .i64 0), .lit (.slice none 0 0), .lit (.slice none 0 0), .lit (.int .i64 0), .lit (.int .i64 0), .lit (.int .u8 0), .lit (.slice none 0 0), .lit (.int .i64 0)], en := some (.st .Act), eq := false }),
  (73, { d := .st [(0, 5), (1, 28), (2, 28), (3, 64)], size := 22, zero := [.lit (.int .u8 0), .lit (.int .u32 0), .lit (.int .u32 0), .lit (.int .u8 0), .lit (.int .i64 0), .lit (.bool false), .lit (.int .i64 0), .lit (.int .u32 0), .lit (.int .u32 0), .lit (.int .i64 0), .lit (.int .u8 0), .lit (.int .i64 0), .lit (.bool false), .lit (.bool false), .lit (.int .u8 0), .lit (.int .u32 0), .lit (.int .u32 0), .lit (.int .i64 0), .lit (.int .u32 0), .lit (.int .i64 0), .lit (.slice none 0 0), .lit (.slice none 0 0)], en := some (.st .Mail), eq := false }),
  (81, { d := .sl 151, size := 1, zero := [.lit (.slice none 0 0)], en := some (.sl (.st .Sent)), eq := false }),
  (82, { d := .sl 154, size := 1, zero := [.lit (.slice none 0 0)], en := some (.sl (.st .Wait)), eq := false }),
  (84, { d := .st [(0, 48), (1, 48), (2, 81), (3, 28), (4, 82), (5, 48), (6, 3), (7, 3), (8, 5), (9, 3), (10, 4), (11, 4), (12, 4), (13, 4)], size := 14, zero := [.lit (.slice none 0 0), .lit (.slice none 0 0), .lit (.slice none 0 0), .lit (.int .u32 0), .lit (.slice none 0 0), .lit (.slice none 0 0), .lit (.int .i64 0), .lit (.int .i64 0), .lit (.int .u8 0), .lit (.int .i64 0), .lit (.bool false), .lit (.bool false), .lit (.bool false), .lit (.bool false)], en := some (.st .Side), eq := false }),
  (97, { d := .other, size := 1, zero := [.lit .nilFunc], en := none, eq := false }),
  (101, { d := .st [(0, 3), (1, 5), (2, 3), (3, 3), (4, 5), (5, 48)], size := 6, zero := [.lit (.int .i64 0), .lit (.int .u8 0), .lit (.int .i64 0), .lit (.int .i64 0), .lit (.int .u8 0), .lit (.slice none 0 0)], en := some (.st .Ask), eq := false }),
  (112, { d := .arr 2 5, size := 2, zero := [.lit (.int .u8 0), .lit (.int .u8 0)], en := none, eq := false }),
  (126, { d := .other, size := 1, zero := [.lit .nilFunc], en := none, eq := false }),
  (130, { d := .st [(0, 23)], size := 6, zero := [.lit (.int .i64 0), .lit (.int .i64 0), .lit (.int .i64 0), .lit (.int .i64 0), .lit (.int .i64 0), .lit (.int .i64 0)], en := some (.st .Config), eq := true }),
  (135, { d := .other, size := 1, zero := [.lit .nilFunc], en := none, eq := false }),
  (136, { d := .other, size := 1, zero := [.lit .nilFunc], en := none, eq := false }),
  (138, { d := .other, size := 1, zero := [.lit .nilFunc], en := none, eq := false }),
  (141, { d := .other, size := 1, zero := [.lit .nilFunc], en := none, eq := false }),
  (143, { d := .other, size := 1, zero := [.lit .nilFunc], en := none, eq := false }),
  (145, { d := .other, size := 1, zero := [.lit .nilFunc], en := none, eq := false }),
  (151, { d := .st [(0, 3), (1, 28), (2, 4)], size := 3, zero := [.lit (.int .i64 0), .lit (.int .u32 0), .lit (.bool false)], en := some (.st .Sent), eq := true }),
  (154, { d := .st [(0, 3), (1, 3), (2, 28), (3, 4)], size := 4, zero := [.lit (.int .i64 0), .lit (.int .i64 0), .lit (.int .u32 0), .lit (.bool false)], en := some (.st .Wait), eq := true }),
  (156, { d := .other, size := 1, zero := [.lit .nilFunc], en := none, eq := false }),
  (157, { d := .other, size := 1, zero := [.lit .nilFunc], en := none, eq := false }),
  (159, { d := .other, size := 1, zero := [.lit .nilFunc], en := none, eq := false }),
  (161, { d := .other, size := 1, zero := [.lit .nilFunc], en := none, eq := false }),
  (179, { d := .st [(0, 48), (1, 4)], size := 2, zero := [.lit (.slice none 0 0), .lit (.bool false)], en := some (.st .Sector), eq := false }),
  (181, { d := .st [(0, 3), (1, 48)], size := 2, zero := [.lit (.int .i64 0), .lit (.slice none 0 0)], en := some (.st .Pend), eq := false }),
  (183, { d := .arr 2 51, size := 2, zero := [.lit (.int .i64 0), .lit (.int .i64 0)], en := none, eq := false }),
  (184, { d := .sc, size := 1, zero := [.lit (.pointer none)], en := none, eq := false }),
  (189, { d := .st [(0, 47), (28, 23)], size := 34, zero := [.lit (.int .i64 0), .lit (.slice none 0 0), .lit (.slice none 0 0), .lit (.int .u32 0), .lit (.int .i64 0), .lit (.int .u64 0), .lit (.int .i64 0), .lit (.int .i64 0), .lit (.slice none 0 0), .lit (.slice none 0 0), .lit (.int .u32 0), .lit (.int .u32 0), .lit (.bool false), .lit (.bool false), .lit (.int .u32 0), .lit (.int .u32 0), .lit (.slice none 0 0), .lit (.int .i64 0), .lit (.int .i64 0), .lit (.int .u32 0), .lit (.int .i64 0), .lit (.slice none 0 0), .lit (.slice none 0 0), .lit (.slice none 0 0), .lit (.slice none 0 0), .lit (.slice none 0 0), .lit (.int .u32 0), .lit (.bool false), .lit (.int .i64 0), .lit (.int .i64 0), .lit (.int .i64 0), .lit (.int .i64 0), .lit (.int .i64 0), .lit (.int .i64 0)], en := none, eq := false }),
  (203, { d := .st [(0, 5), (1, 3), (2, 3), (3, 3)], size := 4, zero := [.lit (.int .u8 0), .lit (.int .i64 0), .lit (.int .i64 0), .lit (.int .i64 0)], en := some (.st .Part), eq := true }),
  (204, { d := .arr 4 203, size := 16, zero := [.lit (.int .u8 0), .lit (.int .i64 0), .lit (.int .i64 0), .lit (.int .i64 0), .lit (.int .u8 0), .lit (.int .i64 0), .lit (.int .i64 0), .lit (.int .i64 0), .lit (.int .u8 0), .lit (.int .i64 0), .lit (.int .i64 0), .lit (.int .i64 0), .lit (.int .u8 0), .lit (.int .i64 0), .lit (.int .i64 0), .lit (.int .i64 0)], en := none, eq := false }),
  (215, { d := .st [(0, 36), (1, 3), (2, 3)], size := 3, zero := [.lit (.slice none 0 0), .lit (.int .i64 0), .lit (.int .i64 0)], en := some (.st .Round), eq := false }),
  (220, { d := .arr 3 3, size := 3, zero := [.lit (.int .i64 0), .lit (.int .i64 0), .lit (.int .i64 0)], en := some (.st .Bound), eq := false }),
  (225, { d := .arr 3 48, size := 3, zero := [.lit (.slice none 0 0), .lit (.slice none 0 0), .lit (.slice none 0 0)], en := none, eq := false }),
  (228, { d := .other, size := 1, zero := [.lit .nilFunc], en := none, eq := false }),
  (230, { d := .other, size := 1, zero := [.lit .nilFunc], en := none, eq := false }),
  (272, { d := .other, size := 1, zero := [.lit .nilFunc], en := none, eq := false }),
  (275, { d := .sl 220, size := 1, zero := [.lit (.slice none 0 0)], en := some (.sl (.st .Bound)), eq := false }),
  (288, { d := .st [(0, 5), (1, 5), (2, 3), (3, 3), (4, 4), (5, 62), (13, 28), (14, 28), (15, 28), (16, 51)], size := 17, zero := [.lit (.int .u8 0), .lit (.int .u8 0), .lit (.int .i64 0), .lit (.int .i64 0), .lit (.bool false), .lit (.int .i64 0), .lit (.int .u32 0), .lit (.int .u32 0), .lit (.int .i64 0), .lit (.int .u8 0), .lit (.int .i64 0), .lit (.bool false), .lit (.bool false), .lit (.int .u32 0), .lit (.int .u32 0), .lit (.int .u32 0), .lit (.int .i64 0)], en := some (.st .Plain), eq := true }),
  (295, { d := .int .u32, size := 1, zero := [.lit (.int .u32 0)], en := some (.int .u32), eq := false }),
  (299, { d := .sl 29, size := 1, zero := [.lit (.slice none 0 0)], en := some (.sl (.int .u64)), eq := false })]
noncomputable def hnts : List ((Nat × Nat) × Hint) := [((4, 7), .head [(2, .dat (.int .i64)), (5, .dat (.int .u8)), (6, .dat (.int .u32)), (7, .same), (8, .same), (15, .dat .bool), (16, .own 5 (.int .u8)), (17, .dat .bool), (18, .dat (.int .i64))]),
  ((8, 4), .head [(1, .same), (3, .dat (.int .i64))]),
  ((8, 10), .head [(1, .same), (5, .dat (.int .i64))]),
  ((8, 15), .head [(1, .same), (6, .dat (.int .i64))]),
  ((8, 20), .head [(1, .same), (7, .dat (.int .i64))]),
  ((9, 8), .head [(1, .same), (2, .same), (3, .cls [.dat (.int .i64), .dat (.sl (.st .Sector)), .dat (.sl (.st .Pend)), .dat (.int .u32), .dat (.int .i64), .dat (.int .u64), .dat (.int .i64), .dat (.int .i64), .dat (.sl (.st .Rec)), .own 84 (.st .Side), .dat (.int .u32), .dat (.int .u32), .dat (.bool), .dat (.bool), .dat (.int .u32), .dat (.int .u32), .dat (.sl (.sl (.int .u8))), .dat (.int .i64), .dat (.int .i64), .dat (.int .u32), .dat (.int .i64), .own 68 (.st .Act), .own 73 (.st .Mail), .own 101 (.st .Ask), .own 66 (.st .Reply), .dat (.sl (.int .i64)), .dat (.int .u32), .dat (.bool)]), (4, .dat (.int .i64))]),
  ((9, 12), .head [(1, .same), (2, .same), (3, .cls [.dat (.int .i64), .dat (.sl (.st .Sector)), .dat (.sl (.st .Pend)), .dat (.int .u32), .dat (.int .i64), .dat (.int .u64), .dat (.int .i64), .dat (.int .i64), .dat (.sl (.st .Rec)), .own 84 (.st .Side), .dat (.int .u32), .dat (.int .u32), .dat (.bool), .dat (.bool), .dat (.int .u32), .dat (.int .u32), .dat (.sl (.sl (.int .u8))), .dat (.int .i64), .dat (.int .i64), .dat (.int .u32), .dat (.int .i64), .own 68 (.st .Act), .own 73 (.st .Mail), .own 101 (.st .Ask), .own 66 (.st .Reply), .dat (.sl (.int .i64)), .dat (.int .u32), .dat (.bool)]), (5, .dat (.int .i64))]),
  ((9, 20), .head [(1, .same), (2, .same), (3, .cls [.dat (.int .i64), .dat (.sl (.st .Sector)), .dat (.sl (.st .Pend)), .dat (.int .u32), .dat (.int .i64), .dat (.int .u64), .dat (.int .i64), .dat (.int .i64), .dat (.sl (.st .Rec)), .own 84 (.st .Side), .dat (.int .u32), .dat (.int .u32), .dat (.bool), .dat (.bool), .dat (.int .u32), .dat (.int .u32), .dat (.sl (.sl (.int .u8))), .dat (.int .i64), .dat (.int .i64), .dat (.int .u32), .dat (.int .i64), .own 68 (.st .Act), .own 73 (.st .Mail), .own 101 (.st .Ask), .own 66 (.st .Reply), .dat (.sl (.int .i64)), .dat (.int .u32), .dat (.bool)]), (7, .dat (.int .i64))]),
  ((9, 26), .head [(1, .same), (2, .same), (3, .cls [.dat (.int .i64), .dat (.sl (.st .Sector)), .dat (.sl (.st .Pend)), .dat (.int .u32), .dat (.int .i64), .dat (.int .u64), .dat (.int .i64), .dat (.int .i64), .dat (.sl (.st .Rec)), .own 84 (.st .Side), .dat (.int .u32), .dat (.int .u32), .dat (.bool), .dat (.bool), .dat (.int .u32), .dat (.int .u32), .dat (.sl (.sl (.int .u8))), .dat (.int .i64), .dat (.int .i64), .dat (.int .u32), .dat (.int .i64), .own 68 (.st .Act), .own 73 (.st .Mail), .own 101 (.st .Ask), .own 66 (.st .Reply), .dat (.sl (.int .i64)), .dat (.int .u32), .dat (.bool)]), (9, .dat (.int .i64))]),
  ((9, 32), .head [(1, .same), (2, .same), (3, .cls [.dat (.int .i64), .dat (.sl (.st .Sector)), .dat (.sl (.st .Pend)), .dat (.int .u32), .dat (.int .i64), .dat (.int .u64), .dat (.int .i64), .dat (.int .i64), .dat (.sl (.st .Rec)), .own 84 (.st .Side), .dat (.int .u32), .dat (.int .u32), .dat (.bool), .dat (.bool), .dat (.int .u32), .dat (.int .u32), .dat (.sl (.sl (.int .u8))), .dat (.int .i64), .dat (.int .i64), .dat (.int .u32), .dat (.int .i64), .own 68 (.st .Act), .own 73 (.st .Mail), .own 101 (.st .Ask), .own 66 (.st .Reply), .dat (.sl (.int .i64)), .dat (.int .u32), .dat (.bool)]), (11, .dat (.int .i64))]),
  ((12, 4), .head [(2, .same), (3, .same), (5, .dat (.int .i64))]),
  ((12, 9), .head [(2, .same), (3, .same), (6, .dat (.int .i64))]),
  ((26, 4), .head [(2, .same), (3, .same), (5, .dat (.int .i64))]),
  ((26, 9), .head [(2, .same), (3, .same), (6, .dat (.int .i64))]),
  ((29, 2), .head [(1, .dat (.int .i64)), (2, .same), (5, .dat (.int .i64))]),
  ((29, 7), .head [(1, .dat (.int .i64)), (2, .same), (6, .dat (.int .i64))]),
  ((30, 2), .head [(1, .same), (3, .dat (.int .i64))]),
  ((30, 7), .head [(1, .same), (4, .dat (.int .i64))]),
  ((31, 3), .head [(1, .same), (2, .same), (3, .cls [.own 179 (.st .Sector), .own 181 (.st .Pend)]), (4, .dat (.int .i64))]),
  ((31, 7), .head [(1, .same), (2, .same), (3, .cls [.own 179 (.st .Sector), .own 181 (.st .Pend)]), (5, .dat (.int .i64))]),
  ((37, 12), .unroll 3),
  ((40, 4), .head [(2, .same), (3, .same), (5, .dat (.int .i64))]),
  ((40, 9), .head [(2, .same), (3, .same), (6, .dat (.int .i64))]),
  ((42, 4), .head [(2, .same), (3, .same), (5, .dat (.int .i64))]),
  ((42, 9), .head [(2, .same), (3, .same), (6, .dat (.int .i64))]),
  ((45, 4), .head [(0, .dat (.sl (.st .Act))), (1, .dat (.sl (.st .Act))), (5, .dat (.int .i64))]),
  ((46, 4), .head [(2, .same), (3, .same), (5, .dat (.int .i64))]),
  ((46, 10), .head [(2, .same), (3, .same), (8, .dat (.int .i64))]),
  ((47, 4), .head [(0, .dat (.sl (.st .Reply))), (1, .dat (.sl (.st .Reply))), (5, .dat (.int .i64))]),
  ((50, 5), .unroll 5),
  ((65, 2), .unroll 4),
  ((75, 2), .head [(1, .same), (2, .cls [.own 179 (.st .Sector), .own 181 (.st .Pend)]), (8, .dat (.sl (.st .Sector))), (9, .dat (.int .i64)), (10, .dat (.int .i64))]),
  ((75, 8), .head [(2, .cls [.own 179 (.st .Sector), .own 181 (.st .Pend)]), (26, .dat (.sl (.st .Pend))), (27, .dat (.int .i64)), (28, .dat (.int .i64))]),
  ((79, 2), .head [(1, .same), (4, .own 84 (.st .Side)), (7, .dat (.sl (.st .Side))), (8, .dat (.int .i64)), (9, .dat (.int .i64))]),
  ((84, 2), .head [(1, .same), (4, .own 68 (.st .Act)), (7, .dat (.sl (.st .Act))), (8, .dat (.int .i64)), (9, .dat (.int .i64))]),
  ((88, 2), .head [(1, .same), (4, .own 73 (.st .Mail)), (7, .dat (.sl (.st .Mail))), (8, .dat (.int .i64)), (9, .dat (.int .i64))]),
  ((90, 2), .head [(1, .same), (4, .own 101 (.st .Ask)), (7, .dat (.sl (.st .Ask))), (8, .dat (.int .i64)), (9, .dat (.int .i64))]),
  ((92, 2), .head [(1, .same), (4, .own 66 (.st .Reply)), (7, .dat (.sl (.st .Reply))), (8, .dat (.int .i64)), (9, .dat (.int .i64))]),
  ((118, 5), .head [(2, .same), (3, .same), (5, .dat (.sl (.sl (.int .u8)))), (7, .dat (.int .i64))]),
  ((120, 4), .head [(2, .same), (3, .same), (5, .dat (.int .i64))]),
  ((120, 9), .head [(2, .same), (3, .same), (6, .dat (.int .i64))]),
  ((121, 2), .head [(2, .same), (3, .same), (5, .dat (.int .i64))]),
  ((121, 7), .head [(2, .same), (3, .same), (6, .dat (.int .i64))]),
  ((121, 12), .head [(3, .same), (7, .dat (.int .i64))]),
  ((125, 4), .head [(0, .dat (.sl (.st .Rec))), (1, .dat (.sl (.st .Rec))), (5, .dat (.int .i64))]),
  ((139, 6), .head [(1, .same), (3, .dat (.int .i64)), (4, .same), (5, .dat (.int .i64))]),
  ((140, 3), .head [(2, .same), (3, .cls [.own 48 (.sl (.int .u8)), .dat (.int .i64), .dat (.int .i64)]), (16, .dat (.sl (.sl (.int .u8)))), (17, .dat (.int .i64)), (18, .dat (.int .i64))]),
  ((144, 2), .head [(5, .dat (.sl (.st .Bound))), (6, .dat (.int .i64)), (7, .dat (.int .i64))]),
  ((145, 4), .head [(1, .same), (24, .dat (.sl (.st .Sector))), (25, .dat (.int .i64)), (26, .dat (.int .i64))]),
  ((145, 10), .head [(1, .same), (48, .dat (.sl (.st .Pend))), (49, .dat (.int .i64)), (50, .dat (.int .i64))]),
  ((146, 5), .head [(2, .own 48 (.sl (.int .u8))), (14, .dat (.sl (.st .Rec))), (15, .dat (.int .i64)), (16, .dat (.int .i64))]),
  ((147, 2), .head [(0, .dat (.sl (.st .Rec))), (1, .same), (7, .dat (.int .i64)), (8, .dat (.int .i64))]),
  ((148, 2), .head [(0, .dat (.sl (.st .Side))), (1, .same), (7, .dat (.int .i64)), (8, .dat (.int .i64))]),
  ((149, 7), .head [(5, .dat (.sl (.int .u8))), (22, .dat (.sl (.int .u8))), (23, .dat (.int .i64)), (24, .dat (.int .i64))]),
  ((155, 2), .head [(0, .dat (.sl (.st .Act))), (1, .same), (7, .dat (.int .i64)), (8, .dat (.int .i64))]),
  ((157, 2), .head [(0, .dat (.sl (.st .Mail))), (1, .same), (7, .dat (.int .i64)), (8, .dat (.int .i64))]),
  ((158, 2), .head [(0, .dat (.sl (.st .Ask))), (1, .same), (7, .dat (.int .i64)), (8, .dat (.int .i64))]),
  ((183, 3), .head [(0, .dat (.sl (.sl (.int .u8)))), (3, .own 48 (.sl (.int .u8))), (4, .dat (.int .i64))]),
  ((186, 5), .head [(1, .same), (3, .dat (.int .i64)), (4, .dat (.int .i64))]),
  ((186, 10), .head [(1, .same), (3, .dat (.int .i64)), (5, .dat (.int .i64))]),
  ((187, 2), .head [(0, .dat (.sl (.st .Rec))), (3, .dat (.int .i64))]),
  ((188, 5), .head [(1, .same), (3, .dat (.int .i64)), (4, .dat (.int .i64))]),
  ((189, 5), .head [(1, .same), (4, .own 48 (.sl (.int .u8))), (5, .dat (.int .i64))]),
  ((190, 4), .head [(1, .dat (.sl (.int .u8))), (5, .dat (.int .i64))]),
  ((196, 4), .head [(0, .dat (.sl (.sl (.int .u8)))), (1, .dat (.sl (.sl (.int .u8)))), (5, .dat (.int .i64))]),
  ((197, 4), .head [(5, .same), (6, .dat (.int .u32)), (11, .dat (.sl (.int .u8))), (12, .dat (.int .i64)), (13, .dat (.int .i64))]),
  ((200, 8), .head [(7, .own 5 (.int .u8)), (8, .dat (.int .i64))]),
  ((205, 2), .head [(0, .dat (.sl (.sl (.int .u8)))), (1, .same), (7, .dat (.int .i64)), (8, .dat (.int .i64))]),
  ((207, 2), .head [(0, .dat (.sl (.st .Rec))), (5, .dat (.sl (.st .Rec))), (6, .dat (.int .i64)), (7, .dat (.int .i64))]),
  ((209, 2), .head [(0, .dat (.sl (.st .Sent))), (1, .same), (7, .dat (.int .i64)), (8, .dat (.int .i64))]),
  ((210, 2), .head [(0, .dat (.sl (.st .Wait))), (1, .same), (7, .dat (.int .i64)), (8, .dat (.int .i64))]),
  ((217, 2), .head [(0, .dat (.sl (.int .i64))), (1, .same), (7, .dat (.int .i64)), (8, .dat (.int .i64))]),
  ((221, 2), .head [(0, .dat (.sl (.int .u8))), (3, .dat (.int .i64))]),
  ((227, 3), .head [(0, .dat (.int .u32)), (10, .dat (.int .i64))]),
  ((230, 7), .head [(0, .dat (.sl (.int .u64))), (1, .dat (.sl (.int .i64))), (8, .own 5 (.int .u8)), (9, .dat (.int .i64)), (28, .dat (.int .i64)), (29, .dat (.int .i64))]),
  ((240, 3), .head [(0, .dat (.int .i64)), (3, .dat (.int .i64)), (4, .dat (.int .i64))]),
  ((243, 2), .head [(0, .dat (.int .u32)), (1, .dat (.sl (.int .u8))), (5, .dat (.int .i64))]),
  ((246, 4), .head [(2, .dat (.int .i64)), (9, .dat (.sl (.int .i64))), (10, .dat (.int .i64)), (11, .dat (.int .i64))]),
  ((247, 2), .head [(0, .wrow 5 (.int .u8)), (1, .dat (.int .u64)), (7, .dat (.int .i64)), (8, .dat (.int .i64))]),
  ((252, 3), .head [(0, .dat (.int .u32)), (5, .dat (.int .i64))])]
theorem tys_ok : tysOkB Go.Proofs.Tryz.prog tys = true := by kernel_rfl
theorem mixed_ok : Go.Proofs.Tryz.prog.follows .mixedOrders = true := by kernel_rfl
theorem nm_3 : (f3.name == "runtime.NumGoroutine") = false := by kernel_rfl
theorem nm_8 : (f8.name == "runtime.NumGoroutine") = false := by kernel_rfl
theorem nm_9 : (f9.name == "runtime.NumGoroutine") = false := by kernel_rfl
theorem nm_10 : (f10.name == "runtime.NumGoroutine") = false := by kernel_rfl
theorem nm_11 : (f11.name == "runtime.NumGoroutine") = false := by kernel_rfl
theorem nm_12 : (f12.name == "runtime.NumGoroutine") = false := by kernel_rfl
theorem nm_20 : (f20.name == "runtime.NumGoroutine") = false := by kernel_rfl
theorem nm_22 : (f22.name == "runtime.NumGoroutine") = false := by kernel_rfl
theorem nm_26 : (f26.name == "runtime.NumGoroutine") = false := by kernel_rfl
theorem nm_29 : (f29.name == "runtime.NumGoroutine") = false := by kernel_rfl
theorem nm_30 : (f30.name == "runtime.NumGoroutine") = false := by kernel_rfl
theorem nm_31 : (f31.name == "runtime.NumGoroutine") = false := by kernel_rfl
theorem nm_32 : (f32.name == "runtime.NumGoroutine") = false := by kernel_rfl
theorem nm_33 : (f33.name == "runtime.NumGoroutine") = false := by kernel_rfl
theorem nm_34 : (f34.name == "runtime.NumGoroutine") = false := by kernel_rfl
theorem nm_35 : (f35.name == "runtime.NumGoroutine") = false := by kernel_rfl
theorem nm_36 : (f36.name == "runtime.NumGoroutine") = false := by kernel_rfl
theorem nm_37 : (f37.name == "runtime.NumGoroutine") = false := by kernel_rfl
theorem nm_38 : (f38.name == "runtime.NumGoroutine") = false := by kernel_rfl
theorem nm_39 : (f39.name == "runtime.NumGoroutine") = false := by kernel_rfl
theorem nm_40 : (f40.name == "runtime.NumGoroutine") = false := by kernel_rfl
theorem nm_41 : (f41.name == "runtime.NumGoroutine") = false := by kernel_rfl
theorem nm_42 : (f42.name == "runtime.NumGoroutine") = false := by kernel_rfl
theorem nm_43 : (f43.name == "runtime.NumGoroutine") = false := by kernel_rfl
theorem nm_44 : (f44.name == "runtime.NumGoroutine") = false := by kernel_rfl
theorem nm_45 : (f45.name == "runtime.NumGoroutine") = false := by kernel_rfl
theorem nm_46 : (f46.name == "runtime.NumGoroutine") = false := by kernel_rfl
theorem nm_47 : (f47.name == "runtime.NumGoroutine") = false := by kernel_rfl
theorem nm_48 : (f48.name == "runtime.NumGoroutine") = false := by kernel_rfl
theorem nm_49 : (f49.name == "runtime.NumGoroutine") = false := by kernel_rfl
theorem nm_50 : (f50.name == "runtime.NumGoroutine") = false := by kernel_rfl
theorem nm_54 : (f54.name == "runtime.NumGoroutine") = false := by kernel_rfl
theorem nm_55 : (f55.name == "runtime.NumGoroutine") = false := by kernel_rfl
theorem nm_57 : (f57.name == "runtime.NumGoroutine") = false := by kernel_rfl
theorem nm_58 : (f58.name == "runtime.NumGoroutine") = false := by kernel_rfl
theorem nm_59 : (f59.name == "runtime.NumGoroutine") = false := by kernel_rfl
theorem nm_60 : (f60.name == "runtime.NumGoroutine") = false := by kernel_rfl
theorem nm_61 : (f61.name == "runtime.NumGoroutine") = false := by kernel_rfl
theorem nm_62 : (f62.name == "runtime.NumGoroutine") = false := by kernel_rfl
theorem nm_63 : (f63.name == "runtime.NumGoroutine") = false := by kernel_rfl
theorem nm_64 : (f64.name == "runtime.NumGoroutine") = false := by kernel_rfl
theorem nm_65 : (f65.name == "runtime.NumGoroutine") = false := by kernel_rfl
theorem nm_66 : (f66.name == "runtime.NumGoroutine") = false := by kernel_rfl
theorem nm_67 : (f67.name == "runtime.NumGoroutine") = false := by kernel_rfl
theorem nm_68 : (f68.name == "runtime.NumGoroutine") = false := by kernel_rfl
theorem nm_69 : (f69.name == "runtime.NumGoroutine") = false := by kernel_rfl
theorem nm_70 : (f70.name == "runtime.NumGoroutine") = false := by kernel_rfl
theorem nm_71 : (f71.name == "runtime.NumGoroutine") = false := by kernel_rfl
theorem nm_72 : (f72.name == "runtime.NumGoroutine") = false := by kernel_rfl
theorem nm_73 : (f73.name == "runtime.NumGoroutine") = false := by kernel_rfl
theorem nm_75 : (f75.name == "runtime.NumGoroutine") = false := by kernel_rfl
theorem nm_76 : (f76.name == "runtime.NumGoroutine") = false := by kernel_rfl
theorem nm_77 : (f77.name == "runtime.NumGoroutine") = false := by kernel_rfl
theorem nm_78 : (f78.name == "runtime.NumGoroutine") = false := by kernel_rfl
theorem nm_79 : (f79.name == "runtime.NumGoroutine") = false := by kernel_rfl
theorem nm_80 : (f80.name == "runtime.NumGoroutine") = false := by kernel_rfl
theorem nm_81 : (f81.name == "runtime.NumGoroutine") = false := by kernel_rfl
theorem nm_82 : (f82.name == "runtime.NumGoroutine") = false := by kernel_rfl
theorem nm_83 : (f83.name == "runtime.NumGoroutine") = false := by kernel_rfl
theorem nm_84 : (f84.name == "runtime.NumGoroutine") = false := by kernel_rfl
theorem nm_85 : (f85.name == "runtime.NumGoroutine") = false := by kernel_rfl
theorem nm_86 : (f86.name == "runtime.NumGoroutine") = false := by kernel_rfl
theorem nm_87 : (f87.name == "runtime.NumGoroutine") = false := by kernel_rfl
theorem nm_88 : (f88.name == "runtime.NumGoroutine") = false := by kernel_rfl
theorem nm_89 : (f89.name == "runtime.NumGoroutine") = false := by kernel_rfl
theorem nm_90 : (f90.name == "runtime.NumGoroutine") = false := by kernel_rfl
theorem nm_91 : (f91.name == "runtime.NumGoroutine") = false := by kernel_rfl
theorem nm_92 : (f92.name == "runtime.NumGoroutine") = false := by kernel_rfl
theorem nm_95 : (f95.name == "runtime.NumGoroutine") = false := by kernel_rfl
theorem nm_111 : (f111.name == "runtime.NumGoroutine") = false := by kernel_rfl
theorem nm_112 : (f112.name == "runtime.NumGoroutine") = false := by kernel_rfl
theorem nm_113 : (f113.name == "runtime.NumGoroutine") = false := by kernel_rfl
theorem nm_114 : (f114.name == "runtime.NumGoroutine") = false := by kernel_rfl
theorem nm_115 : (f115.name == "runtime.NumGoroutine") = false := by kernel_rfl
theorem nm_116 : (f116.name == "runtime.NumGoroutine") = false := by kernel_rfl
theorem nm_117 : (f117.name == "runtime.NumGoroutine") = false := by kernel_rfl
theorem nm_118 : (f118.name == "runtime.NumGoroutine") = false := by kernel_rfl
theorem nm_119 : (f119.name == "runtime.NumGoroutine") = false := by kernel_rfl
theorem nm_120 : (f120.name == "runtime.NumGoroutine") = false := by kernel_rfl
theorem nm_121 : (f121.name == "runtime.NumGoroutine") = false := by kernel_rfl
theorem nm_122 : (f122.name == "runtime.NumGoroutine") = false := by kernel_rfl
theorem nm_123 : (f123.name == "runtime.NumGoroutine") = false := by kernel_rfl
theorem nm_124 : (f124.name == "runtime.NumGoroutine") = false := by kernel_rfl
theorem nm_125 : (f125.name == "runtime.NumGoroutine") = false := by kernel_rfl
theorem nm_126 : (f126.name == "runtime.NumGoroutine") = false := by kernel_rfl
theorem nm_127 : (f127.name == "runtime.NumGoroutine") = false := by kernel_rfl
theorem nm_128 : (f128.name == "runtime.NumGoroutine") = false := by kernel_rfl
theorem nm_129 : (f129.name == "runtime.NumGoroutine") = false := by kernel_rfl
theorem nm_130 : (f130.name == "runtime.NumGoroutine") = false := by kernel_rfl
theorem nm_131 : (f131.name == "runtime.NumGoroutine") = false := by kernel_rfl
theorem nm_136 : (f136.name == "runtime.NumGoroutine") = false := by kernel_rfl
theorem nm_137 : (f137.name == "runtime.NumGoroutine") = false := by kernel_rfl
theorem nm_138 : (f138.name == "runtime.NumGoroutine") = false := by kernel_rfl
theorem nm_139 : (f139.name == "runtime.NumGoroutine") = false := by kernel_rfl
theorem nm_140 : (f140.name == "runtime.NumGoroutine") = false := by kernel_rfl
theorem nm_141 : (f141.name == "runtime.NumGoroutine") = false := by kernel_rfl
theorem nm_142 : (f142.name == "runtime.NumGoroutine") = false := by kernel_rfl
theorem nm_143 : (f143.name == "runtime.NumGoroutine") = false := by kernel_rfl
theorem nm_144 : (f144.name == "runtime.NumGoroutine") = false := by kernel_rfl
theorem nm_145 : (f145.name == "runtime.NumGoroutine") = false := by kernel_rfl
theorem nm_146 : (f146.name == "runtime.NumGoroutine") = false := by kernel_rfl
theorem nm_147 : (f147.name == "runtime.NumGoroutine") = false := by kernel_rfl
theorem nm_148 : (f148.name == "runtime.NumGoroutine") = false := by kernel_rfl
theorem nm_149 : (f149.name == "runtime.NumGoroutine") = false := by kernel_rfl
theorem nm_150 : (f150.name == "runtime.NumGoroutine") = false := by kernel_rfl
theorem nm_151 : (f151.name == "runtime.NumGoroutine") = false := by kernel_rfl
theorem nm_152 : (f152.name == "runtime.NumGoroutine") = false := by kernel_rfl
theorem nm_153 : (f153.name == "runtime.NumGoroutine") = false := by kernel_rfl
theorem nm_154 : (f154.name == "runtime.NumGoroutine") = false := by kernel_rfl
theorem nm_155 : (f155.name == "runtime.NumGoroutine") = false := by kernel_rfl
theorem nm_156 : (f156.name == "runtime.NumGoroutine") = false := by kernel_rfl
theorem nm_157 : (f157.name == "runtime.NumGoroutine") = false := by kernel_rfl
theorem nm_158 : (f158.name == "runtime.NumGoroutine") = false := by kernel_rfl
theorem nm_162 : (f162.name == "runtime.NumGoroutine") = false := by kernel_rfl
theorem nm_163 : (f163.name == "runtime.NumGoroutine") = false := by kernel_rfl
theorem nm_166 : (f166.name == "runtime.NumGoroutine") = false := by kernel_rfl
theorem nm_167 : (f167.name == "runtime.NumGoroutine") = false := by kernel_rfl
theorem nm_170 : (f170.name == "runtime.NumGoroutine") = false := by kernel_rfl
theorem nm_179 : (f179.name == "runtime.NumGoroutine") = false := by kernel_rfl
theorem nm_183 : (f183.name == "runtime.NumGoroutine") = false := by kernel_rfl
theorem nm_184 : (f184.name == "runtime.NumGoroutine") = false := by kernel_rfl
theorem nm_185 : (f185.name == "runtime.NumGoroutine") = false := by kernel_rfl
theorem nm_186 : (f186.name == "runtime.NumGoroutine") = false := by kernel_rfl
theorem nm_187 : (f187.name == "runtime.NumGoroutine") = false := by kernel_rfl
theorem nm_188 : (f188.name == "runtime.NumGoroutine") = false := by kernel_rfl
theorem nm_189 : (f189.name == "runtime.NumGoroutine") = false := by kernel_rfl
theorem nm_190 : (f190.name == "runtime.NumGoroutine") = false := by kernel_rfl
theorem nm_191 : (f191.name == "runtime.NumGoroutine") = false := by kernel_rfl
theorem nm_192 : (f192.name == "runtime.NumGoroutine") = false := by kernel_rfl
theorem nm_193 : (f193.name == "runtime.NumGoroutine") = false := by kernel_rfl
theorem nm_194 : (f194.name == "runtime.NumGoroutine") = false := by kernel_rfl
theorem nm_195 : (f195.name == "runtime.NumGoroutine") = false := by kernel_rfl
theorem nm_196 : (f196.name == "runtime.NumGoroutine") = false := by kernel_rfl
theorem nm_197 : (f197.name == "runtime.NumGoroutine") = false := by kernel_rfl
theorem nm_198 : (f198.name == "runtime.NumGoroutine") = false := by kernel_rfl
theorem nm_200 : (f200.name == "runtime.NumGoroutine") = false := by kernel_rfl
theorem nm_202 : (f202.name == "runtime.NumGoroutine") = false := by kernel_rfl
theorem nm_204 : (f204.name == "runtime.NumGoroutine") = false := by kernel_rfl
theorem nm_205 : (f205.name == "runtime.NumGoroutine") = false := by kernel_rfl
theorem nm_206 : (f206.name == "runtime.NumGoroutine") = false := by kernel_rfl
theorem nm_207 : (f207.name == "runtime.NumGoroutine") = false := by kernel_rfl
theorem nm_208 : (f208.name == "runtime.NumGoroutine") = false := by kernel_rfl
theorem nm_209 : (f209.name == "runtime.NumGoroutine") = false := by kernel_rfl
theorem nm_210 : (f210.name == "runtime.NumGoroutine") = false := by kernel_rfl
theorem nm_211 : (f211.name == "runtime.NumGoroutine") = false := by kernel_rfl
theorem nm_216 : (f216.name == "runtime.NumGoroutine") = false := by kernel_rfl
theorem nm_217 : (f217.name == "runtime.NumGoroutine") = false := by kernel_rfl
theorem nm_219 : (f219.name == "runtime.NumGoroutine") = false := by kernel_rfl
theorem nm_220 : (f220.name == "runtime.NumGoroutine") = false := by kernel_rfl
theorem nm_221 : (f221.name == "runtime.NumGoroutine") = false := by kernel_rfl
theorem nm_222 : (f222.name == "runtime.NumGoroutine") = false := by kernel_rfl
theorem nm_223 : (f223.name == "runtime.NumGoroutine") = false := by kernel_rfl
theorem nm_224 : (f224.name == "runtime.NumGoroutine") = false := by kernel_rfl
theorem nm_225 : (f225.name == "runtime.NumGoroutine") = false := by kernel_rfl
theorem nm_226 : (f226.name == "runtime.NumGoroutine") = false := by kernel_rfl
theorem nm_227 : (f227.name == "runtime.NumGoroutine") = false := by kernel_rfl
theorem nm_228 : (f228.name == "runtime.NumGoroutine") = false := by kernel_rfl
theorem nm_229 : (f229.name == "runtime.NumGoroutine") = false := by kernel_rfl
theorem nm_230 : (f230.name == "runtime.NumGoroutine") = false := by kernel_rfl
theorem nm_234 : (f234.name == "runtime.NumGoroutine") = false := by kernel_rfl
theorem nm_235 : (f235.name == "runtime.NumGoroutine") = false := by kernel_rfl
theorem nm_236 : (f236.name == "runtime.NumGoroutine") = false := by kernel_rfl
theorem nm_240 : (f240.name == "runtime.NumGoroutine") = false := by kernel_rfl
theorem nm_241 : (f241.name == "runtime.NumGoroutine") = false := by kernel_rfl
theorem nm_242 : (f242.name == "runtime.NumGoroutine") = false := by kernel_rfl
theorem nm_243 : (f243.name == "runtime.NumGoroutine") = false := by kernel_rfl
theorem nm_244 : (f244.name == "runtime.NumGoroutine") = false := by kernel_rfl
theorem nm_245 : (f245.name == "runtime.NumGoroutine") = false := by kernel_rfl
theorem nm_246 : (f246.name == "runtime.NumGoroutine") = false := by kernel_rfl
theorem nm_247 : (f247.name == "runtime.NumGoroutine") = false := by kernel_rfl
theorem nm_249 : (f249.name == "runtime.NumGoroutine") = false := by kernel_rfl
theorem nm_250 : (f250.name == "runtime.NumGoroutine") = false := by kernel_rfl
theorem nm_252 : (f252.name == "runtime.NumGoroutine") = false := by kernel_rfl
theorem nm_253 : (f253.name == "runtime.NumGoroutine") = false := by kernel_rfl
theorem en_29 : Enters Go.Proofs.Tryz.prog 29 := enters_of func29 nm_29 (by kernel_rfl)
theorem en_30 : Enters Go.Proofs.Tryz.prog 30 := enters_of func30 nm_30 (by kernel_rfl)
theorem en_8 : Enters Go.Proofs.Tryz.prog 8 := enters_of func8 nm_8 (by kernel_rfl)
theorem en_31 : Enters Go.Proofs.Tryz.prog 31 := enters_of func31 nm_31 (by kernel_rfl)
theorem en_32 : Enters Go.Proofs.Tryz.prog 32 := enters_of func32 nm_32 (by kernel_rfl)
theorem en_183 : Enters Go.Proofs.Tryz.prog 183 := enters_of func183 nm_183 (by kernel_rfl)
theorem en_33 : Enters Go.Proofs.Tryz.prog 33 := enters_of func33 nm_33 (by kernel_rfl)
theorem en_35 : Enters Go.Proofs.Tryz.prog 35 := enters_of func35 nm_35 (by kernel_rfl)
theorem en_34 : Enters Go.Proofs.Tryz.prog 34 := enters_of func34 nm_34 (by kernel_rfl)
theorem en_36 : Enters Go.Proofs.Tryz.prog 36 := enters_of func36 nm_36 (by kernel_rfl)
theorem en_9 : Enters Go.Proofs.Tryz.prog 9 := enters_of func9 nm_9 (by kernel_rfl)
theorem en_144 : Enters Go.Proofs.Tryz.prog 144 := enters_of func144 nm_144 (by kernel_rfl)
theorem en_57 : Enters Go.Proofs.Tryz.prog 57 := enters_of func57 nm_57 (by kernel_rfl)
theorem en_143 : Enters Go.Proofs.Tryz.prog 143 := enters_of func143 nm_143 (by kernel_rfl)
theorem en_139 : Enters Go.Proofs.Tryz.prog 139 := enters_of func139 nm_139 (by kernel_rfl)
theorem en_141 : Enters Go.Proofs.Tryz.prog 141 := enters_of func141 nm_141 (by kernel_rfl)
theorem en_136 : Enters Go.Proofs.Tryz.prog 136 := enters_of func136 nm_136 (by kernel_rfl)
theorem en_54 : Enters Go.Proofs.Tryz.prog 54 := enters_of func54 nm_54 (by kernel_rfl)
theorem en_131 : Enters Go.Proofs.Tryz.prog 131 := enters_of func131 nm_131 (by kernel_rfl)
theorem en_198 : Enters Go.Proofs.Tryz.prog 198 := enters_of func198 nm_198 (by kernel_rfl)
theorem en_50 : Enters Go.Proofs.Tryz.prog 50 := enters_of func50 nm_50 (by kernel_rfl)
theorem en_170 : Enters Go.Proofs.Tryz.prog 170 := enters_of func170 nm_170 (by kernel_rfl)
theorem en_202 : Enters Go.Proofs.Tryz.prog 202 := enters_of func202 nm_202 (by kernel_rfl)
theorem en_206 : Enters Go.Proofs.Tryz.prog 206 := enters_of func206 nm_206 (by kernel_rfl)
theorem en_145 : Enters Go.Proofs.Tryz.prog 145 := enters_of func145 nm_145 (by kernel_rfl)
theorem en_58 : Enters Go.Proofs.Tryz.prog 58 := enters_of func58 nm_58 (by kernel_rfl)
theorem en_230 : Enters Go.Proofs.Tryz.prog 230 := enters_of func230 nm_230 (by kernel_rfl)
theorem en_249 : Enters Go.Proofs.Tryz.prog 249 := enters_of func249 nm_249 (by kernel_rfl)
theorem en_234 : Enters Go.Proofs.Tryz.prog 234 := enters_of func234 nm_234 (by kernel_rfl)
theorem en_235 : Enters Go.Proofs.Tryz.prog 235 := enters_of func235 nm_235 (by kernel_rfl)
theorem en_208 : Enters Go.Proofs.Tryz.prog 208 := enters_of func208 nm_208 (by kernel_rfl)
theorem en_146 : Enters Go.Proofs.Tryz.prog 146 := enters_of func146 nm_146 (by kernel_rfl)
theorem en_59 : Enters Go.Proofs.Tryz.prog 59 := enters_of func59 nm_59 (by kernel_rfl)
theorem en_62 : Enters Go.Proofs.Tryz.prog 62 := enters_of func62 nm_62 (by kernel_rfl)
theorem en_162 : Enters Go.Proofs.Tryz.prog 162 := enters_of func162 nm_162 (by kernel_rfl)
theorem en_149 : Enters Go.Proofs.Tryz.prog 149 := enters_of func149 nm_149 (by kernel_rfl)
theorem en_65 : Enters Go.Proofs.Tryz.prog 65 := enters_of func65 nm_65 (by kernel_rfl)
theorem en_219 : Enters Go.Proofs.Tryz.prog 219 := enters_of func219 nm_219 (by kernel_rfl)
theorem en_179 : Enters Go.Proofs.Tryz.prog 179 := enters_of func179 nm_179 (by kernel_rfl)
theorem en_250 : Enters Go.Proofs.Tryz.prog 250 := enters_of func250 nm_250 (by kernel_rfl)
theorem en_236 : Enters Go.Proofs.Tryz.prog 236 := enters_of func236 nm_236 (by kernel_rfl)
theorem en_211 : Enters Go.Proofs.Tryz.prog 211 := enters_of func211 nm_211 (by kernel_rfl)
theorem en_156 : Enters Go.Proofs.Tryz.prog 156 := enters_of func156 nm_156 (by kernel_rfl)
theorem en_68 : Enters Go.Proofs.Tryz.prog 68 := enters_of func68 nm_68 (by kernel_rfl)
theorem en_71 : Enters Go.Proofs.Tryz.prog 71 := enters_of func71 nm_71 (by kernel_rfl)
theorem en_20 : Enters Go.Proofs.Tryz.prog 20 := enters_of func20 nm_20 (by kernel_rfl)
theorem en_227 : Enters Go.Proofs.Tryz.prog 227 := enters_of func227 nm_227 (by kernel_rfl)
theorem en_197 : Enters Go.Proofs.Tryz.prog 197 := enters_of func197 nm_197 (by kernel_rfl)
theorem en_129 : Enters Go.Proofs.Tryz.prog 129 := enters_of func129 nm_129 (by kernel_rfl)
theorem en_49 : Enters Go.Proofs.Tryz.prog 49 := enters_of func49 nm_49 (by kernel_rfl)
theorem en_112 : Enters Go.Proofs.Tryz.prog 112 := enters_of func112 nm_112 (by kernel_rfl)
theorem en_37 : Enters Go.Proofs.Tryz.prog 37 := enters_of func37 nm_37 (by kernel_rfl)
theorem en_115 : Enters Go.Proofs.Tryz.prog 115 := enters_of func115 nm_115 (by kernel_rfl)
theorem en_75 : Enters Go.Proofs.Tryz.prog 75 := enters_of func75 nm_75 (by kernel_rfl)
theorem en_140 : Enters Go.Proofs.Tryz.prog 140 := enters_of func140 nm_140 (by kernel_rfl)
theorem en_76 : Enters Go.Proofs.Tryz.prog 76 := enters_of func76 nm_76 (by kernel_rfl)
theorem en_77 : Enters Go.Proofs.Tryz.prog 77 := enters_of func77 nm_77 (by kernel_rfl)
theorem en_78 : Enters Go.Proofs.Tryz.prog 78 := enters_of func78 nm_78 (by kernel_rfl)
theorem en_81 : Enters Go.Proofs.Tryz.prog 81 := enters_of func81 nm_81 (by kernel_rfl)
theorem en_82 : Enters Go.Proofs.Tryz.prog 82 := enters_of func82 nm_82 (by kernel_rfl)
theorem en_83 : Enters Go.Proofs.Tryz.prog 83 := enters_of func83 nm_83 (by kernel_rfl)
theorem en_86 : Enters Go.Proofs.Tryz.prog 86 := enters_of func86 nm_86 (by kernel_rfl)
theorem en_87 : Enters Go.Proofs.Tryz.prog 87 := enters_of func87 nm_87 (by kernel_rfl)
theorem en_22 : Enters Go.Proofs.Tryz.prog 22 := enters_of func22 nm_22 (by kernel_rfl)
theorem en_38 : Enters Go.Proofs.Tryz.prog 38 := enters_of func38 nm_38 (by kernel_rfl)
theorem en_39 : Enters Go.Proofs.Tryz.prog 39 := enters_of func39 nm_39 (by kernel_rfl)
theorem en_10 : Enters Go.Proofs.Tryz.prog 10 := enters_of func10 nm_10 (by kernel_rfl)
theorem en_166 : Enters Go.Proofs.Tryz.prog 166 := enters_of func166 nm_166 (by kernel_rfl)
theorem en_95 : Enters Go.Proofs.Tryz.prog 95 := enters_of func95 nm_95 (by kernel_rfl)
theorem en_167 : Enters Go.Proofs.Tryz.prog 167 := enters_of func167 nm_167 (by kernel_rfl)
theorem en_220 : Enters Go.Proofs.Tryz.prog 220 := enters_of func220 nm_220 (by kernel_rfl)
theorem en_185 : Enters Go.Proofs.Tryz.prog 185 := enters_of func185 nm_185 (by kernel_rfl)
theorem en_221 : Enters Go.Proofs.Tryz.prog 221 := enters_of func221 nm_221 (by kernel_rfl)
theorem en_186 : Enters Go.Proofs.Tryz.prog 186 := enters_of func186 nm_186 (by kernel_rfl)
theorem en_116 : Enters Go.Proofs.Tryz.prog 116 := enters_of func116 nm_116 (by kernel_rfl)
theorem en_222 : Enters Go.Proofs.Tryz.prog 222 := enters_of func222 nm_222 (by kernel_rfl)
theorem en_187 : Enters Go.Proofs.Tryz.prog 187 := enters_of func187 nm_187 (by kernel_rfl)
theorem en_117 : Enters Go.Proofs.Tryz.prog 117 := enters_of func117 nm_117 (by kernel_rfl)
theorem en_188 : Enters Go.Proofs.Tryz.prog 188 := enters_of func188 nm_188 (by kernel_rfl)
theorem en_189 : Enters Go.Proofs.Tryz.prog 189 := enters_of func189 nm_189 (by kernel_rfl)
theorem en_118 : Enters Go.Proofs.Tryz.prog 118 := enters_of func118 nm_118 (by kernel_rfl)
theorem en_119 : Enters Go.Proofs.Tryz.prog 119 := enters_of func119 nm_119 (by kernel_rfl)
theorem en_224 : Enters Go.Proofs.Tryz.prog 224 := enters_of func224 nm_224 (by kernel_rfl)
theorem en_190 : Enters Go.Proofs.Tryz.prog 190 := enters_of func190 nm_190 (by kernel_rfl)
theorem en_191 : Enters Go.Proofs.Tryz.prog 191 := enters_of func191 nm_191 (by kernel_rfl)
theorem en_120 : Enters Go.Proofs.Tryz.prog 120 := enters_of func120 nm_120 (by kernel_rfl)
theorem en_225 : Enters Go.Proofs.Tryz.prog 225 := enters_of func225 nm_225 (by kernel_rfl)
theorem en_193 : Enters Go.Proofs.Tryz.prog 193 := enters_of func193 nm_193 (by kernel_rfl)
theorem en_192 : Enters Go.Proofs.Tryz.prog 192 := enters_of func192 nm_192 (by kernel_rfl)
theorem en_121 : Enters Go.Proofs.Tryz.prog 121 := enters_of func121 nm_121 (by kernel_rfl)
theorem en_40 : Enters Go.Proofs.Tryz.prog 40 := enters_of func40 nm_40 (by kernel_rfl)
theorem en_252 : Enters Go.Proofs.Tryz.prog 252 := enters_of func252 nm_252 (by kernel_rfl)
theorem en_243 : Enters Go.Proofs.Tryz.prog 243 := enters_of func243 nm_243 (by kernel_rfl)
theorem en_226 : Enters Go.Proofs.Tryz.prog 226 := enters_of func226 nm_226 (by kernel_rfl)
theorem en_194 : Enters Go.Proofs.Tryz.prog 194 := enters_of func194 nm_194 (by kernel_rfl)
theorem en_122 : Enters Go.Proofs.Tryz.prog 122 := enters_of func122 nm_122 (by kernel_rfl)
theorem en_195 : Enters Go.Proofs.Tryz.prog 195 := enters_of func195 nm_195 (by kernel_rfl)
theorem en_123 : Enters Go.Proofs.Tryz.prog 123 := enters_of func123 nm_123 (by kernel_rfl)
theorem en_124 : Enters Go.Proofs.Tryz.prog 124 := enters_of func124 nm_124 (by kernel_rfl)
theorem en_41 : Enters Go.Proofs.Tryz.prog 41 := enters_of func41 nm_41 (by kernel_rfl)
theorem en_11 : Enters Go.Proofs.Tryz.prog 11 := enters_of func11 nm_11 (by kernel_rfl)
theorem en_26 : Enters Go.Proofs.Tryz.prog 26 := enters_of func26 nm_26 (by kernel_rfl)
theorem en_42 : Enters Go.Proofs.Tryz.prog 42 := enters_of func42 nm_42 (by kernel_rfl)
theorem en_125 : Enters Go.Proofs.Tryz.prog 125 := enters_of func125 nm_125 (by kernel_rfl)
theorem en_43 : Enters Go.Proofs.Tryz.prog 43 := enters_of func43 nm_43 (by kernel_rfl)
theorem en_196 : Enters Go.Proofs.Tryz.prog 196 := enters_of func196 nm_196 (by kernel_rfl)
theorem en_126 : Enters Go.Proofs.Tryz.prog 126 := enters_of func126 nm_126 (by kernel_rfl)
theorem en_44 : Enters Go.Proofs.Tryz.prog 44 := enters_of func44 nm_44 (by kernel_rfl)
theorem en_127 : Enters Go.Proofs.Tryz.prog 127 := enters_of func127 nm_127 (by kernel_rfl)
theorem en_128 : Enters Go.Proofs.Tryz.prog 128 := enters_of func128 nm_128 (by kernel_rfl)
theorem en_45 : Enters Go.Proofs.Tryz.prog 45 := enters_of func45 nm_45 (by kernel_rfl)
theorem en_46 : Enters Go.Proofs.Tryz.prog 46 := enters_of func46 nm_46 (by kernel_rfl)
theorem en_47 : Enters Go.Proofs.Tryz.prog 47 := enters_of func47 nm_47 (by kernel_rfl)
theorem en_12 : Enters Go.Proofs.Tryz.prog 12 := enters_of func12 nm_12 (by kernel_rfl)
theorem en_3 : Enters Go.Proofs.Tryz.prog 3 := enters_of func3 nm_3 (by kernel_rfl)
noncomputable def s29 : VSpec := { params := [(.st .Disk), (.int .i64)], results := [.bool], own := none, fn := N_ref05_Great }
noncomputable def s30 : VSpec := { params := [(.st .Site)], results := [.bool], own := none, fn := N_ref21_greatWords }
noncomputable def s8 : VSpec := { params := [(.st .Site)], results := [.bool], own := none, fn := N_ref21_Great }
noncomputable def s31 : VSpec := { params := [(.st .Disk)], results := [(.st .Disk)], own := none, fn := N_ref05_Twin }
noncomputable def s32 : VSpec := { params := [(.st .Meta)], results := [(.st .Meta)], own := none, fn := N_ref12_Twin }
noncomputable def s183 : VSpec := { params := [(.sl (.sl (.int .u8)))], results := [(.sl (.sl (.int .u8)))], own := none, fn := N_ref04_TwinAll }
noncomputable def s33 : VSpec := { params := [(.st .End)], results := [(.st .End)], own := none, fn := N_ref17_Twin }
noncomputable def s35 : VSpec := { params := [(.sl (.int .u8))], results := [(.sl (.int .u8))], own := none, fn := N_ref21_bytes }
noncomputable def s34 : VSpec := { params := [(.st .Side)], results := [(.st .Side)], own := none, fn := N_ref21_TwinSide }
noncomputable def s36 : VSpec := { params := [(.st .Msg)], results := [(.st .Msg)], own := none, fn := N_ref20_Twin }
noncomputable def s9 : VSpec := { params := [(.st .Site)], results := [(.st .Site)], own := none, fn := N_ref21_Twin }
noncomputable def s144 : VSpec := { params := [(.sl (.st .Bound))], results := [.bool], own := none, fn := N_place_within }
noncomputable def s57 : VSpec := { params := [(.st .Config)], results := [(.int .i64)], own := none, fn := N_place_Check }
noncomputable def s143 : VSpec := { params := [(.st .Round), (.int .i64)], results := [(.int .i64)], own := none, fn := N_ring_round_byte_at }
noncomputable def s139 : VSpec := { params := [(.st .Queue)], results := [(.int .i64)], own := none, fn := N_ring_Check }
noncomputable def s141 : VSpec := { params := [(.sl (.int .u8))], results := [(.sl (.int .u8))], own := none, fn := N_ring_text }
noncomputable def s136 : VSpec := { params := [(.st .Queue)], results := [(.sl (.sl (.int .u8))), (.int .i64)], own := none, fn := N_ring_List }
noncomputable def s54 : VSpec := { params := [(.st .Config), (.st .End)], results := [(.int .i64)], own := none, fn := N_sess_Check }
noncomputable def s131 : VSpec := { params := [(.st .Part)], results := [(.int .i64)], own := none, fn := N_place_part_size }
noncomputable def s198 : VSpec := { params := [(.st .Config)], results := [(.int .i64)], own := none, fn := N_place_pages }
noncomputable def s50 : VSpec := { params := [(.st .Config)], results := [(.int .i64), (.int .i64)], own := none, fn := N_place_Sectors }
noncomputable def s170 : VSpec := { params := [(.sl (.int .u8)), (.sl (.int .u8))], results := [.bool], own := none, fn := N_bytes_Equal }
noncomputable def s202 : VSpec := { params := [(.sl (.sl (.int .u8)))], results := [.bool], own := none, fn := N_disk_sized }
noncomputable def s206 : VSpec := { params := [], results := [(.sl (.int .u8))], own := none, fn := N_disk_none }
noncomputable def s145 : VSpec := { params := [(.st .Disk)], results := [(.int .i64)], own := none, fn := N_disk_Check }
noncomputable def s58 : VSpec := { params := [(.st .Config), (.st .Disk)], results := [(.int .i64)], own := none, fn := N_track_Check }
noncomputable def s230 : VSpec := { params := [(.sl (.int .u64)), (.sl (.int .i64))], results := [(.sl (.int .u8)), (.int .i64)], own := none, fn := N_num_Write }
noncomputable def s249 : VSpec := { params := [(.sl (.int .i64))], results := [.bool], own := none, fn := N_rec_site }
noncomputable def s234 : VSpec := { params := [(.st .Rec)], results := [(.int .i64)], own := none, fn := N_rec_Check }
noncomputable def s235 : VSpec := { params := [], results := [(.sl (.int .i64))], own := none, fn := N_rec_sizes }
noncomputable def s208 : VSpec := { params := [(.st .Rec)], results := [(.sl (.int .u8)), (.int .i64)], own := none, fn := N_rec_Note }
noncomputable def s146 : VSpec := { params := [(.sl (.st .Rec))], results := [(.sl (.sl (.int .u8))), (.int .i64)], own := none, fn := N_rec_Notes }
noncomputable def s59 : VSpec := { params := [(.st .Config), (.st .Meta)], results := [(.int .i64)], own := none, fn := N_meta_Check }
noncomputable def s62 : VSpec := { params := [(.st .Config), (.int .i64)], results := [.bool], own := none, fn := N_act_limits_pair }
noncomputable def s162 : VSpec := { params := [(.int .i64)], results := [(.sl (.int .u8)), (.int .i64)], own := none, fn := N_bits_All }
noncomputable def s149 : VSpec := { params := [(.int .i64), (.sl (.int .u8))], results := [(.int .i64)], own := none, fn := N_bits_Check }
noncomputable def s65 : VSpec := { params := [(.st .Config), (.st .Side)], results := [.bool], own := none, fn := N_act_limits_side }
noncomputable def s219 : VSpec := { params := [(.st .Msg)], results := [(.st .Plain)], own := none, fn := N_msg_of }
noncomputable def s179 : VSpec := { params := [(.st .Msg), (.st .Msg)], results := [.bool], own := none, fn := N_msg_Same }
noncomputable def s250 : VSpec := { params := [(.sl (.int .u8))], results := [.bool], own := none, fn := N_msg_marks }
noncomputable def s236 : VSpec := { params := [(.st .Msg)], results := [(.st .Msg), .bool], own := none, fn := N_msg_used }
noncomputable def s211 : VSpec := { params := [(.st .Msg)], results := [(.int .i64)], own := none, fn := N_msg_Check }
noncomputable def s156 : VSpec := { params := [(.st .Config), (.st .Msg)], results := [.bool], own := none, fn := N_act_limits_message }
noncomputable def s68 : VSpec := { params := [(.st .Config), (.st .Act), (.int .i64)], results := [.bool], own := none, fn := N_act_limits_act }
noncomputable def s71 : VSpec := { params := [(.st .Config), (.st .Mail)], results := [.bool], own := none, fn := N_act_limits_mail }
noncomputable def s20 : VSpec := { params := [(.st .Config), (.st .Site)], results := [(.int .i64)], own := none, fn := N_act_Check }
noncomputable def s227 : VSpec := { params := [(.int .u32), (.int .u8)], results := [(.int .u32)], own := none, fn := N_crc_sum_take }
noncomputable def s197 : VSpec := { params := [(.int .u32), (.sl (.int .u8))], results := [(.int .u32)], own := none, fn := N_crc_More }
noncomputable def s129 : VSpec := { params := [(.sl (.int .u8))], results := [(.int .u32)], own := none, fn := N_crc_Sum }
noncomputable def s49 : VSpec := { params := [(.sl (.int .u8))], results := [(.sl (.int .u8)), (.int .i64)], own := none, fn := N_crc_Seal }
noncomputable def s112 : VSpec := { params := [(.sl (.int .u8))], results := [(.sl (.int .u8)), (.int .i64)], own := none, fn := N_crc_Open }
noncomputable def s37 : VSpec := { params := [(.sl (.int .u8))], results := [(.int .u8), (.int .u8), (.int .i64)], own := none, fn := N_req_Read }
noncomputable def s115 : VSpec := { params := [(.sl (.int .u8))], results := [(.sl (.int .u8))], own := none, fn := N_slices_Clone_byte_byte }
noncomputable def s75 : VSpec := { params := [(.st .Disk)], results := [(.st .Disk)], own := none, fn := N_disk_Twin }
noncomputable def s140 : VSpec := { params := [(.st .Queue)], results := [(.st .Queue)], own := none, fn := N_ring_Twin }
noncomputable def s76 : VSpec := { params := [(.st .End)], results := [(.st .End)], own := none, fn := N_sess_Twin }
noncomputable def s77 : VSpec := { params := [(.sl (.st .Rec))], results := [(.sl (.st .Rec))], own := none, fn := N_slices_Clone_api_Rec_api_Rec }
noncomputable def s78 : VSpec := { params := [(.sl (.int .i64))], results := [(.sl (.int .i64))], own := none, fn := N_slices_Clone_int_int }
noncomputable def s81 : VSpec := { params := [(.sl (.int .u8))], results := [(.sl (.int .u8))], own := none, fn := N_bytes_Clone }
noncomputable def s82 : VSpec := { params := [(.sl (.st .Sent))], results := [(.sl (.st .Sent))], own := none, fn := N_slices_Clone_api_Sent_api_Sent }
noncomputable def s83 : VSpec := { params := [(.sl (.st .Wait))], results := [(.sl (.st .Wait))], own := none, fn := N_slices_Clone_api_Wait_api_Wait }
noncomputable def s86 : VSpec := { params := [(.st .Msg)], results := [(.st .Msg)], own := none, fn := N_msg_Twin }
noncomputable def s87 : VSpec := { params := [(.st .Reply)], results := [(.st .Reply)], own := none, fn := N_act_reply }
noncomputable def s22 : VSpec := { params := [(.st .Site)], results := [(.st .Site)], own := some [none, none, none, some 84, none, some 68, some 73, some 101, some 66, none], fn := N_act_Twin }
noncomputable def s38 : VSpec := { params := [(.st .Config), (.st .Site), (.st .Reply)], results := [(.st .Site), (.int .i64)], own := none, fn := N_host_Answer }
noncomputable def s39 : VSpec := { params := [(.st .Config), (.st .Site), (.st .Ask)], results := [(.st .Site), (.int .i64)], own := none, fn := N_site_Ask }
noncomputable def s10 : VSpec := { params := [(.st .Config), (.st .Site), (.int .i64), (.sl (.int .u8))], results := [(.st .Site), (.int .i64)], own := none, fn := N_req_Submit }
noncomputable def s166 : VSpec := { params := [(.int .i64), (.int .i64), (.int .i64)], results := [.bool], own := none, fn := N_ref07_in }
noncomputable def s95 : VSpec := { params := [(.st .Config)], results := [.bool], own := none, fn := N_ref07_May }
noncomputable def s167 : VSpec := { params := [(.st .Config)], results := [(.int .i64)], own := none, fn := N_ref07_Many }
noncomputable def s220 : VSpec := { params := [(.st .Config)], results := [(.int .i64), (.int .i64), (.int .i64), (.int .i64)], own := none, fn := N_ref07_first }
noncomputable def s185 : VSpec := { params := [(.st .Config)], results := [(.int .i64)], own := none, fn := N_ref07_Size }
noncomputable def s221 : VSpec := { params := [(.sl (.int .u8))], results := [.bool], own := none, fn := N_ref05_blank }
noncomputable def s186 : VSpec := { params := [(.st .Disk)], results := [.bool], own := none, fn := N_ref05_May }
noncomputable def s116 : VSpec := { params := [(.st .Config), (.st .Disk)], results := [.bool], own := none, fn := N_ref08_May }
noncomputable def s222 : VSpec := { params := [(.st .Rec)], results := [.bool], own := none, fn := N_ref11_May }
noncomputable def s187 : VSpec := { params := [(.sl (.st .Rec))], results := [.bool], own := none, fn := N_ref11_MayAll }
noncomputable def s117 : VSpec := { params := [(.st .Config), (.st .Meta)], results := [.bool], own := none, fn := N_ref12_May }
noncomputable def s188 : VSpec := { params := [(.st .Queue)], results := [.bool], own := none, fn := N_ref04_May }
noncomputable def s189 : VSpec := { params := [(.st .Queue)], results := [(.sl (.sl (.int .u8))), (.int .i64)], own := none, fn := N_ref04_List }
noncomputable def s118 : VSpec := { params := [(.st .Config), (.st .End)], results := [.bool], own := none, fn := N_ref17_May }
noncomputable def s119 : VSpec := { params := [(.st .Config), (.int .i64)], results := [.bool], own := none, fn := N_ref21_pair }
noncomputable def s224 : VSpec := { params := [(.sl (.int .u8)), (.int .i64)], results := [.bool], own := none, fn := N_ref03_In }
noncomputable def s190 : VSpec := { params := [(.int .i64), (.sl (.int .u8))], results := [.bool], own := none, fn := N_ref03_May }
noncomputable def s191 : VSpec := { params := [(.st .Config), (.int .i64)], results := [.bool], own := none, fn := N_ref21_there }
noncomputable def s120 : VSpec := { params := [(.st .Config), (.st .Side)], results := [.bool], own := none, fn := N_ref21_maySide }
noncomputable def s225 : VSpec := { params := [(.st .Msg)], results := [.bool], own := none, fn := N_ref20_May }
noncomputable def s193 : VSpec := { params := [(.st .Config), (.st .Msg)], results := [.bool], own := none, fn := N_ref21_mayMsg }
noncomputable def s192 : VSpec := { params := [(.st .Config), (.st .Site), (.st .Act)], results := [.bool], own := none, fn := N_ref21_mayAct }
noncomputable def s121 : VSpec := { params := [(.st .Config), (.st .Site)], results := [.bool], own := none, fn := N_ref21_mayLists }
noncomputable def s40 : VSpec := { params := [(.st .Config), (.st .Site)], results := [.bool], own := none, fn := N_ref21_May }
noncomputable def s252 : VSpec := { params := [(.int .u32), (.int .u8)], results := [(.int .u32)], own := none, fn := N_ref02_Taken }
noncomputable def s243 : VSpec := { params := [(.int .u32), (.sl (.int .u8))], results := [(.int .u32)], own := none, fn := N_ref02_Behind }
noncomputable def s226 : VSpec := { params := [(.sl (.int .u8))], results := [(.int .u32)], own := none, fn := N_ref02_Sum }
noncomputable def s194 : VSpec := { params := [(.sl (.int .u8))], results := [(.sl (.int .u8))], own := none, fn := N_ref02_Sealed }
noncomputable def s122 : VSpec := { params := [(.sl (.int .u8))], results := [(.int .u8), (.int .u8), (.int .i64)], own := none, fn := N_ref28_Read }
noncomputable def s195 : VSpec := { params := [(.st .Site), (.st .Reply)], results := [(.st .Site)], own := none, fn := N_ref22_Answered }
noncomputable def s123 : VSpec := { params := [(.st .Site), (.int .i64), (.int .i64)], results := [(.st .Site)], own := none, fn := N_ref22_Code }
noncomputable def s124 : VSpec := { params := [(.st .Site), (.st .Ask)], results := [(.st .Site), .bool], own := none, fn := N_ref27_Asked }
noncomputable def s41 : VSpec := { params := [(.st .Site), (.int .i64), (.sl (.int .u8))], results := [(.st .Site), .bool], own := none, fn := N_ref28_Submitted }
noncomputable def s11 : VSpec := { params := [(.st .Config), (.st .Site), (.int .i64), (.sl (.int .u8))], results := [(.st .Site), (.int .i64)], own := none, fn := N_ref28_Submit }
noncomputable def s26 : VSpec := { params := [(.st .Side), (.st .Side)], results := [.bool], own := none, fn := N_ref21_SameSide }
noncomputable def s42 : VSpec := { params := [(.st .Disk), (.st .Disk)], results := [.bool], own := none, fn := N_ref05_Same }
noncomputable def s125 : VSpec := { params := [(.sl (.st .Rec)), (.sl (.st .Rec))], results := [.bool], own := none, fn := N_ref11_Same }
noncomputable def s43 : VSpec := { params := [(.st .Meta), (.st .Meta)], results := [.bool], own := none, fn := N_ref12_Same }
noncomputable def s196 : VSpec := { params := [(.sl (.sl (.int .u8))), (.sl (.sl (.int .u8)))], results := [.bool], own := none, fn := N_ref04_SameAll }
noncomputable def s126 : VSpec := { params := [(.st .Queue), (.st .Queue)], results := [.bool], own := none, fn := N_ref04_Same }
noncomputable def s44 : VSpec := { params := [(.st .End), (.st .End)], results := [.bool], own := none, fn := N_ref17_Same }
noncomputable def s127 : VSpec := { params := [(.st .Msg), (.st .Msg)], results := [.bool], own := none, fn := N_ref20_Same }
noncomputable def s128 : VSpec := { params := [(.st .Reply), (.st .Reply)], results := [.bool], own := none, fn := N_ref21_SameReply }
noncomputable def s45 : VSpec := { params := [(.sl (.st .Act)), (.sl (.st .Act))], results := [.bool], own := none, fn := N_ref21_samePlan }
noncomputable def s46 : VSpec := { params := [(.st .Site), (.st .Site)], results := [.bool], own := none, fn := N_ref21_sameCome }
noncomputable def s47 : VSpec := { params := [(.sl (.st .Reply)), (.sl (.st .Reply))], results := [.bool], own := none, fn := N_ref21_SameReplies }
noncomputable def s12 : VSpec := { params := [(.st .Site), (.st .Site)], results := [.bool], own := none, fn := N_ref21_Same }
end Go.Cat

set_option maxHeartbeats 0
namespace Go.Cat
open Go Go.Proofs.Tryz
noncomputable def env29 : Env := { ty := tys, specs := [], inl := [(29, f29)], hints := hnts }
theorem T_ref05_Great (x : TT [(.st .Disk), (.int .i64)]) : (fnTree env29 29 [(.st .Disk), (.int .i64)] [.bool] x).den = D_ref05_Great x.1 x.2.1 := by kernel_rfl
theorem C_ref05_Great : SpecOk Go.Proofs.Tryz.prog 29 s29 :=
  (fnTree_spec (E := env29) (tysOk_of tys_ok) (specSound_of specsOk_nil) mixed_ok (inlOk_of (inlB_cons func29 nm_29 inlB_nil)) en_29 [(.st .Disk), (.int .i64)] [.bool]).weaken (fun x r hx hn => (T_ref05_Great x).trans (Q_ref05_Great x r hx hn))
noncomputable def env30 : Env := { ty := tys, specs := [], inl := [(30, f30)], hints := hnts }
theorem T_ref21_greatWords (x : TT [(.st .Site)]) : (fnTree env30 30 [(.st .Site)] [.bool] x).den = D_ref21_greatWords x.1 := by kernel_rfl
theorem C_ref21_greatWords : SpecOk Go.Proofs.Tryz.prog 30 s30 :=
  (fnTree_spec (E := env30) (tysOk_of tys_ok) (specSound_of specsOk_nil) mixed_ok (inlOk_of (inlB_cons func30 nm_30 inlB_nil)) en_30 [(.st .Site)] [.bool]).weaken (fun x r hx hn => (T_ref21_greatWords x).trans (Q_ref21_greatWords x r hx hn))
noncomputable def env8 : Env := { ty := tys, specs := [(29, s29), (30, s30)], inl := [(8, f8)], hints := hnts }
theorem T_ref21_Great (x : TT [(.st .Site)]) : (fnTree env8 8 [(.st .Site)] [.bool] x).den = D_ref21_Great x.1 := by kernel_rfl
theorem C_ref21_Great : SpecOk Go.Proofs.Tryz.prog 8 s8 :=
  (fnTree_spec (E := env8) (tysOk_of tys_ok) (specSound_of (specsOk_cons C_ref05_Great (specsOk_cons C_ref21_greatWords specsOk_nil))) mixed_ok (inlOk_of (inlB_cons func8 nm_8 inlB_nil)) en_8 [(.st .Site)] [.bool]).weaken (fun x r hx hn => (T_ref21_Great x).trans (Q_ref21_Great x r hx hn))
noncomputable def env31 : Env := { ty := tys, specs := [], inl := [(31, f31)], hints := hnts }
theorem T_ref05_Twin (x : TT [(.st .Disk)]) : (fnTree env31 31 [(.st .Disk)] [(.st .Disk)] x).den = D_ref05_Twin x.1 := by kernel_rfl
theorem C_ref05_Twin : SpecOk Go.Proofs.Tryz.prog 31 s31 :=
  (fnTree_spec (E := env31) (tysOk_of tys_ok) (specSound_of specsOk_nil) mixed_ok (inlOk_of (inlB_cons func31 nm_31 inlB_nil)) en_31 [(.st .Disk)] [(.st .Disk)]).weaken (fun x r hx hn => (T_ref05_Twin x).trans (Q_ref05_Twin x r hx hn))
noncomputable def env32 : Env := { ty := tys, specs := [], inl := [(32, f32)], hints := hnts }
theorem T_ref12_Twin (x : TT [(.st .Meta)]) : (fnTree env32 32 [(.st .Meta)] [(.st .Meta)] x).den = D_ref12_Twin x.1 := by kernel_rfl
theorem C_ref12_Twin : SpecOk Go.Proofs.Tryz.prog 32 s32 :=
  (fnTree_spec (E := env32) (tysOk_of tys_ok) (specSound_of specsOk_nil) mixed_ok (inlOk_of (inlB_cons func32 nm_32 inlB_nil)) en_32 [(.st .Meta)] [(.st .Meta)]).weaken (fun x r hx hn => (T_ref12_Twin x).trans (Q_ref12_Twin x r hx hn))
noncomputable def env183 : Env := { ty := tys, specs := [], inl := [(183, f183)], hints := hnts }
theorem T_ref04_TwinAll (x : TT [(.sl (.sl (.int .u8)))]) : (fnTree env183 183 [(.sl (.sl (.int .u8)))] [(.sl (.sl (.int .u8)))] x).den = D_ref04_TwinAll x.1 := by kernel_rfl
theorem C_ref04_TwinAll : SpecOk Go.Proofs.Tryz.prog 183 s183 :=
  (fnTree_spec (E := env183) (tysOk_of tys_ok) (specSound_of specsOk_nil) mixed_ok (inlOk_of (inlB_cons func183 nm_183 inlB_nil)) en_183 [(.sl (.sl (.int .u8)))] [(.sl (.sl (.int .u8)))]).weaken (fun x r hx hn => (T_ref04_TwinAll x).trans (Q_ref04_TwinAll x r hx hn))
noncomputable def env33 : Env := { ty := tys, specs := [(183, s183)], inl := [(33, f33), (111, f111)], hints := hnts }
theorem T_ref17_Twin (x : TT [(.st .End)]) : (fnTree env33 33 [(.st .End)] [(.st .End)] x).den = D_ref17_Twin x.1 := by kernel_rfl
theorem C_ref17_Twin : SpecOk Go.Proofs.Tryz.prog 33 s33 :=
  (fnTree_spec (E := env33) (tysOk_of tys_ok) (specSound_of (specsOk_cons C_ref04_TwinAll specsOk_nil)) mixed_ok (inlOk_of (inlB_cons func33 nm_33 (inlB_cons func111 nm_111 inlB_nil))) en_33 [(.st .End)] [(.st .End)]).weaken (fun x r hx hn => (T_ref17_Twin x).trans (Q_ref17_Twin x r hx hn))
noncomputable def env35 : Env := { ty := tys, specs := [], inl := [(35, f35)], hints := hnts }
theorem T_ref21_bytes (x : TT [(.sl (.int .u8))]) : (fnTree env35 35 [(.sl (.int .u8))] [(.sl (.int .u8))] x).den = D_ref21_bytes x.1 := by kernel_rfl
theorem C_ref21_bytes : SpecOk Go.Proofs.Tryz.prog 35 s35 :=
  (fnTree_spec (E := env35) (tysOk_of tys_ok) (specSound_of specsOk_nil) mixed_ok (inlOk_of (inlB_cons func35 nm_35 inlB_nil)) en_35 [(.sl (.int .u8))] [(.sl (.int .u8))]).weaken (fun x r hx hn => (T_ref21_bytes x).trans (Q_ref21_bytes x r hx hn))
noncomputable def env34 : Env := { ty := tys, specs := [(35, s35)], inl := [(34, f34)], hints := hnts }
theorem T_ref21_TwinSide (x : TT [(.st .Side)]) : (fnTree env34 34 [(.st .Side)] [(.st .Side)] x).den = D_ref21_TwinSide x.1 := by kernel_rfl
theorem C_ref21_TwinSide : SpecOk Go.Proofs.Tryz.prog 34 s34 :=
  (fnTree_spec (E := env34) (tysOk_of tys_ok) (specSound_of (specsOk_cons C_ref21_bytes specsOk_nil)) mixed_ok (inlOk_of (inlB_cons func34 nm_34 inlB_nil)) en_34 [(.st .Side)] [(.st .Side)]).weaken (fun x r hx hn => (T_ref21_TwinSide x).trans (Q_ref21_TwinSide x r hx hn))
noncomputable def env36 : Env := { ty := tys, specs := [], inl := [(36, f36)], hints := hnts }
theorem T_ref20_Twin (x : TT [(.st .Msg)]) : (fnTree env36 36 [(.st .Msg)] [(.st .Msg)] x).den = D_ref20_Twin x.1 := by kernel_rfl
theorem C_ref20_Twin : SpecOk Go.Proofs.Tryz.prog 36 s36 :=
  (fnTree_spec (E := env36) (tysOk_of tys_ok) (specSound_of specsOk_nil) mixed_ok (inlOk_of (inlB_cons func36 nm_36 inlB_nil)) en_36 [(.st .Msg)] [(.st .Msg)]).weaken (fun x r hx hn => (T_ref20_Twin x).trans (Q_ref20_Twin x r hx hn))
noncomputable def env9 : Env := { ty := tys, specs := [(31, s31), (32, s32), (33, s33), (34, s34), (35, s35), (36, s36)], inl := [(9, f9)], hints := hnts }
theorem T_ref21_Twin (x : TT [(.st .Site)]) : (fnTree env9 9 [(.st .Site)] [(.st .Site)] x).den = D_ref21_Twin x.1 := by kernel_rfl
theorem C_ref21_Twin : SpecOk Go.Proofs.Tryz.prog 9 s9 :=
  (fnTree_spec (E := env9) (tysOk_of tys_ok) (specSound_of (specsOk_cons C_ref05_Twin (specsOk_cons C_ref12_Twin (specsOk_cons C_ref17_Twin (specsOk_cons C_ref21_TwinSide (specsOk_cons C_ref21_bytes (specsOk_cons C_ref20_Twin specsOk_nil))))))) mixed_ok (inlOk_of (inlB_cons func9 nm_9 inlB_nil)) en_9 [(.st .Site)] [(.st .Site)]).weaken (fun x r hx hn => (T_ref21_Twin x).trans (Q_ref21_Twin x r hx hn))
noncomputable def env144 : Env := { ty := tys, specs := [], inl := [(144, f144)], hints := hnts }
theorem T_place_within (x : TT [(.sl (.st .Bound))]) : (fnTree env144 144 [(.sl (.st .Bound))] [.bool] x).den = D_place_within x.1 := by kernel_rfl
theorem C_place_within : SpecOk Go.Proofs.Tryz.prog 144 s144 :=
  (fnTree_spec (E := env144) (tysOk_of tys_ok) (specSound_of specsOk_nil) mixed_ok (inlOk_of (inlB_cons func144 nm_144 inlB_nil)) en_144 [(.sl (.st .Bound))] [.bool]).weaken (fun x r hx hn => (T_place_within x).trans (Q_place_within x r hx hn))
noncomputable def env57 : Env := { ty := tys, specs := [(144, s144)], inl := [(57, f57)], hints := hnts }
theorem T_place_Check (x : TT [(.st .Config)]) : (fnTree env57 57 [(.st .Config)] [(.int .i64)] x).den = D_place_Check x.1 := by kernel_rfl
theorem C_place_Check : SpecOk Go.Proofs.Tryz.prog 57 s57 :=
  (fnTree_spec (E := env57) (tysOk_of tys_ok) (specSound_of (specsOk_cons C_place_within specsOk_nil)) mixed_ok (inlOk_of (inlB_cons func57 nm_57 inlB_nil)) en_57 [(.st .Config)] [(.int .i64)]).weaken (fun x r hx hn => (T_place_Check x).trans (Q_place_Check x r hx hn))
noncomputable def env143 : Env := { ty := tys, specs := [], inl := [(143, f143)], hints := hnts }
theorem T_ring_round_byte_at (x : TT [(.st .Round), (.int .i64)]) : (fnTree env143 143 [(.st .Round), (.int .i64)] [(.int .i64)] x).den = D_ring_round_byte_at x.1 x.2.1 := by kernel_rfl
theorem C_ring_round_byte_at : SpecOk Go.Proofs.Tryz.prog 143 s143 :=
  (fnTree_spec (E := env143) (tysOk_of tys_ok) (specSound_of specsOk_nil) mixed_ok (inlOk_of (inlB_cons func143 nm_143 inlB_nil)) en_143 [(.st .Round), (.int .i64)] [(.int .i64)]).weaken (fun x r hx hn => (T_ring_round_byte_at x).trans (Q_ring_round_byte_at x r hx hn))
noncomputable def env139 : Env := { ty := tys, specs := [(143, s143)], inl := [(139, f139), (142, f142)], hints := hnts }
theorem T_ring_Check (x : TT [(.st .Queue)]) : (fnTree env139 139 [(.st .Queue)] [(.int .i64)] x).den = D_ring_Check x.1 := by kernel_rfl
theorem C_ring_Check : SpecOk Go.Proofs.Tryz.prog 139 s139 :=
  (fnTree_spec (E := env139) (tysOk_of tys_ok) (specSound_of (specsOk_cons C_ring_round_byte_at specsOk_nil)) mixed_ok (inlOk_of (inlB_cons func139 nm_139 (inlB_cons func142 nm_142 inlB_nil))) en_139 [(.st .Queue)] [(.int .i64)]).weaken (fun x r hx hn => (T_ring_Check x).trans (Q_ring_Check x r hx hn))
noncomputable def env141 : Env := { ty := tys, specs := [], inl := [(141, f141)], hints := hnts }
theorem T_ring_text (x : TT [(.sl (.int .u8))]) : (fnTree env141 141 [(.sl (.int .u8))] [(.sl (.int .u8))] x).den = D_ring_text x.1 := by kernel_rfl
theorem C_ring_text : SpecOk Go.Proofs.Tryz.prog 141 s141 :=
  (fnTree_spec (E := env141) (tysOk_of tys_ok) (specSound_of specsOk_nil) mixed_ok (inlOk_of (inlB_cons func141 nm_141 inlB_nil)) en_141 [(.sl (.int .u8))] [(.sl (.int .u8))]).weaken (fun x r hx hn => (T_ring_text x).trans (Q_ring_text x r hx hn))
end Go.Cat

namespace Go.Cat
open Go
variable {P : Program} {E : Env} {R : CallRel} {ops : Array Oper} {w0 : Pt} {β : Pl} {ro : Snap} {D : Nat → Prop} {w : World}
theorem not_defer_of_call {op : Op} {x : Operand × Array Operand} (h : callOf op = some x) : ∀ c, op ≠ .defer c := by
  rintro c rfl
  simp [callOf] at h
theorem not_defer_of_op {ρ : Operand → SV} {nid : Nat} {op : Op} {H : Heap} {rs : List Nat} {r : Ans × List Nat} (h : (opT E ρ nid op).run H rs = some r) : ∀ c, op ≠ .defer c := by
  rintro c rfl
  simp [opT, OT.run] at h
theorem step_in (lp m : Nat) (hE : TysOk P E) (hR : CallGood P R) (hS : SpecSound P E) {i : Nat} {o : Oper} (hi : ops[i]? = some o) {S : St} {a : Go.Act} (hs : Sat w0 β ro D S a w) {nid : Nat} {g : Bool} {v : SV} {m' : Mem} {fp : Foot}
    (hc : Core E R ops nid g o S.tmps S.m v m' fp) (hn : ∀ k, k < 64 → ¬ D (nid + k)) (hDm : ∀ id, D id → id < S.m.next) {K : Go.Act → World → Prop} {Q : Exit → Go.Act → World → Prop}
    (hK : ∀ a' w' β' ro', β.ext β' → ro.ext ro' → Sat w0 β' ro' (fun id => D id ∨ (nid ≤ id ∧ id < nid + 64) ∨ (S.m.next ≤ id ∧ id < m'.next)) ⟨setT S.tmps o.dst v, m'⟩ a' w' → K a' w') : wpOpIn (Fence.wide.inRound lp) m P ops Q i K a w := by
  unfold wpOpIn
  simp only [hi]
  have lit : ∀ {β' : Pl} {ro' : Snap} {v : SV} {x : Value}, RepS β' ro' v x → RepS β' ro' (litV g v) x := by
    intro β' ro' v x hv
    unfold litV
    split
    · cases hv with | leaf h => cases h with | bool b => exact .lit (.inl rfl)
    · exact hv
  cases hc with
  | off hw =>
    rw [wanted_sound hs hw]
    exact ⟨fun _ _ => trivial, hK _ _ β ro β.ext_refl ro.ext_refl (hs.put β.ext_refl ro.ext_refl (hs.h.less (fun _ _ h => h) (fun id h => .inl h)) (.lit (.inr rfl)) o.dst)⟩
  | op hw t ht v u rs hr =>
    rw [wanted_sound hs hw, if_pos rfl]
    refine ⟨fun _ _ => trivial, ?_⟩
    unfold otOf at ht
    split at ht
    · rename_i f args hcall
      split at ht
      · rename_i n as hcal
        split at ht
        · rename_i s hspec
          cases ht
          obtain ⟨he, hgood⟩ := hS.good n s nid as S.m.objs v u rs hspec hr
          obtain ⟨vs, hvs, hrun⟩ := call_run (P := P) (w := w) hs.ev hcall hcal he
          have hcalls := hgood w0 β ro D w vs hs.h hn hvs
          rw [Oper.semAt_eq _ _ _ (not_defer_of_call hcall), hrun]
          refine ⟨fun h => (by cases h), CallsIn.mono (CallsIn.inRound lp (callsIn_wide.2 hcalls)) ?_⟩
          rintro e w' ⟨x, β', ro', rfl, h1, h2, h3, h4⟩
          exact hK _ _ β' ro' h1 h2 (hs.put h1 h2 (h4.less (fun _ _ h => h) (fun id h => h.imp (fun x => x) .inl)) (lit h3) o.dst)
        · cases ht
      · cases ht
    · cases ht
      obtain ⟨w', β', ro', h1, h2, h3, h4⟩ := op_sound (P := P) (o := o) (D' := fun id => D id ∨ (nid ≤ id ∧ id < nid + 64) ∨ (S.m.next ≤ id ∧ id < S.m.next)) hE hs.h hs.ev (by simpa using hn 0 (by omega)) (fun id h => .inl h) (.inr (.inl ⟨Nat.le_refl _, by omega⟩)) hr
      rw [Oper.semAt_eq _ _ _ (not_defer_of_op hr)]
      rcases h4 with ⟨x, h5, h6⟩ | ⟨h5, rfl⟩
      · rw [h5]
        exact hK _ _ β' ro' h1 h2 (hs.put h1 h2 h3 (lit h6) o.dst)
      · rw [h5]
        exact hK _ _ β' ro' h1 h2 (hs.put h1 h2 h3 (lit (.lit (.inr rfl))) o.dst)
  | call hw n as ht v m' hr =>
    rw [wanted_sound hs hw, if_pos rfl]
    refine ⟨fun _ _ => trivial, ?_⟩
    obtain ⟨he, hfr, hgood⟩ := hR.good n as S.m v m' hr
    unfold inlOf at ht
    split at ht
    · rename_i f args hcall
      split at ht
      · rename_i n' as' hcal
        split at ht
        · cases ht
        · cases ht
          obtain ⟨vs, hvs, hrun⟩ := call_run (P := P) (w := w) hs.ev hcall hcal he
          have hcalls := hgood w0 β ro D w vs hs.h hDm hvs
          rw [Oper.semAt_eq _ _ _ (not_defer_of_call hcall), hrun]
          refine ⟨fun h => (by cases h), CallsIn.mono (CallsIn.inRound lp (callsIn_wide.2 hcalls)) ?_⟩
          rintro e w' ⟨x, β', ro', rfl, h1, h2, h3, h4⟩
          exact hK _ _ β' ro' h1 h2 (hs.put h1 h2 (h4.less (fun _ _ h => h) (fun id h => h.imp (fun x => x) .inr)) (lit h3) o.dst)
      · cases ht
    · cases ht
section
variable (hE : TysOk P E) (hR : CallGood P R) (hS : SpecSound P E)
include hE hR hS
theorem run_text_in (lp m : Nat) {D0 : Nat → Prop} {base : Nat} (h0 : ∀ id, D0 id → id < base) {fps : Nat → Foot} {Q : Exit → Go.Act → World → Prop} : ∀ {l : List Nat} {S S' : St}, RunL E R ops base fps l S S' → ∀ (isDone : Nat → Prop) (β : Pl) (ro : Snap) (a : Go.Act) (w : World),
    (∀ i ∈ l, i < ops.size ∧ ¬ isDone i) → l.Nodup → base + 64 * ops.size ≤ S.m.next → Sat w0 β ro (Taken D0 base ops.size isDone S.m.next) S a w →
    (∀ a' w' β' ro', β.ext β' → ro.ext ro' → Sat w0 β' ro' (fun id => D0 id ∨ (base ≤ id ∧ id < S'.m.next)) S' a' w' → Q .normal a' w') → wpOpsIn (Fence.wide.inRound lp) m P ops Q l a w := by
  intro l S S' h
  induction h with
  | nil S =>
    intro isDone β ro a w _ _ hn hs hq
    exact hq a w β ro β.ext_refl ro.ext_refl ⟨hs.h.less (fun _ _ h => h) (Taken.out hn), hs.sz, hs.t, hs.df⟩
  | @cons i rest S S' o hi v m' hs hr ih =>
    intro isDone β ro a w hl hnd hn hsat hq
    obtain ⟨hin, hid⟩ := hl i List.mem_cons_self
    rw [wpOpsIn_cons]
    have hle := hs.next hR
    refine step_in lp m hE hR hS hi hsat hs (fun k hk => Taken.fresh h0 hin hid k hk) (Taken.lt h0 hn) fun a' w' β' ro' hb hr' hsat' => ?_
    refine ih (fun j => isDone j ∨ j = i) β' ro' a' w' (fun j hj => ?_) (List.nodup_cons.1 hnd).2 (Nat.le_trans hn hle) ?_ (fun a'' w'' β'' ro'' k1 k2 k3 => hq a'' w'' β'' ro'' (Pl.ext_trans hb k1) (Snap.ext_trans hr' k2) k3)
    · obtain ⟨q1, q2⟩ := hl j (List.mem_cons_of_mem _ hj)
      exact ⟨q1, fun hor => hor.elim q2 fun e => (List.nodup_cons.1 hnd).1 (e ▸ hj)⟩
    · exact ⟨hsat'.h.less (fun _ _ h => h) (Taken.step hin hn hle), hsat'.sz, hsat'.t, hsat'.df⟩
theorem run_any_in (lp m : Nat) {D0 : Nat → Prop} {base : Nat} (h0 : ∀ id, D0 id → id < base) {fps : Nat → Foot} {Q : Exit → Go.Act → World → Prop} (hback : ∀ j o, ops[j]? = some o → ∀ e ∈ o.after.toList, Region.binds .any e = true → e.on < j)
    (hind : ∀ p q a b, p < q → ops[p]? = some a → ops[q]? = some b → (((ancs ops.toList)[q]?).getD 0).testBit p = true ∨ (Apart ops a b ∧ FootApart (fps p) (fps q))) :
    ∀ (n : Nat) (l : List Nat) (listed : Array Bool) (S S' : St) (β : Pl) (ro : Snap) (a : Go.Act) (w : World), l.length = n → Left ops listed l → RunL E R ops base fps l S S' →
    base + 64 * ops.size ≤ S.m.next → Sat w0 β ro (Taken D0 base ops.size (fun j => listed.getD j false = true) S.m.next) S a w →
    (∀ a' w' β' ro', β.ext β' → ro.ext ro' → Sat w0 β' ro' (fun id => D0 id ∨ (base ≤ id ∧ id < S'.m.next)) S' a' w' → Q .normal a' w') → wpAnyIn (Fence.wide.inRound lp) m P .any ops Q n listed a w := by
  intro n
  induction n with
  | zero =>
    intro l listed S S' β ro a w hlen hl hr hn hs hq
    have : l = [] := List.eq_nil_of_length_eq_zero hlen
    subst this
    refine ⟨?_, ?_⟩
    · rw [List.eq_nil_iff_forall_not_mem]
      intro i hi
      obtain ⟨h1, h2, _⟩ := ready_mem hi
      have := (hl.mem i).2 ⟨h1, h2⟩
      cases this
    · cases hr with
      | nil => exact hq a w β ro β.ext_refl ro.ext_refl ⟨hs.h.less (fun _ _ h => h) (Taken.out hn), hs.sz, hs.t, hs.df⟩
  | succ n ih =>
    intro l listed S S' β ro a w hlen hl hr hn hs hq
    refine ⟨fun hnil => ?_, fun i hi => ?_⟩
    ·
      cases l with
      | nil => simp at hlen
      | cons i r =>
        exfalso
        obtain ⟨h1, h2⟩ := (hl.mem i).1 List.mem_cons_self
        have ho := Array.getElem?_eq_getElem h1
        have : i ∈ Region.ready .any ops listed := by
          unfold Region.ready
          rw [List.mem_filter, List.mem_range]
          refine ⟨h1, ?_⟩
          simp only [Bool.and_eq_true, Bool.not_eq_true']
          refine ⟨h2, ?_⟩
          rw [ho]
          simp only [Option.map_some, Option.getD_some, Array.all_eq_true', Bool.or_eq_true, Bool.not_eq_true']
          intro e he
          cases hb : Region.binds .any e with
          | false => exact .inl rfl
          | true =>
            refine .inr ?_
            have hlt := hback i _ ho e (by simpa using he) hb
            cases hd : listed.getD e.on true with
            | false =>
              have hm := (hl.mem e.on).2 ⟨by omega, hd⟩
              have hpw := List.pairwise_cons.1 hl.sorted
              rcases List.mem_cons.1 hm with h | h
              · omega
              · have := hpw.1 _ h; omega
            | true =>
              have hsz : e.on < listed.size := by rw [hl.size]; omega
              rw [Array.getD_eq_getD_getElem?, Array.getElem?_eq_getElem hsz] at hd ⊢
              exact hd
        rw [hnil] at this; cases this
    · obtain ⟨h1, h2, o, ho, hdep⟩ := ready_mem hi
      have him := (hl.mem i).2 ⟨h1, h2⟩
      obtain ⟨pre, post, rfl⟩ := List.append_of_mem him
      obtain ⟨s1, s2, s3⟩ := sorted_split hl.sorted
      have hiL : i < listed.size := by rw [hl.size]; exact h1
      have hpre : ∀ j ∈ pre, ∀ oj, ops[j]? = some oj → Apart ops oj o ∧ FootApart (fps j) (fps i) := by
        intro j hj oj hoj
        rcases hind j i oj o (s1 j hj) hoj ho with h | h
        · exfalso
          have hlj := hl.anc (i + 1) i (by omega) o ho hdep j h
          obtain ⟨q1, q2⟩ := (hl.mem j).1 (List.mem_append_left _ hj)
          have hsz : j < listed.size := by rw [hl.size]; exact q1
          rw [Array.getD_eq_getD_getElem?, Array.getElem?_eq_getElem hsz] at hlj q2
          rw [Option.getD_some] at hlj q2
          rw [hlj] at q2; cases q2
        · exact h
      obtain ⟨v, m', k1, k2⟩ := RunL.front (fun _ _ _ _ _ h => (hR.good _ _ _ _ _ h).2.1) ho pre hpre hr
      have hnotdone : ¬ (listed.getD i false = true) := by
        rw [Array.getD_eq_getD_getElem?, Array.getElem?_eq_getElem hiL] at h2 ⊢
        rw [Option.getD_some] at h2 ⊢
        rw [h2]; simp
      have hle := k1.next hR
      refine step_in lp m hE hR hS ho hs k1 (fun k hk => Taken.fresh h0 h1 hnotdone k hk) (Taken.lt h0 hn) fun a' w' β' ro' hb hr' hsat' => ?_
      refine ih (pre ++ post) (listed.setIfInBounds i true) _ S' β' ro' a' w' (by simp at hlen ⊢; omega) ⟨by simp [hl.size], s2, fun j => ?_, fun j oj hoj hlj e he hbd => ?_⟩ k2 (Nat.le_trans hn hle) ?_
        (fun a'' w'' β'' ro'' q1 q2 q3 => hq a'' w'' β'' ro'' (Pl.ext_trans hb q1) (Snap.ext_trans hr' q2) q3)
      · rw [getD_set hiL]
        by_cases hji : j = i
        · subst hji; simp [s3]
        · rw [if_neg hji, ← hl.mem j]
          simp [hji]
      · rw [getD_set hiL] at hlj ⊢
        by_cases heo : e.on = i
        · simp [heo]
        · rw [if_neg heo]
          by_cases hji : j = i
          · subst hji
            rw [ho] at hoj; cases hoj
            exact hdep e he hbd
          · rw [if_neg hji] at hlj
            exact hl.closed j oj hoj hlj e he hbd
      · refine ⟨hsat'.h.less (fun _ _ h => h) fun id hid => ?_, hsat'.sz, hsat'.t, hsat'.df⟩
        have := Taken.step h1 hn hle id hid
        rcases this with h | ⟨j, q1, q2, q3, q4⟩ | h
        · exact .inl h
        · refine .inr (.inl ⟨j, q1, ?_, q3, q4⟩)
          show (listed.setIfInBounds i true).getD j false = true
          rw [getD_set hiL]
          rcases q2 with q2 | rfl
          · split
            · rfl
            · exact q2
          · simp
        · exact .inr (.inr h)
end
theorem regionK_in (lp m : Nat) (hE : TysOk P E) (hR : CallGood P R) (hS : SpecSound P E) (hmix : P.follows .mixedOrders = true) {call : CallK} (hc : CallDen R call) {draw : Bool} {X : Type} {S : St} {k : St → Tr X} {r : X}
    (h : (regionK E call ops draw S k).den = some r) : ∃ S', (k S').den = some r ∧ MFrame S.m S'.m ∧ ∀ (w0 : Pt) (β : Pl) (ro : Snap) (D0 : Nat → Prop) (a : Go.Act) (w : World) (id : Nat) (Q : Exit → Go.Act → World → Prop), (∀ id, D0 id → id < S.m.next) →
      Sat w0 β ro D0 S a w → (∀ a' w' β' ro', β.ext β' → ro.ext ro' → Sat w0 β' ro' (fun id => D0 id ∨ (S.m.next ≤ id ∧ id < S'.m.next)) S' a' w' → Q .normal a' w') → (Code.region id ops draw).wpIn (Fence.wide.inRound lp) m P Q a w := by
  unfold regionK at h
  obtain ⟨S1, ff, h1, h2⟩ := opsK_den hc ops.toList 0 (fun j => by simp) h
  simp only [List.reverse_nil, List.nil_append, Array.length_toList] at h1 h2
  have hrange : List.range' 0 ops.size = List.range ops.size := List.range_eq_range'.symm
  split at h2
  · rename_i hchk
    have hnext := h1.next hR
    simp only at hnext
    refine ⟨_, h2, ?_, ?_⟩
    · obtain ⟨new, e1, e2⟩ := h1.frame hR
      refine ⟨by simp only; omega, ((List.range' 0 ops.size).map ff).flatMap (·.wr) ++ new, by simp only; rw [e1, List.append_assoc], fun id hid hn => ?_⟩
      simp only [List.mem_append, not_or] at hn
      refine e2 id (by simp only; omega) hn.2 ?_
      simpa [List.flatMap_map] using hn.1
    · intro w0 β ro D0 a w rid Q hD0 hs hq
      have hs0 : ∀ isDone : Nat → Prop, (∀ j, ¬ isDone j) → Sat w0 β ro (Taken D0 S.m.next ops.size isDone (S.m.next + 64 * ops.size)) { S with m := { S.m with next := S.m.next + 64 * ops.size } } a w := fun isDone _ =>
        ⟨hs.h.less (fun _ _ h => h) (fun id hid => .inl hid), hs.sz, hs.t, hs.df⟩
      cases draw with
      | false =>
        refine wpIn_region ?_
        rw [← hrange]
        refine run_text_in hE hR hS lp m hD0 h1 (fun _ => False) β ro a w (fun i hi => ⟨by rw [hrange] at hi; exact List.mem_range.1 hi, fun h => h⟩) (by rw [hrange]; exact List.nodup_range) (Nat.le_refl _) (hs0 _ (fun _ h => h))
          fun a' w' β' ro' k1 k2 k3 => hq a' w' β' ro' k1 k2 ⟨k3.h, k3.sz, k3.t, k3.df⟩
      | true =>
        simp only [Bool.not_true, Bool.false_or, Bool.and_eq_true] at hchk
        refine wpIn_region_any hmix ?_
        have hl0 : Left ops (Array.replicate ops.size false) (List.range' 0 ops.size) := by
          refine ⟨by simp, ?_, fun j => ?_, fun j o _ hj => ?_⟩
          · rw [hrange]; exact List.pairwise_lt_range
          · rw [hrange, List.mem_range]
            constructor
            · intro h; exact ⟨h, by simp [Array.getD_eq_getD_getElem?, h]⟩
            · exact fun h => h.1
          · exfalso
            rw [Array.getD_eq_getD_getElem?, Array.getElem?_replicate] at hj
            split at hj <;> cases hj
        refine run_any_in hE hR hS lp m hD0 (fun j o ho => ?_) (fun p q x y hpq hp hq' => ?_) ops.size (List.range' 0 ops.size) _ _ S1 β ro a _ (by simp) hl0 h1 (Nat.le_refl _) ?_
          fun a' w' β' ro' k1 k2 k3 => hq a' w' β' ro' k1 k2 ⟨k3.h, k3.sz, k3.t, k3.df⟩
        · intro e he hb
          have := backB_spec ops.toList 0 hchk.1 j o (by simpa using ho) e he hb
          omega
        · have := indepAll_spec _ 0 [] hchk.2 p q _ _ hpq (by simpa using rowsOf_at rfl hp) (by simpa using rowsOf_at rfl hq') (by simp)
          exact this.imp (fun x => x) indep_spec
        · have hd : ∀ j, ¬ ((Array.replicate ops.size false).getD j false = true) := by
            intro j hj
            rw [Array.getD_eq_getD_getElem?, Array.getElem?_replicate] at hj
            split at hj <;> cases hj
          have := hs0 _ hd
          exact ⟨this.h.drew, this.sz, this.t, this.df⟩
  · simp [Tr.den] at h2
end Go.Cat

namespace Go.Cat
open Go Go.RowKit
variable {P : Program} {E : Env} {R : CallRel} {ops : Array Oper} {w0 : Pt} {β : Pl} {ro : Snap} {D : Nat → Prop} {w : World}
def Snap.sub (r r' : Snap) : Prop := ∀ a v, r.cell? a = some v → r'.cell? a = some v
theorem Rep.sub {r r' : Snap} (h : r.sub r') {l : Leaf} {v : Value} (hr : Rep r l v) : Rep r' l v := by
  induction hr with
  | int k n h => exact .int k n h
  | bool b => exact .bool b
  | str b h => exact .str b h
  | nil e => exact .nil e
  | sl e xs a cap us hs hc hm hcell hrep ih =>
    exact .sl e xs a cap us hs hc hm (fun i x j l hi hj => h _ _ (hcell i x j l hi hj)) ih
theorem RepS.sub {r r' : Snap} (h : r.sub r') {x : SV} {v : Value} (hr : RepS β r x v) : RepS β r' x v := by
  induction hr with
  | leaf h' => exact .leaf (h'.sub h)
  | lit h' => exact .lit h'
  | own hb => exact .own hb
  | win hb hl hc hm hn hs => exact .win hb hl hc hm hn hs
  | rptr us hc hr hs => exact .rptr us (fun j l hj => h _ _ (hc j l hj)) (fun j l hj => (hr j l hj).sub h) hs
  | optr hb hg hi => exact .optr hb hg hi
  | bptr hb hg => exact .bptr hb hg
  | fn h1 h2 _ _ i3 i4 => exact .fn h1 h2 i3 i4
  | iface _ ih => exact .iface ih
  | agg h1 _ ih => exact .agg h1 ih
  | tup h1 _ ih => exact .tup h1 ih
  | nn h' => exact .nn (h'.sub h)
  | any v => exact .any v
theorem RepL.sub {r r' : Snap} (h : r.sub r') {cs : List SV} {us : List Value} (hr : RepL β r cs us) : RepL β r' cs us :=
  ⟨hr.1, fun i c u hc hu => (hr.2 i c u hc hu).sub h⟩
theorem ObjAt.sub {r r' : Snap} (h : r.sub r') {hd : Hd} {o : SO} (ho : ObjAt β r w hd o) : ObjAt β r' w hd o := by
  cases o with
  | row et e xs =>
    obtain ⟨h1, h2, h3⟩ := ho
    refine ⟨h1, h2, ?_⟩
    cases hb : hd.blk with
    | none => simpa [hb] using h3
    | some g =>
      simp only [hb] at h3 ⊢
      obtain ⟨cur, k1, k2, k3, k4, k5⟩ := h3
      exact ⟨cur, k1, k2, k3, k4, fun i x j l hi hj => by obtain ⟨u, hu, hru⟩ := k5 i x j l hi hj; exact ⟨u, hu, hru.sub h⟩⟩
  | blk cs =>
    obtain ⟨g, cur, et, h1, h2, h3⟩ := ho
    exact ⟨g, cur, et, h1, h2, h3.sub h⟩
def Snap.cut (r : Snap) (N : Nat) : Snap := fun b => if b < N then r b else match r b with | some (.cells c t m) => some (.cells c t m) | _ => none
theorem Snap.cut_sub (r : Snap) (N : Nat) : r.sub (r.cut N) := by
  intro a v h
  unfold Snap.cell? at *
  cases hb : r a.block with
  | none => simp [hb] at h
  | some o =>
    have hc : (r.cut N) a.block = r a.block ∨ o.isCells = false := by
      unfold Snap.cut
      by_cases hN : a.block < N
      · rw [if_pos hN]; exact .inl rfl
      · rw [if_neg hN, hb]
        cases o <;> first | exact .inl rfl | exact .inr rfl
    rw [hb] at h
    rcases hc with hc | hc
    · rw [hc, hb]; exact h
    · cases o <;> first | cases h | cases hc
theorem Snap.cut_of {r : Snap} {N b : Nat} {o : Obj} (h : r.cut N b = some o) : r b = some o := by
  unfold Snap.cut at h
  split at h
  · exact h
  · split at h
    · rename_i hb; rw [hb]; exact h
    · cases h
theorem Snap.cut_cells {r : Snap} {N b : Nat} {o : Obj} (h : r.cut N b = some o) (hb : N ≤ b) : o.isCells = true := by
  unfold Snap.cut at h
  rw [if_neg (by omega)] at h
  split at h
  · cases h; rfl
  · cases h
theorem Snap.cut_low {r : Snap} {N b : Nat} (h : b < N) : r.cut N b = r b := by unfold Snap.cut; rw [if_pos h]
theorem HSat.resnap {objs : Heap} (h : HSat w0 β ro D objs w) {r' : Snap} (hsub : ro.sub r') (hle : r'.le w) (hlow : ∀ b, b < w0.heap.size → r' b = ro b) (hap : ∀ id o hd g, objs id = some o → β id = some hd → hd.blk = some g → r' g = none) : HSat w0 β r' D objs w :=
  ⟨h.base, fun b hb => (hlow b hb).trans (h.low b hb), h.old, hle, h.dom, h.lt, fun id o ho => by obtain ⟨hd, h1, h2⟩ := h.obj id o ho; exact ⟨hd, h1, h2.sub hsub⟩, hap, h.above, h.inj⟩
theorem HSat.cut {objs : Heap} (h : HSat w0 β ro D objs w) {N : Nat} (hN : w0.heap.size ≤ N) : HSat w0 β (ro.cut N) D objs w :=
  h.resnap (Snap.cut_sub ro N) (fun b o hb => h.snap b o (Snap.cut_of hb)) (fun b hb => Snap.cut_low (by omega)) (fun id o hd g h1 h2 h3 => by
    have := h.apart id o hd g h1 h2 h3
    cases hc : ro.cut N g with
    | none => rfl
    | some x => rw [Snap.cut_of hc] at this; cases this)
theorem HSat.grown {objs : Heap} (h : HSat w0 β ro D objs w) {w' : World} {row : Option Nat} (hg : w.grownBy w' row) {N : Nat} (hN : w0.heap.size ≤ N) (hrow : ∀ r, row = some r → N ≤ r ∧ ∃ o : Obj, w.heap[r]? = some o ∧ o.isCells = false)
    (hnc : ∀ b o, N ≤ b → ro b = some o → o.isCells = true) : HSat w0 β ro D objs w' := by
  have keep : ∀ k o, w.heap[k]? = some o → (k < N ∨ o.isCells = true) → w'.heap[k]? = some o := by
    intro k o hk hor
    refine (hg.block k (Array.getElem?_eq_some_iff.1 hk).1 fun e => ?_).trans hk
    obtain ⟨h1, o', h2, h3⟩ := hrow k e.symm
    rw [hk] at h2; cases h2
    rcases hor with hor | hor
    · omega
    · rw [h3] at hor; cases hor
  refine ⟨h.base.trans ⟨hg.os, hg.tape, hg.output, hg.size⟩, h.low, fun k hk => ?_, fun b o hb => ?_, h.dom, fun id hd g h1 h2 => Nat.lt_of_lt_of_le (h.lt id hd g h1 h2) hg.size, fun id o ho => ?_, h.apart, h.above, h.inj⟩
  · rw [← h.old k hk]
    refine hg.block k (Nat.lt_of_lt_of_le hk h.base.size) fun e => ?_
    have := (hrow k e.symm).1
    omega
  · have hb' := h.snap b o hb
    refine keep b o hb' ?_
    rcases Nat.lt_or_ge b N with hlt | hge
    · exact .inl hlt
    · exact .inr (hnc b o hge hb)
  · obtain ⟨hd, h1, h2⟩ := h.obj id o ho
    refine ⟨hd, h1, h2.mono β.ext_refl ro.ext_refl fun g hgb => ?_⟩
    have hcur : ∃ cur et, w.heap[g]? = some (.cells cur et (0, 0)) := by
      cases o with
      | row et e xs =>
        obtain ⟨_, _, h3⟩ := h2
        simp only [hgb] at h3
        obtain ⟨cur, k1, _⟩ := h3
        exact ⟨cur, et, k1⟩
      | blk cs =>
        obtain ⟨g', cur, et, e1, e2, _⟩ := h2
        rw [hgb] at e1; cases e1
        exact ⟨cur, et, e2⟩
    obtain ⟨cur, et, hc⟩ := hcur
    rw [hc, keep g _ hc (.inr rfl)]
open Classical in
noncomputable def Snap.all (r : Snap) (w0 : Pt) (β : Pl) (objs : Heap) (w : World) : Snap :=
  fun b => if w0.heap.size ≤ b ∧ ¬ ∃ id o hd, objs id = some o ∧ β id = some hd ∧ hd.blk = some b then w.heap[b]? else r b
theorem Snap.ext_all {objs : Heap} (h : ro.le w) : ro.ext (ro.all w0 β objs w) := by
  intro b o hb
  unfold Snap.all
  split
  · exact h _ _ hb
  · exact hb
theorem Snap.ext_sub {r r' : Snap} (h : r.ext r') : r.sub r' := fun _ _ hc => Snap.cell_ext h hc
theorem HSat.all {objs : Heap} (h : HSat w0 β ro D objs w) : HSat w0 β (ro.all w0 β objs w) D objs w := by
  refine h.resnap (Snap.ext_sub (Snap.ext_all h.snap)) (fun b o hb => ?_) (fun b hb => ?_) (fun id o hd g h1 h2 h3 => ?_)
  · unfold Snap.all at hb
    split at hb
    · exact hb
    · exact h.snap b o hb
  · unfold Snap.all
    rw [if_neg (by omega)]
  · unfold Snap.all
    rw [if_neg (fun hh => hh.2 ⟨id, o, hd, h1, h2, h3⟩)]
    exact h.apart id o hd g h1 h2 h3
theorem ObjAt.cells {hd : Hd} {o : SO} (h : ObjAt β ro w hd o) {g : Nat} (hg : hd.blk = some g) : ∃ cur et, w.heap[g]? = some (.cells cur et (0, 0)) := by
  cases o with
  | row et e xs =>
    obtain ⟨_, _, h3⟩ := h
    simp only [hg] at h3
    obtain ⟨cur, k1, _⟩ := h3
    exact ⟨cur, et, k1⟩
  | blk cs =>
    obtain ⟨g', cur, et, e1, e2, _⟩ := h
    rw [hg] at e1; cases e1
    exact ⟨cur, et, e2⟩
theorem keeps_all {objs objs' : Heap} {β' : Pl} {ro' : Snap} {D' : Nat → Prop} {w' : World} (h : HSat w0 β ro D objs w) (h' : HSat w0 β' ro' D' objs' w') (hβ : β.ext β') (hr : (ro.all w0 β objs w).ext ro') : KeepsOthers w w' := by
  have live : ∀ k, w0.heap.size ≤ k → k < w.heap.size → (∃ id o hd, objs id = some o ∧ β id = some hd ∧ hd.blk = some k) ∨ w'.heap[k]? = w.heap[k]? := by
    intro k hk hlt
    by_cases hl : ∃ id o hd, objs id = some o ∧ β id = some hd ∧ hd.blk = some k
    · exact .inl hl
    · right
      have hget := Array.getElem?_eq_getElem hlt
      have hs : ro.all w0 β objs w k = some w.heap[k] := by
        unfold Snap.all
        rw [if_pos ⟨hk, hl⟩, hget]
      rw [h'.snap _ _ (hr _ _ hs), hget]
  refine ⟨?_, fun k o hk ho => ?_⟩
  · rcases Nat.lt_or_ge w0.heap.size w.heap.size with hlt | hge
    · obtain ⟨k, hk⟩ : ∃ k, w.heap.size = k + 1 := ⟨w.heap.size - 1, by omega⟩
      rcases live k (by omega) (by omega) with ⟨id, o, hd, h1, h2, h3⟩ | hs
      · have := h'.lt id hd k (hβ _ _ h2) h3
        omega
      · have hget : w.heap[k]? = some w.heap[k] := Array.getElem?_eq_getElem (by omega)
        rw [hget] at hs
        have := (Array.getElem?_eq_some_iff.1 hs).1
        omega
    · exact Nat.le_trans hge h'.base.size
  · have hlt := (Array.getElem?_eq_some_iff.1 hk).1
    rcases Nat.lt_or_ge k w0.heap.size with h0 | h0
    · rw [h'.old k h0, ← h.old k h0, hk]
    · rcases live k h0 hlt with ⟨id, o', hd, h1, h2, h3⟩ | hs
      · obtain ⟨hd', m1, m2⟩ := h.obj id o' h1
        rw [h2] at m1; cases m1
        obtain ⟨cur, et, hc⟩ := m2.cells h3
        rw [hk] at hc; cases hc
        cases ho
      · rw [hs, hk]
theorem grown_sat {S : St} {a : Go.Act} (h : Sat w0 β ro D S a w) {w' : World} (hh : HSat w0 β ro D S.m.objs w') : Sat w0 β ro D S a w' := ⟨hh, h.sz, h.t, h.df⟩
structure ItemV (ro : Snap) {A : Type} (lf : A → Leaf) (items : List A) where
  v : Value
  x : A
  rep : Rep ro (lf x) v
  mem : x ∈ items
section
variable (hE : TysOk P E) (hR : CallGood P R) (hS : SpecSound P E)
include hE hR hS
theorem range_wp (hmix : P.follows .mixedOrders = true) {call : CallK} (hc : CallDen R call) {S : St} {a : Go.Act} (hs : Sat w0 β ro D S a w) (hD : ∀ id, D id → id < S.m.next) (hdefs : w0.defs = [])
    {sl : List (Nat × SigV)} {x0 : SigT sl} {js rs : List Nat} (hx0 : (sigOf S.tmps S.tmps sl).run S.m.objs [] = some ((x0, js), rs))
    (hkeep : ∀ y t, tmpAt (loopHead S.tmps S.m js sl y).tmps t = .any ∨ tmpAt (loopHead S.tmps S.m js sl y).tmps t = tmpAt S.tmps t)
    {A : Type} (lf : A → Leaf) (items : List A) (lst : List A → SigT sl) (hl0 : lst [] = x0) {p q : Nat} (hp : p < S.tmps.length) {draw : Bool} {rid ra bid ty : Nat} {pos : String}
    (hbody : ∀ pre x, pre.length < items.length → x ∈ items → (regionK E call ops draw { tmps := setT (setT (loopHead S.tmps S.m js sl (lst pre)).tmps (some p) (.leaf (lf x))) (some q) (.leaf (lf x)), m := (loopHead S.tmps S.m js sl (lst pre)).m } fun S' =>
      (sigOf S.tmps S'.tmps sl).k S'.m.objs [] fun q _ => match q with
        | (y, js') => match onlyWrote S.m.next js (js' ++ S'.m.wl) && Nat.beq S'.tmps.length S.tmps.length with
          | true => .ret y
          | false => .fail).den = some (lst (pre ++ [x])))
    {g : Operand} {gf n : Nat} {lb : Array Value} (hg : a.eval g = .func (.func gf) #[] lb) (eg : ∀ args w, (callFunc gf args).run P w = .ok (.enter gf args) w) (h1 : 1 ≤ n) {Sp : List (ItemV ro lf items) → Prop}
    (hseq : SeqStopsK Fence.wide (n - 1) P gf lb (fun y : ItemV ro lf items => #[y.v]) (fun W W' => ro.le W → ro.le W') (fun ys => ys.map (·.x) = items) Sp items.length w)
    {Q : Exit → Go.Act → World → Prop}
    (hdone : ∀ (d : Nat) (W : World) β3 ro3, w0.heap.size ≤ d → β.ext β3 → ro.ext ro3 → W.heap[d]? = some (.deferred (some [])) → ro3 d = some (.deferred (some [])) →
      Sat { w0 with defs := [{ target := .collected d, args := #[] }] } β3 ro3 (fun id => D id ∨ (S.m.next ≤ id ∧ id < (loopHead S.tmps S.m js sl (lst items)).m.next)) (loopHead S.tmps S.m js sl (lst items)) { a with defers := [{ target := .collected d, args := #[] }] } W →
      Q .normal { a with defers := [{ target := .collected d, args := #[] }] } W) :
    (Code.rangeFunc g #[p] (.region ra #[{ dst := some q, op := .assign (.tmp p), type := ty, pos := pos, after := #[], guard := none }] false) (.block bid (.region rid ops draw))).wpIn Fence.wide n P Q a w := by
  obtain ⟨is0, os0, hjs, hsig0, _, _⟩ := sigOf_run hx0
  have hent : Entry w0 S β D := ⟨hD, ro, a, w, hs⟩
  have hnone : ∀ b, w.heap.size ≤ b → ro b = none := fun b hb => by
    cases h : ro b with
    | none => rfl
    | some o =>
      have := (Array.getElem?_eq_some_iff.1 (hs.h.snap b o h)).1
      omega
  have hsz : w0.heap.size ≤ w.heap.size := hs.h.base.size
  have hact : ∀ {y : SigT sl} {β3 : Pl} {ro3 : Snap} {D3 : Nat → Prop} {a3 : Go.Act} {W : World}, β.ext β3 → ro.ext ro3 → Sat w0 β3 ro3 D3 (loopHead S.tmps S.m js sl y) a3 W → Sat w0 β3 ro3 D3 (loopHead S.tmps S.m js sl y) a W := by
    intro y β3 ro3 D3 a3 W h1 h2 h3
    refine ⟨h3.h, ?_, fun t => ?_, hs.df⟩
    · rw [hs.sz]
      have := (headSig_frame hsig0 y { tmps := S.tmps.map fun _ => .any, m := { objs := putAll S.m.objs (freezeAll js), next := S.m.next, wl := [] } }).2.2.1
      simp only [loopHead]
      rw [this]; simp
    · rcases hkeep y t with h | h
      · rw [h]; exact .any _
      · rw [h]; exact (hs.t t).mono h1 h2
  obtain ⟨I, hI⟩ : ∃ I : List (ItemV ro lf items) → World → Prop, I = fun pre W => ∃ β3 ro3, β.ext β3 ∧ ro.ext ro3 ∧ (∀ b o, w.heap.size ≤ b → ro3 b = some o → o.isCells = true) ∧
      Sat w0 β3 ro3 (fun id => D id ∨ (S.m.next ≤ id ∧ id < (loopHead S.tmps S.m js sl (lst (pre.map (·.x)))).m.next)) (loopHead S.tmps S.m js sl (lst (pre.map (·.x)))) a W := ⟨_, rfl⟩
  have hto : ∀ {pre : List (ItemV ro lf items)} {W : World} {β3 : Pl} {ro3 : Snap} {a3 : Go.Act}, β.ext β3 → ro.ext ro3 → Sat w0 β3 ro3 (fun id => D id ∨ (S.m.next ≤ id ∧ id < (loopHead S.tmps S.m js sl (lst (pre.map (·.x)))).m.next)) (loopHead S.tmps S.m js sl (lst (pre.map (·.x)))) a3 W → I pre W := by
    intro pre W β3 ro3 a3 h1 h2 h3
    rw [hI]
    have h4 := hact h1 h2 h3
    refine ⟨β3, ro3.cut w.heap.size, h1, fun b o hb => ?_, fun b o hb hc => Snap.cut_cells hc hb, ⟨h4.h.cut hsz, h4.sz, fun t => (h4.t t).sub (Snap.cut_sub ro3 _), h4.df⟩⟩
    rw [Snap.cut_low]
    · exact h2 b o hb
    · exact (Array.getElem?_eq_some_iff.1 (hs.h.snap b o hb)).1
  refine wpIn_rangeFunc_ownF rfl h1 hg trivial eg hseq (fun h k => k ∘ h) (fun W l o o' hl hW _ _ hle b o'' hb => ?_) (Below.refl _ _) (fun x => rfl) I (fun _ _ _ => False) ?_ (fun _ _ _ _ _ h => h.elim) ?_
    (fun x => { tmps := (a.tmps.setIfInBounds p x.v).setIfInBounds q x.v, defers := [] }) ?_ ?_ ?_ (fun _ _ _ _ _ _ h => h.elim)
  ·
    have hne : b ≠ l := by
      rintro rfl
      rw [hnone b hl] at hb; cases hb
    rw [World.putObj_heap_other hne]
    exact hle b o'' hb
  ·
    intro pre W W' row hpre hgr hrow
    rw [hI] at hpre ⊢
    obtain ⟨β3, ro3, h1, h2, h3, h4⟩ := hpre
    exact ⟨β3, ro3, h1, h2, h3, grown_sat h4 (h4.h.grown hgr hsz hrow h3)⟩
  ·
    obtain ⟨β3, ro3, r1, r2, r3⟩ := relay (js := js) hent (fun _ h => .inl h) β.ext_refl hs rfl hx0 (fun id _ hn => ⟨rfl, hn⟩)
    exact hto (pre := []) r1 r2 (by simpa [hl0] using r3)
  ·
    intro l x W K hK
    have hsz' : p < a.tmps.size := by rw [hs.sz]; exact hp
    have hget : (a.tmps.setIfInBounds p x.v).getD p undef = x.v := by simp [Array.getD_eq_getD_getElem?, hsz']
    gi_wp2
    exact hK
  ·
    intro l pre x W hpre hlen
    rw [hI] at hpre
    obtain ⟨β3, ro3, k1, k2, k3, k4⟩ := hpre
    have hrx : RepS β3 (ro3.all w0 β3 (loopHead S.tmps S.m js sl (lst (pre.map (·.x)))).m.objs W) (.leaf (lf x.x)) x.v := .leaf ((x.rep.mono k2).mono (Snap.ext_all k4.h.snap))
    have hro := Snap.ext_all (w0 := w0) (β := β3) (objs := (loopHead S.tmps S.m js sl (lst (pre.map (·.x)))).m.objs) k4.h.snap
    have hfr := headSig_frame hsig0 (lst (pre.map (·.x))) { tmps := S.tmps.map fun _ => .any, m := { objs := putAll S.m.objs (freezeAll js), next := S.m.next, wl := [] } }
    have hb := hbody (pre.map (·.x)) x.x (by simpa using hlen) x.mem
    obtain ⟨S1, d1, d2, d3⟩ := regionK_in l (n - 1 - 1) hE hR hS hmix hc hb
    refine wpIn_block ?_
    have hst : Sat w0 β3 (ro3.all w0 β3 (loopHead S.tmps S.m js sl (lst (pre.map (·.x)))).m.objs W) (fun id => D id ∨ (S.m.next ≤ id ∧ id < (loopHead S.tmps S.m js sl (lst (pre.map (·.x)))).m.next))
        { tmps := setT (setT (loopHead S.tmps S.m js sl (lst (pre.map (·.x)))).tmps (some p) (.leaf (lf x.x))) (some q) (.leaf (lf x.x)), m := (loopHead S.tmps S.m js sl (lst (pre.map (·.x)))).m }
        { tmps := (a.tmps.setIfInBounds p x.v).setIfInBounds q x.v, defers := [] } W := by
      have h5 := (k4.put β3.ext_refl hro k4.h.all hrx (some p)).put (m' := (loopHead S.tmps S.m js sl (lst (pre.map (·.x)))).m) β3.ext_refl (Snap.ext_refl _) k4.h.all hrx (some q)
      exact ⟨h5.h, h5.sz, h5.t, hdefs.symm⟩
    refine d3 w0 β3 _ _ _ W rid _ (then_lt hD hfr.1) hst fun a' w' β' ro' q1 q2 q3 => ?_
    obtain ⟨⟨y', js'⟩, rs', hy', hd'⟩ := OT.k_den _ _ d1
    simp only at hd'
    split at hd'
    · rename_i hchk
      simp only [Bool.and_eq_true] at hchk
      simp only [Tr.den] at hd'
      cases hd'
      have hw := onlyWrote_spec hchk.1
      obtain ⟨hn1, new, hn2, hn3⟩ := d2
      have hlink : ∀ id, id < S.m.next → id ∉ js → S1.m.objs id = S.m.objs id ∧ id ∉ js' := by
        intro id hid hnj
        have hnot : ∀ i ∈ js' ++ S1.m.wl, i ≠ id := by
          rintro i hi rfl
          rcases hw i hi with h | h
          · omega
          · exact hnj h
        refine ⟨?_, fun hm => hnot id (List.mem_append_left _ hm) rfl⟩
        have hwl : S1.m.wl = new := by rw [hn2]; simp [loopHead, hfr.2.1]
        rw [hn3 id (Nat.lt_of_lt_of_le hid hfr.1) (fun hm => hnot id (List.mem_append_right _ (hwl ▸ hm)) rfl)]
        have := hfr.2.2.2 id hid (fun hm => hnj (hjs ▸ List.mem_append_right _ hm))
        simp only [loopHead]
        rw [this]
        simp only
        rw [putAll_freeze, if_neg hnj]
      obtain ⟨β4, ro4, r1, r2, r3⟩ := relay hent (fun id hid => by
        rcases hid with (h | h) | h
        · exact .inl h
        · exact .inr h.1
        · exact .inr (Nat.le_trans hfr.1 h.1)) (Pl.ext_trans k1 q1) q3 (Nat.eq_of_beq_eq_true hchk.2) hy' hlink
      have hx4 : ro.ext ro4 := Snap.ext_trans k2 (Snap.ext_trans hro (Snap.ext_trans q2 r2))
      show ownPostK (fun W W' => ro.le W → ro.le W') I (fun _ _ _ => False) _ W .normal a' w'
      refine ⟨keeps_all k4.h q3.h q1 q2, fun _ b o hb => r3.h.snap b o (hx4 b o hb), hto r1 hx4 (by simpa using r3)⟩
    · simp [Tr.den] at hd'
  ·
    intro d xs W hd hxs hpre hW
    rw [hI] at hpre
    obtain ⟨β3, ro3, k1, k2, k3, k4⟩ := hpre
    rw [hxs] at k4
    have had : a.defers = [] := hs.df.trans hdefs
    rw [had]
    let ro5 : Snap := fun b => if b = d then some (.deferred (some [])) else ro3 b
    have hd3 : ro3 d = none ∨ ro3 d = some (.deferred (some [])) := by
      cases h : ro3 d with
      | none => exact .inl rfl
      | some o => right; have := k4.h.snap d o h; rw [hW] at this; rw [this]
    have hx5 : ro3.ext ro5 := by
      intro b o hb
      simp only [ro5]
      split
      · rename_i he; subst he
        rcases hd3 with h | h
        · rw [h] at hb; cases hb
        · rw [h] at hb; exact hb
      · exact hb
    have h5 : HSat w0 β3 ro5 _ _ W := k4.h.resnap (Snap.ext_sub hx5) (fun b o hb => by
        simp only [ro5] at hb
        split at hb
        · rename_i he; subst he; cases hb; exact hW
        · exact k4.h.snap b o hb) (fun b hb => by
        simp only [ro5]
        rw [if_neg (by omega)]) (fun id o hd g e1 e2 e3 => by
        simp only [ro5]
        split
        · rename_i he; subst he
          obtain ⟨hd', m1, m2⟩ := k4.h.obj id o e1
          rw [e2] at m1; cases m1
          obtain ⟨cur, et, hc⟩ := m2.cells e3
          rw [hW] at hc; cases hc
        · exact k4.h.apart id o hd g e1 e2 e3)
    refine hdone d W β3 ro5 (by omega) k1 (Snap.ext_trans k2 hx5) hW (by simp [ro5]) ⟨h5.defs _, k4.sz, fun t => (k4.t t).mono β3.ext_refl hx5, rfl⟩
end
end Go.Cat

namespace Go.Cat
open Go Go.RowKit
variable {P : Program} {E : Env} {w0 : Pt} {β : Pl} {ro : Snap} {D : Nat → Prop} {w : World}
def finK (E : Env) (fn : Func) (results : List EN) (S : St) : Tr (TT results) :=
  (resultsT E S.tmps fn.results.toList fun vs => ret (oneOr vs)).k S.m.objs [] fun v _ => (toTT results (outSV v.1 results.length) fun r _ => OT.out r).k S.m.objs [] fun r _ => .ret r
def mark (d : Nat) : Deferred := { target := .collected d, args := #[] }
def SpecPost (ro0 : Snap) (w0 : World) (results : List EN) (r : TT results) : Ending → World → Prop := fun e w' =>
  ∃ outs ro', e = .returned (oneV outs) ∧ Base w0 w' ∧ (∀ k, k < w0.heap.size → w'.heap[k]? = w0.heap[k]?) ∧ ro0.ext ro' ∧ ro'.le w' ∧ (∀ b, b < w0.heap.size → ro' b = ro0 b) ∧ RepTT ro' results r outs
theorem HSat.lowExt {objs : Heap} (h : HSat w0 β ro D objs w) (hle : w0.ro0.le w0.toWorld) : w0.ro0.ext ro := by
  intro b o hb
  have : b < w0.heap.size := (Array.getElem?_eq_some_iff.1 (hle b o hb)).1
  rw [h.low b this]; exact hb
theorem fin_run (hE : TysOk P E) {fn : Func} {results : List EN} {r : TT results} {S : St} (hfin : (finK E fn results S).den = some r) {a : Go.Act} (hs : Sat w0 β ro D S a w) (hle : w0.ro0.le w0.toWorld) :
    ∃ v, (Go.results fn a.tmps).run P w = .ok v w ∧ SpecPost w0.ro0 w0.toWorld results r (.returned v) w := by
  obtain ⟨⟨v, u⟩, rs, k1, k2⟩ := OT.k_den _ _ hfin
  obtain ⟨svs, rs', us, r1, r2, r3⟩ := resultsT_sound hE hs fn.results.toList k1
  obtain ⟨rfl, rfl⟩ := ret_inv r1
  refine ⟨_, results_run r2, ?_⟩
  obtain ⟨r', rs2, l1, l2⟩ := OT.k_den _ _ k2
  simp only [Tr.den] at l2
  cases l2
  obtain ⟨y, is, rs3, t1, t2⟩ := toTT_run l1
  simp only [OT.run] at t2
  cases t2
  have q3 := oneOr_rep r3
  have hlen := ttOf_length t1
  have houts : ∃ outs, RepL β ro (outSV (oneOr svs) results.length) outs ∧ oneV outs = (if hh : us.toArray.size = 1 then us.toArray[0] else .tuple us.toArray) := by
    generalize hv : oneOr svs = v at q3 hlen t1
    generalize (if hh : us.toArray.size = 1 then us.toArray[0] else Value.tuple us.toArray) = u at q3
    unfold outSV
    split
    · exact ⟨[u], .cons q3 (.nil _ _), rfl⟩
    · rename_i l hne
      cases q3 with
      | @tup _ us b1 b2 =>
        refine ⟨us, ⟨b1, b2⟩, ?_⟩
        rw [outSV_tup hne] at hlen
        have hl : us.length ≠ 1 := by rw [b1, hlen]; exact hne
        unfold oneV
        rw [dif_neg (by simpa using hl)]
    · exact ⟨[u], .cons q3 (.nil _ _), rfl⟩
  obtain ⟨outs, o1, o2⟩ := houts
  obtain ⟨a1, a2⟩ := ttOf_rep hs.h t1 o1
  have hfz := hs.h.freeze is a1
  exact ⟨outs, ro.plus β w is, by rw [o2], hfz.base, hfz.old, Snap.ext_trans (hs.h.lowExt hle) (Snap.ext_plus hs.h.snap β is), hfz.snap, hfz.low, a2 is fun _ h => h⟩
theorem fin_plain (hE : TysOk P E) {fn : Func} {results : List EN} {r : TT results} {S : St} (hfin : (finK E fn results S).den = some r) {a : Go.Act} (hs : Sat w0 β ro D S a w) (hdefs : w0.defs = []) (hle : w0.ro0.le w0.toWorld) {n : Nat} :
    bodyPostM Fence.wide n P fn (SpecPost w0.ro0 w0.toWorld results r) .ret a w := by
  show LeavesInM Fence.wide n P fn a.tmps _ a.defers .returning w
  rw [hs.df, hdefs]
  exact fin_run hE hfin hs hle
theorem fin_mark (hE : TysOk P E) {fn : Func} {results : List EN} {r : TT results} {S : St} (hfin : (finK E fn results S).den = some r) {a : Go.Act} (hs : Sat w0 β ro D S a w) {d : Nat} (hdefs : w0.defs = [mark d]) (hd : w0.heap.size ≤ d) (hrd : ro d = some (.deferred (some []))) (hle : w0.ro0.le w0.toWorld) {n : Nat} :
    bodyPostM Fence.wide n P fn (SpecPost w0.ro0 w0.toWorld results r) .ret a w := by
  show LeavesInM Fence.wide n P fn a.tmps _ a.defers .returning w
  rw [hs.df, hdefs]
  have hW := hs.h.snap d _ hrd
  refine ⟨by simp, .inl ⟨d, _, rfl, run_takeDeferred hW, ?_⟩⟩
  have h1 : HSat w0 β (ro.cut w0.heap.size) D S.m.objs w := hs.h.cut (Nat.le_refl _)
  have h2 := h1.grown (grownBy_putObj' w d (.deferred none)) (Nat.le_refl _) (fun k e => by cases e; exact ⟨hd, _, hW, rfl⟩) (fun b o hb hc => Snap.cut_cells hc hb)
  exact fin_run hE hfin ⟨h2, hs.sz, fun t => (hs.t t).sub (Snap.cut_sub ro _), hs.df⟩ hle
theorem frozen_at {S : St} {a : Go.Act} (hs : Sat w0 β ro D S a w) {id : Nat} {cs : List SV} (ho : S.m.objs id = some (.blk cs)) :
    ∃ (hd : Hd) (g : Nat) (cur : Array Value), β id = some hd ∧ hd.blk = some g ∧ RepL β ro cs cur.toList ∧ (∀ W, (ro.plus β w [id]).le W → ∀ j v, cur.toList[j]? = some v → W.cell? ⟨g, j, none⟩ = some v) ∧
      Sat w0 β (ro.plus β w [id]) D { S with m := { S.m with objs := putAll S.m.objs (freezeAll [id]) } } a w := by
  obtain ⟨hd, hb, g, cur, et, m1, m2, m3⟩ := hs.h.obj id _ ho
  refine ⟨hd, g, cur, hb, m1, m3, fun W hW j v hj => ?_, ⟨hs.h.freeze [id] (fun i hi => by rw [List.mem_singleton.1 hi, ho]; rfl), hs.sz, fun t => (hs.t t).mono β.ext_refl (Snap.ext_plus hs.h.snap β [id]), hs.df⟩⟩
  have : (ro.plus β w [id]) g = some (.cells cur et (0, 0)) := by
    unfold Snap.plus
    rw [if_pos ⟨id, List.mem_singleton.2 rfl, hd, hb, m1⟩, m2]
  have := hW g _ this
  rw [cell_of_row W g j cur et (0, 0) this]
  simpa using hj
end Go.Cat

namespace Go.Cat
open Go Go.Proofs Go.RowKit Go.Shelf
set_option maxRecDepth 100000 in
set_option maxHeartbeats 2000000 in
theorem ring_at_in (F : Fence) (n : Nat) (h : F.fn 143) (hro : F.round = none) (a : Option Addr) (len cap : Nat) (fr mn k : Int) (w : World) (hlen : 0 < len) :
    CallsIn F n Tryz.prog 143 #[.agg #[.slice a len cap, .int .i64 fr, .int .i64 mn], .int .i64 k] w fun e w' => e = .returned (.int .i64 (Int.tmod (wrap64 (fr + k)) len)) ∧ w' = w.alloc (.cells #[.slice a len cap, .int .i64 fr, .int .i64 mn] 215) := by
  refine callsIn_of_wp Tryz.func143 rfl h ?_ hro
  simp only [Tryz.ntmps143, List.size_toArray, List.length_cons, List.length_nil, Nat.reduceAdd, Nat.reduceSub, Array.replicate_succ, Array.replicate_zero, List.push_toArray, List.append_toArray, List.nil_append, List.cons_append]
  gi_wp2
  go_ret
  exact ⟨rfl, rfl⟩
theorem take_next {α : Type} (ys : List α) (k : Nat) (h : k < ys.length) : ys.take (k + 1) = ys.take k ++ [ys[k]] := by
  rw [List.take_succ_eq_append_getElem h]
set_option maxRecDepth 100000 in
set_option maxHeartbeats 4000000 in
theorem ring_used1_in {α : Type} (enc : α → Value) (ys : List α) (n : Nat) (l Bs b off len cap : Nat) (fr : Int) (hlen : 0 < len) (hmn : ys.length ≤ 64) (idx : Nat → Nat)
    (hidx : ∀ k, k < ys.length → Int.tmod (wrap64 (fr + (k : Int))) (len : Int) = (idx k : Int) ∧ idx k < len) (G : World → Prop) (hGa : ∀ W o, G W → G (W.alloc o)) (hGd : ∀ W, G W → G W.drew)
    (hG0 : ∀ W, G W → W.cell? ⟨Bs, 0, none⟩ = some (.slice (some ⟨b, off, none⟩) len cap)) (hG1 : ∀ W, G W → W.cell? ⟨Bs, 1, none⟩ = some (.int .i64 fr)) (hG2 : ∀ W, G W → W.cell? ⟨Bs, 2, none⟩ = some (.int .i64 (ys.length : Int)))
    (hGc : ∀ W, G W → ∀ j (h : j < ys.length), W.cell? ⟨b, off + idx j, none⟩ = some (enc ys[j])) (J Jx : List α → World → Prop) (W : World) (hJa : AbidesFrom W.heap.size J)
    (hY : ∀ pre x W, J pre W → pre.length < ys.length → YieldAt Fence.wide (n - 1) Tryz.prog l #[enc x] W fun e W' =>
      (e = .returned (.bool true) ∧ J (pre ++ [x]) W' ∧ (G W → G W')) ∨ (e = .returned (.bool false) ∧ Jx (pre ++ [x]) W'))
    (hGW : G W) (h0 : J [] W) :
    CallsIn Fence.wide n Tryz.prog 233 #[.func (.yield l) #[] #[], .pointer (some ⟨Bs, 0, none⟩)] W fun e W' => (∃ v, e = .returned v) ∧
      ((∃ xs, xs = ys ∧ J xs W') ∨ (∃ pre, True ∧ Jx pre W')) := by
  have hm : Tryz.prog.follows .mixedOrders = true := by kernel_rfl
  have c0 := hG0 W hGW
  have c1 := hG1 W hGW
  have c2 := hG2 W hGW
  refine callsIn_of_wp Tryz.func233 rfl trivial ?_ rfl
  simp only [Tryz.ntmps233, List.size_toArray, List.length_cons, List.length_nil, Nat.reduceAdd, Nat.reduceSub, Array.replicate_succ, Array.replicate_zero, List.push_toArray, List.append_toArray, List.nil_append, List.cons_append]
  gi_wp2
  gi_loopw [6] (fun i wr => ∃ k : Nat, k ≤ ys.length ∧ i = .int .i64 k ∧ J (ys.take k) wr ∧ G wr)
    (fun i _ => ys.length - (intOf i).toNat)
  case atStart => exact ⟨0, Nat.zero_le _, rfl, h0, hGW⟩
  case round =>
    obtain ⟨k, hk, rfl, hJs, hnx⟩ := hrel
    by_cases hlt : k < ys.length
    · obtain ⟨i1, i2⟩ := hidx k hlt
      have e0 := hG0 wr hnx
      have e1 := hG1 wr hnx
      have e2 := hG2 wr hnx
      have e3 := hGc wr hnx k hlt
      let o : Obj := .cells #[.slice (some ⟨b, off, none⟩) len cap, .int .i64 fr, .int .i64 ys.length] 215
      have a0 := hG0 _ (hGa wr o hnx)
      have a1 := hG1 _ (hGa wr o hnx)
      have a2 := hG2 _ (hGa wr o hnx)
      have a3 := hGc _ (hGa wr o hnx) k hlt
      have hJ1 : J (ys.take k) (wr.alloc o).drew :=
        hJa _ wr _ none hJs ⟨rfl, rfl, rfl, by simp, fun b hb _ => Below.heap_alloc wr o b hb⟩ (fun r e => by cases e)
      obtain ⟨fn, tmps, assign, body, hy, hR⟩ := hY _ ys[k] _ hJ1 (by rw [List.length_take]; omega)
      have hat : ∀ (m : Nat) (W : World), CallsIn Fence.wide m Tryz.prog 143 #[.agg #[.slice (some ⟨b, off, none⟩) len cap, .int .i64 fr, .int .i64 ys.length], .int .i64 k] W fun e w' => e = .returned (.int .i64 (idx k)) ∧ w' = W.alloc o := fun m W => by
        have := ring_at_in Fence.wide m trivial rfl (some ⟨b, off, none⟩) len cap fr ys.length k W hlen
        rwa [i1] at this
      have q1 : (0 : Int) ≤ (idx k : Int) := by omega
      have q2 : (idx k : Int) < (len : Int) := by omega
      gi_wp2
      have hR' : RoundIn Fence.wide (n - 1) Tryz.prog l fn tmps assign body (wr.alloc o).drew fun e W' => ∃ t : Bool, e = .returned (.bool t) ∧ ((t = true ∧ J (ys.take (k + 1)) W' ∧ G W') ∨ (t = false ∧ Jx (ys.take (k + 1)) W')) := by
        refine hR.mono ?_
        rintro e W' (⟨rfl, h1, h2⟩ | ⟨rfl, h1⟩)
        · exact ⟨true, rfl, .inl ⟨rfl, by rw [take_next _ _ hlt]; exact h1, h2 (hGd _ (hGa _ _ hnx))⟩⟩
        · exact ⟨false, rfl, .inr ⟨rfl, by rw [take_next _ _ hlt]; exact h1⟩⟩
      gi_region_with_o (first
        | (refine ⟨trivial, (fun h => by cases h), ?_⟩; refine (hat _ _).mono ?_; rintro e w' ⟨rfl, rfl⟩)
        | (refine ⟨(fun h => by cases h), ?_⟩; refine hR'.mono ?_; rintro e W3 ⟨t, rfl, ht⟩))
      all_goals
        rcases ht with ⟨rfl, hJ3, hk3⟩ | ⟨rfl, hJx3⟩
        · gi_wp2
          go_roundw
          case rel => exact ⟨k + 1, by omega, by simp, hJ3, hk3⟩
          case measure => simp [intOf]; omega
        · gi_wp2
          refine bodyPost_ret (results_none rfl _ _ _) rfl ?_
          exact ⟨⟨_, rfl⟩, .inr ⟨_, trivial, hJx3⟩⟩
    · obtain rfl : k = ys.length := by omega
      gi_wp2
      go_end0
      exact ⟨⟨_, rfl⟩, .inl ⟨_, rfl, by simpa using hJs⟩⟩
end Go.Cat

set_option maxHeartbeats 0
namespace Go.Cat
open Go Go.Proofs.Tryz Go.RowKit
def codeL : Code → Code | .seq a _ => a | c => c
def codeR : Code → Code | .seq _ b => b | c => c
def codeB : Code → Code | .block _ b => b | c => c
def codeT : Code → Code | .cond _ a _ => a | c => c
def rangeB : Code → Code | .rangeFunc _ _ _ b => b | c => c
def regOps : Code → Array Oper | .region _ o _ => o | _ => #[]
def bodyOf (f : Func) : Code := f.body.getD .skip
noncomputable def rgB : Code := bodyOf f136
noncomputable def rg0 : Code := codeL rgB
noncomputable def rgX : Code := codeL (codeR rgB)
noncomputable def rg1 : Code := codeL rgX
noncomputable def rg2 : Code := codeL (codeR rgX)
noncomputable def rg3 : Code := codeT (codeR (codeR rgX))
noncomputable def rgY : Code := codeL (codeR (codeR rgB))
noncomputable def rg4 : Code := codeL rgY
noncomputable def rgO : Array Oper := regOps (codeB (rangeB (codeB (codeR rgY))))
noncomputable def rg7 : Code := codeR (codeR (codeR rgB))
theorem rg_body : f136.body = some (rg0.seq ((rg1.seq (rg2.seq (.cond (.tmp 9) rg3 .skip))).seq ((rg4.seq (.block 0 (.rangeFunc (.tmp 13) #[14]
    (.region 5 #[{ dst := some 5, op := .assign (.tmp 14), type := 48, pos := "ring.go:98", after := #[], guard := none }] false) (.block 1 (.region 6 rgO true))))).seq rg7))) := by kernel_rfl
noncomputable def envR : Env := { ty := tys, specs := [(139, s139), (141, s141)], inl := [(142, f142), (204, f204)], hints := hnts }
noncomputable def envR1 (r : TT [(.int .i64)]) : Env := { envR with specs := [(139, { params := [(.st .Queue)], results := [(.int .i64)], own := none, fn := fun _ => some r }), (141, s141)] }
noncomputable def rgS0 (q : Queue) : St := { tmps := [datSV (.st .Queue) q] ++ List.replicate 20 (.lit (.tuple #[])), m := { objs := fun _ => none, next := 0, wl := [] } }
noncomputable def preK (E : Env) (q : Queue) : Tr St :=
  codeK E (callK E 8) 136 rg0 (rgS0 q) fun e S => match e with
    | .normal => codeK E (callK E 8) 136 rg1 S fun e S => match e with
      | .normal => codeK E (callK E 8) 136 rg2 S fun e S => match e with
        | .normal => .ret S
        | _ => .fail
      | _ => .fail
    | _ => .fail
def St0 : St := { tmps := [], m := { objs := fun _ => none, next := 0, wl := [] } }
noncomputable def stA (q : Queue) (r : TT [(.int .i64)]) : St := (preK (envR1 r) q).den.getD St0
theorem T_pre (q : Queue) : (preK envR q).den = Option.bind (N_ring_Check (q, ())) fun r => some (stA q r) := by kernel_rfl
theorem T_bad (q : Queue) : (codeK envR (callK envR 8) 136 rg3 (stA q (8, ())) fun e S => match e with | .ret => finK envR f136 [(.sl (.sl (.int .u8))), (.int .i64)] S | _ => .fail).den = some ([], (8, ())) := by kernel_rfl
theorem T_c8 (q : Queue) : tmpAt (stA q (8, ())).tmps 9 = .leaf (.bool true) := by kernel_rfl
theorem T_c0 (q : Queue) : tmpAt (stA q (0, ())).tmps 9 = .leaf (.bool false) := by kernel_rfl
noncomputable def midK (q : Queue) : Tr St := codeK envR (callK envR 8) 136 rg4 (stA q (0, ())) fun e S => match e with | .normal => .ret S | _ => .fail
noncomputable def stB (q : Queue) : St := (midK q).den.getD St0
theorem T_mid (q : Queue) : (midK q).den = some (stB q) := by kernel_rfl
noncomputable def idB (q : Queue) : Nat := match tmpAt (stB q).tmps 13 with | .fn _ _ [.bptr id _] => id | _ => 0
theorem T_box (q : Queue) : (stB q).m.objs (idB q) = some (.blk [.leaf (.sl (.sl (.int .u8)) q.items), .leaf (.int .i64 q.head), .leaf (.int .i64 q.many)]) := by kernel_rfl
noncomputable def stC (q : Queue) : St := { stB q with m := { (stB q).m with objs := putAll (stB q).m.objs (freezeAll [idB q]) } }
def rgSl : List (Nat × SigV) := [(2, .cls [.own 48 (.sl (.int .u8))])]
def rgY0 (l : List (List Int)) : SigT rgSl := ((l, ()), ())
noncomputable def rgJ (q : Queue) : List Nat := match (sigOf (stC q).tmps (stC q).tmps rgSl).run (stC q).m.objs [] with | some ((_, js), _) => js | _ => []
noncomputable def rgR (q : Queue) : List Nat := match (sigOf (stC q).tmps (stC q).tmps rgSl).run (stC q).m.objs [] with | some ((_, _), rs) => rs | _ => []
theorem T_sig (q : Queue) : (sigOf (stC q).tmps (stC q).tmps rgSl).run (stC q).m.objs [] = some ((rgY0 [], rgJ q), rgR q) := by kernel_rfl
noncomputable def rgH (q : Queue) (l : List (List Int)) : St := loopHead (stC q).tmps (stC q).m (rgJ q) rgSl (rgY0 l)
theorem T_body (q : Queue) (l : List (List Int)) (x : List Int) : (regionK envR (callK envR 8) rgO true { tmps := setT (setT (rgH q l).tmps (some 14) (.leaf (.sl (.int .u8) x))) (some 5) (.leaf (.sl (.int .u8) x)), m := (rgH q l).m } fun S' =>
      (sigOf (stC q).tmps S'.tmps rgSl).k S'.m.objs [] fun q1 _ => match q1 with
        | (y, js') => match onlyWrote (stC q).m.next (rgJ q) (js' ++ S'.m.wl) && Nat.beq S'.tmps.length (stC q).tmps.length with
          | true => .ret y
          | false => .fail).den = Option.bind (N_ring_text (x, ())) fun r => (if decide (l.length + 1 ≤ big) = true then some (rgY0 (l ++ [r.1])) else none) := by kernel_rfl
theorem T_end (q : Queue) (l : List (List Int)) : (codeK envR (callK envR 8) 136 rg7 (rgH q l) fun e S => match e with | .ret => finK envR f136 [(.sl (.sl (.int .u8))), (.int .i64)] S | _ => .fail).den = some (l, (0, ())) := by kernel_rfl
theorem T_keep (q : Queue) (y : SigT rgSl) (t : Nat) : tmpAt (loopHead (stC q).tmps (stC q).m (rgJ q) rgSl y).tmps t = .any ∨ tmpAt (loopHead (stC q).tmps (stC q).m (rgJ q) rgSl y).tmps t = tmpAt (stC q).tmps t := by
  have h2 : ∃ id, tmpAt (stC q).tmps 2 = .bptr id 0 := ⟨_, (show tmpAt (stC q).tmps 2 = .bptr (match tmpAt (stC q).tmps 2 with | .bptr id _ => id | _ => 0) 0 by kernel_rfl)⟩
  obtain ⟨id, h2⟩ := h2
  obtain ⟨⟨l, u⟩, u'⟩ := y
  have e : (loopHead (stC q).tmps (stC q).m (rgJ q) rgSl ((l, u), u')).tmps = ((stC q).tmps.map fun _ => SV.any).set 2 (.bptr id 0) := by
    simp only [loopHead, rgSl, headSig, h2]
  rw [e]
  simp only [tmpAt, List.getElem?_set, List.getElem?_map]
  split
  · rename_i ht
    subst ht
    split
    · right; simpa [tmpAt] using h2.symm
    · left; rfl
  · left
    cases (stC q).tmps[t]? <;> rfl
theorem T_fnC (q : Queue) : tmpAt (stC q).tmps 13 = .fn 233 [] [.bptr (idB q) 0] := by kernel_rfl
theorem T_nextH (q : Queue) (l : List (List Int)) : Nat.ble (stC q).m.next (rgH q l).m.next = true := by kernel_rfl
theorem T_len (q : Queue) : (stC q).tmps.length = 21 := by kernel_rfl
theorem ring_env : TysOk Go.Proofs.Tryz.prog envR ∧ SpecSound Go.Proofs.Tryz.prog envR ∧ CallDen (CallR Go.Proofs.Tryz.prog) (callK envR 8) := by
  have hE : TysOk Go.Proofs.Tryz.prog envR := tysOk_of (E := envR) tys_ok
  have hS : SpecSound Go.Proofs.Tryz.prog envR := specSound_of (E := envR) (specsOk_cons C_ring_Check (specsOk_cons C_ring_text specsOk_nil))
  have hI : InlOk Go.Proofs.Tryz.prog envR := inlOk_of (E := envR) (inlB_cons func142 nm_142 (inlB_cons func204 nm_204 inlB_nil))
  exact ⟨hE, hS, callK_den hE hS mixed_ok hI 8⟩
theorem ring_init {ro : Snap} {w : World} {q : Queue} {vs : List Value} (hH0 : HSat ⟨w, ro, []⟩ (fun _ => none) ro (fun _ => False) (fun _ => none) w) (hargs : RepTT ro [(.st .Queue)] (q, ()) vs) :
    Sat ⟨w, ro, []⟩ (fun _ => none) ro (fun _ => False) (rgS0 q) { tmps := vs.toArray ++ Array.replicate (f136.ntmps - vs.toArray.size) undef, defers := [] } w := by
  have hn : f136.ntmps = 21 := by kernel_rfl
  rw [hn]
  exact init_sat (m := { objs := fun _ => none, next := 0, wl := [] }) hH0 (repTT_L hargs) 21
attribute [local irreducible] stB idB
theorem stC_eq (q : Queue) : stC q = { stB q with m := { (stB q).m with objs := putAll (stB q).m.objs (freezeAll [idB q]) } } := by unfold stC; rfl
theorem stC_sat {q : Queue} {w0 : Pt} {β : Pl} {ro : Snap} {D : Nat → Prop} {a : Go.Act} {w : World} (h : Sat w0 β ro D { stB q with m := { (stB q).m with objs := putAll (stB q).m.objs (freezeAll [idB q]) } } a w) : Sat w0 β ro D (stC q) a w := by rw [stC_eq]; exact h
theorem stC_next (q : Queue) : (stC q).m.next = (stB q).m.next := by rw [stC_eq]
theorem stC_lt {q : Queue} {D : Nat → Prop} (h : ∀ id, D id → id < (stB q).m.next) : ∀ id, D id → id < (stC q).m.next := fun id hi => by rw [stC_next]; exact h id hi
theorem ring_list_items (q : Queue) (hq : mayQueue q = true) : (queueList q).length = q.many.toNat ∧ q.many.toNat ≤ 64 ∧ (q.many = (q.many.toNat : Int)) ∧ 0 < q.items.length ∧
    (∀ k, k < q.many.toNat → Int.tmod (RowKit.wrap64 (q.head + (k : Int))) (q.items.length : Int) = ((place q k : Nat) : Int) ∧ place q k < q.items.length) := by
  obtain ⟨h1, h2, h3, h4, h5, h6, _⟩ := (queue_iff q).1 hq
  refine ⟨by simp [queueList], by omega, (Int.toNat_of_nonneg h5).symm, by omega, fun k hk => ?_⟩
  obtain ⟨p1, p2⟩ := place_mod q k h2 h3 h4 (by omega)
  refine ⟨?_, p2⟩
  rw [wrap_i64 (by omega) (by omega)] at p1
  have : RowKit.wrap64 (q.head + (k : Int)) = q.head + k := by unfold RowKit.wrap64; omega
  rw [this]; exact p1
theorem ring_bad {q : Queue} {r : List (List Int) × (Int × Unit)} (h : N_ring_List (q, ()) = some r) (hq : ¬ mayQueue q = true) : r = ([], (8, ())) := by
  unfold N_ring_List N_ref04_List at h
  simp only at h
  rw [if_neg hq] at h
  split at h
  · exact (Option.some.inj h).symm
  · cases h
theorem ring_good {q : Queue} {r : List (List Int) × (Int × Unit)} (h : N_ring_List (q, ()) = some r) (hq : mayQueue q = true) : r = (queueList q, (0, ())) ∧ fitAll q.items = true := by
  unfold N_ring_List N_ref04_List at h
  simp only at h
  rw [if_pos hq] at h
  split at h
  · rename_i hf; exact ⟨(Option.some.inj h).symm, hf⟩
  · cases h
theorem ring_mem {q : Queue} (hq : mayQueue q = true) {k : Nat} (hk : k < q.many.toNat) : ∃ x, q.items[place q k]? = some x ∧ nth q.items (place q k) = x ∧ x ∈ queueList q ∧ x ∈ q.items := by
  obtain ⟨_, _, _, _, h5⟩ := ring_list_items q hq
  have hlt := (h5 k hk).2
  refine ⟨q.items[place q k], List.getElem?_eq_getElem hlt, by simp [nth, hlt], ?_, List.getElem_mem hlt⟩
  unfold queueList
  rw [List.mem_map]
  exact ⟨k, List.mem_range.2 hk, by simp [nth, hlt]⟩
theorem ring_small {q : Queue} (hq : mayQueue q = true) (hf : fitAll q.items = true) {x : List Int} (hx : x ∈ queueList q) : x.length ≤ 1000000 := by
  unfold queueList at hx
  rw [List.mem_map] at hx
  obtain ⟨k, hk, rfl⟩ := hx
  obtain ⟨x, h1, h2, h3, h4⟩ := ring_mem hq (List.mem_range.1 hk)
  rw [h2]
  unfold fitAll at hf
  rw [Bool.and_eq_true] at hf
  exact of_decide_eq_true (List.all_eq_true.1 hf.2 x h4)
theorem ring_seq {ro : Snap} {w : World} {q : Queue} (hq : mayQueue q = true) {g : Nat} {v0 : Value} (hle : ro.le w) (hv : Rep ro (.sl (.sl (.int .u8)) q.items) v0)
    (h0 : ∀ W, ro.le W → W.cell? ⟨g, 0, none⟩ = some v0) (h1 : ∀ W, ro.le W → W.cell? ⟨g, 1, none⟩ = some (.int .i64 q.head)) (h2 : ∀ W, ro.le W → W.cell? ⟨g, 2, none⟩ = some (.int .i64 q.many)) :
    SeqStopsK Fence.wide (3 - 1) Go.Proofs.Tryz.prog 233 #[.pointer (some ⟨g, 0, none⟩)] (fun y : ItemV ro (fun x => Leaf.sl (.int .u8) x) (queueList q) => #[y.v]) (fun W W' => ro.le W → ro.le W') (fun ys => ys.map (·.x) = queueList q) (fun _ => True) (queueList q).length w := by
  obtain ⟨r1, r2, r3, r4, r5⟩ := ring_list_items q hq
  generalize hit : q.items = its at hv
  cases hv with
  | nil => rw [hit] at r4; cases r4
  | sl _ _ a cap us q1 q2 q3 q4 q5 =>
  have hsp : a.spot = none := by
    rcases q1 with h | h
    · exact h
    · rw [hit] at r4; omega
  have hat : ∀ (k : Nat), k < q.many.toNat → ro.cell? ⟨a.block, a.off + place q k, none⟩ = some (us (place q k) 0) ∧ Rep ro (.sl (.int .u8) (nth q.items (place q k))) (us (place q k) 0) := fun k hk => by
    obtain ⟨x, m1, m2, m3, m4⟩ := ring_mem hq hk
    rw [hit] at m1
    have e1 := q4 (place q k) x 0 (.sl (.int .u8) x) m1 rfl
    have e2 := q5 (place q k) x 0 (.sl (.int .u8) x) m1 rfl
    rw [m2]
    exact ⟨by rw [show place q k * sz (EN.sl (.int .u8)) + 0 = place q k from by show place q k * 1 + 0 = _; omega] at e1; exact e1, e2⟩
  let ys : List (ItemV ro (fun x => Leaf.sl (.int .u8) x) (queueList q)) := List.ofFn (n := q.many.toNat) fun k => { v := us (place q k.1) 0, x := nth q.items (place q k.1), rep := (hat k.1 k.2).2, mem := by obtain ⟨x, m1, m2, m3, m4⟩ := ring_mem hq k.2; rw [m2]; exact m3 }
  have hlen : ys.length = q.many.toNat := by simp [ys]
  have hmap : ys.map (·.x) = queueList q := by
    refine List.ext_getElem (by simp [ys, queueList]) fun i i1 i2 => ?_
    simp [ys, queueList]
  intro l J Jx W hB hJ hJx hY hJ0
  have hGW : ro.le W := fun b o hb => by
    have hb' := hle b o hb
    rw [hB.block b (Array.getElem?_eq_some_iff.1 hb').1]; exact hb'
  have hq0 : (a : Addr) = ⟨a.block, a.off, none⟩ := by cases a; simp only at hsp; subst hsp; rfl
  refine CallsIn.mono (ring_used1_in (fun y : ItemV ro (fun x => Leaf.sl (.int .u8) x) (queueList q) => y.v) ys (3 - 1) l g a.block a.off its.length cap q.head (by rw [← hit]; exact r4) (by omega) (place q)
    (fun k hk => by rw [← hit]; exact r5 k (by omega)) ro.le (fun W o hW b ob hb => ?_) (fun W hW => hW) (fun W hW => by rw [← hq0]; exact h0 W hW) h1 (fun W hW => by rw [hlen, ← r3]; exact h2 W hW)
    (fun W hW j hj => ?_) J Jx W hJ (fun pre x W1 hpre hl => ?_) hGW hJ0) ?_
  · have hb' := hW b ob hb
    rw [Below.heap_alloc W o b (Array.getElem?_eq_some_iff.1 hb').1]; exact hb'
  · have := (hat j (by omega)).1
    rw [Snap.cell_le hW this]
    simp [ys]
  · exact hY pre x W1 hpre (by rw [r1]; omega)
  · rintro e W' ⟨hv, h⟩
    refine ⟨hv, ?_⟩
    rcases h with ⟨xs, rfl, h⟩ | ⟨pre, h1, h2⟩
    · exact .inl ⟨ys, hmap, h⟩
    · exact .inr ⟨pre, trivial, h2⟩
theorem C_ring_List : SpecOk Go.Proofs.Tryz.prog 136 s136 := by
  refine ⟨en_136, fun ro w x vs r hle hargs hr => ?_⟩
  obtain ⟨q, ⟨⟩⟩ := x
  obtain ⟨hE, hS, hcall⟩ := ring_env
  have hr' : N_ring_List (q, ()) = some r := hr
  suffices h : CallsIn Fence.wide 3 Go.Proofs.Tryz.prog 136 vs.toArray w (SpecPost ro w [(.sl (.sl (.int .u8))), (.int .i64)] r) from callsIn_wide.1 h
  refine callsIn_of_wp_marks func136 rg_body trivial ?_
  have hH0 : HSat ⟨w, ro, []⟩ (fun _ => none) ro (fun _ => False) (fun _ => none) w :=
    ⟨Base.refl w, fun _ _ => rfl, fun _ _ => rfl, hle, by simp, by simp, by simp, by simp, by simp, by simp⟩
  have hs0 : Sat ⟨w, ro, []⟩ (fun _ => none) ro (fun _ => False) (rgS0 q) { tmps := vs.toArray ++ Array.replicate (f136.ntmps - vs.toArray.size) undef, defers := [] } w :=
    ring_init hH0 hargs
  generalize ha0 : ({ tmps := vs.toArray ++ Array.replicate (f136.ntmps - vs.toArray.size) undef, defers := [] } : Go.Act) = act0 at hs0 ⊢
  obtain ⟨c, hc, hcn⟩ : ∃ c : Int, N_ring_Check (q, ()) = some (c, ()) ∧ c = (if mayQueue q = true then 0 else 8) := ⟨_, rfl, rfl⟩
  have hpre : (preK envR q).den = some (stA q (c, ())) := by rw [T_pre, hc]; rfl
  unfold preK at hpre
  obtain ⟨e1, S1, a1, f1, c1⟩ := codeK_good hE callGood hS mixed_ok loop_good hcall 136 rg0 _ _ _ hpre
  cases e1 with
  | exit i => simp [Tr.den] at a1
  | goto i => simp [Tr.den] at a1
  | ret => simp [Tr.den] at a1
  | normal =>
  simp only at a1
  obtain ⟨e2, S2, a2, f2, c2⟩ := codeK_good hE callGood hS mixed_ok loop_good hcall 136 rg1 _ _ _ a1
  cases e2 with
  | exit i => simp [Tr.den] at a2
  | goto i => simp [Tr.den] at a2
  | ret => simp [Tr.den] at a2
  | normal =>
  simp only at a2
  obtain ⟨e3, S3, a3, f3, c3⟩ := codeK_good hE callGood hS mixed_ok loop_good hcall 136 rg2 _ _ _ a2
  cases e3 with
  | exit i => simp [Tr.den] at a3
  | goto i => simp [Tr.den] at a3
  | ret => simp [Tr.den] at a3
  | normal =>
  simp only [Tr.den] at a3
  have h3 : S3 = stA q (c, ()) := Option.some.inj a3
  subst h3
  have hlt1 : ∀ id, (False ∨ ((rgS0 q).m.next ≤ id ∧ id < S1.m.next)) → id < S1.m.next := then_lt (fun _ h => h.elim) f1.1
  have hlt2 := then_lt hlt1 f2.1
  have hlt3 := then_lt hlt2 f3.1
  refine wpIn_seq (wpIn_wide.2 (c1 _ _ ro _ _ w _ (fun _ h => h.elim) hs0 fun b1 w1 β1 ro1 x1 y1 z1 => ?_))
  refine wpIn_seq (wpIn_seq (wpIn_wide.2 (c2 _ _ ro1 _ _ w1 _ hlt1 z1 fun b2 w2 β2 ro2 x2 y2 z2 => ?_)))
  refine wpIn_seq (wpIn_wide.2 (c3 _ _ ro2 _ _ w2 _ hlt2 z2 fun b3 w3 β3 ro3 x3 y3 z3 => ?_))
  by_cases hq : mayQueue q = true
  ·
    rw [if_pos hq] at hcn
    subst hcn
    refine wpIn_cond_false ?_ (wpIn_skip ?_)
    · have := z3.t 9
      rw [T_c0] at this
      cases this with | leaf h => generalize hv : b3.tmps.getD 9 undef = v at h; cases h; exact hv
    have hmid := T_mid q
    unfold midK at hmid
    obtain ⟨e4, S4, a4, f4, c4⟩ := codeK_good hE callGood hS mixed_ok loop_good hcall 136 rg4 _ _ _ hmid
    cases e4 with
    | exit i => simp [Tr.den] at a4
    | goto i => simp [Tr.den] at a4
    | ret => simp [Tr.den] at a4
    | normal =>
    simp only [Tr.den] at a4
    have h4 : S4 = stB q := Option.some.inj a4
    subst h4
    have hlt4 := then_lt hlt3 f4.1
    refine wpIn_seq (wpIn_seq (wpIn_wide.2 (c4 _ _ ro3 _ _ w3 _ hlt3 z3 fun b4 w4 β4 ro4 x4 y4 z4 => ?_)))
    refine wpIn_block ?_
    obtain ⟨hrr, hf⟩ := ring_good hr' hq
    subst hrr
    obtain ⟨hd, g, cur, hb, hg, hcur, hcell, z5⟩ := frozen_at z4 (T_box q)
    have z5 := stC_sat z5
    have hlt4 := stC_lt hlt4
    obtain ⟨v0, us0, hu0, p0, hcur⟩ := hcur.of_cons
    obtain ⟨v1, us1, hu1, p1, hcur⟩ := hcur.of_cons
    obtain ⟨v2, us2, hu2, p2, hcur⟩ := hcur.of_cons
    have hu3 := hcur.of_nil
    subst hu3 hu2 hu1
    have p0' : Rep (ro4.plus β4 w4 [idB q]) (.sl (.sl (.int .u8)) q.items) v0 := by cases p0 with | leaf h => exact h.mono (Snap.ext_plus z4.h.snap _ _)
    have p1' : v1 = .int .i64 q.head := by cases p1 with | leaf h => cases h; rfl
    have p2' : v2 = .int .i64 q.many := by cases p2 with | leaf h => cases h; rfl
    have hg13 : b4.eval (.tmp 13) = .func (.func 233) #[] #[.pointer (some ⟨g, 0, none⟩)] := by
      have := z5.t 13
      rw [T_fnC] at this
      show b4.tmps.getD 13 undef = _
      generalize b4.tmps.getD 13 undef = v at this
      cases this with
      | @fn _ _ _ us vs k1 k2 k3 k4 =>
        obtain rfl : us = [] := List.eq_nil_of_length_eq_zero k1
        match vs, k2, k4 with
        | [p], _, k4 =>
          have := k4 0 _ p rfl rfl
          cases this with
          | bptr e1 e2 =>
            rw [hb] at e1; cases e1
            rw [hg] at e2; cases e2
            rfl
    have hle5 := z5.h.snap
    refine range_wp hE callGood hS mixed_ok hcall z5 hlt4 rfl (T_sig q) (T_keep q) (fun x => Leaf.sl (.int .u8) x) (queueList q) rgY0 rfl (p := 14) (q := 5) (by rw [T_len]; decide) (fun pre x hpre hx => ?_) hg13 (Go.Proofs.enters_of func233 (by kernel_rfl) rfl) (by decide)
      (ring_seq hq hle5 p0' (fun W hW => hcell W hW 0 v0 (by rw [hu0]; rfl)) (fun W hW => hcell W hW 1 _ (by rw [hu0, p1']; rfl)) (fun W hW => hcell W hW 2 _ (by rw [hu0, p2']; rfl))) ?_
    · have := T_body q pre x
      have hx1 := ring_small hq hf hx
      have hx2 : pre.length + 1 ≤ big := by
        obtain ⟨l1, l2, _⟩ := ring_list_items q hq
        rw [l1] at hpre
        have := big_eq
        omega
      rw [show N_ring_text (x, ()) = some (x, ()) from if_pos hx1, Option.bind_some, if_pos (decide_eq_true hx2)] at this
      exact this
    · intro d W β6 ro6 hd6 x6 y6 hW hrd hs6
      obtain ⟨e5, S5, a5, f5, c5⟩ := codeK_good hE callGood hS mixed_ok loop_good hcall 136 rg7 _ _ _ (T_end q (queueList q))
      cases e5 with
      | exit i => simp [Tr.den] at a5
      | goto i => simp [Tr.den] at a5
      | normal => simp [Tr.den] at a5
      | ret =>
      simp only at a5
      show rg7.wpIn Fence.wide 3 _ _ _ W
      refine wpIn_wide.2 (c5 _ _ ro6 _ _ W _ (then_lt hlt4 (Nat.le_of_ble_eq_true (T_nextH q _))) hs6 fun b7 w7 β7 ro7 x7 y7 z7 => ?_)
      exact fin_mark hE a5 z7 rfl hd6 (y7 _ _ hrd) hle
  · rw [if_neg hq] at hcn
    subst hcn
    refine wpIn_cond_true ?_ ?_
    · have := z3.t 9
      rw [T_c8] at this
      cases this with | leaf h => generalize hv : b3.tmps.getD 9 undef = v at h; cases h; exact hv
    obtain ⟨e4, S4, a4, f4, c4⟩ := codeK_good hE callGood hS mixed_ok loop_good hcall 136 rg3 _ _ _ (T_bad q)
    cases e4 with
    | exit i => simp [Tr.den] at a4
    | goto i => simp [Tr.den] at a4
    | normal => simp [Tr.den] at a4
    | ret =>
    simp only at a4
    refine wpIn_wide.2 (c4 _ _ ro3 _ _ w3 _ hlt3 z3 fun b4 w4 β4 ro4 x4 y4 z4 => ?_)
    obtain rfl := ring_bad hr' hq
    exact fin_plain hE a4 z4 rfl hle
end Go.Cat
