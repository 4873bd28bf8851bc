/-
  My own text: a part of the proof.
  My own text: a part of the proof.
  My own text: a part of the proof.
  My own text: a part of the proof.
  My own text: a part of the proof.
  My own text: a part of the proof.
  My own text: a part of the proof.
  My own text: a part of the proof.
  My own text: a part of the proof.
  My own text: a part of the proof.
-/
import Derived.Test.YtiflikkmjeikdaaGreatProg
import Derived.Test.YtiflikkmjeikdaaGreatC4
import Derived.Test.YtiflikkmjeikdaaGreatC7
import Derived.KernelRfl
import Derived.RangeFuncNested
import Derived.RangeFuncBound
import Derived.RangeFuncCalls
import Derived.RangeFuncLeaves
import Derived.Shelf.Abstract
import Derived.Shelf.RegionOpen
import Derived.WalkKit
import Derived.OwnWalkIn
import Derived.TacticsInMore
import Derived.LoopNIn
import Derived.LoopIn
import Derived.Test.YtiflikkmjeikdaaGreatC8
set_option linter.unusedVariables false
set_option linter.unusedSimpArgs false
set_option maxHeartbeats 0
namespace Go.Cat
open Go Go.Proofs.Tryz
noncomputable def tys : List (Nat × TyI) := [
  (1, { d := .other, size := 1, zero := [.lit .nilFunc], en := none, eq := false }),
  (2, { d := .int .i64, size := 1, zero := [.lit (.int .i64 0)], en := some (.int .i64), eq := false }),
  (3, { d := .int .i64, size := 1, zero := [.lit (.int .i64 0)], en := some (.int .i64), eq := false }),
  (4, { d := .bool, size := 1, zero := [.lit (.bool false)], en := some .bool, eq := false }),
  (5, { d := .int .u8, size := 1, zero := [.lit (.int .u8 0)], en := some (.int .u8), eq := false }),
  (6, { d := .int .u8, size := 1, zero := [.lit (.int .u8 0)], en := some (.int .u8), eq := false }),
  (7, { d := .st [(0, 2), (1, 3), (2, 4), (3, 6)], size := 4, zero := [.lit (.int .i64 0), .lit (.int .i64 0), .lit (.bool false), .lit (.int .u8 0)], en := none, eq := false }),
  (8, { d := .st [(0, 2), (1, 3), (2, 4), (3, 6)], size := 4, zero := [.lit (.int .i64 0), .lit (.int .i64 0), .lit (.bool false), .lit (.int .u8 0)], en := none, eq := false }),
  (9, { d := .str, size := 1, zero := [.lit (.string ByteArray.empty)], en := some .str, eq := false }),
  (10, { d := .str, size := 1, zero := [.lit (.string ByteArray.empty)], en := some .str, eq := false }),
  (11, { d := .str, size := 1, zero := [.lit (.string ByteArray.empty)], en := some .str, eq := false }),
  (12, { d := .int .u64, size := 1, zero := [.lit (.int .u64 0)], en := some (.int .u64), eq := false }),
  (13, { d := .st [(0, 9), (1, 12)], size := 2, zero := [.lit (.string ByteArray.empty), .lit (.int .u64 0)], en := none, eq := false }),
  (23, { d := .st [(0, 3), (1, 3), (2, 3), (3, 3), (4, 3), (5, 3)], size := 6, zero := [.lit (.int .i64 0), .lit (.int .i64 0), .lit (.int .i64 0), .lit (.int .i64 0), .lit (.int .i64 0), .lit (.int .i64 0)], en := some (.st .Config), eq := true }),
  (24, { d := .sl 179, size := 1, zero := [.lit (.slice none 0 0)], en := some (.sl (.st .Sector)), eq := false }),
  (25, { d := .sl 181, size := 1, zero := [.lit (.slice none 0 0)], en := some (.sl (.st .Pend)), eq := false }),
  (27, { d := .st [(0, 24), (1, 25)], size := 2, zero := [.lit (.slice none 0 0), .lit (.slice none 0 0)], en := some (.st .Disk), eq := false }),
  (28, { d := .int .u32, size := 1, zero := [.lit (.int .u32 0)], en := some (.int .u32), eq := false }),
  (29, { d := .int .u64, size := 1, zero := [.lit (.int .u64 0)], en := some (.int .u64), eq := false }),
  (31, { d := .st [(0, 28), (1, 3), (2, 29)], size := 3, zero := [.lit (.int .u32 0), .lit (.int .i64 0), .lit (.int .u64 0)], en := some (.st .Super), eq := true }),
  (32, { d := .sl 62, size := 1, zero := [.lit (.slice none 0 0)], en := some (.sl (.st .Rec)), eq := false }),
  (34, { d := .st [(0, 31), (3, 3), (4, 3), (5, 32)], size := 6, zero := [.lit (.int .u32 0), .lit (.int .i64 0), .lit (.int .u64 0), .lit (.int .i64 0), .lit (.int .i64 0), .lit (.slice none 0 0)], en := some (.st .Meta), eq := false }),
  (35, { d := .sl 84, size := 1, zero := [.lit (.slice none 0 0)], en := some (.sl (.st .Side)), eq := false }),
  (36, { d := .sl 48, size := 1, zero := [.lit (.slice none 0 0)], en := some (.sl (.sl (.int .u8))), eq := false }),
  (38, { d := .st [(0, 36), (1, 3), (2, 3)], size := 3, zero := [.lit (.slice none 0 0), .lit (.int .i64 0), .lit (.int .i64 0)], en := some (.st .Queue), eq := false }),
  (40, { d := .st [(0, 28), (1, 28), (2, 4), (3, 4), (4, 28), (5, 28), (6, 38), (9, 28), (10, 3)], size := 11, zero := [.lit (.int .u32 0), .lit (.int .u32 0), .lit (.bool false), .lit (.bool false), .lit (.int .u32 0), .lit (.int .u32 0), .lit (.slice none 0 0), .lit (.int .i64 0), .lit (.int .i64 0), .lit (.int .u32 0), .lit (.int .i64 0)], en := some (.st .End), eq := false }),
  (41, { d := .sl 68, size := 1, zero := [.lit (.slice none 0 0)], en := some (.sl (.st .Act)), eq := false }),
  (42, { d := .sl 73, size := 1, zero := [.lit (.slice none 0 0)], en := some (.sl (.st .Mail)), eq := false }),
  (43, { d := .sl 101, size := 1, zero := [.lit (.slice none 0 0)], en := some (.sl (.st .Ask)), eq := false }),
  (44, { d := .sl 66, size := 1, zero := [.lit (.slice none 0 0)], en := some (.sl (.st .Reply)), eq := false }),
  (45, { d := .sl 3, size := 1, zero := [.lit (.slice none 0 0)], en := some (.sl (.int .i64)), eq := false }),
  (47, { d := .st [(0, 3), (1, 27), (3, 34), (9, 35), (10, 40), (21, 41), (22, 42), (23, 43), (24, 44), (25, 45), (26, 28), (27, 4)], size := 28, zero := [.lit (.int .i64 0), .lit (.slice none 0 0), .lit (.slice none 0 0), .lit (.int .u32 0), .lit (.int .i64 0), .lit (.int .u64 0), .lit (.int .i64 0), .lit (.int .i64 0), .lit (.slice none 0 0), .lit (.slice none 0 0), .lit (.int .u32 0), .lit (.int .u32 0), .lit (.bool false), .lit (.bool false), .lit (.int .u32 0), .lit (.int .u32 0), .lit (.slice none 0 0), .lit (.int .i64 0), .lit (.int .i64 0), .lit (.int .u32 0), .lit (.int .i64 0), .lit (.slice none 0 0), .lit (.slice none 0 0), .lit (.slice none 0 0), .lit (.slice none 0 0), .lit (.slice none 0 0), .lit (.int .u32 0), .lit (.bool false)], en := some (.st .Site), eq := false }),
  (48, { d := .sl 5, size := 1, zero := [.lit (.slice none 0 0)], en := some (.sl (.int .u8)), eq := false }),
  (51, { d := .int .i64, size := 1, zero := [.lit (.int .i64 0)], en := some (.int .i64), eq := false }),
  (60, { d := .int .u64, size := 1, zero := [.lit (.int .u64 0)], en := some (.int .u64), eq := false }),
  (62, { d := .st [(0, 3), (1, 28), (2, 28), (3, 3), (4, 5), (5, 3), (6, 4), (7, 4)], size := 8, zero := [.lit (.int .i64 0), .lit (.int .u32 0), .lit (.int .u32 0), .lit (.int .i64 0), .lit (.int .u8 0), .lit (.int .i64 0), .lit (.bool false), .lit (.bool false)], en := some (.st .Rec), eq := true }),
  (64, { d := .st [(0, 5), (1, 3), (2, 4), (3, 62), (11, 5), (12, 28), (13, 28), (14, 3), (15, 28), (16, 51), (17, 48), (18, 48)], size := 19, zero := [.lit (.int .u8 0), .lit (.int .i64 0), .lit (.bool false), .lit (.int .i64 0), .lit (.int .u32 0), .lit (.int .u32 0), .lit (.int .i64 0), .lit (.int .u8 0), .lit (.int .i64 0), .lit (.bool false), .lit (.bool false), .lit (.int .u8 0), .lit (.int .u32 0), .lit (.int .u32 0), .lit (.int .i64 0), .lit (.int .u32 0), .lit (.int .i64 0), .lit (.slice none 0 0), .lit (.slice none 0 0)], en := some (.st .Msg), eq := false }),
  (66, { d := .st [(0, 3), (1, 51), (2, 5), (3, 48)], size := 4, zero := [.lit (.int .i64 0), .lit (.int .i64 0), .lit (.int .u8 0), .lit (.slice none 0 0)], en := some (.st .Reply), eq := false }),
  (68, { d := .st [(0, 5), (1, 3), (2, 48), (3, 28), (4, 28), (5, 64), (24, 66), (28, 3)], size := 29, zero := [.lit (.int .u8 0), .lit (.int .i64 0), .lit (.slice none 0 0), .lit (.int .u32 0), .lit (.int .u32 0), .lit (.int .u8 0), .lit (.int .i64 0), .lit (.bool false), .lit (.int .i64 0), .lit (.int .u32 0), .lit (.int .u32 0), .lit (.int .i64 0), .lit (.int .u8 0), .lit (.int .i64 0), .lit (.bool false), .lit (.bool false), .lit (.int .u8 0), .lit (.int .u32 0), .lit (.int .u32 0), .lit (.int .i64 0), .lit (.int .u32 0), .lit (.int .i64 0), .lit (.slice none 0 0), .lit (.slice none 0 0), .lit (.int .i64 0), .lit (.int .i64 0), .lit (.int .u8 0), .lit (.slice none 0 0), .lit (.int .i64 0)], en := some (.st .Act), eq := false }),
  (73, { d := .st [(0, 5), (1, 28), (2, 28), (3, 64)], size := 22, zero := [.lit (.int .u8 0), .lit (.int .u32 0), .lit (.int .u32 0), .lit (.int .u8 0), .lit (.int .i64 0), .lit (.bool false), .lit (.int .i64 0), .lit (.int .u32 0), .lit (.int .u32 0), .lit (.int .i64 0), .lit (.int .u8 0), .lit (.int .i64 0), .lit (.bool false), .lit (.bool false), .lit (.int .u8 0), .lit (.int .u32 0), .lit (.int .u32 0), .lit (.int .i64 0), .lit (.int .u32 0), .lit (.int .i64 0), .lit (.slice none 0 0), .lit (.slice none 0 0)], en := some (.st .Mail), eq := false }),
  (81, { d := .sl 151, size := 1, zero := [.lit (.slice none 0 0)], en := some (.sl (.st .Sent)), eq := false }),
  (82, { d := .sl 154, size := 1, zero := [.lit (.slice none 0 0)], en := some (.sl (.st .Wait)), eq := false }),
  (84, { d := .st [(0, 48), (1, 48), (2, 81), (3, 28), (4, 82), (5, 48), (6, 3), (7, 3), (8, 5), (9, 3), (10, 4), (11, 4), (12, 4), (13, 4)], size := 14, zero := [.lit (.slice none 0 0), .lit (.slice none 0 0), .lit (.slice none 0 0), .lit (.int .u32 0), .lit (.slice none 0 0), .lit (.slice none 0 0), .lit (.int .i64 0), .lit (.int .i64 0), .lit (.int .u8 0), .lit (.int .i64 0), .lit (.bool false), .lit (.bool false), .lit (.bool false), .lit (.bool false)], en := some (.st .Side), eq := false }),
  (97, { d := .other, size := 1, zero := [.lit .nilFunc], en := none, eq := false }),
  (101, { d := .st [(0, 3), (1, 5), (2, 3), (3, 3), (4, 5), (5, 48)], size := 6, zero := [.lit (.int .i64 0), .lit (.int .u8 0), .lit (.int .i64 0), .lit (.int .i64 0), .lit (.int .u8 0), .lit (.slice none 0 0)], en := some (.st .Ask), eq := false }),
  (112, { d := .arr 2 5, size := 2, zero := [.lit (.int .u8 0), .lit (.int .u8 0)], en := none, eq := false }),
  (126, { d := .other, size := 1, zero := [.lit .nilFunc], en := none, eq := false }),
  (130, { d := .st [(0, 23)], size := 6, zero := [.lit (.int .i64 0), .lit (.int .i64 0), .lit (.int .i64 0), .lit (.int .i64 0), .lit (.int .i64 0), .lit (.int .i64 0)], en := some (.st .Config), eq := true }),
  (135, { d := .other, size := 1, zero := [.lit .nilFunc], en := none, eq := false }),
  (136, { d := .other, size := 1, zero := [.lit .nilFunc], en := none, eq := false }),
  (138, { d := .other, size := 1, zero := [.lit .nilFunc], en := none, eq := false }),
  (141, { d := .other, size := 1, zero := [.lit .nilFunc], en := none, eq := false }),
  (143, { d := .other, size := 1, zero := [.lit .nilFunc], en := none, eq := false }),
  (145, { d := .other, size := 1, zero := [.lit .nilFunc], en := none, eq := false }),
  (151, { d := .st [(0, 3), (1, 28), (2, 4)], size := 3, zero := [.lit (.int .i64 0), .lit (.int .u32 0), .lit (.bool false)], en := some (.st .Sent), eq := true }),
  (154, { d := .st [(0, 3), (1, 3), (2, 28), (3, 4)], size := 4, zero := [.lit (.int .i64 0), .lit (.int .i64 0), .lit (.int .u32 0), .lit (.bool false)], en := some (.st .Wait), eq := true }),
  (156, { d := .other, size := 1, zero := [.lit .nilFunc], en := none, eq := false }),
  (157, { d := .other, size := 1, zero := [.lit .nilFunc], en := none, eq := false }),
  (159, { d := .other, size := 1, zero := [.lit .nilFunc], en := none, eq := false }),
  (161, { d := .other, size := 1, zero := [.lit .nilFunc], en := none, eq := false }),
  (179, { d := .st [(0, 48), (1, 4)], size := 2, zero := [.lit (.slice none 0 0), .lit (.bool false)], en := some (.st .Sector), eq := false }),
  (181, { d := .st [(0, 3), (1, 48)], size := 2, zero := [.lit (.int .i64 0), .lit (.slice none 0 0)], en := some (.st .Pend), eq := false }),
  (183, { d := .arr 2 51, size := 2, zero := [.lit (.int .i64 0), .lit (.int .i64 0)], en := none, eq := false }),
  (184, { d := .sc, size := 1, zero := [.lit (.pointer none)], en := none, eq := false }),
  (189, { d := .st [(0, 47), (28, 23)], size := 34, zero := [.lit (.int .i64 0), .lit (.slice none 0 0), .lit (.slice none 0 0), .lit (.int .u32 0), .lit (.int .i64 0), .lit (.int .u64 0), .lit (.int .i64 0), .lit (.int .i64 0), .lit (.slice none 0 0), .lit (.slice none 0 0), .lit (.int .u32 0), .lit (.int .u32 0), .lit (.bool false), .lit (.bool false), .lit (.int .u32 0), .lit (.int .u32 0), .lit (.slice none 0 0), .lit (.int .i64 0), .lit (.int .i64 0), .lit (.int .u32 0), .lit (.int .i64 0), .lit (.slice none 0 0), .lit (.slice none 0 0), .lit (.slice none 0 0), .lit (.slice none 0 0), .lit (.slice none 0 0), .lit (.int .u32 0), .lit (.bool false), .lit (.int .i64 0), .lit (.int .i64 0), .lit (.int .i64 0), .lit (.int .i64 0), .lit (.int .i64 0), .lit (.int .i64 0)], en := none, eq := false }),
  (203, { d := .st [(0, 5), (1, 3), (2, 3), (3, 3)], size := 4, zero := [.lit (.int .u8 0), .lit (.int .i64 0), .lit (.int .i64 0), .lit (.int .i64 0)], en := some (.st .Part), eq := true }),
  (204, { d := .arr 4 203, size := 16, zero := [.lit (.int .u8 0), .lit (.int .i64 0), .lit (.int .i64 0), .lit (.int .i64 0), .lit (.int .u8 0), .lit (.int .i64 0), .lit (.int .i64 0), .lit (.int .i64 0), .lit (.int .u8 0), .lit (.int .i64 0), .lit (.int .i64 0), .lit (.int .i64 0), .lit (.int .u8 0), .lit (.int .i64 0), .lit (.int .i64 0), .lit (.int .i64 0)], en := none, eq := false }),
  (215, { d := .st [(0, 36), (1, 3), (2, 3)], size := 3, zero := [.lit (.slice none 0 0), .lit (.int .i64 0), .lit (.int .i64 0)], en := some (.st .Round), eq := false }),
  (220, { d := .arr 3 3, size := 3, zero := [.lit (.int .i64 0), .lit (.int .i64 0), .lit (.int .i64 0)], en := some (.st .Bound), eq := false }),
  (225, { d := .arr 3 48, size := 3, zero := [.lit (.slice none 0 0), .lit (.slice none 0 0), .lit (.slice none 0 0)], en := none, eq := false }),
  (228, { d := .other, size := 1, zero := [.lit .nilFunc], en := none, eq := false }),
  (230, { d := .other, size := 1, zero := [.lit .nilFunc], en := none, eq := false }),
  (272, { d := .other, size := 1, zero := [.lit .nilFunc], en := none, eq := false }),
  (275, { d := .sl 220, size := 1, zero := [.lit (.slice none 0 0)], en := some (.sl (.st .Bound)), eq := false }),
  (288, { d := .st [(0, 5), (1, 5), (2, 3), (3, 3), (4, 4), (5, 62), (13, 28), (14, 28), (15, 28), (16, 51)], size := 17, zero := [.lit (.int .u8 0), .lit (.int .u8 0), .lit (.int .i64 0), .lit (.int .i64 0), .lit (.bool false), .lit (.int .i64 0), .lit (.int .u32 0), .lit (.int .u32 0), .lit (.int .i64 0), .lit (.int .u8 0), .lit (.int .i64 0), .lit (.bool false), .lit (.bool false), .lit (.int .u32 0), .lit (.int .u32 0), .lit (.int .u32 0), .lit (.int .i64 0)], en := some (.st .Plain), eq := true }),
  (295, { d := .int .u32, size := 1, zero := [.lit (.int .u32 0)], en := some (.int .u32), eq := false }),
  (299, { d := .sl 29, size := 1, zero := [.lit (.slice none 0 0)], en := some (.sl (.int .u64)), eq := false })]
noncomputable def hnts : List ((Nat × Nat) × Hint) := [((4, 7), .head [(2, .dat (.int .i64)), (5, .dat (.int .u8)), (6, .dat (.int .u32)), (7, .same), (8, .same), (15, .dat .bool), (16, .own 5 (.int .u8)), (17, .dat .bool), (18, .dat (.int .i64))]),
  ((8, 4), .head [(1, .same), (3, .dat (.int .i64))]),
  ((8, 10), .head [(1, .same), (5, .dat (.int .i64))]),
  ((8, 15), .head [(1, .same), (6, .dat (.int .i64))]),
  ((8, 20), .head [(1, .same), (7, .dat (.int .i64))]),
  ((9, 8), .head [(1, .same), (2, .same), (3, .cls [.dat (.int .i64), .dat (.sl (.st .Sector)), .dat (.sl (.st .Pend)), .dat (.int .u32), .dat (.int .i64), .dat (.int .u64), .dat (.int .i64), .dat (.int .i64), .dat (.sl (.st .Rec)), .own 84 (.st .Side), .dat (.int .u32), .dat (.int .u32), .dat (.bool), .dat (.bool), .dat (.int .u32), .dat (.int .u32), .dat (.sl (.sl (.int .u8))), .dat (.int .i64), .dat (.int .i64), .dat (.int .u32), .dat (.int .i64), .own 68 (.st .Act), .own 73 (.st .Mail), .own 101 (.st .Ask), .own 66 (.st .Reply), .dat (.sl (.int .i64)), .dat (.int .u32), .dat (.bool)]), (4, .dat (.int .i64))]),
  ((9, 12), .head [(1, .same), (2, .same), (3, .cls [.dat (.int .i64), .dat (.sl (.st .Sector)), .dat (.sl (.st .Pend)), .dat (.int .u32), .dat (.int .i64), .dat (.int .u64), .dat (.int .i64), .dat (.int .i64), .dat (.sl (.st .Rec)), .own 84 (.st .Side), .dat (.int .u32), .dat (.int .u32), .dat (.bool), .dat (.bool), .dat (.int .u32), .dat (.int .u32), .dat (.sl (.sl (.int .u8))), .dat (.int .i64), .dat (.int .i64), .dat (.int .u32), .dat (.int .i64), .own 68 (.st .Act), .own 73 (.st .Mail), .own 101 (.st .Ask), .own 66 (.st .Reply), .dat (.sl (.int .i64)), .dat (.int .u32), .dat (.bool)]), (5, .dat (.int .i64))]),
  ((9, 20), .head [(1, .same), (2, .same), (3, .cls [.dat (.int .i64), .dat (.sl (.st .Sector)), .dat (.sl (.st .Pend)), .dat (.int .u32), .dat (.int .i64), .dat (.int .u64), .dat (.int .i64), .dat (.int .i64), .dat (.sl (.st .Rec)), .own 84 (.st .Side), .dat (.int .u32), .dat (.int .u32), .dat (.bool), .dat (.bool), .dat (.int .u32), .dat (.int .u32), .dat (.sl (.sl (.int .u8))), .dat (.int .i64), .dat (.int .i64), .dat (.int .u32), .dat (.int .i64), .own 68 (.st .Act), .own 73 (.st .Mail), .own 101 (.st .Ask), .own 66 (.st .Reply), .dat (.sl (.int .i64)), .dat (.int .u32), .dat (.bool)]), (7, .dat (.int .i64))]),
  ((9, 26), .head [(1, .same), (2, .same), (3, .cls [.dat (.int .i64), .dat (.sl (.st .Sector)), .dat (.sl (.st .Pend)), .dat (.int .u32), .dat (.int .i64), .dat (.int .u64), .dat (.int .i64), .dat (.int .i64), .dat (.sl (.st .Rec)), .own 84 (.st .Side), .dat (.int .u32), .dat (.int .u32), .dat (.bool), .dat (.bool), .dat (.int .u32), .dat (.int .u32), .dat (.sl (.sl (.int .u8))), .dat (.int .i64), .dat (.int .i64), .dat (.int .u32), .dat (.int .i64), .own 68 (.st .Act), .own 73 (.st .Mail), .own 101 (.st .Ask), .own 66 (.st .Reply), .dat (.sl (.int .i64)), .dat (.int .u32), .dat (.bool)]), (9, .dat (.int .i64))]),
  ((9, 32), .head [(1, .same), (2, .same), (3, .cls [.dat (.int .i64), .dat (.sl (.st .Sector)), .dat (.sl (.st .Pend)), .dat (.int .u32), .dat (.int .i64), .dat (.int .u64), .dat (.int .i64), .dat (.int .i64), .dat (.sl (.st .Rec)), .own 84 (.st .Side), .dat (.int .u32), .dat (.int .u32), .dat (.bool), .dat (.bool), .dat (.int .u32), .dat (.int .u32), .dat (.sl (.sl (.int .u8))), .dat (.int .i64), .dat (.int .i64), .dat (.int .u32), .dat (.int .i64), .own 68 (.st .Act), .own 73 (.st .Mail), .own 101 (.st .Ask), .own 66 (.st .Reply), .dat (.sl (.int .i64)), .dat (.int .u32), .dat (.bool)]), (11, .dat (.int .i64))]),
  ((12, 4), .head [(2, .same), (3, .same), (5, .dat (.int .i64))]),
  ((12, 9), .head [(2, .same), (3, .same), (6, .dat (.int .i64))]),
  ((26, 4), .head [(2, .same), (3, .same), (5, .dat (.int .i64))]),
  ((26, 9), .head [(2, .same), (3, .same), (6, .dat (.int .i64))]),
  ((29, 2), .head [(1, .dat (.int .i64)), (2, .same), (5, .dat (.int .i64))]),
  ((29, 7), .head [(1, .dat (.int .i64)), (2, .same), (6, .dat (.int .i64))]),
  ((30, 2), .head [(1, .same), (3, .dat (.int .i64))]),
  ((30, 7), .head [(1, .same), (4, .dat (.int .i64))]),
  ((31, 3), .head [(1, .same), (2, .same), (3, .cls [.own 179 (.st .Sector), .own 181 (.st .Pend)]), (4, .dat (.int .i64))]),
  ((31, 7), .head [(1, .same), (2, .same), (3, .cls [.own 179 (.st .Sector), .own 181 (.st .Pend)]), (5, .dat (.int .i64))]),
  ((37, 12), .unroll 3),
  ((40, 4), .head [(2, .same), (3, .same), (5, .dat (.int .i64))]),
  ((40, 9), .head [(2, .same), (3, .same), (6, .dat (.int .i64))]),
  ((42, 4), .head [(2, .same), (3, .same), (5, .dat (.int .i64))]),
  ((42, 9), .head [(2, .same), (3, .same), (6, .dat (.int .i64))]),
  ((45, 4), .head [(0, .dat (.sl (.st .Act))), (1, .dat (.sl (.st .Act))), (5, .dat (.int .i64))]),
  ((46, 4), .head [(2, .same), (3, .same), (5, .dat (.int .i64))]),
  ((46, 10), .head [(2, .same), (3, .same), (8, .dat (.int .i64))]),
  ((47, 4), .head [(0, .dat (.sl (.st .Reply))), (1, .dat (.sl (.st .Reply))), (5, .dat (.int .i64))]),
  ((50, 5), .unroll 5),
  ((65, 2), .unroll 4),
  ((75, 2), .head [(1, .same), (2, .cls [.own 179 (.st .Sector), .own 181 (.st .Pend)]), (8, .dat (.sl (.st .Sector))), (9, .dat (.int .i64)), (10, .dat (.int .i64))]),
  ((75, 8), .head [(2, .cls [.own 179 (.st .Sector), .own 181 (.st .Pend)]), (26, .dat (.sl (.st .Pend))), (27, .dat (.int .i64)), (28, .dat (.int .i64))]),
  ((79, 2), .head [(1, .same), (4, .own 84 (.st .Side)), (7, .dat (.sl (.st .Side))), (8, .dat (.int .i64)), (9, .dat (.int .i64))]),
  ((84, 2), .head [(1, .same), (4, .own 68 (.st .Act)), (7, .dat (.sl (.st .Act))), (8, .dat (.int .i64)), (9, .dat (.int .i64))]),
  ((88, 2), .head [(1, .same), (4, .own 73 (.st .Mail)), (7, .dat (.sl (.st .Mail))), (8, .dat (.int .i64)), (9, .dat (.int .i64))]),
  ((90, 2), .head [(1, .same), (4, .own 101 (.st .Ask)), (7, .dat (.sl (.st .Ask))), (8, .dat (.int .i64)), (9, .dat (.int .i64))]),
  ((92, 2), .head [(1, .same), (4, .own 66 (.st .Reply)), (7, .dat (.sl (.st .Reply))), (8, .dat (.int .i64)), (9, .dat (.int .i64))]),
  ((118, 5), .head [(2, .same), (3, .same), (5, .dat (.sl (.sl (.int .u8)))), (7, .dat (.int .i64))]),
  ((120, 4), .head [(2, .same), (3, .same), (5, .dat (.int .i64))]),
  ((120, 9), .head [(2, .same), (3, .same), (6, .dat (.int .i64))]),
  ((121, 2), .head [(2, .same), (3, .same), (5, .dat (.int .i64))]),
  ((121, 7), .head [(2, .same), (3, .same), (6, .dat (.int .i64))]),
  ((121, 12), .head [(3, .same), (7, .dat (.int .i64))]),
  ((125, 4), .head [(0, .dat (.sl (.st .Rec))), (1, .dat (.sl (.st .Rec))), (5, .dat (.int .i64))]),
  ((139, 6), .head [(1, .same), (3, .dat (.int .i64)), (4, .same), (5, .dat (.int .i64))]),
  ((140, 3), .head [(2, .same), (3, .cls [.own 48 (.sl (.int .u8)), .dat (.int .i64), .dat (.int .i64)]), (16, .dat (.sl (.sl (.int .u8)))), (17, .dat (.int .i64)), (18, .dat (.int .i64))]),
  ((144, 2), .head [(5, .dat (.sl (.st .Bound))), (6, .dat (.int .i64)), (7, .dat (.int .i64))]),
  ((145, 4), .head [(1, .same), (24, .dat (.sl (.st .Sector))), (25, .dat (.int .i64)), (26, .dat (.int .i64))]),
  ((145, 10), .head [(1, .same), (48, .dat (.sl (.st .Pend))), (49, .dat (.int .i64)), (50, .dat (.int .i64))]),
  ((146, 5), .head [(2, .own 48 (.sl (.int .u8))), (14, .dat (.sl (.st .Rec))), (15, .dat (.int .i64)), (16, .dat (.int .i64))]),
  ((147, 2), .head [(0, .dat (.sl (.st .Rec))), (1, .same), (7, .dat (.int .i64)), (8, .dat (.int .i64))]),
  ((148, 2), .head [(0, .dat (.sl (.st .Side))), (1, .same), (7, .dat (.int .i64)), (8, .dat (.int .i64))]),
  ((149, 7), .head [(5, .dat (.sl (.int .u8))), (22, .dat (.sl (.int .u8))), (23, .dat (.int .i64)), (24, .dat (.int .i64))]),
  ((155, 2), .head [(0, .dat (.sl (.st .Act))), (1, .same), (7, .dat (.int .i64)), (8, .dat (.int .i64))]),
  ((157, 2), .head [(0, .dat (.sl (.st .Mail))), (1, .same), (7, .dat (.int .i64)), (8, .dat (.int .i64))]),
  ((158, 2), .head [(0, .dat (.sl (.st .Ask))), (1, .same), (7, .dat (.int .i64)), (8, .dat (.int .i64))]),
  ((183, 3), .head [(0, .dat (.sl (.sl (.int .u8)))), (3, .own 48 (.sl (.int .u8))), (4, .dat (.int .i64))]),
  ((186, 5), .head [(1, .same), (3, .dat (.int .i64)), (4, .dat (.int .i64))]),
  ((186, 10), .head [(1, .same), (3, .dat (.int .i64)), (5, .dat (.int .i64))]),
  ((187, 2), .head [(0, .dat (.sl (.st .Rec))), (3, .dat (.int .i64))]),
  ((188, 5), .head [(1, .same), (3, .dat (.int .i64)), (4, .dat (.int .i64))]),
  ((189, 5), .head [(1, .same), (4, .own 48 (.sl (.int .u8))), (5, .dat (.int .i64))]),
  ((190, 4), .head [(1, .dat (.sl (.int .u8))), (5, .dat (.int .i64))]),
  ((196, 4), .head [(0, .dat (.sl (.sl (.int .u8)))), (1, .dat (.sl (.sl (.int .u8)))), (5, .dat (.int .i64))]),
  ((197, 4), .head [(5, .same), (6, .dat (.int .u32)), (11, .dat (.sl (.int .u8))), (12, .dat (.int .i64)), (13, .dat (.int .i64))]),
  ((200, 8), .head [(7, .own 5 (.int .u8)), (8, .dat (.int .i64))]),
  ((205, 2), .head [(0, .dat (.sl (.sl (.int .u8)))), (1, .same), (7, .dat (.int .i64)), (8, .dat (.int .i64))]),
  ((207, 2), .head [(0, .dat (.sl (.st .Rec))), (5, .dat (.sl (.st .Rec))), (6, .dat (.int .i64)), (7, .dat (.int .i64))]),
  ((209, 2), .head [(0, .dat (.sl (.st .Sent))), (1, .same), (7, .dat (.int .i64)), (8, .dat (.int .i64))]),
  ((210, 2), .head [(0, .dat (.sl (.st .Wait))), (1, .same), (7, .dat (.int .i64)), (8, .dat (.int .i64))]),
  ((217, 2), .head [(0, .dat (.sl (.int .i64))), (1, .same), (7, .dat (.int .i64)), (8, .dat (.int .i64))]),
  ((221, 2), .head [(0, .dat (.sl (.int .u8))), (3, .dat (.int .i64))]),
  ((227, 3), .head [(0, .dat (.int .u32)), (10, .dat (.int .i64))]),
  ((230, 7), .head [(0, .dat (.sl (.int .u64))), (1, .dat (.sl (.int .i64))), (8, .own 5 (.int .u8)), (9, .dat (.int .i64)), (28, .dat (.int .i64)), (29, .dat (.int .i64))]),
  ((240, 3), .head [(0, .dat (.int .i64)), (3, .dat (.int .i64)), (4, .dat (.int .i64))]),
  ((243, 2), .head [(0, .dat (.int .u32)), (1, .dat (.sl (.int .u8))), (5, .dat (.int .i64))]),
  ((246, 4), .head [(2, .dat (.int .i64)), (9, .dat (.sl (.int .i64))), (10, .dat (.int .i64)), (11, .dat (.int .i64))]),
  ((247, 2), .head [(0, .wrow 5 (.int .u8)), (1, .dat (.int .u64)), (7, .dat (.int .i64)), (8, .dat (.int .i64))]),
  ((252, 3), .head [(0, .dat (.int .u32)), (5, .dat (.int .i64))])]
theorem tys_ok : tysOkB Go.Proofs.Tryz.prog tys = true := by kernel_rfl
theorem mixed_ok : Go.Proofs.Tryz.prog.follows .mixedOrders = true := by kernel_rfl
theorem nm_3 : (f3.name == "runtime.NumGoroutine") = false := by kernel_rfl
theorem nm_4 : (f4.name == "runtime.NumGoroutine") = false := by kernel_rfl
theorem nm_8 : (f8.name == "runtime.NumGoroutine") = false := by kernel_rfl
theorem nm_9 : (f9.name == "runtime.NumGoroutine") = false := by kernel_rfl
theorem nm_10 : (f10.name == "runtime.NumGoroutine") = false := by kernel_rfl
theorem nm_11 : (f11.name == "runtime.NumGoroutine") = false := by kernel_rfl
theorem nm_12 : (f12.name == "runtime.NumGoroutine") = false := by kernel_rfl
theorem nm_13 : (f13.name == "runtime.NumGoroutine") = false := by kernel_rfl
theorem nm_14 : (f14.name == "runtime.NumGoroutine") = false := by kernel_rfl
theorem nm_20 : (f20.name == "runtime.NumGoroutine") = false := by kernel_rfl
theorem nm_22 : (f22.name == "runtime.NumGoroutine") = false := by kernel_rfl
theorem nm_26 : (f26.name == "runtime.NumGoroutine") = false := by kernel_rfl
theorem nm_29 : (f29.name == "runtime.NumGoroutine") = false := by kernel_rfl
theorem nm_30 : (f30.name == "runtime.NumGoroutine") = false := by kernel_rfl
theorem nm_31 : (f31.name == "runtime.NumGoroutine") = false := by kernel_rfl
theorem nm_32 : (f32.name == "runtime.NumGoroutine") = false := by kernel_rfl
theorem nm_33 : (f33.name == "runtime.NumGoroutine") = false := by kernel_rfl
theorem nm_34 : (f34.name == "runtime.NumGoroutine") = false := by kernel_rfl
theorem nm_35 : (f35.name == "runtime.NumGoroutine") = false := by kernel_rfl
theorem nm_36 : (f36.name == "runtime.NumGoroutine") = false := by kernel_rfl
theorem nm_37 : (f37.name == "runtime.NumGoroutine") = false := by kernel_rfl
theorem nm_38 : (f38.name == "runtime.NumGoroutine") = false := by kernel_rfl
theorem nm_39 : (f39.name == "runtime.NumGoroutine") = false := by kernel_rfl
theorem nm_40 : (f40.name == "runtime.NumGoroutine") = false := by kernel_rfl
theorem nm_41 : (f41.name == "runtime.NumGoroutine") = false := by kernel_rfl
theorem nm_42 : (f42.name == "runtime.NumGoroutine") = false := by kernel_rfl
theorem nm_43 : (f43.name == "runtime.NumGoroutine") = false := by kernel_rfl
theorem nm_44 : (f44.name == "runtime.NumGoroutine") = false := by kernel_rfl
theorem nm_45 : (f45.name == "runtime.NumGoroutine") = false := by kernel_rfl
theorem nm_46 : (f46.name == "runtime.NumGoroutine") = false := by kernel_rfl
theorem nm_47 : (f47.name == "runtime.NumGoroutine") = false := by kernel_rfl
theorem nm_48 : (f48.name == "runtime.NumGoroutine") = false := by kernel_rfl
theorem nm_49 : (f49.name == "runtime.NumGoroutine") = false := by kernel_rfl
theorem nm_50 : (f50.name == "runtime.NumGoroutine") = false := by kernel_rfl
theorem nm_54 : (f54.name == "runtime.NumGoroutine") = false := by kernel_rfl
theorem nm_55 : (f55.name == "runtime.NumGoroutine") = false := by kernel_rfl
theorem nm_57 : (f57.name == "runtime.NumGoroutine") = false := by kernel_rfl
theorem nm_58 : (f58.name == "runtime.NumGoroutine") = false := by kernel_rfl
theorem nm_59 : (f59.name == "runtime.NumGoroutine") = false := by kernel_rfl
theorem nm_60 : (f60.name == "runtime.NumGoroutine") = false := by kernel_rfl
theorem nm_61 : (f61.name == "runtime.NumGoroutine") = false := by kernel_rfl
theorem nm_62 : (f62.name == "runtime.NumGoroutine") = false := by kernel_rfl
theorem nm_63 : (f63.name == "runtime.NumGoroutine") = false := by kernel_rfl
theorem nm_64 : (f64.name == "runtime.NumGoroutine") = false := by kernel_rfl
theorem nm_65 : (f65.name == "runtime.NumGoroutine") = false := by kernel_rfl
theorem nm_66 : (f66.name == "runtime.NumGoroutine") = false := by kernel_rfl
theorem nm_67 : (f67.name == "runtime.NumGoroutine") = false := by kernel_rfl
theorem nm_68 : (f68.name == "runtime.NumGoroutine") = false := by kernel_rfl
theorem nm_69 : (f69.name == "runtime.NumGoroutine") = false := by kernel_rfl
theorem nm_70 : (f70.name == "runtime.NumGoroutine") = false := by kernel_rfl
theorem nm_71 : (f71.name == "runtime.NumGoroutine") = false := by kernel_rfl
theorem nm_72 : (f72.name == "runtime.NumGoroutine") = false := by kernel_rfl
theorem nm_73 : (f73.name == "runtime.NumGoroutine") = false := by kernel_rfl
theorem nm_75 : (f75.name == "runtime.NumGoroutine") = false := by kernel_rfl
theorem nm_76 : (f76.name == "runtime.NumGoroutine") = false := by kernel_rfl
theorem nm_77 : (f77.name == "runtime.NumGoroutine") = false := by kernel_rfl
theorem nm_78 : (f78.name == "runtime.NumGoroutine") = false := by kernel_rfl
theorem nm_79 : (f79.name == "runtime.NumGoroutine") = false := by kernel_rfl
theorem nm_80 : (f80.name == "runtime.NumGoroutine") = false := by kernel_rfl
theorem nm_81 : (f81.name == "runtime.NumGoroutine") = false := by kernel_rfl
theorem nm_82 : (f82.name == "runtime.NumGoroutine") = false := by kernel_rfl
theorem nm_83 : (f83.name == "runtime.NumGoroutine") = false := by kernel_rfl
theorem nm_84 : (f84.name == "runtime.NumGoroutine") = false := by kernel_rfl
theorem nm_85 : (f85.name == "runtime.NumGoroutine") = false := by kernel_rfl
theorem nm_86 : (f86.name == "runtime.NumGoroutine") = false := by kernel_rfl
theorem nm_87 : (f87.name == "runtime.NumGoroutine") = false := by kernel_rfl
theorem nm_88 : (f88.name == "runtime.NumGoroutine") = false := by kernel_rfl
theorem nm_89 : (f89.name == "runtime.NumGoroutine") = false := by kernel_rfl
theorem nm_90 : (f90.name == "runtime.NumGoroutine") = false := by kernel_rfl
theorem nm_91 : (f91.name == "runtime.NumGoroutine") = false := by kernel_rfl
theorem nm_92 : (f92.name == "runtime.NumGoroutine") = false := by kernel_rfl
theorem nm_95 : (f95.name == "runtime.NumGoroutine") = false := by kernel_rfl
theorem nm_111 : (f111.name == "runtime.NumGoroutine") = false := by kernel_rfl
theorem nm_112 : (f112.name == "runtime.NumGoroutine") = false := by kernel_rfl
theorem nm_113 : (f113.name == "runtime.NumGoroutine") = false := by kernel_rfl
theorem nm_114 : (f114.name == "runtime.NumGoroutine") = false := by kernel_rfl
theorem nm_115 : (f115.name == "runtime.NumGoroutine") = false := by kernel_rfl
theorem nm_116 : (f116.name == "runtime.NumGoroutine") = false := by kernel_rfl
theorem nm_117 : (f117.name == "runtime.NumGoroutine") = false := by kernel_rfl
theorem nm_118 : (f118.name == "runtime.NumGoroutine") = false := by kernel_rfl
theorem nm_119 : (f119.name == "runtime.NumGoroutine") = false := by kernel_rfl
theorem nm_120 : (f120.name == "runtime.NumGoroutine") = false := by kernel_rfl
theorem nm_121 : (f121.name == "runtime.NumGoroutine") = false := by kernel_rfl
theorem nm_122 : (f122.name == "runtime.NumGoroutine") = false := by kernel_rfl
theorem nm_123 : (f123.name == "runtime.NumGoroutine") = false := by kernel_rfl
theorem nm_124 : (f124.name == "runtime.NumGoroutine") = false := by kernel_rfl
theorem nm_125 : (f125.name == "runtime.NumGoroutine") = false := by kernel_rfl
theorem nm_126 : (f126.name == "runtime.NumGoroutine") = false := by kernel_rfl
theorem nm_127 : (f127.name == "runtime.NumGoroutine") = false := by kernel_rfl
theorem nm_128 : (f128.name == "runtime.NumGoroutine") = false := by kernel_rfl
theorem nm_129 : (f129.name == "runtime.NumGoroutine") = false := by kernel_rfl
theorem nm_130 : (f130.name == "runtime.NumGoroutine") = false := by kernel_rfl
theorem nm_131 : (f131.name == "runtime.NumGoroutine") = false := by kernel_rfl
theorem nm_136 : (f136.name == "runtime.NumGoroutine") = false := by kernel_rfl
theorem nm_137 : (f137.name == "runtime.NumGoroutine") = false := by kernel_rfl
theorem nm_138 : (f138.name == "runtime.NumGoroutine") = false := by kernel_rfl
theorem nm_139 : (f139.name == "runtime.NumGoroutine") = false := by kernel_rfl
theorem nm_140 : (f140.name == "runtime.NumGoroutine") = false := by kernel_rfl
theorem nm_141 : (f141.name == "runtime.NumGoroutine") = false := by kernel_rfl
theorem nm_142 : (f142.name == "runtime.NumGoroutine") = false := by kernel_rfl
theorem nm_143 : (f143.name == "runtime.NumGoroutine") = false := by kernel_rfl
theorem nm_144 : (f144.name == "runtime.NumGoroutine") = false := by kernel_rfl
theorem nm_145 : (f145.name == "runtime.NumGoroutine") = false := by kernel_rfl
theorem nm_146 : (f146.name == "runtime.NumGoroutine") = false := by kernel_rfl
theorem nm_147 : (f147.name == "runtime.NumGoroutine") = false := by kernel_rfl
theorem nm_148 : (f148.name == "runtime.NumGoroutine") = false := by kernel_rfl
theorem nm_149 : (f149.name == "runtime.NumGoroutine") = false := by kernel_rfl
theorem nm_150 : (f150.name == "runtime.NumGoroutine") = false := by kernel_rfl
theorem nm_151 : (f151.name == "runtime.NumGoroutine") = false := by kernel_rfl
theorem nm_152 : (f152.name == "runtime.NumGoroutine") = false := by kernel_rfl
theorem nm_153 : (f153.name == "runtime.NumGoroutine") = false := by kernel_rfl
theorem nm_154 : (f154.name == "runtime.NumGoroutine") = false := by kernel_rfl
theorem nm_155 : (f155.name == "runtime.NumGoroutine") = false := by kernel_rfl
theorem nm_156 : (f156.name == "runtime.NumGoroutine") = false := by kernel_rfl
theorem nm_157 : (f157.name == "runtime.NumGoroutine") = false := by kernel_rfl
theorem nm_158 : (f158.name == "runtime.NumGoroutine") = false := by kernel_rfl
theorem nm_162 : (f162.name == "runtime.NumGoroutine") = false := by kernel_rfl
theorem nm_163 : (f163.name == "runtime.NumGoroutine") = false := by kernel_rfl
theorem nm_166 : (f166.name == "runtime.NumGoroutine") = false := by kernel_rfl
theorem nm_167 : (f167.name == "runtime.NumGoroutine") = false := by kernel_rfl
theorem nm_170 : (f170.name == "runtime.NumGoroutine") = false := by kernel_rfl
theorem nm_179 : (f179.name == "runtime.NumGoroutine") = false := by kernel_rfl
theorem nm_183 : (f183.name == "runtime.NumGoroutine") = false := by kernel_rfl
theorem nm_184 : (f184.name == "runtime.NumGoroutine") = false := by kernel_rfl
theorem nm_185 : (f185.name == "runtime.NumGoroutine") = false := by kernel_rfl
theorem nm_186 : (f186.name == "runtime.NumGoroutine") = false := by kernel_rfl
theorem nm_187 : (f187.name == "runtime.NumGoroutine") = false := by kernel_rfl
theorem nm_188 : (f188.name == "runtime.NumGoroutine") = false := by kernel_rfl
theorem nm_189 : (f189.name == "runtime.NumGoroutine") = false := by kernel_rfl
theorem nm_190 : (f190.name == "runtime.NumGoroutine") = false := by kernel_rfl
theorem nm_191 : (f191.name == "runtime.NumGoroutine") = false := by kernel_rfl
theorem nm_192 : (f192.name == "runtime.NumGoroutine") = false := by kernel_rfl
theorem nm_193 : (f193.name == "runtime.NumGoroutine") = false := by kernel_rfl
theorem nm_194 : (f194.name == "runtime.NumGoroutine") = false := by kernel_rfl
theorem nm_195 : (f195.name == "runtime.NumGoroutine") = false := by kernel_rfl
theorem nm_196 : (f196.name == "runtime.NumGoroutine") = false := by kernel_rfl
theorem nm_197 : (f197.name == "runtime.NumGoroutine") = false := by kernel_rfl
theorem nm_198 : (f198.name == "runtime.NumGoroutine") = false := by kernel_rfl
theorem nm_200 : (f200.name == "runtime.NumGoroutine") = false := by kernel_rfl
theorem nm_202 : (f202.name == "runtime.NumGoroutine") = false := by kernel_rfl
theorem nm_204 : (f204.name == "runtime.NumGoroutine") = false := by kernel_rfl
theorem nm_205 : (f205.name == "runtime.NumGoroutine") = false := by kernel_rfl
theorem nm_206 : (f206.name == "runtime.NumGoroutine") = false := by kernel_rfl
theorem nm_207 : (f207.name == "runtime.NumGoroutine") = false := by kernel_rfl
theorem nm_208 : (f208.name == "runtime.NumGoroutine") = false := by kernel_rfl
theorem nm_209 : (f209.name == "runtime.NumGoroutine") = false := by kernel_rfl
theorem nm_210 : (f210.name == "runtime.NumGoroutine") = false := by kernel_rfl
theorem nm_211 : (f211.name == "runtime.NumGoroutine") = false := by kernel_rfl
theorem nm_216 : (f216.name == "runtime.NumGoroutine") = false := by kernel_rfl
theorem nm_217 : (f217.name == "runtime.NumGoroutine") = false := by kernel_rfl
theorem nm_219 : (f219.name == "runtime.NumGoroutine") = false := by kernel_rfl
theorem nm_220 : (f220.name == "runtime.NumGoroutine") = false := by kernel_rfl
theorem nm_221 : (f221.name == "runtime.NumGoroutine") = false := by kernel_rfl
theorem nm_222 : (f222.name == "runtime.NumGoroutine") = false := by kernel_rfl
theorem nm_223 : (f223.name == "runtime.NumGoroutine") = false := by kernel_rfl
theorem nm_224 : (f224.name == "runtime.NumGoroutine") = false := by kernel_rfl
theorem nm_225 : (f225.name == "runtime.NumGoroutine") = false := by kernel_rfl
theorem nm_226 : (f226.name == "runtime.NumGoroutine") = false := by kernel_rfl
theorem nm_227 : (f227.name == "runtime.NumGoroutine") = false := by kernel_rfl
theorem nm_228 : (f228.name == "runtime.NumGoroutine") = false := by kernel_rfl
theorem nm_229 : (f229.name == "runtime.NumGoroutine") = false := by kernel_rfl
theorem nm_230 : (f230.name == "runtime.NumGoroutine") = false := by kernel_rfl
theorem nm_234 : (f234.name == "runtime.NumGoroutine") = false := by kernel_rfl
theorem nm_235 : (f235.name == "runtime.NumGoroutine") = false := by kernel_rfl
theorem nm_236 : (f236.name == "runtime.NumGoroutine") = false := by kernel_rfl
theorem nm_240 : (f240.name == "runtime.NumGoroutine") = false := by kernel_rfl
theorem nm_241 : (f241.name == "runtime.NumGoroutine") = false := by kernel_rfl
theorem nm_242 : (f242.name == "runtime.NumGoroutine") = false := by kernel_rfl
theorem nm_243 : (f243.name == "runtime.NumGoroutine") = false := by kernel_rfl
theorem nm_244 : (f244.name == "runtime.NumGoroutine") = false := by kernel_rfl
theorem nm_245 : (f245.name == "runtime.NumGoroutine") = false := by kernel_rfl
theorem nm_246 : (f246.name == "runtime.NumGoroutine") = false := by kernel_rfl
theorem nm_247 : (f247.name == "runtime.NumGoroutine") = false := by kernel_rfl
theorem nm_249 : (f249.name == "runtime.NumGoroutine") = false := by kernel_rfl
theorem nm_250 : (f250.name == "runtime.NumGoroutine") = false := by kernel_rfl
theorem nm_252 : (f252.name == "runtime.NumGoroutine") = false := by kernel_rfl
theorem nm_253 : (f253.name == "runtime.NumGoroutine") = false := by kernel_rfl
theorem en_29 : Enters Go.Proofs.Tryz.prog 29 := enters_of func29 nm_29 (by kernel_rfl)
theorem en_30 : Enters Go.Proofs.Tryz.prog 30 := enters_of func30 nm_30 (by kernel_rfl)
theorem en_8 : Enters Go.Proofs.Tryz.prog 8 := enters_of func8 nm_8 (by kernel_rfl)
theorem en_31 : Enters Go.Proofs.Tryz.prog 31 := enters_of func31 nm_31 (by kernel_rfl)
theorem en_32 : Enters Go.Proofs.Tryz.prog 32 := enters_of func32 nm_32 (by kernel_rfl)
theorem en_183 : Enters Go.Proofs.Tryz.prog 183 := enters_of func183 nm_183 (by kernel_rfl)
theorem en_33 : Enters Go.Proofs.Tryz.prog 33 := enters_of func33 nm_33 (by kernel_rfl)
theorem en_35 : Enters Go.Proofs.Tryz.prog 35 := enters_of func35 nm_35 (by kernel_rfl)
theorem en_34 : Enters Go.Proofs.Tryz.prog 34 := enters_of func34 nm_34 (by kernel_rfl)
theorem en_36 : Enters Go.Proofs.Tryz.prog 36 := enters_of func36 nm_36 (by kernel_rfl)
theorem en_9 : Enters Go.Proofs.Tryz.prog 9 := enters_of func9 nm_9 (by kernel_rfl)
theorem en_144 : Enters Go.Proofs.Tryz.prog 144 := enters_of func144 nm_144 (by kernel_rfl)
theorem en_57 : Enters Go.Proofs.Tryz.prog 57 := enters_of func57 nm_57 (by kernel_rfl)
theorem en_143 : Enters Go.Proofs.Tryz.prog 143 := enters_of func143 nm_143 (by kernel_rfl)
theorem en_139 : Enters Go.Proofs.Tryz.prog 139 := enters_of func139 nm_139 (by kernel_rfl)
theorem en_141 : Enters Go.Proofs.Tryz.prog 141 := enters_of func141 nm_141 (by kernel_rfl)
theorem en_136 : Enters Go.Proofs.Tryz.prog 136 := enters_of func136 nm_136 (by kernel_rfl)
theorem en_54 : Enters Go.Proofs.Tryz.prog 54 := enters_of func54 nm_54 (by kernel_rfl)
theorem en_131 : Enters Go.Proofs.Tryz.prog 131 := enters_of func131 nm_131 (by kernel_rfl)
theorem en_198 : Enters Go.Proofs.Tryz.prog 198 := enters_of func198 nm_198 (by kernel_rfl)
theorem en_50 : Enters Go.Proofs.Tryz.prog 50 := enters_of func50 nm_50 (by kernel_rfl)
theorem en_170 : Enters Go.Proofs.Tryz.prog 170 := enters_of func170 nm_170 (by kernel_rfl)
theorem en_202 : Enters Go.Proofs.Tryz.prog 202 := enters_of func202 nm_202 (by kernel_rfl)
theorem en_206 : Enters Go.Proofs.Tryz.prog 206 := enters_of func206 nm_206 (by kernel_rfl)
theorem en_145 : Enters Go.Proofs.Tryz.prog 145 := enters_of func145 nm_145 (by kernel_rfl)
theorem en_58 : Enters Go.Proofs.Tryz.prog 58 := enters_of func58 nm_58 (by kernel_rfl)
theorem en_230 : Enters Go.Proofs.Tryz.prog 230 := enters_of func230 nm_230 (by kernel_rfl)
theorem en_249 : Enters Go.Proofs.Tryz.prog 249 := enters_of func249 nm_249 (by kernel_rfl)
theorem en_234 : Enters Go.Proofs.Tryz.prog 234 := enters_of func234 nm_234 (by kernel_rfl)
theorem en_235 : Enters Go.Proofs.Tryz.prog 235 := enters_of func235 nm_235 (by kernel_rfl)
theorem en_208 : Enters Go.Proofs.Tryz.prog 208 := enters_of func208 nm_208 (by kernel_rfl)
theorem en_146 : Enters Go.Proofs.Tryz.prog 146 := enters_of func146 nm_146 (by kernel_rfl)
theorem en_59 : Enters Go.Proofs.Tryz.prog 59 := enters_of func59 nm_59 (by kernel_rfl)
theorem en_62 : Enters Go.Proofs.Tryz.prog 62 := enters_of func62 nm_62 (by kernel_rfl)
theorem en_162 : Enters Go.Proofs.Tryz.prog 162 := enters_of func162 nm_162 (by kernel_rfl)
theorem en_149 : Enters Go.Proofs.Tryz.prog 149 := enters_of func149 nm_149 (by kernel_rfl)
theorem en_65 : Enters Go.Proofs.Tryz.prog 65 := enters_of func65 nm_65 (by kernel_rfl)
theorem en_219 : Enters Go.Proofs.Tryz.prog 219 := enters_of func219 nm_219 (by kernel_rfl)
theorem en_179 : Enters Go.Proofs.Tryz.prog 179 := enters_of func179 nm_179 (by kernel_rfl)
theorem en_250 : Enters Go.Proofs.Tryz.prog 250 := enters_of func250 nm_250 (by kernel_rfl)
theorem en_236 : Enters Go.Proofs.Tryz.prog 236 := enters_of func236 nm_236 (by kernel_rfl)
theorem en_211 : Enters Go.Proofs.Tryz.prog 211 := enters_of func211 nm_211 (by kernel_rfl)
theorem en_156 : Enters Go.Proofs.Tryz.prog 156 := enters_of func156 nm_156 (by kernel_rfl)
theorem en_68 : Enters Go.Proofs.Tryz.prog 68 := enters_of func68 nm_68 (by kernel_rfl)
theorem en_71 : Enters Go.Proofs.Tryz.prog 71 := enters_of func71 nm_71 (by kernel_rfl)
theorem en_20 : Enters Go.Proofs.Tryz.prog 20 := enters_of func20 nm_20 (by kernel_rfl)
theorem en_227 : Enters Go.Proofs.Tryz.prog 227 := enters_of func227 nm_227 (by kernel_rfl)
theorem en_197 : Enters Go.Proofs.Tryz.prog 197 := enters_of func197 nm_197 (by kernel_rfl)
theorem en_129 : Enters Go.Proofs.Tryz.prog 129 := enters_of func129 nm_129 (by kernel_rfl)
theorem en_49 : Enters Go.Proofs.Tryz.prog 49 := enters_of func49 nm_49 (by kernel_rfl)
theorem en_112 : Enters Go.Proofs.Tryz.prog 112 := enters_of func112 nm_112 (by kernel_rfl)
theorem en_37 : Enters Go.Proofs.Tryz.prog 37 := enters_of func37 nm_37 (by kernel_rfl)
theorem en_115 : Enters Go.Proofs.Tryz.prog 115 := enters_of func115 nm_115 (by kernel_rfl)
theorem en_75 : Enters Go.Proofs.Tryz.prog 75 := enters_of func75 nm_75 (by kernel_rfl)
theorem en_140 : Enters Go.Proofs.Tryz.prog 140 := enters_of func140 nm_140 (by kernel_rfl)
theorem en_76 : Enters Go.Proofs.Tryz.prog 76 := enters_of func76 nm_76 (by kernel_rfl)
theorem en_77 : Enters Go.Proofs.Tryz.prog 77 := enters_of func77 nm_77 (by kernel_rfl)
theorem en_78 : Enters Go.Proofs.Tryz.prog 78 := enters_of func78 nm_78 (by kernel_rfl)
theorem en_81 : Enters Go.Proofs.Tryz.prog 81 := enters_of func81 nm_81 (by kernel_rfl)
theorem en_82 : Enters Go.Proofs.Tryz.prog 82 := enters_of func82 nm_82 (by kernel_rfl)
theorem en_83 : Enters Go.Proofs.Tryz.prog 83 := enters_of func83 nm_83 (by kernel_rfl)
theorem en_86 : Enters Go.Proofs.Tryz.prog 86 := enters_of func86 nm_86 (by kernel_rfl)
theorem en_87 : Enters Go.Proofs.Tryz.prog 87 := enters_of func87 nm_87 (by kernel_rfl)
theorem en_22 : Enters Go.Proofs.Tryz.prog 22 := enters_of func22 nm_22 (by kernel_rfl)
theorem en_38 : Enters Go.Proofs.Tryz.prog 38 := enters_of func38 nm_38 (by kernel_rfl)
theorem en_39 : Enters Go.Proofs.Tryz.prog 39 := enters_of func39 nm_39 (by kernel_rfl)
theorem en_10 : Enters Go.Proofs.Tryz.prog 10 := enters_of func10 nm_10 (by kernel_rfl)
theorem en_166 : Enters Go.Proofs.Tryz.prog 166 := enters_of func166 nm_166 (by kernel_rfl)
theorem en_95 : Enters Go.Proofs.Tryz.prog 95 := enters_of func95 nm_95 (by kernel_rfl)
theorem en_167 : Enters Go.Proofs.Tryz.prog 167 := enters_of func167 nm_167 (by kernel_rfl)
theorem en_220 : Enters Go.Proofs.Tryz.prog 220 := enters_of func220 nm_220 (by kernel_rfl)
theorem en_185 : Enters Go.Proofs.Tryz.prog 185 := enters_of func185 nm_185 (by kernel_rfl)
theorem en_221 : Enters Go.Proofs.Tryz.prog 221 := enters_of func221 nm_221 (by kernel_rfl)
theorem en_186 : Enters Go.Proofs.Tryz.prog 186 := enters_of func186 nm_186 (by kernel_rfl)
theorem en_116 : Enters Go.Proofs.Tryz.prog 116 := enters_of func116 nm_116 (by kernel_rfl)
theorem en_222 : Enters Go.Proofs.Tryz.prog 222 := enters_of func222 nm_222 (by kernel_rfl)
theorem en_187 : Enters Go.Proofs.Tryz.prog 187 := enters_of func187 nm_187 (by kernel_rfl)
theorem en_117 : Enters Go.Proofs.Tryz.prog 117 := enters_of func117 nm_117 (by kernel_rfl)
theorem en_188 : Enters Go.Proofs.Tryz.prog 188 := enters_of func188 nm_188 (by kernel_rfl)
theorem en_189 : Enters Go.Proofs.Tryz.prog 189 := enters_of func189 nm_189 (by kernel_rfl)
theorem en_118 : Enters Go.Proofs.Tryz.prog 118 := enters_of func118 nm_118 (by kernel_rfl)
theorem en_119 : Enters Go.Proofs.Tryz.prog 119 := enters_of func119 nm_119 (by kernel_rfl)
theorem en_224 : Enters Go.Proofs.Tryz.prog 224 := enters_of func224 nm_224 (by kernel_rfl)
theorem en_190 : Enters Go.Proofs.Tryz.prog 190 := enters_of func190 nm_190 (by kernel_rfl)
theorem en_191 : Enters Go.Proofs.Tryz.prog 191 := enters_of func191 nm_191 (by kernel_rfl)
theorem en_120 : Enters Go.Proofs.Tryz.prog 120 := enters_of func120 nm_120 (by kernel_rfl)
theorem en_225 : Enters Go.Proofs.Tryz.prog 225 := enters_of func225 nm_225 (by kernel_rfl)
theorem en_193 : Enters Go.Proofs.Tryz.prog 193 := enters_of func193 nm_193 (by kernel_rfl)
theorem en_192 : Enters Go.Proofs.Tryz.prog 192 := enters_of func192 nm_192 (by kernel_rfl)
theorem en_121 : Enters Go.Proofs.Tryz.prog 121 := enters_of func121 nm_121 (by kernel_rfl)
theorem en_40 : Enters Go.Proofs.Tryz.prog 40 := enters_of func40 nm_40 (by kernel_rfl)
theorem en_252 : Enters Go.Proofs.Tryz.prog 252 := enters_of func252 nm_252 (by kernel_rfl)
theorem en_243 : Enters Go.Proofs.Tryz.prog 243 := enters_of func243 nm_243 (by kernel_rfl)
theorem en_226 : Enters Go.Proofs.Tryz.prog 226 := enters_of func226 nm_226 (by kernel_rfl)
theorem en_194 : Enters Go.Proofs.Tryz.prog 194 := enters_of func194 nm_194 (by kernel_rfl)
theorem en_122 : Enters Go.Proofs.Tryz.prog 122 := enters_of func122 nm_122 (by kernel_rfl)
theorem en_195 : Enters Go.Proofs.Tryz.prog 195 := enters_of func195 nm_195 (by kernel_rfl)
theorem en_123 : Enters Go.Proofs.Tryz.prog 123 := enters_of func123 nm_123 (by kernel_rfl)
theorem en_124 : Enters Go.Proofs.Tryz.prog 124 := enters_of func124 nm_124 (by kernel_rfl)
theorem en_41 : Enters Go.Proofs.Tryz.prog 41 := enters_of func41 nm_41 (by kernel_rfl)
theorem en_11 : Enters Go.Proofs.Tryz.prog 11 := enters_of func11 nm_11 (by kernel_rfl)
theorem en_26 : Enters Go.Proofs.Tryz.prog 26 := enters_of func26 nm_26 (by kernel_rfl)
theorem en_42 : Enters Go.Proofs.Tryz.prog 42 := enters_of func42 nm_42 (by kernel_rfl)
theorem en_125 : Enters Go.Proofs.Tryz.prog 125 := enters_of func125 nm_125 (by kernel_rfl)
theorem en_43 : Enters Go.Proofs.Tryz.prog 43 := enters_of func43 nm_43 (by kernel_rfl)
theorem en_196 : Enters Go.Proofs.Tryz.prog 196 := enters_of func196 nm_196 (by kernel_rfl)
theorem en_126 : Enters Go.Proofs.Tryz.prog 126 := enters_of func126 nm_126 (by kernel_rfl)
theorem en_44 : Enters Go.Proofs.Tryz.prog 44 := enters_of func44 nm_44 (by kernel_rfl)
theorem en_127 : Enters Go.Proofs.Tryz.prog 127 := enters_of func127 nm_127 (by kernel_rfl)
theorem en_128 : Enters Go.Proofs.Tryz.prog 128 := enters_of func128 nm_128 (by kernel_rfl)
theorem en_45 : Enters Go.Proofs.Tryz.prog 45 := enters_of func45 nm_45 (by kernel_rfl)
theorem en_46 : Enters Go.Proofs.Tryz.prog 46 := enters_of func46 nm_46 (by kernel_rfl)
theorem en_47 : Enters Go.Proofs.Tryz.prog 47 := enters_of func47 nm_47 (by kernel_rfl)
theorem en_12 : Enters Go.Proofs.Tryz.prog 12 := enters_of func12 nm_12 (by kernel_rfl)
theorem en_3 : Enters Go.Proofs.Tryz.prog 3 := enters_of func3 nm_3 (by kernel_rfl)
theorem en_14 : Enters Go.Proofs.Tryz.prog 14 := enters_of func14 nm_14 (by kernel_rfl)
theorem en_13 : Enters Go.Proofs.Tryz.prog 13 := enters_of func13 nm_13 (by kernel_rfl)
theorem en_4 : Enters Go.Proofs.Tryz.prog 4 := enters_of func4 nm_4 (by kernel_rfl)
noncomputable def s29 : VSpec := { params := [(.st .Disk), (.int .i64)], results := [.bool], own := none, fn := N_ref05_Great }
noncomputable def s30 : VSpec := { params := [(.st .Site)], results := [.bool], own := none, fn := N_ref21_greatWords }
noncomputable def s8 : VSpec := { params := [(.st .Site)], results := [.bool], own := none, fn := N_ref21_Great }
noncomputable def s31 : VSpec := { params := [(.st .Disk)], results := [(.st .Disk)], own := none, fn := N_ref05_Twin }
noncomputable def s32 : VSpec := { params := [(.st .Meta)], results := [(.st .Meta)], own := none, fn := N_ref12_Twin }
noncomputable def s183 : VSpec := { params := [(.sl (.sl (.int .u8)))], results := [(.sl (.sl (.int .u8)))], own := none, fn := N_ref04_TwinAll }
noncomputable def s33 : VSpec := { params := [(.st .End)], results := [(.st .End)], own := none, fn := N_ref17_Twin }
noncomputable def s35 : VSpec := { params := [(.sl (.int .u8))], results := [(.sl (.int .u8))], own := none, fn := N_ref21_bytes }
noncomputable def s34 : VSpec := { params := [(.st .Side)], results := [(.st .Side)], own := none, fn := N_ref21_TwinSide }
noncomputable def s36 : VSpec := { params := [(.st .Msg)], results := [(.st .Msg)], own := none, fn := N_ref20_Twin }
noncomputable def s9 : VSpec := { params := [(.st .Site)], results := [(.st .Site)], own := none, fn := N_ref21_Twin }
noncomputable def s144 : VSpec := { params := [(.sl (.st .Bound))], results := [.bool], own := none, fn := N_place_within }
noncomputable def s57 : VSpec := { params := [(.st .Config)], results := [(.int .i64)], own := none, fn := N_place_Check }
noncomputable def s143 : VSpec := { params := [(.st .Round), (.int .i64)], results := [(.int .i64)], own := none, fn := N_ring_round_byte_at }
noncomputable def s139 : VSpec := { params := [(.st .Queue)], results := [(.int .i64)], own := none, fn := N_ring_Check }
noncomputable def s141 : VSpec := { params := [(.sl (.int .u8))], results := [(.sl (.int .u8))], own := none, fn := N_ring_text }
noncomputable def s136 : VSpec := { params := [(.st .Queue)], results := [(.sl (.sl (.int .u8))), (.int .i64)], own := none, fn := N_ring_List }
noncomputable def s54 : VSpec := { params := [(.st .Config), (.st .End)], results := [(.int .i64)], own := none, fn := N_sess_Check }
noncomputable def s131 : VSpec := { params := [(.st .Part)], results := [(.int .i64)], own := none, fn := N_place_part_size }
noncomputable def s198 : VSpec := { params := [(.st .Config)], results := [(.int .i64)], own := none, fn := N_place_pages }
noncomputable def s50 : VSpec := { params := [(.st .Config)], results := [(.int .i64), (.int .i64)], own := none, fn := N_place_Sectors }
noncomputable def s170 : VSpec := { params := [(.sl (.int .u8)), (.sl (.int .u8))], results := [.bool], own := none, fn := N_bytes_Equal }
noncomputable def s202 : VSpec := { params := [(.sl (.sl (.int .u8)))], results := [.bool], own := none, fn := N_disk_sized }
noncomputable def s206 : VSpec := { params := [], results := [(.sl (.int .u8))], own := none, fn := N_disk_none }
noncomputable def s145 : VSpec := { params := [(.st .Disk)], results := [(.int .i64)], own := none, fn := N_disk_Check }
noncomputable def s58 : VSpec := { params := [(.st .Config), (.st .Disk)], results := [(.int .i64)], own := none, fn := N_track_Check }
noncomputable def s230 : VSpec := { params := [(.sl (.int .u64)), (.sl (.int .i64))], results := [(.sl (.int .u8)), (.int .i64)], own := none, fn := N_num_Write }
noncomputable def s249 : VSpec := { params := [(.sl (.int .i64))], results := [.bool], own := none, fn := N_rec_site }
noncomputable def s234 : VSpec := { params := [(.st .Rec)], results := [(.int .i64)], own := none, fn := N_rec_Check }
noncomputable def s235 : VSpec := { params := [], results := [(.sl (.int .i64))], own := none, fn := N_rec_sizes }
noncomputable def s208 : VSpec := { params := [(.st .Rec)], results := [(.sl (.int .u8)), (.int .i64)], own := none, fn := N_rec_Note }
noncomputable def s146 : VSpec := { params := [(.sl (.st .Rec))], results := [(.sl (.sl (.int .u8))), (.int .i64)], own := none, fn := N_rec_Notes }
noncomputable def s59 : VSpec := { params := [(.st .Config), (.st .Meta)], results := [(.int .i64)], own := none, fn := N_meta_Check }
noncomputable def s62 : VSpec := { params := [(.st .Config), (.int .i64)], results := [.bool], own := none, fn := N_act_limits_pair }
noncomputable def s162 : VSpec := { params := [(.int .i64)], results := [(.sl (.int .u8)), (.int .i64)], own := none, fn := N_bits_All }
noncomputable def s149 : VSpec := { params := [(.int .i64), (.sl (.int .u8))], results := [(.int .i64)], own := none, fn := N_bits_Check }
noncomputable def s65 : VSpec := { params := [(.st .Config), (.st .Side)], results := [.bool], own := none, fn := N_act_limits_side }
noncomputable def s219 : VSpec := { params := [(.st .Msg)], results := [(.st .Plain)], own := none, fn := N_msg_of }
noncomputable def s179 : VSpec := { params := [(.st .Msg), (.st .Msg)], results := [.bool], own := none, fn := N_msg_Same }
noncomputable def s250 : VSpec := { params := [(.sl (.int .u8))], results := [.bool], own := none, fn := N_msg_marks }
noncomputable def s236 : VSpec := { params := [(.st .Msg)], results := [(.st .Msg), .bool], own := none, fn := N_msg_used }
noncomputable def s211 : VSpec := { params := [(.st .Msg)], results := [(.int .i64)], own := none, fn := N_msg_Check }
noncomputable def s156 : VSpec := { params := [(.st .Config), (.st .Msg)], results := [.bool], own := none, fn := N_act_limits_message }
noncomputable def s68 : VSpec := { params := [(.st .Config), (.st .Act), (.int .i64)], results := [.bool], own := none, fn := N_act_limits_act }
noncomputable def s71 : VSpec := { params := [(.st .Config), (.st .Mail)], results := [.bool], own := none, fn := N_act_limits_mail }
noncomputable def s20 : VSpec := { params := [(.st .Config), (.st .Site)], results := [(.int .i64)], own := none, fn := N_act_Check }
noncomputable def s227 : VSpec := { params := [(.int .u32), (.int .u8)], results := [(.int .u32)], own := none, fn := N_crc_sum_take }
noncomputable def s197 : VSpec := { params := [(.int .u32), (.sl (.int .u8))], results := [(.int .u32)], own := none, fn := N_crc_More }
noncomputable def s129 : VSpec := { params := [(.sl (.int .u8))], results := [(.int .u32)], own := none, fn := N_crc_Sum }
noncomputable def s49 : VSpec := { params := [(.sl (.int .u8))], results := [(.sl (.int .u8)), (.int .i64)], own := none, fn := N_crc_Seal }
noncomputable def s112 : VSpec := { params := [(.sl (.int .u8))], results := [(.sl (.int .u8)), (.int .i64)], own := none, fn := N_crc_Open }
noncomputable def s37 : VSpec := { params := [(.sl (.int .u8))], results := [(.int .u8), (.int .u8), (.int .i64)], own := none, fn := N_req_Read }
noncomputable def s115 : VSpec := { params := [(.sl (.int .u8))], results := [(.sl (.int .u8))], own := none, fn := N_slices_Clone_byte_byte }
noncomputable def s75 : VSpec := { params := [(.st .Disk)], results := [(.st .Disk)], own := none, fn := N_disk_Twin }
noncomputable def s140 : VSpec := { params := [(.st .Queue)], results := [(.st .Queue)], own := none, fn := N_ring_Twin }
noncomputable def s76 : VSpec := { params := [(.st .End)], results := [(.st .End)], own := none, fn := N_sess_Twin }
noncomputable def s77 : VSpec := { params := [(.sl (.st .Rec))], results := [(.sl (.st .Rec))], own := none, fn := N_slices_Clone_api_Rec_api_Rec }
noncomputable def s78 : VSpec := { params := [(.sl (.int .i64))], results := [(.sl (.int .i64))], own := none, fn := N_slices_Clone_int_int }
noncomputable def s81 : VSpec := { params := [(.sl (.int .u8))], results := [(.sl (.int .u8))], own := none, fn := N_bytes_Clone }
noncomputable def s82 : VSpec := { params := [(.sl (.st .Sent))], results := [(.sl (.st .Sent))], own := none, fn := N_slices_Clone_api_Sent_api_Sent }
noncomputable def s83 : VSpec := { params := [(.sl (.st .Wait))], results := [(.sl (.st .Wait))], own := none, fn := N_slices_Clone_api_Wait_api_Wait }
noncomputable def s86 : VSpec := { params := [(.st .Msg)], results := [(.st .Msg)], own := none, fn := N_msg_Twin }
noncomputable def s87 : VSpec := { params := [(.st .Reply)], results := [(.st .Reply)], own := none, fn := N_act_reply }
noncomputable def s22 : VSpec := { params := [(.st .Site)], results := [(.st .Site)], own := some [none, none, none, some 84, none, some 68, some 73, some 101, some 66, none], fn := N_act_Twin }
noncomputable def s38 : VSpec := { params := [(.st .Config), (.st .Site), (.st .Reply)], results := [(.st .Site), (.int .i64)], own := none, fn := N_host_Answer }
noncomputable def s39 : VSpec := { params := [(.st .Config), (.st .Site), (.st .Ask)], results := [(.st .Site), (.int .i64)], own := none, fn := N_site_Ask }
noncomputable def s10 : VSpec := { params := [(.st .Config), (.st .Site), (.int .i64), (.sl (.int .u8))], results := [(.st .Site), (.int .i64)], own := none, fn := N_req_Submit }
noncomputable def s166 : VSpec := { params := [(.int .i64), (.int .i64), (.int .i64)], results := [.bool], own := none, fn := N_ref07_in }
noncomputable def s95 : VSpec := { params := [(.st .Config)], results := [.bool], own := none, fn := N_ref07_May }
noncomputable def s167 : VSpec := { params := [(.st .Config)], results := [(.int .i64)], own := none, fn := N_ref07_Many }
noncomputable def s220 : VSpec := { params := [(.st .Config)], results := [(.int .i64), (.int .i64), (.int .i64), (.int .i64)], own := none, fn := N_ref07_first }
noncomputable def s185 : VSpec := { params := [(.st .Config)], results := [(.int .i64)], own := none, fn := N_ref07_Size }
noncomputable def s221 : VSpec := { params := [(.sl (.int .u8))], results := [.bool], own := none, fn := N_ref05_blank }
noncomputable def s186 : VSpec := { params := [(.st .Disk)], results := [.bool], own := none, fn := N_ref05_May }
noncomputable def s116 : VSpec := { params := [(.st .Config), (.st .Disk)], results := [.bool], own := none, fn := N_ref08_May }
noncomputable def s222 : VSpec := { params := [(.st .Rec)], results := [.bool], own := none, fn := N_ref11_May }
noncomputable def s187 : VSpec := { params := [(.sl (.st .Rec))], results := [.bool], own := none, fn := N_ref11_MayAll }
noncomputable def s117 : VSpec := { params := [(.st .Config), (.st .Meta)], results := [.bool], own := none, fn := N_ref12_May }
noncomputable def s188 : VSpec := { params := [(.st .Queue)], results := [.bool], own := none, fn := N_ref04_May }
noncomputable def s189 : VSpec := { params := [(.st .Queue)], results := [(.sl (.sl (.int .u8))), (.int .i64)], own := none, fn := N_ref04_List }
noncomputable def s118 : VSpec := { params := [(.st .Config), (.st .End)], results := [.bool], own := none, fn := N_ref17_May }
noncomputable def s119 : VSpec := { params := [(.st .Config), (.int .i64)], results := [.bool], own := none, fn := N_ref21_pair }
noncomputable def s224 : VSpec := { params := [(.sl (.int .u8)), (.int .i64)], results := [.bool], own := none, fn := N_ref03_In }
noncomputable def s190 : VSpec := { params := [(.int .i64), (.sl (.int .u8))], results := [.bool], own := none, fn := N_ref03_May }
noncomputable def s191 : VSpec := { params := [(.st .Config), (.int .i64)], results := [.bool], own := none, fn := N_ref21_there }
noncomputable def s120 : VSpec := { params := [(.st .Config), (.st .Side)], results := [.bool], own := none, fn := N_ref21_maySide }
noncomputable def s225 : VSpec := { params := [(.st .Msg)], results := [.bool], own := none, fn := N_ref20_May }
noncomputable def s193 : VSpec := { params := [(.st .Config), (.st .Msg)], results := [.bool], own := none, fn := N_ref21_mayMsg }
noncomputable def s192 : VSpec := { params := [(.st .Config), (.st .Site), (.st .Act)], results := [.bool], own := none, fn := N_ref21_mayAct }
noncomputable def s121 : VSpec := { params := [(.st .Config), (.st .Site)], results := [.bool], own := none, fn := N_ref21_mayLists }
noncomputable def s40 : VSpec := { params := [(.st .Config), (.st .Site)], results := [.bool], own := none, fn := N_ref21_May }
noncomputable def s252 : VSpec := { params := [(.int .u32), (.int .u8)], results := [(.int .u32)], own := none, fn := N_ref02_Taken }
noncomputable def s243 : VSpec := { params := [(.int .u32), (.sl (.int .u8))], results := [(.int .u32)], own := none, fn := N_ref02_Behind }
noncomputable def s226 : VSpec := { params := [(.sl (.int .u8))], results := [(.int .u32)], own := none, fn := N_ref02_Sum }
noncomputable def s194 : VSpec := { params := [(.sl (.int .u8))], results := [(.sl (.int .u8))], own := none, fn := N_ref02_Sealed }
noncomputable def s122 : VSpec := { params := [(.sl (.int .u8))], results := [(.int .u8), (.int .u8), (.int .i64)], own := none, fn := N_ref28_Read }
noncomputable def s195 : VSpec := { params := [(.st .Site), (.st .Reply)], results := [(.st .Site)], own := none, fn := N_ref22_Answered }
noncomputable def s123 : VSpec := { params := [(.st .Site), (.int .i64), (.int .i64)], results := [(.st .Site)], own := none, fn := N_ref22_Code }
noncomputable def s124 : VSpec := { params := [(.st .Site), (.st .Ask)], results := [(.st .Site), .bool], own := none, fn := N_ref27_Asked }
noncomputable def s41 : VSpec := { params := [(.st .Site), (.int .i64), (.sl (.int .u8))], results := [(.st .Site), .bool], own := none, fn := N_ref28_Submitted }
noncomputable def s11 : VSpec := { params := [(.st .Config), (.st .Site), (.int .i64), (.sl (.int .u8))], results := [(.st .Site), (.int .i64)], own := none, fn := N_ref28_Submit }
noncomputable def s26 : VSpec := { params := [(.st .Side), (.st .Side)], results := [.bool], own := none, fn := N_ref21_SameSide }
noncomputable def s42 : VSpec := { params := [(.st .Disk), (.st .Disk)], results := [.bool], own := none, fn := N_ref05_Same }
noncomputable def s125 : VSpec := { params := [(.sl (.st .Rec)), (.sl (.st .Rec))], results := [.bool], own := none, fn := N_ref11_Same }
noncomputable def s43 : VSpec := { params := [(.st .Meta), (.st .Meta)], results := [.bool], own := none, fn := N_ref12_Same }
noncomputable def s196 : VSpec := { params := [(.sl (.sl (.int .u8))), (.sl (.sl (.int .u8)))], results := [.bool], own := none, fn := N_ref04_SameAll }
noncomputable def s126 : VSpec := { params := [(.st .Queue), (.st .Queue)], results := [.bool], own := none, fn := N_ref04_Same }
noncomputable def s44 : VSpec := { params := [(.st .End), (.st .End)], results := [.bool], own := none, fn := N_ref17_Same }
noncomputable def s127 : VSpec := { params := [(.st .Msg), (.st .Msg)], results := [.bool], own := none, fn := N_ref20_Same }
noncomputable def s128 : VSpec := { params := [(.st .Reply), (.st .Reply)], results := [.bool], own := none, fn := N_ref21_SameReply }
noncomputable def s45 : VSpec := { params := [(.sl (.st .Act)), (.sl (.st .Act))], results := [.bool], own := none, fn := N_ref21_samePlan }
noncomputable def s46 : VSpec := { params := [(.st .Site), (.st .Site)], results := [.bool], own := none, fn := N_ref21_sameCome }
noncomputable def s47 : VSpec := { params := [(.sl (.st .Reply)), (.sl (.st .Reply))], results := [.bool], own := none, fn := N_ref21_SameReplies }
noncomputable def s12 : VSpec := { params := [(.st .Site), (.st .Site)], results := [.bool], own := none, fn := N_ref21_Same }
noncomputable def s14 : VSpec := { params := [(.int .u8), (.int .u8)], results := [(.sl (.int .u8))], own := some [some 5], fn := N_req_Write }
noncomputable def s13 : VSpec := { params := [], results := [.bool], own := none, fn := N_law28_alive }
end Go.Cat

set_option maxHeartbeats 0
namespace Go.Cat
open Go Go.Proofs.Tryz
noncomputable def env29 : Env := { ty := tys, specs := [], inl := [(29, f29)], hints := hnts }
theorem T_ref05_Great (x : TT [(.st .Disk), (.int .i64)]) : (fnTree env29 29 [(.st .Disk), (.int .i64)] [.bool] x).den = D_ref05_Great x.1 x.2.1 := by kernel_rfl
theorem C_ref05_Great : SpecOk Go.Proofs.Tryz.prog 29 s29 :=
  (fnTree_spec (E := env29) (tysOk_of tys_ok) (specSound_of specsOk_nil) mixed_ok (inlOk_of (inlB_cons func29 nm_29 inlB_nil)) en_29 [(.st .Disk), (.int .i64)] [.bool]).weaken (fun x r hx hn => (T_ref05_Great x).trans (Q_ref05_Great x r hx hn))
noncomputable def env30 : Env := { ty := tys, specs := [], inl := [(30, f30)], hints := hnts }
theorem T_ref21_greatWords (x : TT [(.st .Site)]) : (fnTree env30 30 [(.st .Site)] [.bool] x).den = D_ref21_greatWords x.1 := by kernel_rfl
theorem C_ref21_greatWords : SpecOk Go.Proofs.Tryz.prog 30 s30 :=
  (fnTree_spec (E := env30) (tysOk_of tys_ok) (specSound_of specsOk_nil) mixed_ok (inlOk_of (inlB_cons func30 nm_30 inlB_nil)) en_30 [(.st .Site)] [.bool]).weaken (fun x r hx hn => (T_ref21_greatWords x).trans (Q_ref21_greatWords x r hx hn))
noncomputable def env8 : Env := { ty := tys, specs := [(29, s29), (30, s30)], inl := [(8, f8)], hints := hnts }
theorem T_ref21_Great (x : TT [(.st .Site)]) : (fnTree env8 8 [(.st .Site)] [.bool] x).den = D_ref21_Great x.1 := by kernel_rfl
theorem C_ref21_Great : SpecOk Go.Proofs.Tryz.prog 8 s8 :=
  (fnTree_spec (E := env8) (tysOk_of tys_ok) (specSound_of (specsOk_cons C_ref05_Great (specsOk_cons C_ref21_greatWords specsOk_nil))) mixed_ok (inlOk_of (inlB_cons func8 nm_8 inlB_nil)) en_8 [(.st .Site)] [.bool]).weaken (fun x r hx hn => (T_ref21_Great x).trans (Q_ref21_Great x r hx hn))
noncomputable def env31 : Env := { ty := tys, specs := [], inl := [(31, f31)], hints := hnts }
theorem T_ref05_Twin (x : TT [(.st .Disk)]) : (fnTree env31 31 [(.st .Disk)] [(.st .Disk)] x).den = D_ref05_Twin x.1 := by kernel_rfl
theorem C_ref05_Twin : SpecOk Go.Proofs.Tryz.prog 31 s31 :=
  (fnTree_spec (E := env31) (tysOk_of tys_ok) (specSound_of specsOk_nil) mixed_ok (inlOk_of (inlB_cons func31 nm_31 inlB_nil)) en_31 [(.st .Disk)] [(.st .Disk)]).weaken (fun x r hx hn => (T_ref05_Twin x).trans (Q_ref05_Twin x r hx hn))
noncomputable def env32 : Env := { ty := tys, specs := [], inl := [(32, f32)], hints := hnts }
theorem T_ref12_Twin (x : TT [(.st .Meta)]) : (fnTree env32 32 [(.st .Meta)] [(.st .Meta)] x).den = D_ref12_Twin x.1 := by kernel_rfl
theorem C_ref12_Twin : SpecOk Go.Proofs.Tryz.prog 32 s32 :=
  (fnTree_spec (E := env32) (tysOk_of tys_ok) (specSound_of specsOk_nil) mixed_ok (inlOk_of (inlB_cons func32 nm_32 inlB_nil)) en_32 [(.st .Meta)] [(.st .Meta)]).weaken (fun x r hx hn => (T_ref12_Twin x).trans (Q_ref12_Twin x r hx hn))
noncomputable def env183 : Env := { ty := tys, specs := [], inl := [(183, f183)], hints := hnts }
theorem T_ref04_TwinAll (x : TT [(.sl (.sl (.int .u8)))]) : (fnTree env183 183 [(.sl (.sl (.int .u8)))] [(.sl (.sl (.int .u8)))] x).den = D_ref04_TwinAll x.1 := by kernel_rfl
theorem C_ref04_TwinAll : SpecOk Go.Proofs.Tryz.prog 183 s183 :=
  (fnTree_spec (E := env183) (tysOk_of tys_ok) (specSound_of specsOk_nil) mixed_ok (inlOk_of (inlB_cons func183 nm_183 inlB_nil)) en_183 [(.sl (.sl (.int .u8)))] [(.sl (.sl (.int .u8)))]).weaken (fun x r hx hn => (T_ref04_TwinAll x).trans (Q_ref04_TwinAll x r hx hn))
noncomputable def env33 : Env := { ty := tys, specs := [(183, s183)], inl := [(33, f33), (111, f111)], hints := hnts }
theorem T_ref17_Twin (x : TT [(.st .End)]) : (fnTree env33 33 [(.st .End)] [(.st .End)] x).den = D_ref17_Twin x.1 := by kernel_rfl
theorem C_ref17_Twin : SpecOk Go.Proofs.Tryz.prog 33 s33 :=
  (fnTree_spec (E := env33) (tysOk_of tys_ok) (specSound_of (specsOk_cons C_ref04_TwinAll specsOk_nil)) mixed_ok (inlOk_of (inlB_cons func33 nm_33 (inlB_cons func111 nm_111 inlB_nil))) en_33 [(.st .End)] [(.st .End)]).weaken (fun x r hx hn => (T_ref17_Twin x).trans (Q_ref17_Twin x r hx hn))
noncomputable def env35 : Env := { ty := tys, specs := [], inl := [(35, f35)], hints := hnts }
theorem T_ref21_bytes (x : TT [(.sl (.int .u8))]) : (fnTree env35 35 [(.sl (.int .u8))] [(.sl (.int .u8))] x).den = D_ref21_bytes x.1 := by kernel_rfl
theorem C_ref21_bytes : SpecOk Go.Proofs.Tryz.prog 35 s35 :=
  (fnTree_spec (E := env35) (tysOk_of tys_ok) (specSound_of specsOk_nil) mixed_ok (inlOk_of (inlB_cons func35 nm_35 inlB_nil)) en_35 [(.sl (.int .u8))] [(.sl (.int .u8))]).weaken (fun x r hx hn => (T_ref21_bytes x).trans (Q_ref21_bytes x r hx hn))
noncomputable def env34 : Env := { ty := tys, specs := [(35, s35)], inl := [(34, f34)], hints := hnts }
theorem T_ref21_TwinSide (x : TT [(.st .Side)]) : (fnTree env34 34 [(.st .Side)] [(.st .Side)] x).den = D_ref21_TwinSide x.1 := by kernel_rfl
theorem C_ref21_TwinSide : SpecOk Go.Proofs.Tryz.prog 34 s34 :=
  (fnTree_spec (E := env34) (tysOk_of tys_ok) (specSound_of (specsOk_cons C_ref21_bytes specsOk_nil)) mixed_ok (inlOk_of (inlB_cons func34 nm_34 inlB_nil)) en_34 [(.st .Side)] [(.st .Side)]).weaken (fun x r hx hn => (T_ref21_TwinSide x).trans (Q_ref21_TwinSide x r hx hn))
noncomputable def env36 : Env := { ty := tys, specs := [], inl := [(36, f36)], hints := hnts }
theorem T_ref20_Twin (x : TT [(.st .Msg)]) : (fnTree env36 36 [(.st .Msg)] [(.st .Msg)] x).den = D_ref20_Twin x.1 := by kernel_rfl
theorem C_ref20_Twin : SpecOk Go.Proofs.Tryz.prog 36 s36 :=
  (fnTree_spec (E := env36) (tysOk_of tys_ok) (specSound_of specsOk_nil) mixed_ok (inlOk_of (inlB_cons func36 nm_36 inlB_nil)) en_36 [(.st .Msg)] [(.st .Msg)]).weaken (fun x r hx hn => (T_ref20_Twin x).trans (Q_ref20_Twin x r hx hn))
noncomputable def env9 : Env := { ty := tys, specs := [(31, s31), (32, s32), (33, s33), (34, s34), (35, s35), (36, s36)], inl := [(9, f9)], hints := hnts }
theorem T_ref21_Twin (x : TT [(.st .Site)]) : (fnTree env9 9 [(.st .Site)] [(.st .Site)] x).den = D_ref21_Twin x.1 := by kernel_rfl
theorem C_ref21_Twin : SpecOk Go.Proofs.Tryz.prog 9 s9 :=
  (fnTree_spec (E := env9) (tysOk_of tys_ok) (specSound_of (specsOk_cons C_ref05_Twin (specsOk_cons C_ref12_Twin (specsOk_cons C_ref17_Twin (specsOk_cons C_ref21_TwinSide (specsOk_cons C_ref21_bytes (specsOk_cons C_ref20_Twin specsOk_nil))))))) mixed_ok (inlOk_of (inlB_cons func9 nm_9 inlB_nil)) en_9 [(.st .Site)] [(.st .Site)]).weaken (fun x r hx hn => (T_ref21_Twin x).trans (Q_ref21_Twin x r hx hn))
noncomputable def env144 : Env := { ty := tys, specs := [], inl := [(144, f144)], hints := hnts }
theorem T_place_within (x : TT [(.sl (.st .Bound))]) : (fnTree env144 144 [(.sl (.st .Bound))] [.bool] x).den = D_place_within x.1 := by kernel_rfl
theorem C_place_within : SpecOk Go.Proofs.Tryz.prog 144 s144 :=
  (fnTree_spec (E := env144) (tysOk_of tys_ok) (specSound_of specsOk_nil) mixed_ok (inlOk_of (inlB_cons func144 nm_144 inlB_nil)) en_144 [(.sl (.st .Bound))] [.bool]).weaken (fun x r hx hn => (T_place_within x).trans (Q_place_within x r hx hn))
noncomputable def env57 : Env := { ty := tys, specs := [(144, s144)], inl := [(57, f57)], hints := hnts }
theorem T_place_Check (x : TT [(.st .Config)]) : (fnTree env57 57 [(.st .Config)] [(.int .i64)] x).den = D_place_Check x.1 := by kernel_rfl
theorem C_place_Check : SpecOk Go.Proofs.Tryz.prog 57 s57 :=
  (fnTree_spec (E := env57) (tysOk_of tys_ok) (specSound_of (specsOk_cons C_place_within specsOk_nil)) mixed_ok (inlOk_of (inlB_cons func57 nm_57 inlB_nil)) en_57 [(.st .Config)] [(.int .i64)]).weaken (fun x r hx hn => (T_place_Check x).trans (Q_place_Check x r hx hn))
noncomputable def env143 : Env := { ty := tys, specs := [], inl := [(143, f143)], hints := hnts }
theorem T_ring_round_byte_at (x : TT [(.st .Round), (.int .i64)]) : (fnTree env143 143 [(.st .Round), (.int .i64)] [(.int .i64)] x).den = D_ring_round_byte_at x.1 x.2.1 := by kernel_rfl
theorem C_ring_round_byte_at : SpecOk Go.Proofs.Tryz.prog 143 s143 :=
  (fnTree_spec (E := env143) (tysOk_of tys_ok) (specSound_of specsOk_nil) mixed_ok (inlOk_of (inlB_cons func143 nm_143 inlB_nil)) en_143 [(.st .Round), (.int .i64)] [(.int .i64)]).weaken (fun x r hx hn => (T_ring_round_byte_at x).trans (Q_ring_round_byte_at x r hx hn))
noncomputable def env139 : Env := { ty := tys, specs := [(143, s143)], inl := [(139, f139), (142, f142)], hints := hnts }
theorem T_ring_Check (x : TT [(.st .Queue)]) : (fnTree env139 139 [(.st .Queue)] [(.int .i64)] x).den = D_ring_Check x.1 := by kernel_rfl
theorem C_ring_Check : SpecOk Go.Proofs.Tryz.prog 139 s139 :=
  (fnTree_spec (E := env139) (tysOk_of tys_ok) (specSound_of (specsOk_cons C_ring_round_byte_at specsOk_nil)) mixed_ok (inlOk_of (inlB_cons func139 nm_139 (inlB_cons func142 nm_142 inlB_nil))) en_139 [(.st .Queue)] [(.int .i64)]).weaken (fun x r hx hn => (T_ring_Check x).trans (Q_ring_Check x r hx hn))
noncomputable def env141 : Env := { ty := tys, specs := [], inl := [(141, f141)], hints := hnts }
theorem T_ring_text (x : TT [(.sl (.int .u8))]) : (fnTree env141 141 [(.sl (.int .u8))] [(.sl (.int .u8))] x).den = D_ring_text x.1 := by kernel_rfl
theorem C_ring_text : SpecOk Go.Proofs.Tryz.prog 141 s141 :=
  (fnTree_spec (E := env141) (tysOk_of tys_ok) (specSound_of specsOk_nil) mixed_ok (inlOk_of (inlB_cons func141 nm_141 inlB_nil)) en_141 [(.sl (.int .u8))] [(.sl (.int .u8))]).weaken (fun x r hx hn => (T_ring_text x).trans (Q_ring_text x r hx hn))
end Go.Cat

namespace Go.Cat
open Go Go.Proofs Go.RowKit Go.Shelf
attribute [local go_sem] Oper.semAt_some
set_option maxRecDepth 100000 in
set_option maxHeartbeats 2000000 in
theorem ring_at_in (F : Fence) (n : Nat) (h : F.fn 143) (hro : F.round = none) (a : Option Addr) (len cap : Nat) (fr mn k : Int) (w : World) (hlen : 0 < len) :
    CallsIn F n Tryz.prog 143 #[.agg #[.slice a len cap, .int .i64 fr, .int .i64 mn], .int .i64 k] w fun e w' => e = .returned (.int .i64 (Int.tmod (wrap64 (fr + k)) len)) ∧ w' = w.alloc (.cells #[.slice a len cap, .int .i64 fr, .int .i64 mn] 215) := by
  refine callsIn_of_wp Tryz.func143 rfl h ?_ hro
  simp only [Tryz.ntmps143, List.size_toArray, List.length_cons, List.length_nil, Nat.reduceAdd, Nat.reduceSub, Array.replicate_succ, Array.replicate_zero, List.push_toArray, List.append_toArray, List.nil_append, List.cons_append]
  gi_wp2
  go_ret
  exact ⟨rfl, rfl⟩
theorem take_next {α : Type} (ys : List α) (k : Nat) (h : k < ys.length) : ys.take (k + 1) = ys.take k ++ [ys[k]] := by
  rw [List.take_succ_eq_append_getElem h]
set_option maxRecDepth 100000 in
set_option maxHeartbeats 4000000 in
theorem ring_used1_in {α : Type} (enc : α → Value) (ys : List α) (n : Nat) (l Bs b off len cap : Nat) (fr : Int) (hlen : 0 < len) (hmn : ys.length ≤ 64) (idx : Nat → Nat)
    (hidx : ∀ k, k < ys.length → Int.tmod (wrap64 (fr + (k : Int))) (len : Int) = (idx k : Int) ∧ idx k < len) (G : World → Prop) (hGa : ∀ W o, G W → G (W.alloc o)) (hGd : ∀ W, G W → G W.drew)
    (hG0 : ∀ W, G W → W.cell? ⟨Bs, 0, none⟩ = some (.slice (some ⟨b, off, none⟩) len cap)) (hG1 : ∀ W, G W → W.cell? ⟨Bs, 1, none⟩ = some (.int .i64 fr)) (hG2 : ∀ W, G W → W.cell? ⟨Bs, 2, none⟩ = some (.int .i64 (ys.length : Int)))
    (hGc : ∀ W, G W → ∀ j (h : j < ys.length), W.cell? ⟨b, off + idx j, none⟩ = some (enc ys[j])) (J Jx : List α → World → Prop) (W : World) (hJa : AbidesFrom W.heap.size J)
    (hY : ∀ pre x W, J pre W → pre.length < ys.length → YieldAt Fence.wide (n - 1) Tryz.prog l #[enc x] W fun e W' =>
      (e = .returned (.bool true) ∧ J (pre ++ [x]) W' ∧ (G W → G W')) ∨ (e = .returned (.bool false) ∧ Jx (pre ++ [x]) W'))
    (hGW : G W) (h0 : J [] W) :
    CallsIn Fence.wide n Tryz.prog 233 #[.func (.yield l) #[] #[], .pointer (some ⟨Bs, 0, none⟩)] W fun e W' => (∃ v, e = .returned v) ∧
      ((∃ xs, xs = ys ∧ J xs W') ∨ (∃ pre, True ∧ Jx pre W')) := by
  have hm : Tryz.prog.follows .mixedOrders = true := by kernel_rfl
  have c0 := hG0 W hGW
  have c1 := hG1 W hGW
  have c2 := hG2 W hGW
  refine callsIn_of_wp Tryz.func233 rfl trivial ?_ rfl
  simp only [Tryz.ntmps233, List.size_toArray, List.length_cons, List.length_nil, Nat.reduceAdd, Nat.reduceSub, Array.replicate_succ, Array.replicate_zero, List.push_toArray, List.append_toArray, List.nil_append, List.cons_append]
  gi_wp2
  gi_loopw [6] (fun i wr => ∃ k : Nat, k ≤ ys.length ∧ i = .int .i64 k ∧ J (ys.take k) wr ∧ G wr)
    (fun i _ => ys.length - (intOf i).toNat)
  case atStart => exact ⟨0, Nat.zero_le _, rfl, h0, hGW⟩
  case round =>
    obtain ⟨k, hk, rfl, hJs, hnx⟩ := hrel
    by_cases hlt : k < ys.length
    · obtain ⟨i1, i2⟩ := hidx k hlt
      have e0 := hG0 wr hnx
      have e1 := hG1 wr hnx
      have e2 := hG2 wr hnx
      have e3 := hGc wr hnx k hlt
      let o : Obj := .cells #[.slice (some ⟨b, off, none⟩) len cap, .int .i64 fr, .int .i64 ys.length] 215
      have a0 := hG0 _ (hGa wr o hnx)
      have a1 := hG1 _ (hGa wr o hnx)
      have a2 := hG2 _ (hGa wr o hnx)
      have a3 := hGc _ (hGa wr o hnx) k hlt
      have hJ1 : J (ys.take k) (wr.alloc o).drew :=
        hJa _ wr _ none hJs ⟨rfl, rfl, rfl, by simp, fun b hb _ => Below.heap_alloc wr o b hb⟩ (fun r e => by cases e)
      obtain ⟨fn, tmps, assign, body, hy, hR⟩ := hY _ ys[k] _ hJ1 (by rw [List.length_take]; omega)
      have hat : ∀ (m : Nat) (W : World), CallsIn Fence.wide m Tryz.prog 143 #[.agg #[.slice (some ⟨b, off, none⟩) len cap, .int .i64 fr, .int .i64 ys.length], .int .i64 k] W fun e w' => e = .returned (.int .i64 (idx k)) ∧ w' = W.alloc o := fun m W => by
        have := ring_at_in Fence.wide m trivial rfl (some ⟨b, off, none⟩) len cap fr ys.length k W hlen
        rwa [i1] at this
      have q1 : (0 : Int) ≤ (idx k : Int) := by omega
      have q2 : (idx k : Int) < (len : Int) := by omega
      gi_wp2
      have hR' : RoundIn Fence.wide (n - 1) Tryz.prog l fn tmps assign body (wr.alloc o).drew fun e W' => ∃ t : Bool, e = .returned (.bool t) ∧ ((t = true ∧ J (ys.take (k + 1)) W' ∧ G W') ∨ (t = false ∧ Jx (ys.take (k + 1)) W')) := by
        refine hR.mono ?_
        rintro e W' (⟨rfl, h1, h2⟩ | ⟨rfl, h1⟩)
        · exact ⟨true, rfl, .inl ⟨rfl, by rw [take_next _ _ hlt]; exact h1, h2 (hGd _ (hGa _ _ hnx))⟩⟩
        · exact ⟨false, rfl, .inr ⟨rfl, by rw [take_next _ _ hlt]; exact h1⟩⟩
      gi_region_with_o (first
        | (refine ⟨trivial, (fun h => by cases h), ?_⟩; refine (hat _ _).mono ?_; rintro e w' ⟨rfl, rfl⟩)
        | (refine ⟨(fun h => by cases h), ?_⟩; refine hR'.mono ?_; rintro e W3 ⟨t, rfl, ht⟩))
      all_goals
        rcases ht with ⟨rfl, hJ3, hk3⟩ | ⟨rfl, hJx3⟩
        · gi_wp2
          go_roundw
          case rel => exact ⟨k + 1, by omega, by simp, hJ3, hk3⟩
          case measure => simp [intOf]; omega
        · gi_wp2
          refine bodyPost_ret (results_none rfl _ _ _) rfl ?_
          exact ⟨⟨_, rfl⟩, .inr ⟨_, trivial, hJx3⟩⟩
    · obtain rfl : k = ys.length := by omega
      gi_wp2
      go_end0
      exact ⟨⟨_, rfl⟩, .inl ⟨_, rfl, by simpa using hJs⟩⟩
end Go.Cat

set_option maxHeartbeats 0
namespace Go.Cat
open Go Go.Proofs.Tryz Go.RowKit
def codeL : Code → Code | .seq a _ => a | c => c
def codeR : Code → Code | .seq _ b => b | c => c
def codeB : Code → Code | .block _ b => b | c => c
def codeT : Code → Code | .cond _ a _ => a | c => c
def rangeB : Code → Code | .rangeFunc _ _ _ b => b | c => c
def regOps : Code → Array Oper | .region _ o _ => o | _ => #[]
def bodyOf (f : Func) : Code := f.body.getD .skip
noncomputable def rgB : Code := bodyOf f136
noncomputable def rg0 : Code := codeL rgB
noncomputable def rgX : Code := codeL (codeR rgB)
noncomputable def rg1 : Code := codeL rgX
noncomputable def rg2 : Code := codeL (codeR rgX)
noncomputable def rg3 : Code := codeT (codeR (codeR rgX))
noncomputable def rgY : Code := codeL (codeR (codeR rgB))
noncomputable def rg4 : Code := codeL rgY
noncomputable def rgO : Array Oper := regOps (codeB (rangeB (codeB (codeR rgY))))
noncomputable def rg7 : Code := codeR (codeR (codeR rgB))
theorem rg_body : f136.body = some (rg0.seq ((rg1.seq (rg2.seq (.cond (.tmp 9) rg3 .skip))).seq ((rg4.seq (.block 0 (.rangeFunc (.tmp 13) #[14]
    (.region 5 #[{ dst := some 5, op := .assign (.tmp 14), type := 48, pos := "ring.go:98", after := #[], guard := none }] false) (.block 1 (.region 6 rgO true))))).seq rg7))) := by kernel_rfl
noncomputable def envR : Env := { ty := tys, specs := [(139, s139), (141, s141)], inl := [(142, f142), (204, f204)], hints := hnts }
noncomputable def envR1 (r : TT [(.int .i64)]) : Env := { envR with specs := [(139, { params := [(.st .Queue)], results := [(.int .i64)], own := none, fn := fun _ => some r }), (141, s141)] }
noncomputable def rgS0 (q : Queue) : St := { tmps := [datSV (.st .Queue) q] ++ List.replicate 20 (.lit (.tuple #[])), m := { objs := fun _ => none, next := 0, wl := [] } }
noncomputable def preK (E : Env) (q : Queue) : Tr St :=
  codeK E (callK E 8) 136 rg0 (rgS0 q) fun e S => match e with
    | .normal => codeK E (callK E 8) 136 rg1 S fun e S => match e with
      | .normal => codeK E (callK E 8) 136 rg2 S fun e S => match e with
        | .normal => .ret S
        | _ => .fail
      | _ => .fail
    | _ => .fail
def St0 : St := { tmps := [], m := { objs := fun _ => none, next := 0, wl := [] } }
noncomputable def stA (q : Queue) (r : TT [(.int .i64)]) : St := (preK (envR1 r) q).den.getD St0
theorem T_pre (q : Queue) : (preK envR q).den = Option.bind (N_ring_Check (q, ())) fun r => some (stA q r) := by kernel_rfl
theorem T_bad (q : Queue) : (codeK envR (callK envR 8) 136 rg3 (stA q (8, ())) fun e S => match e with | .ret => finK envR f136 [(.sl (.sl (.int .u8))), (.int .i64)] S | _ => .fail).den = some ([], (8, ())) := by kernel_rfl
theorem T_c8 (q : Queue) : tmpAt (stA q (8, ())).tmps 9 = .leaf (.bool true) := by kernel_rfl
theorem T_c0 (q : Queue) : tmpAt (stA q (0, ())).tmps 9 = .leaf (.bool false) := by kernel_rfl
noncomputable def midK (q : Queue) : Tr St := codeK envR (callK envR 8) 136 rg4 (stA q (0, ())) fun e S => match e with | .normal => .ret S | _ => .fail
noncomputable def stB (q : Queue) : St := (midK q).den.getD St0
theorem T_mid (q : Queue) : (midK q).den = some (stB q) := by kernel_rfl
noncomputable def idB (q : Queue) : Nat := match tmpAt (stB q).tmps 13 with | .fn _ _ [.bptr id _] => id | _ => 0
theorem T_box (q : Queue) : (stB q).m.objs (idB q) = some (.blk [.leaf (.sl (.sl (.int .u8)) q.items), .leaf (.int .i64 q.head), .leaf (.int .i64 q.many)]) := by kernel_rfl
noncomputable def stC (q : Queue) : St := { stB q with m := { (stB q).m with objs := putAll (stB q).m.objs (freezeAll [idB q]) } }
def rgSl : List (Nat × SigV) := [(2, .cls [.own 48 (.sl (.int .u8))])]
def rgY0 (l : List (List Int)) : SigT rgSl := ((l, ()), ())
noncomputable def rgJ (q : Queue) : List Nat := match (sigOf (stC q).tmps (stC q).tmps rgSl).run (stC q).m.objs [] with | some ((_, js), _) => js | _ => []
noncomputable def rgR (q : Queue) : List Nat := match (sigOf (stC q).tmps (stC q).tmps rgSl).run (stC q).m.objs [] with | some ((_, _), rs) => rs | _ => []
theorem T_sig (q : Queue) : (sigOf (stC q).tmps (stC q).tmps rgSl).run (stC q).m.objs [] = some ((rgY0 [], rgJ q), rgR q) := by kernel_rfl
noncomputable def rgH (q : Queue) (l : List (List Int)) : St := loopHead (stC q).tmps (stC q).m (rgJ q) rgSl (rgY0 l)
theorem T_body (q : Queue) (l : List (List Int)) (x : List Int) : (regionK envR (callK envR 8) rgO true { tmps := setT (setT (rgH q l).tmps (some 14) (.leaf (.sl (.int .u8) x))) (some 5) (.leaf (.sl (.int .u8) x)), m := (rgH q l).m } fun S' =>
      (sigOf (stC q).tmps S'.tmps rgSl).k S'.m.objs [] fun q1 _ => match q1 with
        | (y, js') => match onlyWrote (stC q).m.next (rgJ q) (js' ++ S'.m.wl) && Nat.beq S'.tmps.length (stC q).tmps.length with
          | true => .ret y
          | false => .fail).den = Option.bind (N_ring_text (x, ())) fun r => (if decide (l.length + 1 ≤ big) = true then some (rgY0 (l ++ [r.1])) else none) := by kernel_rfl
theorem T_end (q : Queue) (l : List (List Int)) : (codeK envR (callK envR 8) 136 rg7 (rgH q l) fun e S => match e with | .ret => finK envR f136 [(.sl (.sl (.int .u8))), (.int .i64)] S | _ => .fail).den = some (l, (0, ())) := by kernel_rfl
theorem T_keep (q : Queue) (y : SigT rgSl) (t : Nat) : tmpAt (loopHead (stC q).tmps (stC q).m (rgJ q) rgSl y).tmps t = .any ∨ tmpAt (loopHead (stC q).tmps (stC q).m (rgJ q) rgSl y).tmps t = tmpAt (stC q).tmps t := by
  have h2 : ∃ id, tmpAt (stC q).tmps 2 = .bptr id 0 := ⟨_, (show tmpAt (stC q).tmps 2 = .bptr (match tmpAt (stC q).tmps 2 with | .bptr id _ => id | _ => 0) 0 by kernel_rfl)⟩
  obtain ⟨id, h2⟩ := h2
  obtain ⟨⟨l, u⟩, u'⟩ := y
  have e : (loopHead (stC q).tmps (stC q).m (rgJ q) rgSl ((l, u), u')).tmps = ((stC q).tmps.map fun _ => SV.any).set 2 (.bptr id 0) := by
    simp only [loopHead, rgSl, headSig, h2]
  rw [e]
  simp only [tmpAt, List.getElem?_set, List.getElem?_map]
  split
  · rename_i ht
    subst ht
    split
    · right; simpa [tmpAt] using h2.symm
    · left; rfl
  · left
    cases (stC q).tmps[t]? <;> rfl
theorem T_fnC (q : Queue) : tmpAt (stC q).tmps 13 = .fn 233 [] [.bptr (idB q) 0] := by kernel_rfl
theorem T_nextH (q : Queue) (l : List (List Int)) : Nat.ble (stC q).m.next (rgH q l).m.next = true := by kernel_rfl
theorem T_len (q : Queue) : (stC q).tmps.length = 21 := by kernel_rfl
theorem ring_env : TysOk Go.Proofs.Tryz.prog envR ∧ SpecSound Go.Proofs.Tryz.prog envR ∧ CallDen (CallR Go.Proofs.Tryz.prog) (callK envR 8) := by
  have hE : TysOk Go.Proofs.Tryz.prog envR := tysOk_of (E := envR) tys_ok
  have hS : SpecSound Go.Proofs.Tryz.prog envR := specSound_of (E := envR) (specsOk_cons C_ring_Check (specsOk_cons C_ring_text specsOk_nil))
  have hI : InlOk Go.Proofs.Tryz.prog envR := inlOk_of (E := envR) (inlB_cons func142 nm_142 (inlB_cons func204 nm_204 inlB_nil))
  exact ⟨hE, hS, callK_den hE hS mixed_ok hI 8⟩
theorem ring_init {ro : Snap} {w : World} {q : Queue} {vs : List Value} (hH0 : HSat ⟨w, ro, []⟩ (fun _ => none) ro (fun _ => False) (fun _ => none) w) (hargs : RepTT ro [(.st .Queue)] (q, ()) vs) :
    Sat ⟨w, ro, []⟩ (fun _ => none) ro (fun _ => False) (rgS0 q) { tmps := vs.toArray ++ Array.replicate (f136.ntmps - vs.toArray.size) undef, defers := [] } w := by
  have hn : f136.ntmps = 21 := by kernel_rfl
  rw [hn]
  exact init_sat (m := { objs := fun _ => none, next := 0, wl := [] }) hH0 (repTT_L hargs) 21
attribute [local irreducible] stB idB
theorem stC_eq (q : Queue) : stC q = { stB q with m := { (stB q).m with objs := putAll (stB q).m.objs (freezeAll [idB q]) } } := by unfold stC; rfl
theorem stC_sat {q : Queue} {w0 : Pt} {β : Pl} {ro : Snap} {D : Nat → Prop} {a : Go.Act} {w : World} (h : Sat w0 β ro D { stB q with m := { (stB q).m with objs := putAll (stB q).m.objs (freezeAll [idB q]) } } a w) : Sat w0 β ro D (stC q) a w := by rw [stC_eq]; exact h
theorem stC_next (q : Queue) : (stC q).m.next = (stB q).m.next := by rw [stC_eq]
theorem stC_lt {q : Queue} {D : Nat → Prop} (h : ∀ id, D id → id < (stB q).m.next) : ∀ id, D id → id < (stC q).m.next := fun id hi => by rw [stC_next]; exact h id hi
attribute [local irreducible] stA stC rgJ rgR rgS0 codeK callK regionK finK rg0 rg1 rg2 rg3 rg4 rg7 rgO envR envR1 f136
theorem ring_list_items (q : Queue) (hq : mayQueue q = true) : (queueList q).length = q.many.toNat ∧ q.many.toNat ≤ 64 ∧ (q.many = (q.many.toNat : Int)) ∧ 0 < q.items.length ∧
    (∀ k, k < q.many.toNat → Int.tmod (RowKit.wrap64 (q.head + (k : Int))) (q.items.length : Int) = ((place q k : Nat) : Int) ∧ place q k < q.items.length) := by
  obtain ⟨h1, h2, h3, h4, h5, h6, _⟩ := (queue_iff q).1 hq
  refine ⟨by simp [queueList], by omega, (Int.toNat_of_nonneg h5).symm, by omega, fun k hk => ?_⟩
  obtain ⟨p1, p2⟩ := place_mod q k h2 h3 h4 (by omega)
  refine ⟨?_, p2⟩
  rw [wrap_i64 (by omega) (by omega)] at p1
  have : RowKit.wrap64 (q.head + (k : Int)) = q.head + k := by unfold RowKit.wrap64; omega
  rw [this]; exact p1
theorem ring_bad {q : Queue} {r : List (List Int) × (Int × Unit)} (h : N_ring_List (q, ()) = some r) (hq : ¬ mayQueue q = true) : r = ([], (8, ())) := by
  unfold N_ring_List N_ref04_List at h
  simp only at h
  rw [if_neg hq] at h
  split at h
  · exact (Option.some.inj h).symm
  · cases h
theorem ring_good {q : Queue} {r : List (List Int) × (Int × Unit)} (h : N_ring_List (q, ()) = some r) (hq : mayQueue q = true) : r = (queueList q, (0, ())) ∧ fitAll q.items = true := by
  unfold N_ring_List N_ref04_List at h
  simp only at h
  rw [if_pos hq] at h
  split at h
  · rename_i hf; exact ⟨(Option.some.inj h).symm, hf⟩
  · cases h
theorem ring_mem {q : Queue} (hq : mayQueue q = true) {k : Nat} (hk : k < q.many.toNat) : ∃ x, q.items[place q k]? = some x ∧ nth q.items (place q k) = x ∧ x ∈ queueList q ∧ x ∈ q.items := by
  obtain ⟨_, _, _, _, h5⟩ := ring_list_items q hq
  have hlt := (h5 k hk).2
  refine ⟨q.items[place q k], List.getElem?_eq_getElem hlt, by simp [nth, hlt], ?_, List.getElem_mem hlt⟩
  unfold queueList
  rw [List.mem_map]
  exact ⟨k, List.mem_range.2 hk, by simp [nth, hlt]⟩
theorem ring_small {q : Queue} (hq : mayQueue q = true) (hf : fitAll q.items = true) {x : List Int} (hx : x ∈ queueList q) : x.length ≤ 1000000 := by
  unfold queueList at hx
  rw [List.mem_map] at hx
  obtain ⟨k, hk, rfl⟩ := hx
  obtain ⟨x, h1, h2, h3, h4⟩ := ring_mem hq (List.mem_range.1 hk)
  rw [h2]
  unfold fitAll at hf
  rw [Bool.and_eq_true] at hf
  exact of_decide_eq_true (List.all_eq_true.1 hf.2 x h4)
theorem ring_seq {ro : Snap} {w : World} {q : Queue} (hq : mayQueue q = true) {g : Nat} {v0 : Value} (hle : ro.le w) (hv : Rep ro (.sl (.sl (.int .u8)) q.items) v0)
    (h0 : ∀ W, ro.le W → W.cell? ⟨g, 0, none⟩ = some v0) (h1 : ∀ W, ro.le W → W.cell? ⟨g, 1, none⟩ = some (.int .i64 q.head)) (h2 : ∀ W, ro.le W → W.cell? ⟨g, 2, none⟩ = some (.int .i64 q.many)) :
    SeqStopsK Fence.wide (3 - 1) Go.Proofs.Tryz.prog 233 #[.pointer (some ⟨g, 0, none⟩)] (fun y : ItemV ro (fun x => Leaf.sl (.int .u8) x) (queueList q) => #[y.v]) (fun W W' => ro.le W → ro.le W') (fun ys => ys.map (·.x) = queueList q) (fun _ => True) (queueList q).length w := by
  obtain ⟨r1, r2, r3, r4, r5⟩ := ring_list_items q hq
  generalize hit : q.items = its at hv
  cases hv with
  | nil => rw [hit] at r4; cases r4
  | sl _ _ a cap us q1 q2 q3 q4 q5 =>
  have hsp : a.spot = none := by
    rcases q1 with h | h
    · exact h
    · rw [hit] at r4; omega
  have hat : ∀ (k : Nat), k < q.many.toNat → ro.cell? ⟨a.block, a.off + place q k, none⟩ = some (us (place q k) 0) ∧ Rep ro (.sl (.int .u8) (nth q.items (place q k))) (us (place q k) 0) := fun k hk => by
    obtain ⟨x, m1, m2, m3, m4⟩ := ring_mem hq hk
    rw [hit] at m1
    have e1 := q4 (place q k) x 0 (.sl (.int .u8) x) m1 rfl
    have e2 := q5 (place q k) x 0 (.sl (.int .u8) x) m1 rfl
    rw [m2]
    exact ⟨by rw [show place q k * sz (EN.sl (.int .u8)) + 0 = place q k from by show place q k * 1 + 0 = _; omega] at e1; exact e1, e2⟩
  let ys : List (ItemV ro (fun x => Leaf.sl (.int .u8) x) (queueList q)) := List.ofFn (n := q.many.toNat) fun k => { v := us (place q k.1) 0, x := nth q.items (place q k.1), rep := (hat k.1 k.2).2, mem := by obtain ⟨x, m1, m2, m3, m4⟩ := ring_mem hq k.2; rw [m2]; exact m3 }
  have hlen : ys.length = q.many.toNat := by simp [ys]
  have hmap : ys.map (·.x) = queueList q := by
    refine List.ext_getElem (by simp [ys, queueList]) fun i i1 i2 => ?_
    simp [ys, queueList]
  intro l J Jx W hB hJ hJx hY hJ0
  have hGW : ro.le W := fun b o hb => by
    have hb' := hle b o hb
    rw [hB.block b (Array.getElem?_eq_some_iff.1 hb').1]; exact hb'
  have hq0 : (a : Addr) = ⟨a.block, a.off, none⟩ := by cases a; simp only at hsp; subst hsp; rfl
  refine CallsIn.mono (ring_used1_in (fun y : ItemV ro (fun x => Leaf.sl (.int .u8) x) (queueList q) => y.v) ys (3 - 1) l g a.block a.off its.length cap q.head (by rw [← hit]; exact r4) (by omega) (place q)
    (fun k hk => by rw [← hit]; exact r5 k (by omega)) ro.le (fun W o hW b ob hb => ?_) (fun W hW => hW) (fun W hW => by rw [← hq0]; exact h0 W hW) h1 (fun W hW => by rw [hlen, ← r3]; exact h2 W hW)
    (fun W hW j hj => ?_) J Jx W hJ (fun pre x W1 hpre hl => ?_) hGW hJ0) ?_
  · have hb' := hW b ob hb
    rw [Below.heap_alloc W o b (Array.getElem?_eq_some_iff.1 hb').1]; exact hb'
  · have := (hat j (by omega)).1
    rw [Snap.cell_le hW this]
    simp [ys]
  · exact hY pre x W1 hpre (by rw [r1]; omega)
  · rintro e W' ⟨hv, h⟩
    refine ⟨hv, ?_⟩
    rcases h with ⟨xs, rfl, h⟩ | ⟨pre, h1, h2⟩
    · exact .inl ⟨ys, hmap, h⟩
    · exact .inr ⟨pre, trivial, h2⟩
theorem C_ring_List : SpecOk Go.Proofs.Tryz.prog 136 s136 := by
  refine ⟨en_136, fun ro w x vs r hle hargs hr => ?_⟩
  obtain ⟨q, ⟨⟩⟩ := x
  obtain ⟨hE, hS, hcall⟩ := ring_env
  have hr' : N_ring_List (q, ()) = some r := hr
  suffices h : CallsIn Fence.wide 3 Go.Proofs.Tryz.prog 136 vs.toArray w (SpecPost ro w [(.sl (.sl (.int .u8))), (.int .i64)] r) from callsIn_wide.1 h
  refine callsIn_of_wp_marks func136 rg_body trivial ?_
  have hH0 : HSat ⟨w, ro, []⟩ (fun _ => none) ro (fun _ => False) (fun _ => none) w :=
    ⟨Base.refl w, fun _ _ => rfl, fun _ _ => rfl, hle, by simp, by simp, by simp, by simp, by simp, by simp⟩
  have hs0 : Sat ⟨w, ro, []⟩ (fun _ => none) ro (fun _ => False) (rgS0 q) { tmps := vs.toArray ++ Array.replicate (f136.ntmps - vs.toArray.size) undef, defers := [] } w :=
    ring_init hH0 hargs
  generalize ha0 : ({ tmps := vs.toArray ++ Array.replicate (f136.ntmps - vs.toArray.size) undef, defers := [] } : Go.Act) = act0 at hs0 ⊢
  obtain ⟨c, hc, hcn⟩ : ∃ c : Int, N_ring_Check (q, ()) = some (c, ()) ∧ c = (if mayQueue q = true then 0 else 8) := ⟨_, rfl, rfl⟩
  have hpre : (preK envR q).den = some (stA q (c, ())) := by rw [T_pre, hc]; rfl
  unfold preK at hpre
  obtain ⟨e1, S1, a1, f1, c1⟩ := codeK_good hE callGood hS mixed_ok loop_good hcall 136 rg0 _ _ _ hpre
  cases e1 with
  | exit i => simp [Tr.den] at a1
  | goto i => simp [Tr.den] at a1
  | ret => simp [Tr.den] at a1
  | normal =>
  simp only at a1
  obtain ⟨e2, S2, a2, f2, c2⟩ := codeK_good hE callGood hS mixed_ok loop_good hcall 136 rg1 _ _ _ a1
  cases e2 with
  | exit i => simp [Tr.den] at a2
  | goto i => simp [Tr.den] at a2
  | ret => simp [Tr.den] at a2
  | normal =>
  simp only at a2
  obtain ⟨e3, S3, a3, f3, c3⟩ := codeK_good hE callGood hS mixed_ok loop_good hcall 136 rg2 _ _ _ a2
  cases e3 with
  | exit i => simp [Tr.den] at a3
  | goto i => simp [Tr.den] at a3
  | ret => simp [Tr.den] at a3
  | normal =>
  simp only [Tr.den] at a3
  have h3 : S3 = stA q (c, ()) := Option.some.inj a3
  subst h3
  have hlt1 : ∀ id, (False ∨ ((rgS0 q).m.next ≤ id ∧ id < S1.m.next)) → id < S1.m.next := then_lt (fun _ h => h.elim) f1.1
  have hlt2 := then_lt hlt1 f2.1
  have hlt3 := then_lt hlt2 f3.1
  refine wpIn_seq (wpIn_wide.2 (c1 _ _ ro _ _ w _ (fun _ h => h.elim) hs0 fun b1 w1 β1 ro1 x1 y1 z1 => ?_))
  refine wpIn_seq (wpIn_seq (wpIn_wide.2 (c2 _ _ ro1 _ _ w1 _ hlt1 z1 fun b2 w2 β2 ro2 x2 y2 z2 => ?_)))
  refine wpIn_seq (wpIn_wide.2 (c3 _ _ ro2 _ _ w2 _ hlt2 z2 fun b3 w3 β3 ro3 x3 y3 z3 => ?_))
  by_cases hq : mayQueue q = true
  ·
    rw [if_pos hq] at hcn
    subst hcn
    refine wpIn_cond_false ?_ (wpIn_skip ?_)
    · have := z3.t 9
      rw [T_c0] at this
      cases this with | leaf h => generalize hv : b3.tmps.getD 9 undef = v at h; cases h; exact hv
    have hmid := T_mid q
    unfold midK at hmid
    obtain ⟨e4, S4, a4, f4, c4⟩ := codeK_good hE callGood hS mixed_ok loop_good hcall 136 rg4 _ _ _ hmid
    cases e4 with
    | exit i => simp [Tr.den] at a4
    | goto i => simp [Tr.den] at a4
    | ret => simp [Tr.den] at a4
    | normal =>
    simp only [Tr.den] at a4
    have h4 : S4 = stB q := Option.some.inj a4
    subst h4
    have hlt4 := then_lt hlt3 f4.1
    refine wpIn_seq (wpIn_seq (wpIn_wide.2 (c4 _ _ ro3 _ _ w3 _ hlt3 z3 fun b4 w4 β4 ro4 x4 y4 z4 => ?_)))
    refine wpIn_block ?_
    obtain ⟨hrr, hf⟩ := ring_good hr' hq
    subst hrr
    obtain ⟨hd, g, cur, hb, hg, hcur, hcell, z5⟩ := frozen_at z4 (T_box q)
    have z5 := stC_sat z5
    have hlt4 := stC_lt hlt4
    obtain ⟨v0, us0, hu0, p0, hcur⟩ := hcur.of_cons
    obtain ⟨v1, us1, hu1, p1, hcur⟩ := hcur.of_cons
    obtain ⟨v2, us2, hu2, p2, hcur⟩ := hcur.of_cons
    have hu3 := hcur.of_nil
    subst hu3 hu2 hu1
    have p0' : Rep (ro4.plus β4 w4 [idB q]) (.sl (.sl (.int .u8)) q.items) v0 := by cases p0 with | leaf h => exact h.mono (Snap.ext_plus z4.h.snap _ _)
    have p1' : v1 = .int .i64 q.head := by cases p1 with | leaf h => cases h; rfl
    have p2' : v2 = .int .i64 q.many := by cases p2 with | leaf h => cases h; rfl
    have hg13 : b4.eval (.tmp 13) = .func (.func 233) #[] #[.pointer (some ⟨g, 0, none⟩)] := by
      have := z5.t 13
      rw [T_fnC] at this
      show b4.tmps.getD 13 undef = _
      generalize b4.tmps.getD 13 undef = v at this
      cases this with
      | @fn _ _ _ us vs k1 k2 k3 k4 =>
        obtain rfl : us = [] := List.eq_nil_of_length_eq_zero k1
        match vs, k2, k4 with
        | [p], _, k4 =>
          have := k4 0 _ p rfl rfl
          cases this with
          | bptr e1 e2 =>
            rw [hb] at e1; cases e1
            rw [hg] at e2; cases e2
            rfl
    have hle5 := z5.h.snap
    refine range_wp hE callGood hS mixed_ok hcall z5 hlt4 rfl (T_sig q) (T_keep q) (fun x => Leaf.sl (.int .u8) x) (queueList q) rgY0 rfl (p := 14) (q := 5) (by rw [T_len]; decide) (fun pre x hpre hx => ?_) hg13 (Go.Proofs.enters_of func233 (by kernel_rfl) rfl) (by decide)
      (ring_seq hq hle5 p0' (fun W hW => hcell W hW 0 v0 (by rw [hu0]; rfl)) (fun W hW => hcell W hW 1 _ (by rw [hu0, p1']; rfl)) (fun W hW => hcell W hW 2 _ (by rw [hu0, p2']; rfl))) ?_
    · have := T_body q pre x
      have hx1 := ring_small hq hf hx
      have hx2 : pre.length + 1 ≤ big := by
        obtain ⟨l1, l2, _⟩ := ring_list_items q hq
        rw [l1] at hpre
        have := big_eq
        omega
      rw [show N_ring_text (x, ()) = some (x, ()) from if_pos hx1, Option.bind_some, if_pos (decide_eq_true hx2)] at this
      exact this
    · intro d W β6 ro6 hd6 x6 y6 hW hrd hs6
      obtain ⟨e5, S5, a5, f5, c5⟩ := codeK_good hE callGood hS mixed_ok loop_good hcall 136 rg7 _ _ _ (T_end q (queueList q))
      cases e5 with
      | exit i => simp [Tr.den] at a5
      | goto i => simp [Tr.den] at a5
      | normal => simp [Tr.den] at a5
      | ret =>
      simp only at a5
      show rg7.wpIn Fence.wide 3 _ _ _ W
      refine wpIn_wide.2 (c5 _ _ ro6 _ _ W _ (then_lt hlt4 (Nat.le_of_ble_eq_true (T_nextH q _))) hs6 fun b7 w7 β7 ro7 x7 y7 z7 => ?_)
      exact fin_mark hE a5 z7 rfl hd6 (y7 _ _ hrd) hle
  · rw [if_neg hq] at hcn
    subst hcn
    refine wpIn_cond_true ?_ ?_
    · have := z3.t 9
      rw [T_c8] at this
      cases this with | leaf h => generalize hv : b3.tmps.getD 9 undef = v at h; cases h; exact hv
    obtain ⟨e4, S4, a4, f4, c4⟩ := codeK_good hE callGood hS mixed_ok loop_good hcall 136 rg3 _ _ _ (T_bad q)
    cases e4 with
    | exit i => simp [Tr.den] at a4
    | goto i => simp [Tr.den] at a4
    | normal => simp [Tr.den] at a4
    | ret =>
    simp only at a4
    refine wpIn_wide.2 (c4 _ _ ro3 _ _ w3 _ hlt3 z3 fun b4 w4 β4 ro4 x4 y4 z4 => ?_)
    obtain rfl := ring_bad hr' hq
    exact fin_plain hE a4 z4 rfl hle
end Go.Cat

set_option maxHeartbeats 0
namespace Go.Cat
open Go Go.Proofs.Tryz
noncomputable def env54 : Env := { ty := tys, specs := [(57, s57), (136, s136)], inl := [(54, f54), (55, f55), (137, f137), (138, f138), (205, f205)], hints := hnts }
theorem T_sess_Check (x : TT [(.st .Config), (.st .End)]) : (fnTree env54 54 [(.st .Config), (.st .End)] [(.int .i64)] x).den = D_sess_Check x.1 x.2.1 := by kernel_rfl
theorem C_sess_Check : SpecOk Go.Proofs.Tryz.prog 54 s54 :=
  (fnTree_spec (E := env54) (tysOk_of tys_ok) (specSound_of (specsOk_cons C_place_Check (specsOk_cons C_ring_List specsOk_nil))) mixed_ok (inlOk_of (inlB_cons func54 nm_54 (inlB_cons func55 nm_55 (inlB_cons func137 nm_137 (inlB_cons func138 nm_138 (inlB_cons func205 nm_205 inlB_nil)))))) en_54 [(.st .Config), (.st .End)] [(.int .i64)]).weaken (fun x r hx hn => (T_sess_Check x).trans (Q_sess_Check x r hx hn))
noncomputable def env131 : Env := { ty := tys, specs := [], inl := [(131, f131)], hints := hnts }
theorem T_place_part_size (x : TT [(.st .Part)]) : (fnTree env131 131 [(.st .Part)] [(.int .i64)] x).den = D_place_part_size x.1 := by kernel_rfl
theorem C_place_part_size : SpecOk Go.Proofs.Tryz.prog 131 s131 :=
  (fnTree_spec (E := env131) (tysOk_of tys_ok) (specSound_of specsOk_nil) mixed_ok (inlOk_of (inlB_cons func131 nm_131 inlB_nil)) en_131 [(.st .Part)] [(.int .i64)]).weaken (fun x r hx hn => (T_place_part_size x).trans (Q_place_part_size x r hx hn))
noncomputable def env198 : Env := { ty := tys, specs := [], inl := [(198, f198)], hints := hnts }
theorem T_place_pages (x : TT [(.st .Config)]) : (fnTree env198 198 [(.st .Config)] [(.int .i64)] x).den = D_place_pages x.1 := by kernel_rfl
theorem C_place_pages : SpecOk Go.Proofs.Tryz.prog 198 s198 :=
  (fnTree_spec (E := env198) (tysOk_of tys_ok) (specSound_of specsOk_nil) mixed_ok (inlOk_of (inlB_cons func198 nm_198 inlB_nil)) en_198 [(.st .Config)] [(.int .i64)]).weaken (fun x r hx hn => (T_place_pages x).trans (Q_place_pages x r hx hn))
noncomputable def env50 : Env := { ty := tys, specs := [(57, s57), (131, s131), (198, s198)], inl := [(50, f50), (130, f130)], hints := hnts }
theorem T_place_Sectors (x : TT [(.st .Config)]) : (fnTree env50 50 [(.st .Config)] [(.int .i64), (.int .i64)] x).den = D_place_Sectors x.1 := by kernel_rfl
theorem C_place_Sectors : SpecOk Go.Proofs.Tryz.prog 50 s50 :=
  (fnTree_spec (E := env50) (tysOk_of tys_ok) (specSound_of (specsOk_cons C_place_Check (specsOk_cons C_place_part_size (specsOk_cons C_place_pages specsOk_nil)))) mixed_ok (inlOk_of (inlB_cons func50 nm_50 (inlB_cons func130 nm_130 inlB_nil))) en_50 [(.st .Config)] [(.int .i64), (.int .i64)]).weaken (fun x r hx hn => (T_place_Sectors x).trans (Q_place_Sectors x r hx hn))
noncomputable def env170 : Env := { ty := tys, specs := [], inl := [(170, f170)], hints := hnts }
theorem T_bytes_Equal (x : TT [(.sl (.int .u8)), (.sl (.int .u8))]) : (fnTree env170 170 [(.sl (.int .u8)), (.sl (.int .u8))] [.bool] x).den = D_bytes_Equal x.1 x.2.1 := by kernel_rfl
theorem C_bytes_Equal : SpecOk Go.Proofs.Tryz.prog 170 s170 :=
  (fnTree_spec (E := env170) (tysOk_of tys_ok) (specSound_of specsOk_nil) mixed_ok (inlOk_of (inlB_cons func170 nm_170 inlB_nil)) en_170 [(.sl (.int .u8)), (.sl (.int .u8))] [.bool]).weaken (fun x r hx hn => (T_bytes_Equal x).trans (Q_bytes_Equal x r hx hn))
noncomputable def env202 : Env := { ty := tys, specs := [], inl := [(137, f137), (202, f202), (205, f205), (229, f229)], hints := hnts }
theorem T_disk_sized (x : TT [(.sl (.sl (.int .u8)))]) : (fnTree env202 202 [(.sl (.sl (.int .u8)))] [.bool] x).den = D_disk_sized x.1 := by kernel_rfl
theorem C_disk_sized : SpecOk Go.Proofs.Tryz.prog 202 s202 :=
  (fnTree_spec (E := env202) (tysOk_of tys_ok) (specSound_of specsOk_nil) mixed_ok (inlOk_of (inlB_cons func137 nm_137 (inlB_cons func202 nm_202 (inlB_cons func205 nm_205 (inlB_cons func229 nm_229 inlB_nil))))) en_202 [(.sl (.sl (.int .u8)))] [.bool]).weaken (fun x r hx hn => (T_disk_sized x).trans (Q_disk_sized x r hx hn))
noncomputable def env206 : Env := { ty := tys, specs := [], inl := [(206, f206)], hints := hnts }
theorem T_disk_none (x : TT []) : (fnTree env206 206 [] [(.sl (.int .u8))] x).den = D_disk_none := by kernel_rfl
theorem C_disk_none : SpecOk Go.Proofs.Tryz.prog 206 s206 :=
  (fnTree_spec (E := env206) (tysOk_of tys_ok) (specSound_of specsOk_nil) mixed_ok (inlOk_of (inlB_cons func206 nm_206 inlB_nil)) en_206 [] [(.sl (.int .u8))]).weaken (fun x r hx hn => (T_disk_none x).trans (Q_disk_none x r hx hn))
noncomputable def env145 : Env := { ty := tys, specs := [(170, s170), (202, s202), (206, s206)], inl := [(145, f145)], hints := hnts }
theorem T_disk_Check (x : TT [(.st .Disk)]) : (fnTree env145 145 [(.st .Disk)] [(.int .i64)] x).den = D_disk_Check x.1 := by kernel_rfl
theorem C_disk_Check : SpecOk Go.Proofs.Tryz.prog 145 s145 :=
  (fnTree_spec (E := env145) (tysOk_of tys_ok) (specSound_of (specsOk_cons C_bytes_Equal (specsOk_cons C_disk_sized (specsOk_cons C_disk_none specsOk_nil)))) mixed_ok (inlOk_of (inlB_cons func145 nm_145 inlB_nil)) en_145 [(.st .Disk)] [(.int .i64)]).weaken (fun x r hx hn => (T_disk_Check x).trans (Q_disk_Check x r hx hn))
noncomputable def env58 : Env := { ty := tys, specs := [(50, s50), (145, s145)], inl := [(58, f58)], hints := hnts }
theorem T_track_Check (x : TT [(.st .Config), (.st .Disk)]) : (fnTree env58 58 [(.st .Config), (.st .Disk)] [(.int .i64)] x).den = D_track_Check x.1 x.2.1 := by kernel_rfl
theorem C_track_Check : SpecOk Go.Proofs.Tryz.prog 58 s58 :=
  (fnTree_spec (E := env58) (tysOk_of tys_ok) (specSound_of (specsOk_cons C_place_Sectors (specsOk_cons C_disk_Check specsOk_nil))) mixed_ok (inlOk_of (inlB_cons func58 nm_58 inlB_nil)) en_58 [(.st .Config), (.st .Disk)] [(.int .i64)]).weaken (fun x r hx hn => (T_track_Check x).trans (Q_track_Check x r hx hn))
noncomputable def env230 : Env := { ty := tys, specs := [], inl := [(230, f230), (246, f246), (247, f247)], hints := hnts }
theorem T_num_Write (x : TT [(.sl (.int .u64)), (.sl (.int .i64))]) : (fnTree env230 230 [(.sl (.int .u64)), (.sl (.int .i64))] [(.sl (.int .u8)), (.int .i64)] x).den = D_num_Write x.1 x.2.1 := by kernel_rfl
theorem C_num_Write : SpecOk Go.Proofs.Tryz.prog 230 s230 :=
  (fnTree_spec (E := env230) (tysOk_of tys_ok) (specSound_of specsOk_nil) mixed_ok (inlOk_of (inlB_cons func230 nm_230 (inlB_cons func246 nm_246 (inlB_cons func247 nm_247 inlB_nil)))) en_230 [(.sl (.int .u64)), (.sl (.int .i64))] [(.sl (.int .u8)), (.int .i64)]).weaken (fun x r hx hn => (T_num_Write x).trans (Q_num_Write x r hx hn))
noncomputable def env249 : Env := { ty := tys, specs := [], inl := [(163, f163), (217, f217), (249, f249), (253, f253)], hints := hnts }
theorem T_rec_site (x : TT [(.sl (.int .i64))]) : (fnTree env249 249 [(.sl (.int .i64))] [.bool] x).den = D_rec_site x.1 := by kernel_rfl
theorem C_rec_site : SpecOk Go.Proofs.Tryz.prog 249 s249 :=
  (fnTree_spec (E := env249) (tysOk_of tys_ok) (specSound_of specsOk_nil) mixed_ok (inlOk_of (inlB_cons func163 nm_163 (inlB_cons func217 nm_217 (inlB_cons func249 nm_249 (inlB_cons func253 nm_253 inlB_nil))))) en_249 [(.sl (.int .i64))] [.bool]).weaken (fun x r hx hn => (T_rec_site x).trans (Q_rec_site x r hx hn))
noncomputable def env234 : Env := { ty := tys, specs := [(249, s249)], inl := [(234, f234)], hints := hnts }
theorem T_rec_Check (x : TT [(.st .Rec)]) : (fnTree env234 234 [(.st .Rec)] [(.int .i64)] x).den = D_rec_Check x.1 := by kernel_rfl
theorem C_rec_Check : SpecOk Go.Proofs.Tryz.prog 234 s234 :=
  (fnTree_spec (E := env234) (tysOk_of tys_ok) (specSound_of (specsOk_cons C_rec_site specsOk_nil)) mixed_ok (inlOk_of (inlB_cons func234 nm_234 inlB_nil)) en_234 [(.st .Rec)] [(.int .i64)]).weaken (fun x r hx hn => (T_rec_Check x).trans (Q_rec_Check x r hx hn))
noncomputable def env235 : Env := { ty := tys, specs := [], inl := [(235, f235)], hints := hnts }
theorem T_rec_sizes (x : TT []) : (fnTree env235 235 [] [(.sl (.int .i64))] x).den = D_rec_sizes := by kernel_rfl
theorem C_rec_sizes : SpecOk Go.Proofs.Tryz.prog 235 s235 :=
  (fnTree_spec (E := env235) (tysOk_of tys_ok) (specSound_of specsOk_nil) mixed_ok (inlOk_of (inlB_cons func235 nm_235 inlB_nil)) en_235 [] [(.sl (.int .i64))]).weaken (fun x r hx hn => (T_rec_sizes x).trans (Q_rec_sizes x r hx hn))
noncomputable def env208 : Env := { ty := tys, specs := [(230, s230), (234, s234), (235, s235)], inl := [(208, f208)], hints := hnts }
theorem T_rec_Note (x : TT [(.st .Rec)]) : (fnTree env208 208 [(.st .Rec)] [(.sl (.int .u8)), (.int .i64)] x).den = D_rec_Note x.1 := by kernel_rfl
theorem C_rec_Note : SpecOk Go.Proofs.Tryz.prog 208 s208 :=
  (fnTree_spec (E := env208) (tysOk_of tys_ok) (specSound_of (specsOk_cons C_num_Write (specsOk_cons C_rec_Check (specsOk_cons C_rec_sizes specsOk_nil)))) mixed_ok (inlOk_of (inlB_cons func208 nm_208 inlB_nil)) en_208 [(.st .Rec)] [(.sl (.int .u8)), (.int .i64)]).weaken (fun x r hx hn => (T_rec_Note x).trans (Q_rec_Note x r hx hn))
noncomputable def env146 : Env := { ty := tys, specs := [(208, s208), (234, s234)], inl := [(146, f146), (207, f207)], hints := hnts }
theorem T_rec_Notes (x : TT [(.sl (.st .Rec))]) : (fnTree env146 146 [(.sl (.st .Rec))] [(.sl (.sl (.int .u8))), (.int .i64)] x).den = D_rec_Notes x.1 := by kernel_rfl
theorem C_rec_Notes : SpecOk Go.Proofs.Tryz.prog 146 s146 :=
  (fnTree_spec (E := env146) (tysOk_of tys_ok) (specSound_of (specsOk_cons C_rec_Note (specsOk_cons C_rec_Check specsOk_nil))) mixed_ok (inlOk_of (inlB_cons func146 nm_146 (inlB_cons func207 nm_207 inlB_nil))) en_146 [(.sl (.st .Rec))] [(.sl (.sl (.int .u8))), (.int .i64)]).weaken (fun x r hx hn => (T_rec_Notes x).trans (Q_rec_Notes x r hx hn))
noncomputable def env59 : Env := { ty := tys, specs := [(57, s57), (146, s146)], inl := [(59, f59)], hints := hnts }
theorem T_meta_Check (x : TT [(.st .Config), (.st .Meta)]) : (fnTree env59 59 [(.st .Config), (.st .Meta)] [(.int .i64)] x).den = D_meta_Check x.1 x.2.1 := by kernel_rfl
theorem C_meta_Check : SpecOk Go.Proofs.Tryz.prog 59 s59 :=
  (fnTree_spec (E := env59) (tysOk_of tys_ok) (specSound_of (specsOk_cons C_place_Check (specsOk_cons C_rec_Notes specsOk_nil))) mixed_ok (inlOk_of (inlB_cons func59 nm_59 inlB_nil)) en_59 [(.st .Config), (.st .Meta)] [(.int .i64)]).weaken (fun x r hx hn => (T_meta_Check x).trans (Q_meta_Check x r hx hn))
noncomputable def env62 : Env := { ty := tys, specs := [], inl := [(62, f62)], hints := hnts }
theorem T_act_limits_pair (x : TT [(.st .Config), (.int .i64)]) : (fnTree env62 62 [(.st .Config), (.int .i64)] [.bool] x).den = D_act_limits_pair x.1 x.2.1 := by kernel_rfl
theorem C_act_limits_pair : SpecOk Go.Proofs.Tryz.prog 62 s62 :=
  (fnTree_spec (E := env62) (tysOk_of tys_ok) (specSound_of specsOk_nil) mixed_ok (inlOk_of (inlB_cons func62 nm_62 inlB_nil)) en_62 [(.st .Config), (.int .i64)] [.bool]).weaken (fun x r hx hn => (T_act_limits_pair x).trans (Q_act_limits_pair x r hx hn))
noncomputable def env162 : Env := { ty := tys, specs := [], inl := [(162, f162), (200, f200), (216, f216), (228, f228), (244, f244), (245, f245)], hints := hnts }
theorem T_bits_All (x : TT [(.int .i64)]) : (fnTree env162 162 [(.int .i64)] [(.sl (.int .u8)), (.int .i64)] x).den = D_bits_All x.1 := by kernel_rfl
theorem C_bits_All : SpecOk Go.Proofs.Tryz.prog 162 s162 :=
  (fnTree_spec (E := env162) (tysOk_of tys_ok) (specSound_of specsOk_nil) mixed_ok (inlOk_of (inlB_cons func162 nm_162 (inlB_cons func200 nm_200 (inlB_cons func216 nm_216 (inlB_cons func228 nm_228 (inlB_cons func244 nm_244 (inlB_cons func245 nm_245 inlB_nil))))))) en_162 [(.int .i64)] [(.sl (.int .u8)), (.int .i64)]).weaken (fun x r hx hn => (T_bits_All x).trans (Q_bits_All x r hx hn))
noncomputable def env149 : Env := { ty := tys, specs := [(162, s162)], inl := [(149, f149)], hints := hnts }
theorem T_bits_Check (x : TT [(.int .i64), (.sl (.int .u8))]) : (fnTree env149 149 [(.int .i64), (.sl (.int .u8))] [(.int .i64)] x).den = D_bits_Check x.1 x.2.1 := by kernel_rfl
theorem C_bits_Check : SpecOk Go.Proofs.Tryz.prog 149 s149 :=
  (fnTree_spec (E := env149) (tysOk_of tys_ok) (specSound_of (specsOk_cons C_bits_All specsOk_nil)) mixed_ok (inlOk_of (inlB_cons func149 nm_149 inlB_nil)) en_149 [(.int .i64), (.sl (.int .u8))] [(.int .i64)]).weaken (fun x r hx hn => (T_bits_Check x).trans (Q_bits_Check x r hx hn))
end Go.Cat

set_option maxHeartbeats 0
namespace Go.Cat
open Go Go.Proofs.Tryz
noncomputable def env65 : Env := { ty := tys, specs := [(149, s149)], inl := [(65, f65), (150, f150), (151, f151), (152, f152), (153, f153), (154, f154), (209, f209), (210, f210)], hints := hnts }
theorem T_act_limits_side (x : TT [(.st .Config), (.st .Side)]) : (fnTree env65 65 [(.st .Config), (.st .Side)] [.bool] x).den = D_act_limits_side x.1 x.2.1 := by kernel_rfl
theorem C_act_limits_side : SpecOk Go.Proofs.Tryz.prog 65 s65 :=
  (fnTree_spec (E := env65) (tysOk_of tys_ok) (specSound_of (specsOk_cons C_bits_Check specsOk_nil)) mixed_ok (inlOk_of (inlB_cons func65 nm_65 (inlB_cons func150 nm_150 (inlB_cons func151 nm_151 (inlB_cons func152 nm_152 (inlB_cons func153 nm_153 (inlB_cons func154 nm_154 (inlB_cons func209 nm_209 (inlB_cons func210 nm_210 inlB_nil))))))))) en_65 [(.st .Config), (.st .Side)] [.bool]).weaken (fun x r hx hn => (T_act_limits_side x).trans (Q_act_limits_side x r hx hn))
noncomputable def env219 : Env := { ty := tys, specs := [], inl := [(219, f219)], hints := hnts }
theorem T_msg_of (x : TT [(.st .Msg)]) : (fnTree env219 219 [(.st .Msg)] [(.st .Plain)] x).den = D_msg_of x.1 := by kernel_rfl
theorem C_msg_of : SpecOk Go.Proofs.Tryz.prog 219 s219 :=
  (fnTree_spec (E := env219) (tysOk_of tys_ok) (specSound_of specsOk_nil) mixed_ok (inlOk_of (inlB_cons func219 nm_219 inlB_nil)) en_219 [(.st .Msg)] [(.st .Plain)]).weaken (fun x r hx hn => (T_msg_of x).trans (Q_msg_of x r hx hn))
noncomputable def env179 : Env := { ty := tys, specs := [(170, s170), (219, s219)], inl := [(179, f179)], hints := hnts }
theorem T_msg_Same (x : TT [(.st .Msg), (.st .Msg)]) : (fnTree env179 179 [(.st .Msg), (.st .Msg)] [.bool] x).den = D_msg_Same x.1 x.2.1 := by kernel_rfl
theorem C_msg_Same : SpecOk Go.Proofs.Tryz.prog 179 s179 :=
  (fnTree_spec (E := env179) (tysOk_of tys_ok) (specSound_of (specsOk_cons C_bytes_Equal (specsOk_cons C_msg_of specsOk_nil))) mixed_ok (inlOk_of (inlB_cons func179 nm_179 inlB_nil)) en_179 [(.st .Msg), (.st .Msg)] [.bool]).weaken (fun x r hx hn => (T_msg_Same x).trans (Q_msg_Same x r hx hn))
noncomputable def env250 : Env := { ty := tys, specs := [], inl := [(250, f250)], hints := hnts }
theorem T_msg_marks (x : TT [(.sl (.int .u8))]) : (fnTree env250 250 [(.sl (.int .u8))] [.bool] x).den = D_msg_marks x.1 := by kernel_rfl
theorem C_msg_marks : SpecOk Go.Proofs.Tryz.prog 250 s250 :=
  (fnTree_spec (E := env250) (tysOk_of tys_ok) (specSound_of specsOk_nil) mixed_ok (inlOk_of (inlB_cons func250 nm_250 inlB_nil)) en_250 [(.sl (.int .u8))] [.bool]).weaken (fun x r hx hn => (T_msg_marks x).trans (Q_msg_marks x r hx hn))
end Go.Cat

set_option maxHeartbeats 0
namespace Go.Cat
open Go Go.Proofs.Tryz
noncomputable def env236 : Env := { ty := tys, specs := [(234, s234), (250, s250)], inl := [(236, f236)], hints := hnts }
theorem T_msg_used (x : TT [(.st .Msg)]) : (fnTree env236 236 [(.st .Msg)] [(.st .Msg), .bool] x).den = D_msg_used x.1 := by kernel_rfl
theorem C_msg_used : SpecOk Go.Proofs.Tryz.prog 236 s236 :=
  (fnTree_spec (E := env236) (tysOk_of tys_ok) (specSound_of (specsOk_cons C_rec_Check (specsOk_cons C_msg_marks specsOk_nil))) mixed_ok (inlOk_of (inlB_cons func236 nm_236 inlB_nil)) en_236 [(.st .Msg)] [(.st .Msg), .bool]).weaken (fun x r hx hn => (T_msg_used x).trans (Q_msg_used x r hx hn))
noncomputable def env211 : Env := { ty := tys, specs := [(179, s179), (236, s236)], inl := [(211, f211)], hints := hnts }
theorem T_msg_Check (x : TT [(.st .Msg)]) : (fnTree env211 211 [(.st .Msg)] [(.int .i64)] x).den = D_msg_Check x.1 := by kernel_rfl
theorem C_msg_Check : SpecOk Go.Proofs.Tryz.prog 211 s211 :=
  (fnTree_spec (E := env211) (tysOk_of tys_ok) (specSound_of (specsOk_cons C_msg_Same (specsOk_cons C_msg_used specsOk_nil))) mixed_ok (inlOk_of (inlB_cons func211 nm_211 inlB_nil)) en_211 [(.st .Msg)] [(.int .i64)]).weaken (fun x r hx hn => (T_msg_Check x).trans (Q_msg_Check x r hx hn))
noncomputable def env156 : Env := { ty := tys, specs := [(62, s62), (211, s211)], inl := [(156, f156)], hints := hnts }
theorem T_act_limits_message (x : TT [(.st .Config), (.st .Msg)]) : (fnTree env156 156 [(.st .Config), (.st .Msg)] [.bool] x).den = D_act_limits_message x.1 x.2.1 := by kernel_rfl
theorem C_act_limits_message : SpecOk Go.Proofs.Tryz.prog 156 s156 :=
  (fnTree_spec (E := env156) (tysOk_of tys_ok) (specSound_of (specsOk_cons C_act_limits_pair (specsOk_cons C_msg_Check specsOk_nil))) mixed_ok (inlOk_of (inlB_cons func156 nm_156 inlB_nil)) en_156 [(.st .Config), (.st .Msg)] [.bool]).weaken (fun x r hx hn => (T_act_limits_message x).trans (Q_act_limits_message x r hx hn))
noncomputable def env68 : Env := { ty := tys, specs := [(62, s62), (156, s156)], inl := [(68, f68)], hints := hnts }
theorem T_act_limits_act (x : TT [(.st .Config), (.st .Act), (.int .i64)]) : (fnTree env68 68 [(.st .Config), (.st .Act), (.int .i64)] [.bool] x).den = D_act_limits_act x.1 x.2.1 x.2.2.1 := by kernel_rfl
theorem C_act_limits_act : SpecOk Go.Proofs.Tryz.prog 68 s68 :=
  (fnTree_spec (E := env68) (tysOk_of tys_ok) (specSound_of (specsOk_cons C_act_limits_pair (specsOk_cons C_act_limits_message specsOk_nil))) mixed_ok (inlOk_of (inlB_cons func68 nm_68 inlB_nil)) en_68 [(.st .Config), (.st .Act), (.int .i64)] [.bool]).weaken (fun x r hx hn => (T_act_limits_act x).trans (Q_act_limits_act x r hx hn))
noncomputable def env71 : Env := { ty := tys, specs := [(156, s156)], inl := [(71, f71)], hints := hnts }
theorem T_act_limits_mail (x : TT [(.st .Config), (.st .Mail)]) : (fnTree env71 71 [(.st .Config), (.st .Mail)] [.bool] x).den = D_act_limits_mail x.1 x.2.1 := by kernel_rfl
theorem C_act_limits_mail : SpecOk Go.Proofs.Tryz.prog 71 s71 :=
  (fnTree_spec (E := env71) (tysOk_of tys_ok) (specSound_of (specsOk_cons C_act_limits_message specsOk_nil)) mixed_ok (inlOk_of (inlB_cons func71 nm_71 inlB_nil)) en_71 [(.st .Config), (.st .Mail)] [.bool]).weaken (fun x r hx hn => (T_act_limits_mail x).trans (Q_act_limits_mail x r hx hn))
end Go.Cat

set_option maxHeartbeats 0
namespace Go.Cat
open Go Go.Proofs.Tryz
noncomputable def env20 : Env := { ty := tys, specs := [(54, s54), (57, s57), (58, s58), (59, s59), (62, s62), (65, s65), (68, s68), (71, s71)], inl := [(20, f20), (60, f60), (61, f61), (63, f63), (64, f64), (66, f66), (67, f67), (69, f69), (70, f70), (72, f72), (73, f73), (147, f147), (148, f148), (155, f155), (157, f157), (158, f158)], hints := hnts }
theorem T_act_Check (x : TT [(.st .Config), (.st .Site)]) : (fnTree env20 20 [(.st .Config), (.st .Site)] [(.int .i64)] x).den = D_act_Check x.1 x.2.1 := by kernel_rfl
theorem C_act_Check : SpecOk Go.Proofs.Tryz.prog 20 s20 :=
  (fnTree_spec (E := env20) (tysOk_of tys_ok) (specSound_of (specsOk_cons C_sess_Check (specsOk_cons C_place_Check (specsOk_cons C_track_Check (specsOk_cons C_meta_Check (specsOk_cons C_act_limits_pair (specsOk_cons C_act_limits_side (specsOk_cons C_act_limits_act (specsOk_cons C_act_limits_mail specsOk_nil))))))))) mixed_ok (inlOk_of (inlB_cons func20 nm_20 (inlB_cons func60 nm_60 (inlB_cons func61 nm_61 (inlB_cons func63 nm_63 (inlB_cons func64 nm_64 (inlB_cons func66 nm_66 (inlB_cons func67 nm_67 (inlB_cons func69 nm_69 (inlB_cons func70 nm_70 (inlB_cons func72 nm_72 (inlB_cons func73 nm_73 (inlB_cons func147 nm_147 (inlB_cons func148 nm_148 (inlB_cons func155 nm_155 (inlB_cons func157 nm_157 (inlB_cons func158 nm_158 inlB_nil))))))))))))))))) en_20 [(.st .Config), (.st .Site)] [(.int .i64)]).weaken (fun x r hx hn => (T_act_Check x).trans (Q_act_Check x r hx hn))
noncomputable def env227 : Env := { ty := tys, specs := [], inl := [(227, f227)], hints := hnts }
theorem T_crc_sum_take (x : TT [(.int .u32), (.int .u8)]) : (fnTree env227 227 [(.int .u32), (.int .u8)] [(.int .u32)] x).den = D_crc_sum_take x.1 x.2.1 := by kernel_rfl
theorem C_crc_sum_take : SpecOk Go.Proofs.Tryz.prog 227 s227 :=
  (fnTree_spec (E := env227) (tysOk_of tys_ok) (specSound_of specsOk_nil) mixed_ok (inlOk_of (inlB_cons func227 nm_227 inlB_nil)) en_227 [(.int .u32), (.int .u8)] [(.int .u32)]).weaken (fun x r hx hn => (T_crc_sum_take x).trans (Q_crc_sum_take x r hx hn))
noncomputable def env197 : Env := { ty := tys, specs := [(227, s227)], inl := [(197, f197)], hints := hnts }
theorem T_crc_More (x : TT [(.int .u32), (.sl (.int .u8))]) : (fnTree env197 197 [(.int .u32), (.sl (.int .u8))] [(.int .u32)] x).den = D_crc_More x.1 x.2.1 := by kernel_rfl
theorem C_crc_More : SpecOk Go.Proofs.Tryz.prog 197 s197 :=
  (fnTree_spec (E := env197) (tysOk_of tys_ok) (specSound_of (specsOk_cons C_crc_sum_take specsOk_nil)) mixed_ok (inlOk_of (inlB_cons func197 nm_197 inlB_nil)) en_197 [(.int .u32), (.sl (.int .u8))] [(.int .u32)]).weaken (fun x r hx hn => (T_crc_More x).trans (Q_crc_More x r hx hn))
noncomputable def env129 : Env := { ty := tys, specs := [(197, s197)], inl := [(129, f129)], hints := hnts }
theorem T_crc_Sum (x : TT [(.sl (.int .u8))]) : (fnTree env129 129 [(.sl (.int .u8))] [(.int .u32)] x).den = D_crc_Sum x.1 := by kernel_rfl
theorem C_crc_Sum : SpecOk Go.Proofs.Tryz.prog 129 s129 :=
  (fnTree_spec (E := env129) (tysOk_of tys_ok) (specSound_of (specsOk_cons C_crc_More specsOk_nil)) mixed_ok (inlOk_of (inlB_cons func129 nm_129 inlB_nil)) en_129 [(.sl (.int .u8))] [(.int .u32)]).weaken (fun x r hx hn => (T_crc_Sum x).trans (Q_crc_Sum x r hx hn))
noncomputable def env49 : Env := { ty := tys, specs := [(129, s129)], inl := [(49, f49)], hints := hnts }
theorem T_crc_Seal (x : TT [(.sl (.int .u8))]) : (fnTree env49 49 [(.sl (.int .u8))] [(.sl (.int .u8)), (.int .i64)] x).den = D_crc_Seal x.1 := by kernel_rfl
theorem C_crc_Seal : SpecOk Go.Proofs.Tryz.prog 49 s49 :=
  (fnTree_spec (E := env49) (tysOk_of tys_ok) (specSound_of (specsOk_cons C_crc_Sum specsOk_nil)) mixed_ok (inlOk_of (inlB_cons func49 nm_49 inlB_nil)) en_49 [(.sl (.int .u8))] [(.sl (.int .u8)), (.int .i64)]).weaken (fun x r hx hn => (T_crc_Seal x).trans (Q_crc_Seal x r hx hn))
noncomputable def env112 : Env := { ty := tys, specs := [(49, s49)], inl := [(112, f112)], hints := hnts }
theorem T_crc_Open (x : TT [(.sl (.int .u8))]) : (fnTree env112 112 [(.sl (.int .u8))] [(.sl (.int .u8)), (.int .i64)] x).den = D_crc_Open x.1 := by kernel_rfl
theorem C_crc_Open : SpecOk Go.Proofs.Tryz.prog 112 s112 :=
  (fnTree_spec (E := env112) (tysOk_of tys_ok) (specSound_of (specsOk_cons C_crc_Seal specsOk_nil)) mixed_ok (inlOk_of (inlB_cons func112 nm_112 inlB_nil)) en_112 [(.sl (.int .u8))] [(.sl (.int .u8)), (.int .i64)]).weaken (fun x r hx hn => (T_crc_Open x).trans (Q_crc_Open x r hx hn))
noncomputable def env37 : Env := { ty := tys, specs := [(112, s112)], inl := [(37, f37), (48, f48)], hints := hnts }
theorem T_req_Read (x : TT [(.sl (.int .u8))]) : (fnTree env37 37 [(.sl (.int .u8))] [(.int .u8), (.int .u8), (.int .i64)] x).den = D_req_Read x.1 := by kernel_rfl
theorem C_req_Read : SpecOk Go.Proofs.Tryz.prog 37 s37 :=
  (fnTree_spec (E := env37) (tysOk_of tys_ok) (specSound_of (specsOk_cons C_crc_Open specsOk_nil)) mixed_ok (inlOk_of (inlB_cons func37 nm_37 (inlB_cons func48 nm_48 inlB_nil))) en_37 [(.sl (.int .u8))] [(.int .u8), (.int .u8), (.int .i64)]).weaken (fun x r hx hn => (T_req_Read x).trans (Q_req_Read x r hx hn))
noncomputable def env115 : Env := { ty := tys, specs := [], inl := [(115, f115)], hints := hnts }
theorem C_slices_Clone_byte_byte : SpecOk Go.Proofs.Tryz.prog 115 s115 :=
  nil_split (E := env115) (f := 115) (e := (.int .u8)) (results := [(.sl (.int .u8))]) (g := fun xs => if xs.length ≤ big then some (xs, ()) else none) (tysOk_of tys_ok) (specSound_of specsOk_nil) mixed_ok (inlOk_of (inlB_cons func115 nm_115 inlB_nil)) en_115
    (fun r h => (show (treeOf env115 115 [.lit (.slice none 0 0)] [(.sl (.int .u8))]).den = some ([], ()) by kernel_rfl).trans h)
    (fun xs r h => (show (treeOf env115 115 [.nn (.int .u8) xs] [(.sl (.int .u8))]).den = (if decide (0 + xs.length ≤ big) = true then some (xs, ()) else none) by kernel_rfl).trans (by rw [Nat.zero_add]; simp only [decide_eq_true_eq]; exact h))
noncomputable def env75 : Env := { ty := tys, specs := [(115, s115)], inl := [(75, f75)], hints := hnts }
theorem T_disk_Twin (x : TT [(.st .Disk)]) : (fnTree env75 75 [(.st .Disk)] [(.st .Disk)] x).den = D_disk_Twin x.1 := by kernel_rfl
theorem C_disk_Twin : SpecOk Go.Proofs.Tryz.prog 75 s75 :=
  (fnTree_spec (E := env75) (tysOk_of tys_ok) (specSound_of (specsOk_cons C_slices_Clone_byte_byte specsOk_nil)) mixed_ok (inlOk_of (inlB_cons func75 nm_75 inlB_nil)) en_75 [(.st .Disk)] [(.st .Disk)]).weaken (fun x r hx hn => (T_disk_Twin x).trans (Q_disk_Twin x r hx hn))
end Go.Cat

set_option maxHeartbeats 0
namespace Go.Cat
open Go Go.Proofs.Tryz
noncomputable def env140 : Env := { ty := tys, specs := [(141, s141)], inl := [(140, f140)], hints := hnts }
theorem T_ring_Twin (x : TT [(.st .Queue)]) : (fnTree env140 140 [(.st .Queue)] [(.st .Queue)] x).den = D_ring_Twin x.1 := by kernel_rfl
theorem C_ring_Twin : SpecOk Go.Proofs.Tryz.prog 140 s140 :=
  (fnTree_spec (E := env140) (tysOk_of tys_ok) (specSound_of (specsOk_cons C_ring_text specsOk_nil)) mixed_ok (inlOk_of (inlB_cons func140 nm_140 inlB_nil)) en_140 [(.st .Queue)] [(.st .Queue)]).weaken (fun x r hx hn => (T_ring_Twin x).trans (Q_ring_Twin x r hx hn))
noncomputable def env76 : Env := { ty := tys, specs := [(140, s140)], inl := [(76, f76)], hints := hnts }
theorem T_sess_Twin (x : TT [(.st .End)]) : (fnTree env76 76 [(.st .End)] [(.st .End)] x).den = D_sess_Twin x.1 := by kernel_rfl
theorem C_sess_Twin : SpecOk Go.Proofs.Tryz.prog 76 s76 :=
  (fnTree_spec (E := env76) (tysOk_of tys_ok) (specSound_of (specsOk_cons C_ring_Twin specsOk_nil)) mixed_ok (inlOk_of (inlB_cons func76 nm_76 inlB_nil)) en_76 [(.st .End)] [(.st .End)]).weaken (fun x r hx hn => (T_sess_Twin x).trans (Q_sess_Twin x r hx hn))
noncomputable def env77 : Env := { ty := tys, specs := [], inl := [(77, f77)], hints := hnts }
theorem C_slices_Clone_api_Rec_api_Rec : SpecOk Go.Proofs.Tryz.prog 77 s77 :=
  nil_split (E := env77) (f := 77) (e := (.st .Rec)) (results := [(.sl (.st .Rec))]) (g := fun xs => if xs.length ≤ big then some (xs, ()) else none) (tysOk_of tys_ok) (specSound_of specsOk_nil) mixed_ok (inlOk_of (inlB_cons func77 nm_77 inlB_nil)) en_77
    (fun r h => (show (treeOf env77 77 [.lit (.slice none 0 0)] [(.sl (.st .Rec))]).den = some ([], ()) by kernel_rfl).trans h)
    (fun xs r h => (show (treeOf env77 77 [.nn (.st .Rec) xs] [(.sl (.st .Rec))]).den = (if decide (0 + xs.length ≤ big) = true then some (xs, ()) else none) by kernel_rfl).trans (by rw [Nat.zero_add]; simp only [decide_eq_true_eq]; exact h))
noncomputable def env78 : Env := { ty := tys, specs := [], inl := [(78, f78)], hints := hnts }
theorem C_slices_Clone_int_int : SpecOk Go.Proofs.Tryz.prog 78 s78 :=
  nil_split (E := env78) (f := 78) (e := (.int .i64)) (results := [(.sl (.int .i64))]) (g := fun xs => if xs.length ≤ big then some (xs, ()) else none) (tysOk_of tys_ok) (specSound_of specsOk_nil) mixed_ok (inlOk_of (inlB_cons func78 nm_78 inlB_nil)) en_78
    (fun r h => (show (treeOf env78 78 [.lit (.slice none 0 0)] [(.sl (.int .i64))]).den = some ([], ()) by kernel_rfl).trans h)
    (fun xs r h => (show (treeOf env78 78 [.nn (.int .i64) xs] [(.sl (.int .i64))]).den = (if decide (0 + xs.length ≤ big) = true then some (xs, ()) else none) by kernel_rfl).trans (by rw [Nat.zero_add]; simp only [decide_eq_true_eq]; exact h))
noncomputable def env81 : Env := { ty := tys, specs := [], inl := [(81, f81)], hints := hnts }
theorem C_bytes_Clone : SpecOk Go.Proofs.Tryz.prog 81 s81 :=
  nil_split (E := env81) (f := 81) (e := (.int .u8)) (results := [(.sl (.int .u8))]) (g := fun xs => if xs.length ≤ big then some (xs, ()) else none) (tysOk_of tys_ok) (specSound_of specsOk_nil) mixed_ok (inlOk_of (inlB_cons func81 nm_81 inlB_nil)) en_81
    (fun r h => (show (treeOf env81 81 [.lit (.slice none 0 0)] [(.sl (.int .u8))]).den = some ([], ()) by kernel_rfl).trans h)
    (fun xs r h => (show (treeOf env81 81 [.nn (.int .u8) xs] [(.sl (.int .u8))]).den = (if decide (0 + xs.length ≤ big) = true then some (xs, ()) else none) by kernel_rfl).trans (by rw [Nat.zero_add]; simp only [decide_eq_true_eq]; exact h))
noncomputable def env82 : Env := { ty := tys, specs := [], inl := [(82, f82)], hints := hnts }
theorem C_slices_Clone_api_Sent_api_Sent : SpecOk Go.Proofs.Tryz.prog 82 s82 :=
  nil_split (E := env82) (f := 82) (e := (.st .Sent)) (results := [(.sl (.st .Sent))]) (g := fun xs => if xs.length ≤ big then some (xs, ()) else none) (tysOk_of tys_ok) (specSound_of specsOk_nil) mixed_ok (inlOk_of (inlB_cons func82 nm_82 inlB_nil)) en_82
    (fun r h => (show (treeOf env82 82 [.lit (.slice none 0 0)] [(.sl (.st .Sent))]).den = some ([], ()) by kernel_rfl).trans h)
    (fun xs r h => (show (treeOf env82 82 [.nn (.st .Sent) xs] [(.sl (.st .Sent))]).den = (if decide (0 + xs.length ≤ big) = true then some (xs, ()) else none) by kernel_rfl).trans (by rw [Nat.zero_add]; simp only [decide_eq_true_eq]; exact h))
noncomputable def env83 : Env := { ty := tys, specs := [], inl := [(83, f83)], hints := hnts }
theorem C_slices_Clone_api_Wait_api_Wait : SpecOk Go.Proofs.Tryz.prog 83 s83 :=
  nil_split (E := env83) (f := 83) (e := (.st .Wait)) (results := [(.sl (.st .Wait))]) (g := fun xs => if xs.length ≤ big then some (xs, ()) else none) (tysOk_of tys_ok) (specSound_of specsOk_nil) mixed_ok (inlOk_of (inlB_cons func83 nm_83 inlB_nil)) en_83
    (fun r h => (show (treeOf env83 83 [.lit (.slice none 0 0)] [(.sl (.st .Wait))]).den = some ([], ()) by kernel_rfl).trans h)
    (fun xs r h => (show (treeOf env83 83 [.nn (.st .Wait) xs] [(.sl (.st .Wait))]).den = (if decide (0 + xs.length ≤ big) = true then some (xs, ()) else none) by kernel_rfl).trans (by rw [Nat.zero_add]; simp only [decide_eq_true_eq]; exact h))
noncomputable def env86 : Env := { ty := tys, specs := [(115, s115)], inl := [(86, f86)], hints := hnts }
theorem T_msg_Twin (x : TT [(.st .Msg)]) : (fnTree env86 86 [(.st .Msg)] [(.st .Msg)] x).den = D_msg_Twin x.1 := by kernel_rfl
theorem C_msg_Twin : SpecOk Go.Proofs.Tryz.prog 86 s86 :=
  (fnTree_spec (E := env86) (tysOk_of tys_ok) (specSound_of (specsOk_cons C_slices_Clone_byte_byte specsOk_nil)) mixed_ok (inlOk_of (inlB_cons func86 nm_86 inlB_nil)) en_86 [(.st .Msg)] [(.st .Msg)]).weaken (fun x r hx hn => (T_msg_Twin x).trans (Q_msg_Twin x r hx hn))
noncomputable def env87 : Env := { ty := tys, specs := [(115, s115)], inl := [(87, f87)], hints := hnts }
theorem T_act_reply (x : TT [(.st .Reply)]) : (fnTree env87 87 [(.st .Reply)] [(.st .Reply)] x).den = D_act_reply x.1 := by kernel_rfl
theorem C_act_reply : SpecOk Go.Proofs.Tryz.prog 87 s87 :=
  (fnTree_spec (E := env87) (tysOk_of tys_ok) (specSound_of (specsOk_cons C_slices_Clone_byte_byte specsOk_nil)) mixed_ok (inlOk_of (inlB_cons func87 nm_87 inlB_nil)) en_87 [(.st .Reply)] [(.st .Reply)]).weaken (fun x r hx hn => (T_act_reply x).trans (Q_act_reply x r hx hn))
noncomputable def env22 : Env := { ty := tys, specs := [(75, s75), (76, s76), (77, s77), (78, s78), (81, s81), (82, s82), (83, s83), (86, s86), (87, s87)], inl := [(22, f22), (79, f79), (80, f80), (84, f84), (85, f85), (88, f88), (89, f89), (90, f90), (91, f91), (92, f92)], hints := hnts }
theorem T_act_Twin (x : TT [(.st .Site)]) : (fnTreeOwn env22 22 [(.st .Site)] (.st .Site) [none, none, none, some 84, none, some 68, some 73, some 101, some 66, none] x).den = D_act_Twin x.1 := by kernel_rfl
theorem C_act_Twin : SpecOk Go.Proofs.Tryz.prog 22 s22 :=
  (fnTreeOwn_spec (E := env22) (tysOk_of tys_ok) (specSound_of (specsOk_cons C_disk_Twin (specsOk_cons C_sess_Twin (specsOk_cons C_slices_Clone_api_Rec_api_Rec (specsOk_cons C_slices_Clone_int_int (specsOk_cons C_bytes_Clone (specsOk_cons C_slices_Clone_api_Sent_api_Sent (specsOk_cons C_slices_Clone_api_Wait_api_Wait (specsOk_cons C_msg_Twin (specsOk_cons C_act_reply specsOk_nil)))))))))) mixed_ok (inlOk_of (inlB_cons func22 nm_22 (inlB_cons func79 nm_79 (inlB_cons func80 nm_80 (inlB_cons func84 nm_84 (inlB_cons func85 nm_85 (inlB_cons func88 nm_88 (inlB_cons func89 nm_89 (inlB_cons func90 nm_90 (inlB_cons func91 nm_91 (inlB_cons func92 nm_92 inlB_nil))))))))))) en_22 [(.st .Site)] (.st .Site) [none, none, none, some 84, none, some 68, some 73, some 101, some 66, none]).weaken (fun x r hx hn => (T_act_Twin x).trans (Q_act_Twin x r hx hn))
noncomputable def env38 : Env := { ty := tys, specs := [(20, s20), (22, s22), (115, s115)], inl := [(38, f38), (113, f113), (114, f114), (184, f184)], hints := hnts }
theorem T_host_Answer (x : TT [(.st .Config), (.st .Site), (.st .Reply)]) : (fnTree env38 38 [(.st .Config), (.st .Site), (.st .Reply)] [(.st .Site), (.int .i64)] x).den = D_host_Answer x.1 x.2.1 x.2.2.1 := by kernel_rfl
theorem C_host_Answer : SpecOk Go.Proofs.Tryz.prog 38 s38 :=
  (fnTree_spec (E := env38) (tysOk_of tys_ok) (specSound_of (specsOk_cons C_act_Check (specsOk_cons C_act_Twin (specsOk_cons C_slices_Clone_byte_byte specsOk_nil)))) mixed_ok (inlOk_of (inlB_cons func38 nm_38 (inlB_cons func113 nm_113 (inlB_cons func114 nm_114 (inlB_cons func184 nm_184 inlB_nil))))) en_38 [(.st .Config), (.st .Site), (.st .Reply)] [(.st .Site), (.int .i64)]).weaken (fun x r hx hn => (T_host_Answer x).trans (Q_host_Answer x r hx hn))
noncomputable def env39 : Env := { ty := tys, specs := [(20, s20), (22, s22), (115, s115)], inl := [(39, f39)], hints := hnts }
theorem T_site_Ask (x : TT [(.st .Config), (.st .Site), (.st .Ask)]) : (fnTree env39 39 [(.st .Config), (.st .Site), (.st .Ask)] [(.st .Site), (.int .i64)] x).den = D_site_Ask x.1 x.2.1 x.2.2.1 := by kernel_rfl
theorem C_site_Ask : SpecOk Go.Proofs.Tryz.prog 39 s39 :=
  (fnTree_spec (E := env39) (tysOk_of tys_ok) (specSound_of (specsOk_cons C_act_Check (specsOk_cons C_act_Twin (specsOk_cons C_slices_Clone_byte_byte specsOk_nil)))) mixed_ok (inlOk_of (inlB_cons func39 nm_39 inlB_nil)) en_39 [(.st .Config), (.st .Site), (.st .Ask)] [(.st .Site), (.int .i64)]).weaken (fun x r hx hn => (T_site_Ask x).trans (Q_site_Ask x r hx hn))
noncomputable def env10 : Env := { ty := tys, specs := [(20, s20), (37, s37), (38, s38), (39, s39)], inl := [(10, f10)], hints := hnts }
theorem T_req_Submit (x : TT [(.st .Config), (.st .Site), (.int .i64), (.sl (.int .u8))]) : (fnTree env10 10 [(.st .Config), (.st .Site), (.int .i64), (.sl (.int .u8))] [(.st .Site), (.int .i64)] x).den = D_req_Submit x.1 x.2.1 x.2.2.1 x.2.2.2.1 := by kernel_rfl
theorem C_req_Submit : SpecOk Go.Proofs.Tryz.prog 10 s10 :=
  (fnTree_spec (E := env10) (tysOk_of tys_ok) (specSound_of (specsOk_cons C_act_Check (specsOk_cons C_req_Read (specsOk_cons C_host_Answer (specsOk_cons C_site_Ask specsOk_nil))))) mixed_ok (inlOk_of (inlB_cons func10 nm_10 inlB_nil)) en_10 [(.st .Config), (.st .Site), (.int .i64), (.sl (.int .u8))] [(.st .Site), (.int .i64)]).weaken (fun x r hx hn => (T_req_Submit x).trans (Q_req_Submit x r hx hn))
noncomputable def env166 : Env := { ty := tys, specs := [], inl := [(166, f166)], hints := hnts }
theorem T_ref07_in (x : TT [(.int .i64), (.int .i64), (.int .i64)]) : (fnTree env166 166 [(.int .i64), (.int .i64), (.int .i64)] [.bool] x).den = D_ref07_in x.1 x.2.1 x.2.2.1 := by kernel_rfl
theorem C_ref07_in : SpecOk Go.Proofs.Tryz.prog 166 s166 :=
  (fnTree_spec (E := env166) (tysOk_of tys_ok) (specSound_of specsOk_nil) mixed_ok (inlOk_of (inlB_cons func166 nm_166 inlB_nil)) en_166 [(.int .i64), (.int .i64), (.int .i64)] [.bool]).weaken (fun x r hx hn => (T_ref07_in x).trans (Q_ref07_in x r hx hn))
noncomputable def env95 : Env := { ty := tys, specs := [(166, s166)], inl := [(95, f95)], hints := hnts }
theorem T_ref07_May (x : TT [(.st .Config)]) : (fnTree env95 95 [(.st .Config)] [.bool] x).den = D_ref07_May x.1 := by kernel_rfl
theorem C_ref07_May : SpecOk Go.Proofs.Tryz.prog 95 s95 :=
  (fnTree_spec (E := env95) (tysOk_of tys_ok) (specSound_of (specsOk_cons C_ref07_in specsOk_nil)) mixed_ok (inlOk_of (inlB_cons func95 nm_95 inlB_nil)) en_95 [(.st .Config)] [.bool]).weaken (fun x r hx hn => (T_ref07_May x).trans (Q_ref07_May x r hx hn))
noncomputable def env167 : Env := { ty := tys, specs := [], inl := [(167, f167)], hints := hnts }
theorem T_ref07_Many (x : TT [(.st .Config)]) : (fnTree env167 167 [(.st .Config)] [(.int .i64)] x).den = D_ref07_Many x.1 := by kernel_rfl
theorem C_ref07_Many : SpecOk Go.Proofs.Tryz.prog 167 s167 :=
  (fnTree_spec (E := env167) (tysOk_of tys_ok) (specSound_of specsOk_nil) mixed_ok (inlOk_of (inlB_cons func167 nm_167 inlB_nil)) en_167 [(.st .Config)] [(.int .i64)]).weaken (fun x r hx hn => (T_ref07_Many x).trans (Q_ref07_Many x r hx hn))
noncomputable def env220 : Env := { ty := tys, specs := [(167, s167)], inl := [(220, f220)], hints := hnts }
theorem T_ref07_first (x : TT [(.st .Config)]) : (fnTree env220 220 [(.st .Config)] [(.int .i64), (.int .i64), (.int .i64), (.int .i64)] x).den = D_ref07_first x.1 := by kernel_rfl
theorem C_ref07_first : SpecOk Go.Proofs.Tryz.prog 220 s220 :=
  (fnTree_spec (E := env220) (tysOk_of tys_ok) (specSound_of (specsOk_cons C_ref07_Many specsOk_nil)) mixed_ok (inlOk_of (inlB_cons func220 nm_220 inlB_nil)) en_220 [(.st .Config)] [(.int .i64), (.int .i64), (.int .i64), (.int .i64)]).weaken (fun x r hx hn => (T_ref07_first x).trans (Q_ref07_first x r hx hn))
noncomputable def env185 : Env := { ty := tys, specs := [(220, s220)], inl := [(185, f185)], hints := hnts }
theorem T_ref07_Size (x : TT [(.st .Config)]) : (fnTree env185 185 [(.st .Config)] [(.int .i64)] x).den = D_ref07_Size x.1 := by kernel_rfl
theorem C_ref07_Size : SpecOk Go.Proofs.Tryz.prog 185 s185 :=
  (fnTree_spec (E := env185) (tysOk_of tys_ok) (specSound_of (specsOk_cons C_ref07_first specsOk_nil)) mixed_ok (inlOk_of (inlB_cons func185 nm_185 inlB_nil)) en_185 [(.st .Config)] [(.int .i64)]).weaken (fun x r hx hn => (T_ref07_Size x).trans (Q_ref07_Size x r hx hn))
noncomputable def env221 : Env := { ty := tys, specs := [], inl := [(221, f221)], hints := hnts }
theorem T_ref05_blank (x : TT [(.sl (.int .u8))]) : (fnTree env221 221 [(.sl (.int .u8))] [.bool] x).den = D_ref05_blank x.1 := by kernel_rfl
theorem C_ref05_blank : SpecOk Go.Proofs.Tryz.prog 221 s221 :=
  (fnTree_spec (E := env221) (tysOk_of tys_ok) (specSound_of specsOk_nil) mixed_ok (inlOk_of (inlB_cons func221 nm_221 inlB_nil)) en_221 [(.sl (.int .u8))] [.bool]).weaken (fun x r hx hn => (T_ref05_blank x).trans (Q_ref05_blank x r hx hn))
noncomputable def env186 : Env := { ty := tys, specs := [(221, s221)], inl := [(186, f186)], hints := hnts }
theorem T_ref05_May (x : TT [(.st .Disk)]) : (fnTree env186 186 [(.st .Disk)] [.bool] x).den = D_ref05_May x.1 := by kernel_rfl
theorem C_ref05_May : SpecOk Go.Proofs.Tryz.prog 186 s186 :=
  (fnTree_spec (E := env186) (tysOk_of tys_ok) (specSound_of (specsOk_cons C_ref05_blank specsOk_nil)) mixed_ok (inlOk_of (inlB_cons func186 nm_186 inlB_nil)) en_186 [(.st .Disk)] [.bool]).weaken (fun x r hx hn => (T_ref05_May x).trans (Q_ref05_May x r hx hn))
noncomputable def env116 : Env := { ty := tys, specs := [(95, s95), (185, s185), (186, s186)], inl := [(116, f116)], hints := hnts }
theorem T_ref08_May (x : TT [(.st .Config), (.st .Disk)]) : (fnTree env116 116 [(.st .Config), (.st .Disk)] [.bool] x).den = D_ref08_May x.1 x.2.1 := by kernel_rfl
theorem C_ref08_May : SpecOk Go.Proofs.Tryz.prog 116 s116 :=
  (fnTree_spec (E := env116) (tysOk_of tys_ok) (specSound_of (specsOk_cons C_ref07_May (specsOk_cons C_ref07_Size (specsOk_cons C_ref05_May specsOk_nil)))) mixed_ok (inlOk_of (inlB_cons func116 nm_116 inlB_nil)) en_116 [(.st .Config), (.st .Disk)] [.bool]).weaken (fun x r hx hn => (T_ref08_May x).trans (Q_ref08_May x r hx hn))
noncomputable def env222 : Env := { ty := tys, specs := [], inl := [(222, f222)], hints := hnts }
theorem T_ref11_May (x : TT [(.st .Rec)]) : (fnTree env222 222 [(.st .Rec)] [.bool] x).den = D_ref11_May x.1 := by kernel_rfl
theorem C_ref11_May : SpecOk Go.Proofs.Tryz.prog 222 s222 :=
  (fnTree_spec (E := env222) (tysOk_of tys_ok) (specSound_of specsOk_nil) mixed_ok (inlOk_of (inlB_cons func222 nm_222 inlB_nil)) en_222 [(.st .Rec)] [.bool]).weaken (fun x r hx hn => (T_ref11_May x).trans (Q_ref11_May x r hx hn))
noncomputable def env187 : Env := { ty := tys, specs := [(222, s222)], inl := [(187, f187)], hints := hnts }
theorem T_ref11_MayAll (x : TT [(.sl (.st .Rec))]) : (fnTree env187 187 [(.sl (.st .Rec))] [.bool] x).den = D_ref11_MayAll x.1 := by kernel_rfl
theorem C_ref11_MayAll : SpecOk Go.Proofs.Tryz.prog 187 s187 :=
  (fnTree_spec (E := env187) (tysOk_of tys_ok) (specSound_of (specsOk_cons C_ref11_May specsOk_nil)) mixed_ok (inlOk_of (inlB_cons func187 nm_187 inlB_nil)) en_187 [(.sl (.st .Rec))] [.bool]).weaken (fun x r hx hn => (T_ref11_MayAll x).trans (Q_ref11_MayAll x r hx hn))
noncomputable def env117 : Env := { ty := tys, specs := [(95, s95), (187, s187)], inl := [(117, f117)], hints := hnts }
theorem T_ref12_May (x : TT [(.st .Config), (.st .Meta)]) : (fnTree env117 117 [(.st .Config), (.st .Meta)] [.bool] x).den = D_ref12_May x.1 x.2.1 := by kernel_rfl
theorem C_ref12_May : SpecOk Go.Proofs.Tryz.prog 117 s117 :=
  (fnTree_spec (E := env117) (tysOk_of tys_ok) (specSound_of (specsOk_cons C_ref07_May (specsOk_cons C_ref11_MayAll specsOk_nil))) mixed_ok (inlOk_of (inlB_cons func117 nm_117 inlB_nil)) en_117 [(.st .Config), (.st .Meta)] [.bool]).weaken (fun x r hx hn => (T_ref12_May x).trans (Q_ref12_May x r hx hn))
noncomputable def env188 : Env := { ty := tys, specs := [], inl := [(188, f188)], hints := hnts }
theorem T_ref04_May (x : TT [(.st .Queue)]) : (fnTree env188 188 [(.st .Queue)] [.bool] x).den = D_ref04_May x.1 := by kernel_rfl
theorem C_ref04_May : SpecOk Go.Proofs.Tryz.prog 188 s188 :=
  (fnTree_spec (E := env188) (tysOk_of tys_ok) (specSound_of specsOk_nil) mixed_ok (inlOk_of (inlB_cons func188 nm_188 inlB_nil)) en_188 [(.st .Queue)] [.bool]).weaken (fun x r hx hn => (T_ref04_May x).trans (Q_ref04_May x r hx hn))
noncomputable def env189 : Env := { ty := tys, specs := [(188, s188)], inl := [(189, f189)], hints := hnts }
theorem T_ref04_List (x : TT [(.st .Queue)]) : (fnTree env189 189 [(.st .Queue)] [(.sl (.sl (.int .u8))), (.int .i64)] x).den = D_ref04_List x.1 := by kernel_rfl
theorem C_ref04_List : SpecOk Go.Proofs.Tryz.prog 189 s189 :=
  (fnTree_spec (E := env189) (tysOk_of tys_ok) (specSound_of (specsOk_cons C_ref04_May specsOk_nil)) mixed_ok (inlOk_of (inlB_cons func189 nm_189 inlB_nil)) en_189 [(.st .Queue)] [(.sl (.sl (.int .u8))), (.int .i64)]).weaken (fun x r hx hn => (T_ref04_List x).trans (Q_ref04_List x r hx hn))
end Go.Cat

set_option maxHeartbeats 0
namespace Go.Cat
open Go Go.Proofs.Tryz
noncomputable def env118 : Env := { ty := tys, specs := [(95, s95), (188, s188), (189, s189)], inl := [(118, f118)], hints := hnts }
theorem T_ref17_May (x : TT [(.st .Config), (.st .End)]) : (fnTree env118 118 [(.st .Config), (.st .End)] [.bool] x).den = D_ref17_May x.1 x.2.1 := by kernel_rfl
theorem C_ref17_May : SpecOk Go.Proofs.Tryz.prog 118 s118 :=
  (fnTree_spec (E := env118) (tysOk_of tys_ok) (specSound_of (specsOk_cons C_ref07_May (specsOk_cons C_ref04_May (specsOk_cons C_ref04_List specsOk_nil)))) mixed_ok (inlOk_of (inlB_cons func118 nm_118 inlB_nil)) en_118 [(.st .Config), (.st .End)] [.bool]).weaken (fun x r hx hn => (T_ref17_May x).trans (Q_ref17_May x r hx hn))
noncomputable def env119 : Env := { ty := tys, specs := [], inl := [(119, f119)], hints := hnts }
theorem T_ref21_pair (x : TT [(.st .Config), (.int .i64)]) : (fnTree env119 119 [(.st .Config), (.int .i64)] [.bool] x).den = D_ref21_pair x.1 x.2.1 := by kernel_rfl
theorem C_ref21_pair : SpecOk Go.Proofs.Tryz.prog 119 s119 :=
  (fnTree_spec (E := env119) (tysOk_of tys_ok) (specSound_of specsOk_nil) mixed_ok (inlOk_of (inlB_cons func119 nm_119 inlB_nil)) en_119 [(.st .Config), (.int .i64)] [.bool]).weaken (fun x r hx hn => (T_ref21_pair x).trans (Q_ref21_pair x r hx hn))
noncomputable def env224 : Env := { ty := tys, specs := [], inl := [(224, f224), (240, f240)], hints := hnts }
theorem T_ref03_In (x : TT [(.sl (.int .u8)), (.int .i64)]) : (fnTree env224 224 [(.sl (.int .u8)), (.int .i64)] [.bool] x).den = D_ref03_In x.1 x.2.1 := by kernel_rfl
theorem C_ref03_In : SpecOk Go.Proofs.Tryz.prog 224 s224 :=
  (fnTree_spec (E := env224) (tysOk_of tys_ok) (specSound_of specsOk_nil) mixed_ok (inlOk_of (inlB_cons func224 nm_224 (inlB_cons func240 nm_240 inlB_nil))) en_224 [(.sl (.int .u8)), (.int .i64)] [.bool]).weaken (fun x r hx hn => (T_ref03_In x).trans (Q_ref03_In x r hx hn))
noncomputable def env190 : Env := { ty := tys, specs := [(224, s224)], inl := [(190, f190), (223, f223)], hints := hnts }
theorem T_ref03_May (x : TT [(.int .i64), (.sl (.int .u8))]) : (fnTree env190 190 [(.int .i64), (.sl (.int .u8))] [.bool] x).den = D_ref03_May x.1 x.2.1 := by kernel_rfl
theorem C_ref03_May : SpecOk Go.Proofs.Tryz.prog 190 s190 :=
  (fnTree_spec (E := env190) (tysOk_of tys_ok) (specSound_of (specsOk_cons C_ref03_In specsOk_nil)) mixed_ok (inlOk_of (inlB_cons func190 nm_190 (inlB_cons func223 nm_223 inlB_nil))) en_190 [(.int .i64), (.sl (.int .u8))] [.bool]).weaken (fun x r hx hn => (T_ref03_May x).trans (Q_ref03_May x r hx hn))
noncomputable def env191 : Env := { ty := tys, specs := [], inl := [(191, f191)], hints := hnts }
theorem T_ref21_there (x : TT [(.st .Config), (.int .i64)]) : (fnTree env191 191 [(.st .Config), (.int .i64)] [.bool] x).den = D_ref21_there x.1 x.2.1 := by kernel_rfl
theorem C_ref21_there : SpecOk Go.Proofs.Tryz.prog 191 s191 :=
  (fnTree_spec (E := env191) (tysOk_of tys_ok) (specSound_of specsOk_nil) mixed_ok (inlOk_of (inlB_cons func191 nm_191 inlB_nil)) en_191 [(.st .Config), (.int .i64)] [.bool]).weaken (fun x r hx hn => (T_ref21_there x).trans (Q_ref21_there x r hx hn))
noncomputable def env120 : Env := { ty := tys, specs := [(190, s190), (191, s191)], inl := [(120, f120)], hints := hnts }
theorem T_ref21_maySide (x : TT [(.st .Config), (.st .Side)]) : (fnTree env120 120 [(.st .Config), (.st .Side)] [.bool] x).den = D_ref21_maySide x.1 x.2.1 := by kernel_rfl
theorem C_ref21_maySide : SpecOk Go.Proofs.Tryz.prog 120 s120 :=
  (fnTree_spec (E := env120) (tysOk_of tys_ok) (specSound_of (specsOk_cons C_ref03_May (specsOk_cons C_ref21_there specsOk_nil))) mixed_ok (inlOk_of (inlB_cons func120 nm_120 inlB_nil)) en_120 [(.st .Config), (.st .Side)] [.bool]).weaken (fun x r hx hn => (T_ref21_maySide x).trans (Q_ref21_maySide x r hx hn))
noncomputable def env225 : Env := { ty := tys, specs := [(222, s222)], inl := [(225, f225), (241, f241), (242, f242)], hints := hnts }
theorem T_ref20_May (x : TT [(.st .Msg)]) : (fnTree env225 225 [(.st .Msg)] [.bool] x).den = D_ref20_May x.1 := by kernel_rfl
theorem C_ref20_May : SpecOk Go.Proofs.Tryz.prog 225 s225 :=
  (fnTree_spec (E := env225) (tysOk_of tys_ok) (specSound_of (specsOk_cons C_ref11_May specsOk_nil)) mixed_ok (inlOk_of (inlB_cons func225 nm_225 (inlB_cons func241 nm_241 (inlB_cons func242 nm_242 inlB_nil)))) en_225 [(.st .Msg)] [.bool]).weaken (fun x r hx hn => (T_ref20_May x).trans (Q_ref20_May x r hx hn))
end Go.Cat
