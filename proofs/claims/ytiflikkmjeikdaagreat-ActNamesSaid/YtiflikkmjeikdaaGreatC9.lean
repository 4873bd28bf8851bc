/-
  My own text: a part of the proof.
  My own text: a part of the proof.
  My own text: a part of the proof.
  My own text: a part of the proof.
  My own text: a part of the proof.
  My own text: a part of the proof.
  My own text: a part of the proof.
  My own text: a part of the proof.
  My own text: a part of the proof.
  My own text: a part of the proof.
  My own text: a part of the proof.
  My own text: a part of the proof.
  My own text: a part of the proof.
-/
import Derived.Test.YtiflikkmjeikdaaGreatProg
import Derived.Test.YtiflikkmjeikdaaGreatC4
import Derived.Test.YtiflikkmjeikdaaGreatC7
import Derived.KernelRfl
import Derived.RangeFuncNested
import Derived.RangeFuncBound
import Derived.RangeFuncCalls
import Derived.RangeFuncLeaves
import Derived.Shelf.Abstract
import Derived.Shelf.RegionOpen
import Derived.WalkKit
import Derived.OwnWalkIn
import Derived.TacticsInMore
import Derived.LoopNIn
import Derived.LoopIn
import Derived.Test.YtiflikkmjeikdaaGreatC8
set_option linter.unusedVariables false
set_option linter.unusedSimpArgs false
set_option maxHeartbeats 0
namespace Go.Cat
open Go Go.Proofs.Tryz
noncomputable def tys : List (Nat × TyI) := [
  (1, { d := .other, size := 1, zero := [.lit .nilFunc], en := none, eq := false }),
  (2, { d := .int .i64, size := 1, zero := [.lit (.int .i64 0)], en := some (.int .i64), eq := false }),
  (3, { d := .int .i64, size := 1, zero := [.lit (.int .i64 0)], en := some (.int .i64), eq := false }),
  (4, { d := .bool, size := 1, zero := [.lit (.bool false)], en := some .bool, eq := false }),
  (5, { d := .int .u8, size := 1, zero := [.lit (.int .u8 0)], en := some (.int .u8), eq := false }),
  (6, { d := .int .u8, size := 1, zero := [.lit (.int .u8 0)], en := some (.int .u8), eq := false }),
  (7, { d := .st [(0, 2), (1, 3), (2, 4), (3, 6)], size := 4, zero := [.lit (.int .i64 0), .lit (.int .i64 0), .lit (.bool false), .lit (.int .u8 0)], en := none, eq := false }),
  (8, { d := .st [(0, 2), (1, 3), (2, 4), (3, 6)], size := 4, zero := [.lit (.int .i64 0), .lit (.int .i64 0), .lit (.bool false), .lit (.int .u8 0)], en := none, eq := false }),
  (9, { d := .str, size := 1, zero := [.lit (.string ByteArray.empty)], en := some .str, eq := false }),
  (10, { d := .str, size := 1, zero := [.lit (.string ByteArray.empty)], en := some .str, eq := false }),
  (11, { d := .str, size := 1, zero := [.lit (.string ByteArray.empty)], en := some .str, eq := false }),
  (12, { d := .int .u64, size := 1, zero := [.lit (.int .u64 0)], en := some (.int .u64), eq := false }),
  (13, { d := .st [(0, 9), (1, 12)], size := 2, zero := [.lit (.string ByteArray.empty), .lit (.int .u64 0)], en := none, eq := false }),
  (23, { d := .st [(0, 3), (1, 3), (2, 3), (3, 3), (4, 3), (5, 3)], size := 6, zero := [.lit (.int .i64 0), .lit (.int .i64 0), .lit (.int .i64 0), .lit (.int .i64 0), .lit (.int .i64 0), .lit (.int .i64 0)], en := some (.st .Config), eq := true }),
  (24, { d := .sl 179, size := 1, zero := [.lit (.slice none 0 0)], en := some (.sl (.st .Sector)), eq := false }),
  (25, { d := .sl 181, size := 1, zero := [.lit (.slice none 0 0)], en := some (.sl (.st .Pend)), eq := false }),
  (27, { d := .st [(0, 24), (1, 25)], size := 2, zero := [.lit (.slice none 0 0), .lit (.slice none 0 0)], en := some (.st .Disk), eq := false }),
  (28, { d := .int .u32, size := 1, zero := [.lit (.int .u32 0)], en := some (.int .u32), eq := false }),
  (29, { d := .int .u64, size := 1, zero := [.lit (.int .u64 0)], en := some (.int .u64), eq := false }),
  (31, { d := .st [(0, 28), (1, 3), (2, 29)], size := 3, zero := [.lit (.int .u32 0), .lit (.int .i64 0), .lit (.int .u64 0)], en := some (.st .Super), eq := true }),
  (32, { d := .sl 62, size := 1, zero := [.lit (.slice none 0 0)], en := some (.sl (.st .Rec)), eq := false }),
  (34, { d := .st [(0, 31), (3, 3), (4, 3), (5, 32)], size := 6, zero := [.lit (.int .u32 0), .lit (.int .i64 0), .lit (.int .u64 0), .lit (.int .i64 0), .lit (.int .i64 0), .lit (.slice none 0 0)], en := some (.st .Meta), eq := false }),
  (35, { d := .sl 84, size := 1, zero := [.lit (.slice none 0 0)], en := some (.sl (.st .Side)), eq := false }),
  (36, { d := .sl 48, size := 1, zero := [.lit (.slice none 0 0)], en := some (.sl (.sl (.int .u8))), eq := false }),
  (38, { d := .st [(0, 36), (1, 3), (2, 3)], size := 3, zero := [.lit (.slice none 0 0), .lit (.int .i64 0), .lit (.int .i64 0)], en := some (.st .Queue), eq := false }),
  (40, { d := .st [(0, 28), (1, 28), (2, 4), (3, 4), (4, 28), (5, 28), (6, 38), (9, 28), (10, 3)], size := 11, zero := [.lit (.int .u32 0), .lit (.int .u32 0), .lit (.bool false), .lit (.bool false), .lit (.int .u32 0), .lit (.int .u32 0), .lit (.slice none 0 0), .lit (.int .i64 0), .lit (.int .i64 0), .lit (.int .u32 0), .lit (.int .i64 0)], en := some (.st .End), eq := false }),
  (41, { d := .sl 68, size := 1, zero := [.lit (.slice none 0 0)], en := some (.sl (.st .Act)), eq := false }),
  (42, { d := .sl 73, size := 1, zero := [.lit (.slice none 0 0)], en := some (.sl (.st .Mail)), eq := false }),
  (43, { d := .sl 101, size := 1, zero := [.lit (.slice none 0 0)], en := some (.sl (.st .Ask)), eq := false }),
  (44, { d := .sl 66, size := 1, zero := [.lit (.slice none 0 0)], en := some (.sl (.st .Reply)), eq := false }),
  (45, { d := .sl 3, size := 1, zero := [.lit (.slice none 0 0)], en := some (.sl (.int .i64)), eq := false }),
  (47, { d := .st [(0, 3), (1, 27), (3, 34), (9, 35), (10, 40), (21, 41), (22, 42), (23, 43), (24, 44), (25, 45), (26, 28), (27, 4)], size := 28, zero := [.lit (.int .i64 0), .lit (.slice none 0 0), .lit (.slice none 0 0), .lit (.int .u32 0), .lit (.int .i64 0), .lit (.int .u64 0), .lit (.int .i64 0), .lit (.int .i64 0), .lit (.slice none 0 0), .lit (.slice none 0 0), .lit (.int .u32 0), .lit (.int .u32 0), .lit (.bool false), .lit (.bool false), .lit (.int .u32 0), .lit (.int .u32 0), .lit (.slice none 0 0), .lit (.int .i64 0), .lit (.int .i64 0), .lit (.int .u32 0), .lit (.int .i64 0), .lit (.slice none 0 0), .lit (.slice none 0 0), .lit (.slice none 0 0), .lit (.slice none 0 0), .lit (.slice none 0 0), .lit (.int .u32 0), .lit (.bool false)], en := some (.st .Site), eq := false }),
  (48, { d := .sl 5, size := 1, zero := [.lit (.slice none 0 0)], en := some (.sl (.int .u8)), eq := false }),
  (51, { d := .int .i64, size := 1, zero := [.lit (.int .i64 0)], en := some (.int .i64), eq := false }),
  (60, { d := .int .u64, size := 1, zero := [.lit (.int .u64 0)], en := some (.int .u64), eq := false }),
  (62, { d := .st [(0, 3), (1, 28), (2, 28), (3, 3), (4, 5), (5, 3), (6, 4), (7, 4)], size := 8, zero := [.lit (.int .i64 0), .lit (.int .u32 0), .lit (.int .u32 0), .lit (.int .i64 0), .lit (.int .u8 0), .lit (.int .i64 0), .lit (.bool false), .lit (.bool false)], en := some (.st .Rec), eq := true }),
  (64, { d := .st [(0, 5), (1, 3), (2, 4), (3, 62), (11, 5), (12, 28), (13, 28), (14, 3), (15, 28), (16, 51), (17, 48), (18, 48)], size := 19, zero := [.lit (.int .u8 0), .lit (.int .i64 0), .lit (.bool false), .lit (.int .i64 0), .lit (.int .u32 0), .lit (.int .u32 0), .lit (.int .i64 0), .lit (.int .u8 0), .lit (.int .i64 0), .lit (.bool false), .lit (.bool false), .lit (.int .u8 0), .lit (.int .u32 0), .lit (.int .u32 0), .lit (.int .i64 0), .lit (.int .u32 0), .lit (.int .i64 0), .lit (.slice none 0 0), .lit (.slice none 0 0)], en := some (.st .Msg), eq := false }),
  (66, { d := .st [(0, 3), (1, 51), (2, 5), (3, 48)], size := 4, zero := [.lit (.int .i64 0), .lit (.int .i64 0), .lit (.int .u8 0), .lit (.slice none 0 0)], en := some (.st .Reply), eq := false }),
  (68, { d := .st [(0, 5), (1, 3), (2, 48), (3, 28), (4, 28), (5, 64), (24, 66), (28, 3)], size := 29, zero := [.lit (.int .u8 0), .lit (.int .i64 0), .lit (.slice none 0 0), .lit (.int .u32 0), .lit (.int .u32 0), .lit (.int .u8 0), .lit (.int .i64 0), .lit (.bool false), .lit (.int .i64 0), .lit (.int .u32 0), .lit (.int .u32 0), .lit (.int .i64 0), .lit (.int .u8 0), .lit (.int .i64 0), .lit (.bool false), .lit (.bool false), .lit (.int .u8 0), .lit (.int .u32 0), .lit (.int .u32 0), .lit (.int .i64 0), .lit (.int .u32 0), .lit (.int .i64 0), .lit (.slice none 0 0), .lit (.slice none 0 0), .lit (.int .i64 0), .lit (.int .i64 0), .lit (.int .u8 0), .lit (.slice none 0 0), .lit (.int .i64 0)], en := some (.st .Act), eq := false }),
  (73, { d := .st [(0, 5), (1, 28), (2, 28), (3, 64)], size := 22, zero := [.lit (.int .u8 0), .lit (.int .u32 0), .lit (.int .u32 0), .lit (.int .u8 0), .lit (.int .i64 0), .lit (.bool false), .lit (.int .i64 0), .lit (.int .u32 0), .lit (.int .u32 0), .lit (.int .i64 0), .lit (.int .u8 0), .lit (.int .i64 0), .lit (.bool false), .lit (.bool false), .lit (.int .u8 0), .lit (.int .u32 0), .lit (.int .u32 0), .lit (.int .i64 0), .lit (.int .u32 0), .lit (.int .i64 0), .lit (.slice none 0 0), .lit (.slice none 0 0)], en := some (.st .Mail), eq := false }),
  (81, { d := .sl 151, size := 1, zero := [.lit (.slice none 0 0)], en := some (.sl (.st .Sent)), eq := false }),
  (82, { d := .sl 154, size := 1, zero := [.lit (.slice none 0 0)], en := some (.sl (.st .Wait)), eq := false }),
  (84, { d := .st [(0, 48), (1, 48), (2, 81), (3, 28), (4, 82), (5, 48), (6, 3), (7, 3), (8, 5), (9, 3), (10, 4), (11, 4), (12, 4), (13, 4)], size := 14, zero := [.lit (.slice none 0 0), .lit (.slice none 0 0), .lit (.slice none 0 0), .lit (.int .u32 0), .lit (.slice none 0 0), .lit (.slice none 0 0), .lit (.int .i64 0), .lit (.int .i64 0), .lit (.int .u8 0), .lit (.int .i64 0), .lit (.bool false), .lit (.bool false), .lit (.bool false), .lit (.bool false)], en := some (.st .Side), eq := false }),
  (97, { d := .other, size := 1, zero := [.lit .nilFunc], en := none, eq := false }),
  (101, { d := .st [(0, 3), (1, 5), (2, 3), (3, 3), (4, 5), (5, 48)], size := 6, zero := [.lit (.int .i64 0), .lit (.int .u8 0), .lit (.int .i64 0), .lit (.int .i64 0), .lit (.int .u8 0), .lit (.slice none 0 0)], en := some (.st .Ask), eq := false }),
  (121, { d := .sc, size := 1, zero := [.lit (.pointer none)], en := none, eq := false }),
  (123, { d := .st [(0, 47)], size := 28, zero := [.lit (.int .i64 0), .lit (.slice none 0 0), .lit (.slice none 0 0), .lit (.int .u32 0), .lit (.int .i64 0), .lit (.int .u64 0), .lit (.int .i64 0), .lit (.int .i64 0), .lit (.slice none 0 0), .lit (.slice none 0 0), .lit (.int .u32 0), .lit (.int .u32 0), .lit (.bool false), .lit (.bool false), .lit (.int .u32 0), .lit (.int .u32 0), .lit (.slice none 0 0), .lit (.int .i64 0), .lit (.int .i64 0), .lit (.int .u32 0), .lit (.int .i64 0), .lit (.slice none 0 0), .lit (.slice none 0 0), .lit (.slice none 0 0), .lit (.slice none 0 0), .lit (.slice none 0 0), .lit (.int .u32 0), .lit (.bool false)], en := none, eq := false }),
  (126, { d := .other, size := 1, zero := [.lit .nilFunc], en := none, eq := false }),
  (130, { d := .st [(0, 23)], size := 6, zero := [.lit (.int .i64 0), .lit (.int .i64 0), .lit (.int .i64 0), .lit (.int .i64 0), .lit (.int .i64 0), .lit (.int .i64 0)], en := some (.st .Config), eq := true }),
  (135, { d := .other, size := 1, zero := [.lit .nilFunc], en := none, eq := false }),
  (136, { d := .other, size := 1, zero := [.lit .nilFunc], en := none, eq := false }),
  (138, { d := .other, size := 1, zero := [.lit .nilFunc], en := none, eq := false }),
  (141, { d := .other, size := 1, zero := [.lit .nilFunc], en := none, eq := false }),
  (143, { d := .other, size := 1, zero := [.lit .nilFunc], en := none, eq := false }),
  (145, { d := .other, size := 1, zero := [.lit .nilFunc], en := none, eq := false }),
  (151, { d := .st [(0, 3), (1, 28), (2, 4)], size := 3, zero := [.lit (.int .i64 0), .lit (.int .u32 0), .lit (.bool false)], en := some (.st .Sent), eq := true }),
  (154, { d := .st [(0, 3), (1, 3), (2, 28), (3, 4)], size := 4, zero := [.lit (.int .i64 0), .lit (.int .i64 0), .lit (.int .u32 0), .lit (.bool false)], en := some (.st .Wait), eq := true }),
  (156, { d := .other, size := 1, zero := [.lit .nilFunc], en := none, eq := false }),
  (157, { d := .other, size := 1, zero := [.lit .nilFunc], en := none, eq := false }),
  (159, { d := .other, size := 1, zero := [.lit .nilFunc], en := none, eq := false }),
  (161, { d := .other, size := 1, zero := [.lit .nilFunc], en := none, eq := false }),
  (179, { d := .st [(0, 48), (1, 4)], size := 2, zero := [.lit (.slice none 0 0), .lit (.bool false)], en := some (.st .Sector), eq := false }),
  (181, { d := .st [(0, 3), (1, 48)], size := 2, zero := [.lit (.int .i64 0), .lit (.slice none 0 0)], en := some (.st .Pend), eq := false }),
  (203, { d := .st [(0, 5), (1, 3), (2, 3), (3, 3)], size := 4, zero := [.lit (.int .u8 0), .lit (.int .i64 0), .lit (.int .i64 0), .lit (.int .i64 0)], en := some (.st .Part), eq := true }),
  (204, { d := .arr 4 203, size := 16, zero := [.lit (.int .u8 0), .lit (.int .i64 0), .lit (.int .i64 0), .lit (.int .i64 0), .lit (.int .u8 0), .lit (.int .i64 0), .lit (.int .i64 0), .lit (.int .i64 0), .lit (.int .u8 0), .lit (.int .i64 0), .lit (.int .i64 0), .lit (.int .i64 0), .lit (.int .u8 0), .lit (.int .i64 0), .lit (.int .i64 0), .lit (.int .i64 0)], en := none, eq := false }),
  (215, { d := .st [(0, 36), (1, 3), (2, 3)], size := 3, zero := [.lit (.slice none 0 0), .lit (.int .i64 0), .lit (.int .i64 0)], en := some (.st .Round), eq := false }),
  (220, { d := .arr 3 3, size := 3, zero := [.lit (.int .i64 0), .lit (.int .i64 0), .lit (.int .i64 0)], en := some (.st .Bound), eq := false }),
  (225, { d := .arr 3 48, size := 3, zero := [.lit (.slice none 0 0), .lit (.slice none 0 0), .lit (.slice none 0 0)], en := none, eq := false }),
  (228, { d := .other, size := 1, zero := [.lit .nilFunc], en := none, eq := false }),
  (230, { d := .other, size := 1, zero := [.lit .nilFunc], en := none, eq := false }),
  (265, { d := .arr 1 5, size := 1, zero := [.lit (.int .u8 0)], en := none, eq := false }),
  (272, { d := .other, size := 1, zero := [.lit .nilFunc], en := none, eq := false }),
  (275, { d := .sl 220, size := 1, zero := [.lit (.slice none 0 0)], en := some (.sl (.st .Bound)), eq := false }),
  (288, { d := .st [(0, 5), (1, 5), (2, 3), (3, 3), (4, 4), (5, 62), (13, 28), (14, 28), (15, 28), (16, 51)], size := 17, zero := [.lit (.int .u8 0), .lit (.int .u8 0), .lit (.int .i64 0), .lit (.int .i64 0), .lit (.bool false), .lit (.int .i64 0), .lit (.int .u32 0), .lit (.int .u32 0), .lit (.int .i64 0), .lit (.int .u8 0), .lit (.int .i64 0), .lit (.bool false), .lit (.bool false), .lit (.int .u32 0), .lit (.int .u32 0), .lit (.int .u32 0), .lit (.int .i64 0)], en := some (.st .Plain), eq := true }),
  (299, { d := .sl 29, size := 1, zero := [.lit (.slice none 0 0)], en := some (.sl (.int .u64)), eq := false })]
noncomputable def hnts : List ((Nat × Nat) × Hint) := [((5, 10), .head [(2, .dat .bool), (3, .same), (4, .same), (5, .same), (6, .same), (7, .same), (8, .dat (.int .i64)), (9, .same), (10, .dat (.int .i64)), (11, .var (.st .Site)), (12, .dat .bool), (13, .dat (.int .i64))]),
  ((6, 6), .head [(2, .same), (3, .same), (5, .dat .bool), (6, .var (.st .Site)), (7, .dat (.int .i64))]),
  ((8, 4), .head [(1, .same), (3, .dat (.int .i64))]),
  ((8, 10), .head [(1, .same), (5, .dat (.int .i64))]),
  ((8, 15), .head [(1, .same), (6, .dat (.int .i64))]),
  ((8, 20), .head [(1, .same), (7, .dat (.int .i64))]),
  ((9, 8), .head [(1, .same), (2, .same), (3, .cls [.dat (.int .i64), .dat (.sl (.st .Sector)), .dat (.sl (.st .Pend)), .dat (.int .u32), .dat (.int .i64), .dat (.int .u64), .dat (.int .i64), .dat (.int .i64), .dat (.sl (.st .Rec)), .own 84 (.st .Side), .dat (.int .u32), .dat (.int .u32), .dat (.bool), .dat (.bool), .dat (.int .u32), .dat (.int .u32), .dat (.sl (.sl (.int .u8))), .dat (.int .i64), .dat (.int .i64), .dat (.int .u32), .dat (.int .i64), .own 68 (.st .Act), .own 73 (.st .Mail), .own 101 (.st .Ask), .own 66 (.st .Reply), .dat (.sl (.int .i64)), .dat (.int .u32), .dat (.bool)]), (4, .dat (.int .i64))]),
  ((9, 12), .head [(1, .same), (2, .same), (3, .cls [.dat (.int .i64), .dat (.sl (.st .Sector)), .dat (.sl (.st .Pend)), .dat (.int .u32), .dat (.int .i64), .dat (.int .u64), .dat (.int .i64), .dat (.int .i64), .dat (.sl (.st .Rec)), .own 84 (.st .Side), .dat (.int .u32), .dat (.int .u32), .dat (.bool), .dat (.bool), .dat (.int .u32), .dat (.int .u32), .dat (.sl (.sl (.int .u8))), .dat (.int .i64), .dat (.int .i64), .dat (.int .u32), .dat (.int .i64), .own 68 (.st .Act), .own 73 (.st .Mail), .own 101 (.st .Ask), .own 66 (.st .Reply), .dat (.sl (.int .i64)), .dat (.int .u32), .dat (.bool)]), (5, .dat (.int .i64))]),
  ((9, 20), .head [(1, .same), (2, .same), (3, .cls [.dat (.int .i64), .dat (.sl (.st .Sector)), .dat (.sl (.st .Pend)), .dat (.int .u32), .dat (.int .i64), .dat (.int .u64), .dat (.int .i64), .dat (.int .i64), .dat (.sl (.st .Rec)), .own 84 (.st .Side), .dat (.int .u32), .dat (.int .u32), .dat (.bool), .dat (.bool), .dat (.int .u32), .dat (.int .u32), .dat (.sl (.sl (.int .u8))), .dat (.int .i64), .dat (.int .i64), .dat (.int .u32), .dat (.int .i64), .own 68 (.st .Act), .own 73 (.st .Mail), .own 101 (.st .Ask), .own 66 (.st .Reply), .dat (.sl (.int .i64)), .dat (.int .u32), .dat (.bool)]), (7, .dat (.int .i64))]),
  ((9, 26), .head [(1, .same), (2, .same), (3, .cls [.dat (.int .i64), .dat (.sl (.st .Sector)), .dat (.sl (.st .Pend)), .dat (.int .u32), .dat (.int .i64), .dat (.int .u64), .dat (.int .i64), .dat (.int .i64), .dat (.sl (.st .Rec)), .own 84 (.st .Side), .dat (.int .u32), .dat (.int .u32), .dat (.bool), .dat (.bool), .dat (.int .u32), .dat (.int .u32), .dat (.sl (.sl (.int .u8))), .dat (.int .i64), .dat (.int .i64), .dat (.int .u32), .dat (.int .i64), .own 68 (.st .Act), .own 73 (.st .Mail), .own 101 (.st .Ask), .own 66 (.st .Reply), .dat (.sl (.int .i64)), .dat (.int .u32), .dat (.bool)]), (9, .dat (.int .i64))]),
  ((9, 32), .head [(1, .same), (2, .same), (3, .cls [.dat (.int .i64), .dat (.sl (.st .Sector)), .dat (.sl (.st .Pend)), .dat (.int .u32), .dat (.int .i64), .dat (.int .u64), .dat (.int .i64), .dat (.int .i64), .dat (.sl (.st .Rec)), .own 84 (.st .Side), .dat (.int .u32), .dat (.int .u32), .dat (.bool), .dat (.bool), .dat (.int .u32), .dat (.int .u32), .dat (.sl (.sl (.int .u8))), .dat (.int .i64), .dat (.int .i64), .dat (.int .u32), .dat (.int .i64), .own 68 (.st .Act), .own 73 (.st .Mail), .own 101 (.st .Ask), .own 66 (.st .Reply), .dat (.sl (.int .i64)), .dat (.int .u32), .dat (.bool)]), (11, .dat (.int .i64))]),
  ((12, 4), .head [(2, .same), (3, .same), (5, .dat (.int .i64))]),
  ((12, 9), .head [(2, .same), (3, .same), (6, .dat (.int .i64))]),
  ((26, 4), .head [(2, .same), (3, .same), (5, .dat (.int .i64))]),
  ((26, 9), .head [(2, .same), (3, .same), (6, .dat (.int .i64))]),
  ((29, 2), .head [(1, .dat (.int .i64)), (2, .same), (5, .dat (.int .i64))]),
  ((29, 7), .head [(1, .dat (.int .i64)), (2, .same), (6, .dat (.int .i64))]),
  ((30, 2), .head [(1, .same), (3, .dat (.int .i64))]),
  ((30, 7), .head [(1, .same), (4, .dat (.int .i64))]),
  ((31, 3), .head [(1, .same), (2, .same), (3, .cls [.own 179 (.st .Sector), .own 181 (.st .Pend)]), (4, .dat (.int .i64))]),
  ((31, 7), .head [(1, .same), (2, .same), (3, .cls [.own 179 (.st .Sector), .own 181 (.st .Pend)]), (5, .dat (.int .i64))]),
  ((42, 4), .head [(2, .same), (3, .same), (5, .dat (.int .i64))]),
  ((42, 9), .head [(2, .same), (3, .same), (6, .dat (.int .i64))]),
  ((45, 4), .head [(0, .dat (.sl (.st .Act))), (1, .dat (.sl (.st .Act))), (5, .dat (.int .i64))]),
  ((46, 4), .head [(2, .same), (3, .same), (5, .dat (.int .i64))]),
  ((46, 10), .head [(2, .same), (3, .same), (8, .dat (.int .i64))]),
  ((47, 4), .head [(0, .dat (.sl (.st .Reply))), (1, .dat (.sl (.st .Reply))), (5, .dat (.int .i64))]),
  ((50, 5), .unroll 5),
  ((51, 5), .head [(2, .same), (4, .cls [.own 179 (.st .Sector), .dat (.sl (.st .Pend))]), (18, .dat (.int .i64)), (19, .dat (.int .i64))]),
  ((65, 2), .unroll 4),
  ((75, 2), .head [(1, .same), (2, .cls [.own 179 (.st .Sector), .own 181 (.st .Pend)]), (8, .dat (.sl (.st .Sector))), (9, .dat (.int .i64)), (10, .dat (.int .i64))]),
  ((75, 8), .head [(2, .cls [.own 179 (.st .Sector), .own 181 (.st .Pend)]), (26, .dat (.sl (.st .Pend))), (27, .dat (.int .i64)), (28, .dat (.int .i64))]),
  ((79, 2), .head [(1, .same), (4, .own 84 (.st .Side)), (7, .dat (.sl (.st .Side))), (8, .dat (.int .i64)), (9, .dat (.int .i64))]),
  ((84, 2), .head [(1, .same), (4, .own 68 (.st .Act)), (7, .dat (.sl (.st .Act))), (8, .dat (.int .i64)), (9, .dat (.int .i64))]),
  ((88, 2), .head [(1, .same), (4, .own 73 (.st .Mail)), (7, .dat (.sl (.st .Mail))), (8, .dat (.int .i64)), (9, .dat (.int .i64))]),
  ((90, 2), .head [(1, .same), (4, .own 101 (.st .Ask)), (7, .dat (.sl (.st .Ask))), (8, .dat (.int .i64)), (9, .dat (.int .i64))]),
  ((92, 2), .head [(1, .same), (4, .own 66 (.st .Reply)), (7, .dat (.sl (.st .Reply))), (8, .dat (.int .i64)), (9, .dat (.int .i64))]),
  ((94, 6), .head [(6, .own 5 (.int .u8)), (23, .dat (.sl (.int .i64))), (24, .dat (.int .i64)), (25, .dat (.int .i64))]),
  ((125, 4), .head [(0, .dat (.sl (.st .Rec))), (1, .dat (.sl (.st .Rec))), (5, .dat (.int .i64))]),
  ((139, 6), .head [(1, .same), (3, .dat (.int .i64)), (4, .same), (5, .dat (.int .i64))]),
  ((140, 3), .head [(2, .same), (3, .cls [.own 48 (.sl (.int .u8)), .dat (.int .i64), .dat (.int .i64)]), (16, .dat (.sl (.sl (.int .u8)))), (17, .dat (.int .i64)), (18, .dat (.int .i64))]),
  ((144, 2), .head [(5, .dat (.sl (.st .Bound))), (6, .dat (.int .i64)), (7, .dat (.int .i64))]),
  ((145, 4), .head [(1, .same), (24, .dat (.sl (.st .Sector))), (25, .dat (.int .i64)), (26, .dat (.int .i64))]),
  ((145, 10), .head [(1, .same), (48, .dat (.sl (.st .Pend))), (49, .dat (.int .i64)), (50, .dat (.int .i64))]),
  ((146, 5), .head [(2, .own 48 (.sl (.int .u8))), (14, .dat (.sl (.st .Rec))), (15, .dat (.int .i64)), (16, .dat (.int .i64))]),
  ((147, 2), .head [(0, .dat (.sl (.st .Rec))), (1, .same), (7, .dat (.int .i64)), (8, .dat (.int .i64))]),
  ((148, 2), .head [(0, .dat (.sl (.st .Side))), (1, .same), (7, .dat (.int .i64)), (8, .dat (.int .i64))]),
  ((149, 7), .head [(5, .dat (.sl (.int .u8))), (22, .dat (.sl (.int .u8))), (23, .dat (.int .i64)), (24, .dat (.int .i64))]),
  ((155, 2), .head [(0, .dat (.sl (.st .Act))), (1, .same), (7, .dat (.int .i64)), (8, .dat (.int .i64))]),
  ((157, 2), .head [(0, .dat (.sl (.st .Mail))), (1, .same), (7, .dat (.int .i64)), (8, .dat (.int .i64))]),
  ((158, 2), .head [(0, .dat (.sl (.st .Ask))), (1, .same), (7, .dat (.int .i64)), (8, .dat (.int .i64))]),
  ((183, 3), .head [(0, .dat (.sl (.sl (.int .u8)))), (3, .own 48 (.sl (.int .u8))), (4, .dat (.int .i64))]),
  ((196, 4), .head [(0, .dat (.sl (.sl (.int .u8)))), (1, .dat (.sl (.sl (.int .u8)))), (5, .dat (.int .i64))]),
  ((199, 6), .head [(1, .dat (.sl (.int .u8))), (4, .same), (7, .cls [.own 179 (.st .Sector), .dat (.sl (.st .Pend))]), (20, .dat (.sl (.st .Pend))), (21, .dat (.int .i64)), (22, .dat (.int .i64))]),
  ((199, 16), .head [(4, .same), (7, .cls [.own 179 (.st .Sector), .dat (.sl (.st .Pend))]), (58, .dat (.int .i64)), (59, .dat (.int .i64))]),
  ((200, 8), .head [(7, .own 5 (.int .u8)), (8, .dat (.int .i64))]),
  ((205, 2), .head [(0, .dat (.sl (.sl (.int .u8)))), (1, .same), (7, .dat (.int .i64)), (8, .dat (.int .i64))]),
  ((207, 2), .head [(0, .dat (.sl (.st .Rec))), (5, .dat (.sl (.st .Rec))), (6, .dat (.int .i64)), (7, .dat (.int .i64))]),
  ((209, 2), .head [(0, .dat (.sl (.st .Sent))), (1, .same), (7, .dat (.int .i64)), (8, .dat (.int .i64))]),
  ((210, 2), .head [(0, .dat (.sl (.st .Wait))), (1, .same), (7, .dat (.int .i64)), (8, .dat (.int .i64))]),
  ((217, 2), .head [(0, .dat (.sl (.int .i64))), (1, .same), (7, .dat (.int .i64)), (8, .dat (.int .i64))]),
  ((230, 7), .head [(0, .dat (.sl (.int .u64))), (1, .dat (.sl (.int .i64))), (8, .own 5 (.int .u8)), (9, .dat (.int .i64)), (28, .dat (.int .i64)), (29, .dat (.int .i64))]),
  ((232, 3), .head [(0, .dat (.sl (.sl (.int .u8)))), (3, .dat (.int .i64)), (9, .dat (.sl (.sl (.int .u8)))), (10, .dat (.int .i64)), (11, .dat (.int .i64))]),
  ((232, 11), .head [(6, .own 5 (.int .u8)), (25, .dat (.sl (.sl (.int .u8)))), (26, .dat (.int .i64)), (27, .dat (.int .i64))]),
  ((246, 4), .head [(2, .dat (.int .i64)), (9, .dat (.sl (.int .i64))), (10, .dat (.int .i64)), (11, .dat (.int .i64))]),
  ((247, 2), .head [(0, .wrow 5 (.int .u8)), (1, .dat (.int .u64)), (7, .dat (.int .i64)), (8, .dat (.int .i64))])]
theorem tys_ok : tysOkB Go.Proofs.Tryz.prog tys = true := by kernel_rfl
theorem mixed_ok : Go.Proofs.Tryz.prog.follows .mixedOrders = true := by kernel_rfl
theorem nm_5 : (f5.name == "runtime.NumGoroutine") = false := by kernel_rfl
theorem nm_6 : (f6.name == "runtime.NumGoroutine") = false := by kernel_rfl
theorem nm_8 : (f8.name == "runtime.NumGoroutine") = false := by kernel_rfl
theorem nm_9 : (f9.name == "runtime.NumGoroutine") = false := by kernel_rfl
theorem nm_12 : (f12.name == "runtime.NumGoroutine") = false := by kernel_rfl
theorem nm_15 : (f15.name == "runtime.NumGoroutine") = false := by kernel_rfl
theorem nm_16 : (f16.name == "runtime.NumGoroutine") = false := by kernel_rfl
theorem nm_17 : (f17.name == "runtime.NumGoroutine") = false := by kernel_rfl
theorem nm_18 : (f18.name == "runtime.NumGoroutine") = false := by kernel_rfl
theorem nm_19 : (f19.name == "runtime.NumGoroutine") = false := by kernel_rfl
theorem nm_20 : (f20.name == "runtime.NumGoroutine") = false := by kernel_rfl
theorem nm_22 : (f22.name == "runtime.NumGoroutine") = false := by kernel_rfl
theorem nm_23 : (f23.name == "runtime.NumGoroutine") = false := by kernel_rfl
theorem nm_26 : (f26.name == "runtime.NumGoroutine") = false := by kernel_rfl
theorem nm_29 : (f29.name == "runtime.NumGoroutine") = false := by kernel_rfl
theorem nm_30 : (f30.name == "runtime.NumGoroutine") = false := by kernel_rfl
theorem nm_31 : (f31.name == "runtime.NumGoroutine") = false := by kernel_rfl
theorem nm_32 : (f32.name == "runtime.NumGoroutine") = false := by kernel_rfl
theorem nm_33 : (f33.name == "runtime.NumGoroutine") = false := by kernel_rfl
theorem nm_34 : (f34.name == "runtime.NumGoroutine") = false := by kernel_rfl
theorem nm_35 : (f35.name == "runtime.NumGoroutine") = false := by kernel_rfl
theorem nm_36 : (f36.name == "runtime.NumGoroutine") = false := by kernel_rfl
theorem nm_42 : (f42.name == "runtime.NumGoroutine") = false := by kernel_rfl
theorem nm_43 : (f43.name == "runtime.NumGoroutine") = false := by kernel_rfl
theorem nm_44 : (f44.name == "runtime.NumGoroutine") = false := by kernel_rfl
theorem nm_45 : (f45.name == "runtime.NumGoroutine") = false := by kernel_rfl
theorem nm_46 : (f46.name == "runtime.NumGoroutine") = false := by kernel_rfl
theorem nm_47 : (f47.name == "runtime.NumGoroutine") = false := by kernel_rfl
theorem nm_50 : (f50.name == "runtime.NumGoroutine") = false := by kernel_rfl
theorem nm_51 : (f51.name == "runtime.NumGoroutine") = false := by kernel_rfl
theorem nm_52 : (f52.name == "runtime.NumGoroutine") = false := by kernel_rfl
theorem nm_53 : (f53.name == "runtime.NumGoroutine") = false := by kernel_rfl
theorem nm_54 : (f54.name == "runtime.NumGoroutine") = false := by kernel_rfl
theorem nm_55 : (f55.name == "runtime.NumGoroutine") = false := by kernel_rfl
theorem nm_56 : (f56.name == "runtime.NumGoroutine") = false := by kernel_rfl
theorem nm_57 : (f57.name == "runtime.NumGoroutine") = false := by kernel_rfl
theorem nm_58 : (f58.name == "runtime.NumGoroutine") = false := by kernel_rfl
theorem nm_59 : (f59.name == "runtime.NumGoroutine") = false := by kernel_rfl
theorem nm_60 : (f60.name == "runtime.NumGoroutine") = false := by kernel_rfl
theorem nm_61 : (f61.name == "runtime.NumGoroutine") = false := by kernel_rfl
theorem nm_62 : (f62.name == "runtime.NumGoroutine") = false := by kernel_rfl
theorem nm_63 : (f63.name == "runtime.NumGoroutine") = false := by kernel_rfl
theorem nm_64 : (f64.name == "runtime.NumGoroutine") = false := by kernel_rfl
theorem nm_65 : (f65.name == "runtime.NumGoroutine") = false := by kernel_rfl
theorem nm_66 : (f66.name == "runtime.NumGoroutine") = false := by kernel_rfl
theorem nm_67 : (f67.name == "runtime.NumGoroutine") = false := by kernel_rfl
theorem nm_68 : (f68.name == "runtime.NumGoroutine") = false := by kernel_rfl
theorem nm_69 : (f69.name == "runtime.NumGoroutine") = false := by kernel_rfl
theorem nm_70 : (f70.name == "runtime.NumGoroutine") = false := by kernel_rfl
theorem nm_71 : (f71.name == "runtime.NumGoroutine") = false := by kernel_rfl
theorem nm_72 : (f72.name == "runtime.NumGoroutine") = false := by kernel_rfl
theorem nm_73 : (f73.name == "runtime.NumGoroutine") = false := by kernel_rfl
theorem nm_75 : (f75.name == "runtime.NumGoroutine") = false := by kernel_rfl
theorem nm_76 : (f76.name == "runtime.NumGoroutine") = false := by kernel_rfl
theorem nm_77 : (f77.name == "runtime.NumGoroutine") = false := by kernel_rfl
theorem nm_78 : (f78.name == "runtime.NumGoroutine") = false := by kernel_rfl
theorem nm_79 : (f79.name == "runtime.NumGoroutine") = false := by kernel_rfl
theorem nm_80 : (f80.name == "runtime.NumGoroutine") = false := by kernel_rfl
theorem nm_81 : (f81.name == "runtime.NumGoroutine") = false := by kernel_rfl
theorem nm_82 : (f82.name == "runtime.NumGoroutine") = false := by kernel_rfl
theorem nm_83 : (f83.name == "runtime.NumGoroutine") = false := by kernel_rfl
theorem nm_84 : (f84.name == "runtime.NumGoroutine") = false := by kernel_rfl
theorem nm_85 : (f85.name == "runtime.NumGoroutine") = false := by kernel_rfl
theorem nm_86 : (f86.name == "runtime.NumGoroutine") = false := by kernel_rfl
theorem nm_87 : (f87.name == "runtime.NumGoroutine") = false := by kernel_rfl
theorem nm_88 : (f88.name == "runtime.NumGoroutine") = false := by kernel_rfl
theorem nm_89 : (f89.name == "runtime.NumGoroutine") = false := by kernel_rfl
theorem nm_90 : (f90.name == "runtime.NumGoroutine") = false := by kernel_rfl
theorem nm_91 : (f91.name == "runtime.NumGoroutine") = false := by kernel_rfl
theorem nm_92 : (f92.name == "runtime.NumGoroutine") = false := by kernel_rfl
theorem nm_93 : (f93.name == "runtime.NumGoroutine") = false := by kernel_rfl
theorem nm_94 : (f94.name == "runtime.NumGoroutine") = false := by kernel_rfl
theorem nm_111 : (f111.name == "runtime.NumGoroutine") = false := by kernel_rfl
theorem nm_115 : (f115.name == "runtime.NumGoroutine") = false := by kernel_rfl
theorem nm_125 : (f125.name == "runtime.NumGoroutine") = false := by kernel_rfl
theorem nm_126 : (f126.name == "runtime.NumGoroutine") = false := by kernel_rfl
theorem nm_127 : (f127.name == "runtime.NumGoroutine") = false := by kernel_rfl
theorem nm_128 : (f128.name == "runtime.NumGoroutine") = false := by kernel_rfl
theorem nm_130 : (f130.name == "runtime.NumGoroutine") = false := by kernel_rfl
theorem nm_131 : (f131.name == "runtime.NumGoroutine") = false := by kernel_rfl
theorem nm_132 : (f132.name == "runtime.NumGoroutine") = false := by kernel_rfl
theorem nm_133 : (f133.name == "runtime.NumGoroutine") = false := by kernel_rfl
theorem nm_134 : (f134.name == "runtime.NumGoroutine") = false := by kernel_rfl
theorem nm_135 : (f135.name == "runtime.NumGoroutine") = false := by kernel_rfl
theorem nm_136 : (f136.name == "runtime.NumGoroutine") = false := by kernel_rfl
theorem nm_137 : (f137.name == "runtime.NumGoroutine") = false := by kernel_rfl
theorem nm_138 : (f138.name == "runtime.NumGoroutine") = false := by kernel_rfl
theorem nm_139 : (f139.name == "runtime.NumGoroutine") = false := by kernel_rfl
theorem nm_140 : (f140.name == "runtime.NumGoroutine") = false := by kernel_rfl
theorem nm_141 : (f141.name == "runtime.NumGoroutine") = false := by kernel_rfl
theorem nm_142 : (f142.name == "runtime.NumGoroutine") = false := by kernel_rfl
theorem nm_143 : (f143.name == "runtime.NumGoroutine") = false := by kernel_rfl
theorem nm_144 : (f144.name == "runtime.NumGoroutine") = false := by kernel_rfl
theorem nm_145 : (f145.name == "runtime.NumGoroutine") = false := by kernel_rfl
theorem nm_146 : (f146.name == "runtime.NumGoroutine") = false := by kernel_rfl
theorem nm_147 : (f147.name == "runtime.NumGoroutine") = false := by kernel_rfl
theorem nm_148 : (f148.name == "runtime.NumGoroutine") = false := by kernel_rfl
theorem nm_149 : (f149.name == "runtime.NumGoroutine") = false := by kernel_rfl
theorem nm_150 : (f150.name == "runtime.NumGoroutine") = false := by kernel_rfl
theorem nm_151 : (f151.name == "runtime.NumGoroutine") = false := by kernel_rfl
theorem nm_152 : (f152.name == "runtime.NumGoroutine") = false := by kernel_rfl
theorem nm_153 : (f153.name == "runtime.NumGoroutine") = false := by kernel_rfl
theorem nm_154 : (f154.name == "runtime.NumGoroutine") = false := by kernel_rfl
theorem nm_155 : (f155.name == "runtime.NumGoroutine") = false := by kernel_rfl
theorem nm_156 : (f156.name == "runtime.NumGoroutine") = false := by kernel_rfl
theorem nm_157 : (f157.name == "runtime.NumGoroutine") = false := by kernel_rfl
theorem nm_158 : (f158.name == "runtime.NumGoroutine") = false := by kernel_rfl
theorem nm_162 : (f162.name == "runtime.NumGoroutine") = false := by kernel_rfl
theorem nm_163 : (f163.name == "runtime.NumGoroutine") = false := by kernel_rfl
theorem nm_164 : (f164.name == "runtime.NumGoroutine") = false := by kernel_rfl
theorem nm_165 : (f165.name == "runtime.NumGoroutine") = false := by kernel_rfl
theorem nm_170 : (f170.name == "runtime.NumGoroutine") = false := by kernel_rfl
theorem nm_179 : (f179.name == "runtime.NumGoroutine") = false := by kernel_rfl
theorem nm_183 : (f183.name == "runtime.NumGoroutine") = false := by kernel_rfl
theorem nm_196 : (f196.name == "runtime.NumGoroutine") = false := by kernel_rfl
theorem nm_198 : (f198.name == "runtime.NumGoroutine") = false := by kernel_rfl
theorem nm_199 : (f199.name == "runtime.NumGoroutine") = false := by kernel_rfl
theorem nm_200 : (f200.name == "runtime.NumGoroutine") = false := by kernel_rfl
theorem nm_201 : (f201.name == "runtime.NumGoroutine") = false := by kernel_rfl
theorem nm_202 : (f202.name == "runtime.NumGoroutine") = false := by kernel_rfl
theorem nm_203 : (f203.name == "runtime.NumGoroutine") = false := by kernel_rfl
theorem nm_204 : (f204.name == "runtime.NumGoroutine") = false := by kernel_rfl
theorem nm_205 : (f205.name == "runtime.NumGoroutine") = false := by kernel_rfl
theorem nm_206 : (f206.name == "runtime.NumGoroutine") = false := by kernel_rfl
theorem nm_207 : (f207.name == "runtime.NumGoroutine") = false := by kernel_rfl
theorem nm_208 : (f208.name == "runtime.NumGoroutine") = false := by kernel_rfl
theorem nm_209 : (f209.name == "runtime.NumGoroutine") = false := by kernel_rfl
theorem nm_210 : (f210.name == "runtime.NumGoroutine") = false := by kernel_rfl
theorem nm_211 : (f211.name == "runtime.NumGoroutine") = false := by kernel_rfl
theorem nm_216 : (f216.name == "runtime.NumGoroutine") = false := by kernel_rfl
theorem nm_217 : (f217.name == "runtime.NumGoroutine") = false := by kernel_rfl
theorem nm_219 : (f219.name == "runtime.NumGoroutine") = false := by kernel_rfl
theorem nm_228 : (f228.name == "runtime.NumGoroutine") = false := by kernel_rfl
theorem nm_229 : (f229.name == "runtime.NumGoroutine") = false := by kernel_rfl
theorem nm_230 : (f230.name == "runtime.NumGoroutine") = false := by kernel_rfl
theorem nm_231 : (f231.name == "runtime.NumGoroutine") = false := by kernel_rfl
theorem nm_232 : (f232.name == "runtime.NumGoroutine") = false := by kernel_rfl
theorem nm_234 : (f234.name == "runtime.NumGoroutine") = false := by kernel_rfl
theorem nm_235 : (f235.name == "runtime.NumGoroutine") = false := by kernel_rfl
theorem nm_236 : (f236.name == "runtime.NumGoroutine") = false := by kernel_rfl
theorem nm_244 : (f244.name == "runtime.NumGoroutine") = false := by kernel_rfl
theorem nm_245 : (f245.name == "runtime.NumGoroutine") = false := by kernel_rfl
theorem nm_246 : (f246.name == "runtime.NumGoroutine") = false := by kernel_rfl
theorem nm_247 : (f247.name == "runtime.NumGoroutine") = false := by kernel_rfl
theorem nm_248 : (f248.name == "runtime.NumGoroutine") = false := by kernel_rfl
theorem nm_249 : (f249.name == "runtime.NumGoroutine") = false := by kernel_rfl
theorem nm_250 : (f250.name == "runtime.NumGoroutine") = false := by kernel_rfl
theorem nm_253 : (f253.name == "runtime.NumGoroutine") = false := by kernel_rfl
theorem en_29 : Enters Go.Proofs.Tryz.prog 29 := enters_of func29 nm_29 (by kernel_rfl)
theorem en_30 : Enters Go.Proofs.Tryz.prog 30 := enters_of func30 nm_30 (by kernel_rfl)
theorem en_8 : Enters Go.Proofs.Tryz.prog 8 := enters_of func8 nm_8 (by kernel_rfl)
theorem en_31 : Enters Go.Proofs.Tryz.prog 31 := enters_of func31 nm_31 (by kernel_rfl)
theorem en_32 : Enters Go.Proofs.Tryz.prog 32 := enters_of func32 nm_32 (by kernel_rfl)
theorem en_183 : Enters Go.Proofs.Tryz.prog 183 := enters_of func183 nm_183 (by kernel_rfl)
theorem en_33 : Enters Go.Proofs.Tryz.prog 33 := enters_of func33 nm_33 (by kernel_rfl)
theorem en_35 : Enters Go.Proofs.Tryz.prog 35 := enters_of func35 nm_35 (by kernel_rfl)
theorem en_34 : Enters Go.Proofs.Tryz.prog 34 := enters_of func34 nm_34 (by kernel_rfl)
theorem en_36 : Enters Go.Proofs.Tryz.prog 36 := enters_of func36 nm_36 (by kernel_rfl)
theorem en_9 : Enters Go.Proofs.Tryz.prog 9 := enters_of func9 nm_9 (by kernel_rfl)
theorem en_26 : Enters Go.Proofs.Tryz.prog 26 := enters_of func26 nm_26 (by kernel_rfl)
theorem en_42 : Enters Go.Proofs.Tryz.prog 42 := enters_of func42 nm_42 (by kernel_rfl)
theorem en_125 : Enters Go.Proofs.Tryz.prog 125 := enters_of func125 nm_125 (by kernel_rfl)
theorem en_43 : Enters Go.Proofs.Tryz.prog 43 := enters_of func43 nm_43 (by kernel_rfl)
theorem en_196 : Enters Go.Proofs.Tryz.prog 196 := enters_of func196 nm_196 (by kernel_rfl)
theorem en_126 : Enters Go.Proofs.Tryz.prog 126 := enters_of func126 nm_126 (by kernel_rfl)
theorem en_44 : Enters Go.Proofs.Tryz.prog 44 := enters_of func44 nm_44 (by kernel_rfl)
theorem en_127 : Enters Go.Proofs.Tryz.prog 127 := enters_of func127 nm_127 (by kernel_rfl)
theorem en_128 : Enters Go.Proofs.Tryz.prog 128 := enters_of func128 nm_128 (by kernel_rfl)
theorem en_45 : Enters Go.Proofs.Tryz.prog 45 := enters_of func45 nm_45 (by kernel_rfl)
theorem en_46 : Enters Go.Proofs.Tryz.prog 46 := enters_of func46 nm_46 (by kernel_rfl)
theorem en_47 : Enters Go.Proofs.Tryz.prog 47 := enters_of func47 nm_47 (by kernel_rfl)
theorem en_12 : Enters Go.Proofs.Tryz.prog 12 := enters_of func12 nm_12 (by kernel_rfl)
theorem en_144 : Enters Go.Proofs.Tryz.prog 144 := enters_of func144 nm_144 (by kernel_rfl)
theorem en_57 : Enters Go.Proofs.Tryz.prog 57 := enters_of func57 nm_57 (by kernel_rfl)
theorem en_143 : Enters Go.Proofs.Tryz.prog 143 := enters_of func143 nm_143 (by kernel_rfl)
theorem en_139 : Enters Go.Proofs.Tryz.prog 139 := enters_of func139 nm_139 (by kernel_rfl)
theorem en_141 : Enters Go.Proofs.Tryz.prog 141 := enters_of func141 nm_141 (by kernel_rfl)
theorem en_136 : Enters Go.Proofs.Tryz.prog 136 := enters_of func136 nm_136 (by kernel_rfl)
theorem en_54 : Enters Go.Proofs.Tryz.prog 54 := enters_of func54 nm_54 (by kernel_rfl)
theorem en_140 : Enters Go.Proofs.Tryz.prog 140 := enters_of func140 nm_140 (by kernel_rfl)
theorem en_56 : Enters Go.Proofs.Tryz.prog 56 := enters_of func56 nm_56 (by kernel_rfl)
theorem en_18 : Enters Go.Proofs.Tryz.prog 18 := enters_of func18 nm_18 (by kernel_rfl)
theorem en_131 : Enters Go.Proofs.Tryz.prog 131 := enters_of func131 nm_131 (by kernel_rfl)
theorem en_198 : Enters Go.Proofs.Tryz.prog 198 := enters_of func198 nm_198 (by kernel_rfl)
theorem en_50 : Enters Go.Proofs.Tryz.prog 50 := enters_of func50 nm_50 (by kernel_rfl)
theorem en_170 : Enters Go.Proofs.Tryz.prog 170 := enters_of func170 nm_170 (by kernel_rfl)
theorem en_202 : Enters Go.Proofs.Tryz.prog 202 := enters_of func202 nm_202 (by kernel_rfl)
theorem en_206 : Enters Go.Proofs.Tryz.prog 206 := enters_of func206 nm_206 (by kernel_rfl)
theorem en_145 : Enters Go.Proofs.Tryz.prog 145 := enters_of func145 nm_145 (by kernel_rfl)
theorem en_58 : Enters Go.Proofs.Tryz.prog 58 := enters_of func58 nm_58 (by kernel_rfl)
theorem en_230 : Enters Go.Proofs.Tryz.prog 230 := enters_of func230 nm_230 (by kernel_rfl)
theorem en_249 : Enters Go.Proofs.Tryz.prog 249 := enters_of func249 nm_249 (by kernel_rfl)
theorem en_234 : Enters Go.Proofs.Tryz.prog 234 := enters_of func234 nm_234 (by kernel_rfl)
theorem en_235 : Enters Go.Proofs.Tryz.prog 235 := enters_of func235 nm_235 (by kernel_rfl)
theorem en_208 : Enters Go.Proofs.Tryz.prog 208 := enters_of func208 nm_208 (by kernel_rfl)
theorem en_146 : Enters Go.Proofs.Tryz.prog 146 := enters_of func146 nm_146 (by kernel_rfl)
theorem en_59 : Enters Go.Proofs.Tryz.prog 59 := enters_of func59 nm_59 (by kernel_rfl)
theorem en_62 : Enters Go.Proofs.Tryz.prog 62 := enters_of func62 nm_62 (by kernel_rfl)
theorem en_162 : Enters Go.Proofs.Tryz.prog 162 := enters_of func162 nm_162 (by kernel_rfl)
theorem en_149 : Enters Go.Proofs.Tryz.prog 149 := enters_of func149 nm_149 (by kernel_rfl)
theorem en_65 : Enters Go.Proofs.Tryz.prog 65 := enters_of func65 nm_65 (by kernel_rfl)
theorem en_219 : Enters Go.Proofs.Tryz.prog 219 := enters_of func219 nm_219 (by kernel_rfl)
theorem en_179 : Enters Go.Proofs.Tryz.prog 179 := enters_of func179 nm_179 (by kernel_rfl)
theorem en_250 : Enters Go.Proofs.Tryz.prog 250 := enters_of func250 nm_250 (by kernel_rfl)
theorem en_236 : Enters Go.Proofs.Tryz.prog 236 := enters_of func236 nm_236 (by kernel_rfl)
theorem en_211 : Enters Go.Proofs.Tryz.prog 211 := enters_of func211 nm_211 (by kernel_rfl)
theorem en_156 : Enters Go.Proofs.Tryz.prog 156 := enters_of func156 nm_156 (by kernel_rfl)
theorem en_68 : Enters Go.Proofs.Tryz.prog 68 := enters_of func68 nm_68 (by kernel_rfl)
theorem en_71 : Enters Go.Proofs.Tryz.prog 71 := enters_of func71 nm_71 (by kernel_rfl)
theorem en_20 : Enters Go.Proofs.Tryz.prog 20 := enters_of func20 nm_20 (by kernel_rfl)
theorem en_115 : Enters Go.Proofs.Tryz.prog 115 := enters_of func115 nm_115 (by kernel_rfl)
theorem en_75 : Enters Go.Proofs.Tryz.prog 75 := enters_of func75 nm_75 (by kernel_rfl)
theorem en_76 : Enters Go.Proofs.Tryz.prog 76 := enters_of func76 nm_76 (by kernel_rfl)
theorem en_77 : Enters Go.Proofs.Tryz.prog 77 := enters_of func77 nm_77 (by kernel_rfl)
theorem en_78 : Enters Go.Proofs.Tryz.prog 78 := enters_of func78 nm_78 (by kernel_rfl)
theorem en_81 : Enters Go.Proofs.Tryz.prog 81 := enters_of func81 nm_81 (by kernel_rfl)
theorem en_82 : Enters Go.Proofs.Tryz.prog 82 := enters_of func82 nm_82 (by kernel_rfl)
theorem en_83 : Enters Go.Proofs.Tryz.prog 83 := enters_of func83 nm_83 (by kernel_rfl)
theorem en_86 : Enters Go.Proofs.Tryz.prog 86 := enters_of func86 nm_86 (by kernel_rfl)
theorem en_87 : Enters Go.Proofs.Tryz.prog 87 := enters_of func87 nm_87 (by kernel_rfl)
theorem en_22 : Enters Go.Proofs.Tryz.prog 22 := enters_of func22 nm_22 (by kernel_rfl)
theorem en_132 : Enters Go.Proofs.Tryz.prog 132 := enters_of func132 nm_132 (by kernel_rfl)
theorem en_199 : Enters Go.Proofs.Tryz.prog 199 := enters_of func199 nm_199 (by kernel_rfl)
theorem en_200 : Enters Go.Proofs.Tryz.prog 200 := enters_of func200 nm_200 (by kernel_rfl)
theorem en_133 : Enters Go.Proofs.Tryz.prog 133 := enters_of func133 nm_133 (by kernel_rfl)
theorem en_201 : Enters Go.Proofs.Tryz.prog 201 := enters_of func201 nm_201 (by kernel_rfl)
theorem en_134 : Enters Go.Proofs.Tryz.prog 134 := enters_of func134 nm_134 (by kernel_rfl)
theorem en_231 : Enters Go.Proofs.Tryz.prog 231 := enters_of func231 nm_231 (by kernel_rfl)
theorem en_232 : Enters Go.Proofs.Tryz.prog 232 := enters_of func232 nm_232 (by kernel_rfl)
theorem en_203 : Enters Go.Proofs.Tryz.prog 203 := enters_of func203 nm_203 (by kernel_rfl)
theorem en_16 : Enters Go.Proofs.Tryz.prog 16 := enters_of func16 nm_16 (by kernel_rfl)
theorem en_17 : Enters Go.Proofs.Tryz.prog 17 := enters_of func17 nm_17 (by kernel_rfl)
theorem en_94 : Enters Go.Proofs.Tryz.prog 94 := enters_of func94 nm_94 (by kernel_rfl)
theorem en_23 : Enters Go.Proofs.Tryz.prog 23 := enters_of func23 nm_23 (by kernel_rfl)
theorem en_51 : Enters Go.Proofs.Tryz.prog 51 := enters_of func51 nm_51 (by kernel_rfl)
theorem en_52 : Enters Go.Proofs.Tryz.prog 52 := enters_of func52 nm_52 (by kernel_rfl)
theorem en_15 : Enters Go.Proofs.Tryz.prog 15 := enters_of func15 nm_15 (by kernel_rfl)
theorem en_19 : Enters Go.Proofs.Tryz.prog 19 := enters_of func19 nm_19 (by kernel_rfl)
theorem en_6 : Enters Go.Proofs.Tryz.prog 6 := enters_of func6 nm_6 (by kernel_rfl)
theorem en_5 : Enters Go.Proofs.Tryz.prog 5 := enters_of func5 nm_5 (by kernel_rfl)
noncomputable def s29 : VSpec := { params := [(.st .Disk), (.int .i64)], results := [.bool], own := none, fn := N_ref05_Great }
noncomputable def s30 : VSpec := { params := [(.st .Site)], results := [.bool], own := none, fn := N_ref21_greatWords }
noncomputable def s8 : VSpec := { params := [(.st .Site)], results := [.bool], own := none, fn := N_ref21_Great }
noncomputable def s31 : VSpec := { params := [(.st .Disk)], results := [(.st .Disk)], own := none, fn := N_ref05_Twin }
noncomputable def s32 : VSpec := { params := [(.st .Meta)], results := [(.st .Meta)], own := none, fn := N_ref12_Twin }
noncomputable def s183 : VSpec := { params := [(.sl (.sl (.int .u8)))], results := [(.sl (.sl (.int .u8)))], own := none, fn := N_ref04_TwinAll }
noncomputable def s33 : VSpec := { params := [(.st .End)], results := [(.st .End)], own := none, fn := N_ref17_Twin }
noncomputable def s35 : VSpec := { params := [(.sl (.int .u8))], results := [(.sl (.int .u8))], own := none, fn := N_ref21_bytes }
noncomputable def s34 : VSpec := { params := [(.st .Side)], results := [(.st .Side)], own := none, fn := N_ref21_TwinSide }
noncomputable def s36 : VSpec := { params := [(.st .Msg)], results := [(.st .Msg)], own := none, fn := N_ref20_Twin }
noncomputable def s9 : VSpec := { params := [(.st .Site)], results := [(.st .Site)], own := none, fn := N_ref21_Twin }
noncomputable def s26 : VSpec := { params := [(.st .Side), (.st .Side)], results := [.bool], own := none, fn := N_ref21_SameSide }
noncomputable def s42 : VSpec := { params := [(.st .Disk), (.st .Disk)], results := [.bool], own := none, fn := N_ref05_Same }
noncomputable def s125 : VSpec := { params := [(.sl (.st .Rec)), (.sl (.st .Rec))], results := [.bool], own := none, fn := N_ref11_Same }
noncomputable def s43 : VSpec := { params := [(.st .Meta), (.st .Meta)], results := [.bool], own := none, fn := N_ref12_Same }
noncomputable def s196 : VSpec := { params := [(.sl (.sl (.int .u8))), (.sl (.sl (.int .u8)))], results := [.bool], own := none, fn := N_ref04_SameAll }
noncomputable def s126 : VSpec := { params := [(.st .Queue), (.st .Queue)], results := [.bool], own := none, fn := N_ref04_Same }
noncomputable def s44 : VSpec := { params := [(.st .End), (.st .End)], results := [.bool], own := none, fn := N_ref17_Same }
noncomputable def s127 : VSpec := { params := [(.st .Msg), (.st .Msg)], results := [.bool], own := none, fn := N_ref20_Same }
noncomputable def s128 : VSpec := { params := [(.st .Reply), (.st .Reply)], results := [.bool], own := none, fn := N_ref21_SameReply }
noncomputable def s45 : VSpec := { params := [(.sl (.st .Act)), (.sl (.st .Act))], results := [.bool], own := none, fn := N_ref21_samePlan }
noncomputable def s46 : VSpec := { params := [(.st .Site), (.st .Site)], results := [.bool], own := none, fn := N_ref21_sameCome }
noncomputable def s47 : VSpec := { params := [(.sl (.st .Reply)), (.sl (.st .Reply))], results := [.bool], own := none, fn := N_ref21_SameReplies }
noncomputable def s12 : VSpec := { params := [(.st .Site), (.st .Site)], results := [.bool], own := none, fn := N_ref21_Same }
noncomputable def s144 : VSpec := { params := [(.sl (.st .Bound))], results := [.bool], own := none, fn := N_place_within }
noncomputable def s57 : VSpec := { params := [(.st .Config)], results := [(.int .i64)], own := none, fn := N_place_Check }
noncomputable def s143 : VSpec := { params := [(.st .Round), (.int .i64)], results := [(.int .i64)], own := none, fn := N_ring_round_byte_at }
noncomputable def s139 : VSpec := { params := [(.st .Queue)], results := [(.int .i64)], own := none, fn := N_ring_Check }
noncomputable def s141 : VSpec := { params := [(.sl (.int .u8))], results := [(.sl (.int .u8))], own := none, fn := N_ring_text }
noncomputable def s136 : VSpec := { params := [(.st .Queue)], results := [(.sl (.sl (.int .u8))), (.int .i64)], own := none, fn := N_ring_List }
noncomputable def s54 : VSpec := { params := [(.st .Config), (.st .End)], results := [(.int .i64)], own := none, fn := N_sess_Check }
noncomputable def s140 : VSpec := { params := [(.st .Queue)], results := [(.st .Queue)], own := some [some 48], fn := N_ring_Twin }
noncomputable def s56 : VSpec := { params := [(.st .Queue), (.sl (.int .u8))], results := [(.st .Queue), (.int .i64)], own := none, fn := N_ring_Push }
noncomputable def s18 : VSpec := { params := [(.st .Config), (.st .End), (.sl (.int .u8))], results := [(.st .End), (.int .i64)], own := none, fn := N_sess_Put }
noncomputable def s131 : VSpec := { params := [(.st .Part)], results := [(.int .i64)], own := none, fn := N_place_part_size }
noncomputable def s198 : VSpec := { params := [(.st .Config)], results := [(.int .i64)], own := none, fn := N_place_pages }
noncomputable def s50 : VSpec := { params := [(.st .Config)], results := [(.int .i64), (.int .i64)], own := none, fn := N_place_Sectors }
noncomputable def s170 : VSpec := { params := [(.sl (.int .u8)), (.sl (.int .u8))], results := [.bool], own := none, fn := N_bytes_Equal }
noncomputable def s202 : VSpec := { params := [(.sl (.sl (.int .u8)))], results := [.bool], own := none, fn := N_disk_sized }
noncomputable def s206 : VSpec := { params := [], results := [(.sl (.int .u8))], own := none, fn := N_disk_none }
noncomputable def s145 : VSpec := { params := [(.st .Disk)], results := [(.int .i64)], own := none, fn := N_disk_Check }
noncomputable def s58 : VSpec := { params := [(.st .Config), (.st .Disk)], results := [(.int .i64)], own := none, fn := N_track_Check }
noncomputable def s230 : VSpec := { params := [(.sl (.int .u64)), (.sl (.int .i64))], results := [(.sl (.int .u8)), (.int .i64)], own := none, fn := N_num_Write }
noncomputable def s249 : VSpec := { params := [(.sl (.int .i64))], results := [.bool], own := none, fn := N_rec_site }
noncomputable def s234 : VSpec := { params := [(.st .Rec)], results := [(.int .i64)], own := none, fn := N_rec_Check }
noncomputable def s235 : VSpec := { params := [], results := [(.sl (.int .i64))], own := none, fn := N_rec_sizes }
noncomputable def s208 : VSpec := { params := [(.st .Rec)], results := [(.sl (.int .u8)), (.int .i64)], own := none, fn := N_rec_Note }
noncomputable def s146 : VSpec := { params := [(.sl (.st .Rec))], results := [(.sl (.sl (.int .u8))), (.int .i64)], own := none, fn := N_rec_Notes }
noncomputable def s59 : VSpec := { params := [(.st .Config), (.st .Meta)], results := [(.int .i64)], own := none, fn := N_meta_Check }
noncomputable def s62 : VSpec := { params := [(.st .Config), (.int .i64)], results := [.bool], own := none, fn := N_act_limits_pair }
noncomputable def s162 : VSpec := { params := [(.int .i64)], results := [(.sl (.int .u8)), (.int .i64)], own := none, fn := N_bits_All }
noncomputable def s149 : VSpec := { params := [(.int .i64), (.sl (.int .u8))], results := [(.int .i64)], own := none, fn := N_bits_Check }
noncomputable def s65 : VSpec := { params := [(.st .Config), (.st .Side)], results := [.bool], own := none, fn := N_act_limits_side }
noncomputable def s219 : VSpec := { params := [(.st .Msg)], results := [(.st .Plain)], own := none, fn := N_msg_of }
noncomputable def s179 : VSpec := { params := [(.st .Msg), (.st .Msg)], results := [.bool], own := none, fn := N_msg_Same }
noncomputable def s250 : VSpec := { params := [(.sl (.int .u8))], results := [.bool], own := none, fn := N_msg_marks }
noncomputable def s236 : VSpec := { params := [(.st .Msg)], results := [(.st .Msg), .bool], own := none, fn := N_msg_used }
noncomputable def s211 : VSpec := { params := [(.st .Msg)], results := [(.int .i64)], own := none, fn := N_msg_Check }
noncomputable def s156 : VSpec := { params := [(.st .Config), (.st .Msg)], results := [.bool], own := none, fn := N_act_limits_message }
noncomputable def s68 : VSpec := { params := [(.st .Config), (.st .Act), (.int .i64)], results := [.bool], own := none, fn := N_act_limits_act }
noncomputable def s71 : VSpec := { params := [(.st .Config), (.st .Mail)], results := [.bool], own := none, fn := N_act_limits_mail }
noncomputable def s20 : VSpec := { params := [(.st .Config), (.st .Site)], results := [(.int .i64)], own := none, fn := N_act_Check }
noncomputable def s115 : VSpec := { params := [(.sl (.int .u8))], results := [(.sl (.int .u8))], own := some [some 5], fn := N_slices_Clone_byte_byte }
noncomputable def s75 : VSpec := { params := [(.st .Disk)], results := [(.st .Disk)], own := some [some 179, some 181], fn := N_disk_Twin }
noncomputable def s76 : VSpec := { params := [(.st .End)], results := [(.st .End)], own := none, fn := N_sess_Twin }
noncomputable def s77 : VSpec := { params := [(.sl (.st .Rec))], results := [(.sl (.st .Rec))], own := some [some 62], fn := N_slices_Clone_api_Rec_api_Rec }
noncomputable def s78 : VSpec := { params := [(.sl (.int .i64))], results := [(.sl (.int .i64))], own := some [some 3], fn := N_slices_Clone_int_int }
noncomputable def s81 : VSpec := { params := [(.sl (.int .u8))], results := [(.sl (.int .u8))], own := none, fn := N_bytes_Clone }
noncomputable def s82 : VSpec := { params := [(.sl (.st .Sent))], results := [(.sl (.st .Sent))], own := some [some 151], fn := N_slices_Clone_api_Sent_api_Sent }
noncomputable def s83 : VSpec := { params := [(.sl (.st .Wait))], results := [(.sl (.st .Wait))], own := some [some 154], fn := N_slices_Clone_api_Wait_api_Wait }
noncomputable def s86 : VSpec := { params := [(.st .Msg)], results := [(.st .Msg)], own := none, fn := N_msg_Twin }
noncomputable def s87 : VSpec := { params := [(.st .Reply)], results := [(.st .Reply)], own := none, fn := N_act_reply }
noncomputable def s22 : VSpec := { params := [(.st .Site)], results := [(.st .Site)], own := some [none, none, none, some 84, none, some 68, some 73, some 101, some 66, some 3], fn := N_act_Twin }
noncomputable def s132 : VSpec := { params := [(.int .i64)], results := [(.st .Queue), (.int .i64)], own := none, fn := N_ring_New }
noncomputable def s199 : VSpec := { params := [(.st .Disk), (.sl (.int .u8))], results := [(.st .Disk), (.int .i64)], own := none, fn := N_disk_Crash }
noncomputable def s200 : VSpec := { params := [(.sl (.int .u8)), (.int .i64)], results := [(.sl (.int .u8))], own := some [some 5], fn := N_slices_Repeat_uint8_uint8 }
noncomputable def s133 : VSpec := { params := [(.st .Disk)], results := [(.st .Disk), (.int .i64)], own := none, fn := N_disk_Flush }
noncomputable def s201 : VSpec := { params := [(.st .Disk), (.int .i64)], results := [(.int .i64)], own := none, fn := N_disk_asked }
noncomputable def s134 : VSpec := { params := [(.st .Disk), (.int .i64), (.sl (.int .u8))], results := [(.st .Disk), (.int .i64)], own := none, fn := N_disk_Write }
noncomputable def s231 : VSpec := { params := [], results := [(.sl (.int .i64))], own := none, fn := N_msg_sizes }
noncomputable def s232 : VSpec := { params := [(.sl (.sl (.int .u8)))], results := [(.sl (.int .u8))], own := none, fn := N_slices_Concat_byte_byte }
noncomputable def s203 : VSpec := { params := [(.st .Msg)], results := [(.sl (.int .u8)), (.int .i64)], own := none, fn := N_msg_Write }
noncomputable def s16 : VSpec := { params := [(.st .Config), (.st .Site)], results := [(.st .Site), (.int .i64)], own := none, fn := N_act_Do }
noncomputable def s17 : VSpec := { params := [], results := [(.st .Config)], own := none, fn := N_law21_two }
noncomputable def s94 : VSpec := { params := [(.int .i64), (.sl (.int .i64))], results := [(.sl (.int .u8)), (.int .i64)], own := none, fn := N_bits_Of }
noncomputable def s23 : VSpec := { params := [(.st .Config)], results := [(.st .Side), (.int .i64)], own := none, fn := N_act_Side }
noncomputable def s51 : VSpec := { params := [(.int .i64)], results := [(.st .Disk), (.int .i64)], own := none, fn := N_disk_New }
noncomputable def s52 : VSpec := { params := [(.int .u32)], results := [(.st .End), (.int .i64)], own := none, fn := N_sess_New }
noncomputable def s15 : VSpec := { params := [], results := [(.st .Site), .bool], own := none, fn := N_law21_blank }
noncomputable def s19 : VSpec := { params := [], results := [.bool], own := none, fn := N_law21_alive }
end Go.Cat

set_option maxHeartbeats 0
namespace Go.Cat
open Go Go.Proofs.Tryz
noncomputable def env29 : Env := { ty := tys, specs := [], inl := [(29, f29)], hints := hnts }
theorem T_ref05_Great (x : TT [(.st .Disk), (.int .i64)]) : (fnTree env29 29 [(.st .Disk), (.int .i64)] [.bool] x).den = D_ref05_Great x.1 x.2.1 := by kernel_rfl
theorem C_ref05_Great : SpecOk Go.Proofs.Tryz.prog 29 s29 :=
  (fnTree_spec (E := env29) (tysOk_of tys_ok) (specSound_of specsOk_nil) mixed_ok (inlOk_of (inlB_cons func29 nm_29 inlB_nil)) en_29 [(.st .Disk), (.int .i64)] [.bool]).weaken (fun x r hx hn => (T_ref05_Great x).trans (Q_ref05_Great x r hx hn))
noncomputable def env30 : Env := { ty := tys, specs := [], inl := [(30, f30)], hints := hnts }
theorem T_ref21_greatWords (x : TT [(.st .Site)]) : (fnTree env30 30 [(.st .Site)] [.bool] x).den = D_ref21_greatWords x.1 := by kernel_rfl
theorem C_ref21_greatWords : SpecOk Go.Proofs.Tryz.prog 30 s30 :=
  (fnTree_spec (E := env30) (tysOk_of tys_ok) (specSound_of specsOk_nil) mixed_ok (inlOk_of (inlB_cons func30 nm_30 inlB_nil)) en_30 [(.st .Site)] [.bool]).weaken (fun x r hx hn => (T_ref21_greatWords x).trans (Q_ref21_greatWords x r hx hn))
noncomputable def env8 : Env := { ty := tys, specs := [(29, s29), (30, s30)], inl := [(8, f8)], hints := hnts }
theorem T_ref21_Great (x : TT [(.st .Site)]) : (fnTree env8 8 [(.st .Site)] [.bool] x).den = D_ref21_Great x.1 := by kernel_rfl
theorem C_ref21_Great : SpecOk Go.Proofs.Tryz.prog 8 s8 :=
  (fnTree_spec (E := env8) (tysOk_of tys_ok) (specSound_of (specsOk_cons C_ref05_Great (specsOk_cons C_ref21_greatWords specsOk_nil))) mixed_ok (inlOk_of (inlB_cons func8 nm_8 inlB_nil)) en_8 [(.st .Site)] [.bool]).weaken (fun x r hx hn => (T_ref21_Great x).trans (Q_ref21_Great x r hx hn))
noncomputable def env31 : Env := { ty := tys, specs := [], inl := [(31, f31)], hints := hnts }
theorem T_ref05_Twin (x : TT [(.st .Disk)]) : (fnTree env31 31 [(.st .Disk)] [(.st .Disk)] x).den = D_ref05_Twin x.1 := by kernel_rfl
theorem C_ref05_Twin : SpecOk Go.Proofs.Tryz.prog 31 s31 :=
  (fnTree_spec (E := env31) (tysOk_of tys_ok) (specSound_of specsOk_nil) mixed_ok (inlOk_of (inlB_cons func31 nm_31 inlB_nil)) en_31 [(.st .Disk)] [(.st .Disk)]).weaken (fun x r hx hn => (T_ref05_Twin x).trans (Q_ref05_Twin x r hx hn))
noncomputable def env32 : Env := { ty := tys, specs := [], inl := [(32, f32)], hints := hnts }
theorem T_ref12_Twin (x : TT [(.st .Meta)]) : (fnTree env32 32 [(.st .Meta)] [(.st .Meta)] x).den = D_ref12_Twin x.1 := by kernel_rfl
theorem C_ref12_Twin : SpecOk Go.Proofs.Tryz.prog 32 s32 :=
  (fnTree_spec (E := env32) (tysOk_of tys_ok) (specSound_of specsOk_nil) mixed_ok (inlOk_of (inlB_cons func32 nm_32 inlB_nil)) en_32 [(.st .Meta)] [(.st .Meta)]).weaken (fun x r hx hn => (T_ref12_Twin x).trans (Q_ref12_Twin x r hx hn))
noncomputable def env183 : Env := { ty := tys, specs := [], inl := [(183, f183)], hints := hnts }
theorem T_ref04_TwinAll (x : TT [(.sl (.sl (.int .u8)))]) : (fnTree env183 183 [(.sl (.sl (.int .u8)))] [(.sl (.sl (.int .u8)))] x).den = D_ref04_TwinAll x.1 := by kernel_rfl
theorem C_ref04_TwinAll : SpecOk Go.Proofs.Tryz.prog 183 s183 :=
  (fnTree_spec (E := env183) (tysOk_of tys_ok) (specSound_of specsOk_nil) mixed_ok (inlOk_of (inlB_cons func183 nm_183 inlB_nil)) en_183 [(.sl (.sl (.int .u8)))] [(.sl (.sl (.int .u8)))]).weaken (fun x r hx hn => (T_ref04_TwinAll x).trans (Q_ref04_TwinAll x r hx hn))
noncomputable def env33 : Env := { ty := tys, specs := [(183, s183)], inl := [(33, f33), (111, f111)], hints := hnts }
theorem T_ref17_Twin (x : TT [(.st .End)]) : (fnTree env33 33 [(.st .End)] [(.st .End)] x).den = D_ref17_Twin x.1 := by kernel_rfl
theorem C_ref17_Twin : SpecOk Go.Proofs.Tryz.prog 33 s33 :=
  (fnTree_spec (E := env33) (tysOk_of tys_ok) (specSound_of (specsOk_cons C_ref04_TwinAll specsOk_nil)) mixed_ok (inlOk_of (inlB_cons func33 nm_33 (inlB_cons func111 nm_111 inlB_nil))) en_33 [(.st .End)] [(.st .End)]).weaken (fun x r hx hn => (T_ref17_Twin x).trans (Q_ref17_Twin x r hx hn))
noncomputable def env35 : Env := { ty := tys, specs := [], inl := [(35, f35)], hints := hnts }
theorem T_ref21_bytes (x : TT [(.sl (.int .u8))]) : (fnTree env35 35 [(.sl (.int .u8))] [(.sl (.int .u8))] x).den = D_ref21_bytes x.1 := by kernel_rfl
theorem C_ref21_bytes : SpecOk Go.Proofs.Tryz.prog 35 s35 :=
  (fnTree_spec (E := env35) (tysOk_of tys_ok) (specSound_of specsOk_nil) mixed_ok (inlOk_of (inlB_cons func35 nm_35 inlB_nil)) en_35 [(.sl (.int .u8))] [(.sl (.int .u8))]).weaken (fun x r hx hn => (T_ref21_bytes x).trans (Q_ref21_bytes x r hx hn))
noncomputable def env34 : Env := { ty := tys, specs := [(35, s35)], inl := [(34, f34)], hints := hnts }
theorem T_ref21_TwinSide (x : TT [(.st .Side)]) : (fnTree env34 34 [(.st .Side)] [(.st .Side)] x).den = D_ref21_TwinSide x.1 := by kernel_rfl
theorem C_ref21_TwinSide : SpecOk Go.Proofs.Tryz.prog 34 s34 :=
  (fnTree_spec (E := env34) (tysOk_of tys_ok) (specSound_of (specsOk_cons C_ref21_bytes specsOk_nil)) mixed_ok (inlOk_of (inlB_cons func34 nm_34 inlB_nil)) en_34 [(.st .Side)] [(.st .Side)]).weaken (fun x r hx hn => (T_ref21_TwinSide x).trans (Q_ref21_TwinSide x r hx hn))
noncomputable def env36 : Env := { ty := tys, specs := [], inl := [(36, f36)], hints := hnts }
theorem T_ref20_Twin (x : TT [(.st .Msg)]) : (fnTree env36 36 [(.st .Msg)] [(.st .Msg)] x).den = D_ref20_Twin x.1 := by kernel_rfl
theorem C_ref20_Twin : SpecOk Go.Proofs.Tryz.prog 36 s36 :=
  (fnTree_spec (E := env36) (tysOk_of tys_ok) (specSound_of specsOk_nil) mixed_ok (inlOk_of (inlB_cons func36 nm_36 inlB_nil)) en_36 [(.st .Msg)] [(.st .Msg)]).weaken (fun x r hx hn => (T_ref20_Twin x).trans (Q_ref20_Twin x r hx hn))
noncomputable def env9 : Env := { ty := tys, specs := [(31, s31), (32, s32), (33, s33), (34, s34), (35, s35), (36, s36)], inl := [(9, f9)], hints := hnts }
theorem T_ref21_Twin (x : TT [(.st .Site)]) : (fnTree env9 9 [(.st .Site)] [(.st .Site)] x).den = D_ref21_Twin x.1 := by kernel_rfl
theorem C_ref21_Twin : SpecOk Go.Proofs.Tryz.prog 9 s9 :=
  (fnTree_spec (E := env9) (tysOk_of tys_ok) (specSound_of (specsOk_cons C_ref05_Twin (specsOk_cons C_ref12_Twin (specsOk_cons C_ref17_Twin (specsOk_cons C_ref21_TwinSide (specsOk_cons C_ref21_bytes (specsOk_cons C_ref20_Twin specsOk_nil))))))) mixed_ok (inlOk_of (inlB_cons func9 nm_9 inlB_nil)) en_9 [(.st .Site)] [(.st .Site)]).weaken (fun x r hx hn => (T_ref21_Twin x).trans (Q_ref21_Twin x r hx hn))
noncomputable def env26 : Env := { ty := tys, specs := [], inl := [(26, f26)], hints := hnts }
theorem T_ref21_SameSide (x : TT [(.st .Side), (.st .Side)]) : (fnTree env26 26 [(.st .Side), (.st .Side)] [.bool] x).den = D_ref21_SameSide x.1 x.2.1 := by kernel_rfl
theorem C_ref21_SameSide : SpecOk Go.Proofs.Tryz.prog 26 s26 :=
  (fnTree_spec (E := env26) (tysOk_of tys_ok) (specSound_of specsOk_nil) mixed_ok (inlOk_of (inlB_cons func26 nm_26 inlB_nil)) en_26 [(.st .Side), (.st .Side)] [.bool]).weaken (fun x r hx hn => (T_ref21_SameSide x).trans (Q_ref21_SameSide x r hx hn))
noncomputable def env42 : Env := { ty := tys, specs := [], inl := [(42, f42)], hints := hnts }
theorem T_ref05_Same (x : TT [(.st .Disk), (.st .Disk)]) : (fnTree env42 42 [(.st .Disk), (.st .Disk)] [.bool] x).den = D_ref05_Same x.1 x.2.1 := by kernel_rfl
theorem C_ref05_Same : SpecOk Go.Proofs.Tryz.prog 42 s42 :=
  (fnTree_spec (E := env42) (tysOk_of tys_ok) (specSound_of specsOk_nil) mixed_ok (inlOk_of (inlB_cons func42 nm_42 inlB_nil)) en_42 [(.st .Disk), (.st .Disk)] [.bool]).weaken (fun x r hx hn => (T_ref05_Same x).trans (Q_ref05_Same x r hx hn))
noncomputable def env125 : Env := { ty := tys, specs := [], inl := [(125, f125)], hints := hnts }
theorem T_ref11_Same (x : TT [(.sl (.st .Rec)), (.sl (.st .Rec))]) : (fnTree env125 125 [(.sl (.st .Rec)), (.sl (.st .Rec))] [.bool] x).den = D_ref11_Same x.1 x.2.1 := by kernel_rfl
theorem C_ref11_Same : SpecOk Go.Proofs.Tryz.prog 125 s125 :=
  (fnTree_spec (E := env125) (tysOk_of tys_ok) (specSound_of specsOk_nil) mixed_ok (inlOk_of (inlB_cons func125 nm_125 inlB_nil)) en_125 [(.sl (.st .Rec)), (.sl (.st .Rec))] [.bool]).weaken (fun x r hx hn => (T_ref11_Same x).trans (Q_ref11_Same x r hx hn))
noncomputable def env43 : Env := { ty := tys, specs := [(125, s125)], inl := [(43, f43)], hints := hnts }
theorem T_ref12_Same (x : TT [(.st .Meta), (.st .Meta)]) : (fnTree env43 43 [(.st .Meta), (.st .Meta)] [.bool] x).den = D_ref12_Same x.1 x.2.1 := by kernel_rfl
theorem C_ref12_Same : SpecOk Go.Proofs.Tryz.prog 43 s43 :=
  (fnTree_spec (E := env43) (tysOk_of tys_ok) (specSound_of (specsOk_cons C_ref11_Same specsOk_nil)) mixed_ok (inlOk_of (inlB_cons func43 nm_43 inlB_nil)) en_43 [(.st .Meta), (.st .Meta)] [.bool]).weaken (fun x r hx hn => (T_ref12_Same x).trans (Q_ref12_Same x r hx hn))
end Go.Cat

set_option maxHeartbeats 0
namespace Go.Cat
open Go Go.Proofs.Tryz
noncomputable def env196 : Env := { ty := tys, specs := [], inl := [(196, f196)], hints := hnts }
theorem T_ref04_SameAll (x : TT [(.sl (.sl (.int .u8))), (.sl (.sl (.int .u8)))]) : (fnTree env196 196 [(.sl (.sl (.int .u8))), (.sl (.sl (.int .u8)))] [.bool] x).den = D_ref04_SameAll x.1 x.2.1 := by kernel_rfl
theorem C_ref04_SameAll : SpecOk Go.Proofs.Tryz.prog 196 s196 :=
  (fnTree_spec (E := env196) (tysOk_of tys_ok) (specSound_of specsOk_nil) mixed_ok (inlOk_of (inlB_cons func196 nm_196 inlB_nil)) en_196 [(.sl (.sl (.int .u8))), (.sl (.sl (.int .u8)))] [.bool]).weaken (fun x r hx hn => (T_ref04_SameAll x).trans (Q_ref04_SameAll x r hx hn))
noncomputable def env126 : Env := { ty := tys, specs := [(196, s196)], inl := [(126, f126)], hints := hnts }
theorem T_ref04_Same (x : TT [(.st .Queue), (.st .Queue)]) : (fnTree env126 126 [(.st .Queue), (.st .Queue)] [.bool] x).den = D_ref04_Same x.1 x.2.1 := by kernel_rfl
theorem C_ref04_Same : SpecOk Go.Proofs.Tryz.prog 126 s126 :=
  (fnTree_spec (E := env126) (tysOk_of tys_ok) (specSound_of (specsOk_cons C_ref04_SameAll specsOk_nil)) mixed_ok (inlOk_of (inlB_cons func126 nm_126 inlB_nil)) en_126 [(.st .Queue), (.st .Queue)] [.bool]).weaken (fun x r hx hn => (T_ref04_Same x).trans (Q_ref04_Same x r hx hn))
noncomputable def env44 : Env := { ty := tys, specs := [(126, s126)], inl := [(44, f44)], hints := hnts }
theorem T_ref17_Same (x : TT [(.st .End), (.st .End)]) : (fnTree env44 44 [(.st .End), (.st .End)] [.bool] x).den = D_ref17_Same x.1 x.2.1 := by kernel_rfl
theorem C_ref17_Same : SpecOk Go.Proofs.Tryz.prog 44 s44 :=
  (fnTree_spec (E := env44) (tysOk_of tys_ok) (specSound_of (specsOk_cons C_ref04_Same specsOk_nil)) mixed_ok (inlOk_of (inlB_cons func44 nm_44 inlB_nil)) en_44 [(.st .End), (.st .End)] [.bool]).weaken (fun x r hx hn => (T_ref17_Same x).trans (Q_ref17_Same x r hx hn))
noncomputable def env127 : Env := { ty := tys, specs := [], inl := [(127, f127)], hints := hnts }
theorem T_ref20_Same (x : TT [(.st .Msg), (.st .Msg)]) : (fnTree env127 127 [(.st .Msg), (.st .Msg)] [.bool] x).den = D_ref20_Same x.1 x.2.1 := by kernel_rfl
theorem C_ref20_Same : SpecOk Go.Proofs.Tryz.prog 127 s127 :=
  (fnTree_spec (E := env127) (tysOk_of tys_ok) (specSound_of specsOk_nil) mixed_ok (inlOk_of (inlB_cons func127 nm_127 inlB_nil)) en_127 [(.st .Msg), (.st .Msg)] [.bool]).weaken (fun x r hx hn => (T_ref20_Same x).trans (Q_ref20_Same x r hx hn))
noncomputable def env128 : Env := { ty := tys, specs := [], inl := [(128, f128)], hints := hnts }
theorem T_ref21_SameReply (x : TT [(.st .Reply), (.st .Reply)]) : (fnTree env128 128 [(.st .Reply), (.st .Reply)] [.bool] x).den = D_ref21_SameReply x.1 x.2.1 := by kernel_rfl
theorem C_ref21_SameReply : SpecOk Go.Proofs.Tryz.prog 128 s128 :=
  (fnTree_spec (E := env128) (tysOk_of tys_ok) (specSound_of specsOk_nil) mixed_ok (inlOk_of (inlB_cons func128 nm_128 inlB_nil)) en_128 [(.st .Reply), (.st .Reply)] [.bool]).weaken (fun x r hx hn => (T_ref21_SameReply x).trans (Q_ref21_SameReply x r hx hn))
noncomputable def env45 : Env := { ty := tys, specs := [(127, s127), (128, s128)], inl := [(45, f45)], hints := hnts }
theorem T_ref21_samePlan (x : TT [(.sl (.st .Act)), (.sl (.st .Act))]) : (fnTree env45 45 [(.sl (.st .Act)), (.sl (.st .Act))] [.bool] x).den = D_ref21_samePlan x.1 x.2.1 := by kernel_rfl
theorem C_ref21_samePlan : SpecOk Go.Proofs.Tryz.prog 45 s45 :=
  (fnTree_spec (E := env45) (tysOk_of tys_ok) (specSound_of (specsOk_cons C_ref20_Same (specsOk_cons C_ref21_SameReply specsOk_nil))) mixed_ok (inlOk_of (inlB_cons func45 nm_45 inlB_nil)) en_45 [(.sl (.st .Act)), (.sl (.st .Act))] [.bool]).weaken (fun x r hx hn => (T_ref21_samePlan x).trans (Q_ref21_samePlan x r hx hn))
noncomputable def env46 : Env := { ty := tys, specs := [(127, s127)], inl := [(46, f46)], hints := hnts }
theorem T_ref21_sameCome (x : TT [(.st .Site), (.st .Site)]) : (fnTree env46 46 [(.st .Site), (.st .Site)] [.bool] x).den = D_ref21_sameCome x.1 x.2.1 := by kernel_rfl
theorem C_ref21_sameCome : SpecOk Go.Proofs.Tryz.prog 46 s46 :=
  (fnTree_spec (E := env46) (tysOk_of tys_ok) (specSound_of (specsOk_cons C_ref20_Same specsOk_nil)) mixed_ok (inlOk_of (inlB_cons func46 nm_46 inlB_nil)) en_46 [(.st .Site), (.st .Site)] [.bool]).weaken (fun x r hx hn => (T_ref21_sameCome x).trans (Q_ref21_sameCome x r hx hn))
noncomputable def env47 : Env := { ty := tys, specs := [(128, s128)], inl := [(47, f47)], hints := hnts }
theorem T_ref21_SameReplies (x : TT [(.sl (.st .Reply)), (.sl (.st .Reply))]) : (fnTree env47 47 [(.sl (.st .Reply)), (.sl (.st .Reply))] [.bool] x).den = D_ref21_SameReplies x.1 x.2.1 := by kernel_rfl
theorem C_ref21_SameReplies : SpecOk Go.Proofs.Tryz.prog 47 s47 :=
  (fnTree_spec (E := env47) (tysOk_of tys_ok) (specSound_of (specsOk_cons C_ref21_SameReply specsOk_nil)) mixed_ok (inlOk_of (inlB_cons func47 nm_47 inlB_nil)) en_47 [(.sl (.st .Reply)), (.sl (.st .Reply))] [.bool]).weaken (fun x r hx hn => (T_ref21_SameReplies x).trans (Q_ref21_SameReplies x r hx hn))
noncomputable def env12 : Env := { ty := tys, specs := [(26, s26), (42, s42), (43, s43), (44, s44), (45, s45), (46, s46), (47, s47)], inl := [(12, f12)], hints := hnts }
theorem T_ref21_Same (x : TT [(.st .Site), (.st .Site)]) : (fnTree env12 12 [(.st .Site), (.st .Site)] [.bool] x).den = D_ref21_Same x.1 x.2.1 := by kernel_rfl
theorem C_ref21_Same : SpecOk Go.Proofs.Tryz.prog 12 s12 :=
  (fnTree_spec (E := env12) (tysOk_of tys_ok) (specSound_of (specsOk_cons C_ref21_SameSide (specsOk_cons C_ref05_Same (specsOk_cons C_ref12_Same (specsOk_cons C_ref17_Same (specsOk_cons C_ref21_samePlan (specsOk_cons C_ref21_sameCome (specsOk_cons C_ref21_SameReplies specsOk_nil)))))))) mixed_ok (inlOk_of (inlB_cons func12 nm_12 inlB_nil)) en_12 [(.st .Site), (.st .Site)] [.bool]).weaken (fun x r hx hn => (T_ref21_Same x).trans (Q_ref21_Same x r hx hn))
noncomputable def env144 : Env := { ty := tys, specs := [], inl := [(144, f144)], hints := hnts }
theorem T_place_within (x : TT [(.sl (.st .Bound))]) : (fnTree env144 144 [(.sl (.st .Bound))] [.bool] x).den = D_place_within x.1 := by kernel_rfl
theorem C_place_within : SpecOk Go.Proofs.Tryz.prog 144 s144 :=
  (fnTree_spec (E := env144) (tysOk_of tys_ok) (specSound_of specsOk_nil) mixed_ok (inlOk_of (inlB_cons func144 nm_144 inlB_nil)) en_144 [(.sl (.st .Bound))] [.bool]).weaken (fun x r hx hn => (T_place_within x).trans (Q_place_within x r hx hn))
noncomputable def env57 : Env := { ty := tys, specs := [(144, s144)], inl := [(57, f57)], hints := hnts }
theorem T_place_Check (x : TT [(.st .Config)]) : (fnTree env57 57 [(.st .Config)] [(.int .i64)] x).den = D_place_Check x.1 := by kernel_rfl
theorem C_place_Check : SpecOk Go.Proofs.Tryz.prog 57 s57 :=
  (fnTree_spec (E := env57) (tysOk_of tys_ok) (specSound_of (specsOk_cons C_place_within specsOk_nil)) mixed_ok (inlOk_of (inlB_cons func57 nm_57 inlB_nil)) en_57 [(.st .Config)] [(.int .i64)]).weaken (fun x r hx hn => (T_place_Check x).trans (Q_place_Check x r hx hn))
noncomputable def env143 : Env := { ty := tys, specs := [], inl := [(143, f143)], hints := hnts }
theorem T_ring_round_byte_at (x : TT [(.st .Round), (.int .i64)]) : (fnTree env143 143 [(.st .Round), (.int .i64)] [(.int .i64)] x).den = D_ring_round_byte_at x.1 x.2.1 := by kernel_rfl
theorem C_ring_round_byte_at : SpecOk Go.Proofs.Tryz.prog 143 s143 :=
  (fnTree_spec (E := env143) (tysOk_of tys_ok) (specSound_of specsOk_nil) mixed_ok (inlOk_of (inlB_cons func143 nm_143 inlB_nil)) en_143 [(.st .Round), (.int .i64)] [(.int .i64)]).weaken (fun x r hx hn => (T_ring_round_byte_at x).trans (Q_ring_round_byte_at x r hx hn))
noncomputable def env139 : Env := { ty := tys, specs := [(143, s143)], inl := [(139, f139), (142, f142)], hints := hnts }
theorem T_ring_Check (x : TT [(.st .Queue)]) : (fnTree env139 139 [(.st .Queue)] [(.int .i64)] x).den = D_ring_Check x.1 := by kernel_rfl
theorem C_ring_Check : SpecOk Go.Proofs.Tryz.prog 139 s139 :=
  (fnTree_spec (E := env139) (tysOk_of tys_ok) (specSound_of (specsOk_cons C_ring_round_byte_at specsOk_nil)) mixed_ok (inlOk_of (inlB_cons func139 nm_139 (inlB_cons func142 nm_142 inlB_nil))) en_139 [(.st .Queue)] [(.int .i64)]).weaken (fun x r hx hn => (T_ring_Check x).trans (Q_ring_Check x r hx hn))
noncomputable def env141 : Env := { ty := tys, specs := [], inl := [(141, f141)], hints := hnts }
theorem T_ring_text (x : TT [(.sl (.int .u8))]) : (fnTree env141 141 [(.sl (.int .u8))] [(.sl (.int .u8))] x).den = D_ring_text x.1 := by kernel_rfl
theorem C_ring_text : SpecOk Go.Proofs.Tryz.prog 141 s141 :=
  (fnTree_spec (E := env141) (tysOk_of tys_ok) (specSound_of specsOk_nil) mixed_ok (inlOk_of (inlB_cons func141 nm_141 inlB_nil)) en_141 [(.sl (.int .u8))] [(.sl (.int .u8))]).weaken (fun x r hx hn => (T_ring_text x).trans (Q_ring_text x r hx hn))
end Go.Cat

namespace Go.Cat
open Go Go.Proofs Go.RowKit Go.Shelf
attribute [local go_sem] Oper.semAt_some
set_option maxRecDepth 100000 in
set_option maxHeartbeats 2000000 in
theorem ring_at_in (F : Fence) (n : Nat) (h : F.fn 143) (hro : F.round = none) (a : Option Addr) (len cap : Nat) (fr mn k : Int) (w : World) (hlen : 0 < len) :
    CallsIn F n Tryz.prog 143 #[.agg #[.slice a len cap, .int .i64 fr, .int .i64 mn], .int .i64 k] w fun e w' => e = .returned (.int .i64 (Int.tmod (wrap64 (fr + k)) len)) ∧ w' = w.alloc (.cells #[.slice a len cap, .int .i64 fr, .int .i64 mn] 215) := by
  refine callsIn_of_wp Tryz.func143 rfl h ?_ hro
  simp only [Tryz.ntmps143, List.size_toArray, List.length_cons, List.length_nil, Nat.reduceAdd, Nat.reduceSub, Array.replicate_succ, Array.replicate_zero, List.push_toArray, List.append_toArray, List.nil_append, List.cons_append]
  gi_wp2
  go_ret
  exact ⟨rfl, rfl⟩
theorem take_next {α : Type} (ys : List α) (k : Nat) (h : k < ys.length) : ys.take (k + 1) = ys.take k ++ [ys[k]] := by
  rw [List.take_succ_eq_append_getElem h]
set_option maxRecDepth 100000 in
set_option maxHeartbeats 4000000 in
theorem ring_used1_in {α : Type} (enc : α → Value) (ys : List α) (n : Nat) (l Bs b off len cap : Nat) (fr : Int) (hlen : 0 < len) (hmn : ys.length ≤ 64) (idx : Nat → Nat)
    (hidx : ∀ k, k < ys.length → Int.tmod (wrap64 (fr + (k : Int))) (len : Int) = (idx k : Int) ∧ idx k < len) (G : World → Prop) (hGa : ∀ W o, G W → G (W.alloc o)) (hGd : ∀ W, G W → G W.drew)
    (hG0 : ∀ W, G W → W.cell? ⟨Bs, 0, none⟩ = some (.slice (some ⟨b, off, none⟩) len cap)) (hG1 : ∀ W, G W → W.cell? ⟨Bs, 1, none⟩ = some (.int .i64 fr)) (hG2 : ∀ W, G W → W.cell? ⟨Bs, 2, none⟩ = some (.int .i64 (ys.length : Int)))
    (hGc : ∀ W, G W → ∀ j (h : j < ys.length), W.cell? ⟨b, off + idx j, none⟩ = some (enc ys[j])) (J Jx : List α → World → Prop) (W : World) (hJa : AbidesFrom W.heap.size J)
    (hY : ∀ pre x W, J pre W → pre.length < ys.length → YieldAt Fence.wide (n - 1) Tryz.prog l #[enc x] W fun e W' =>
      (e = .returned (.bool true) ∧ J (pre ++ [x]) W' ∧ (G W → G W')) ∨ (e = .returned (.bool false) ∧ Jx (pre ++ [x]) W'))
    (hGW : G W) (h0 : J [] W) :
    CallsIn Fence.wide n Tryz.prog 233 #[.func (.yield l) #[] #[], .pointer (some ⟨Bs, 0, none⟩)] W fun e W' => (∃ v, e = .returned v) ∧
      ((∃ xs, xs = ys ∧ J xs W') ∨ (∃ pre, True ∧ Jx pre W')) := by
  have hm : Tryz.prog.follows .mixedOrders = true := by kernel_rfl
  have c0 := hG0 W hGW
  have c1 := hG1 W hGW
  have c2 := hG2 W hGW
  refine callsIn_of_wp Tryz.func233 rfl trivial ?_ rfl
  simp only [Tryz.ntmps233, List.size_toArray, List.length_cons, List.length_nil, Nat.reduceAdd, Nat.reduceSub, Array.replicate_succ, Array.replicate_zero, List.push_toArray, List.append_toArray, List.nil_append, List.cons_append]
  gi_wp2
  gi_loopw [6] (fun i wr => ∃ k : Nat, k ≤ ys.length ∧ i = .int .i64 k ∧ J (ys.take k) wr ∧ G wr)
    (fun i _ => ys.length - (intOf i).toNat)
  case atStart => exact ⟨0, Nat.zero_le _, rfl, h0, hGW⟩
  case round =>
    obtain ⟨k, hk, rfl, hJs, hnx⟩ := hrel
    by_cases hlt : k < ys.length
    · obtain ⟨i1, i2⟩ := hidx k hlt
      have e0 := hG0 wr hnx
      have e1 := hG1 wr hnx
      have e2 := hG2 wr hnx
      have e3 := hGc wr hnx k hlt
      let o : Obj := .cells #[.slice (some ⟨b, off, none⟩) len cap, .int .i64 fr, .int .i64 ys.length] 215
      have a0 := hG0 _ (hGa wr o hnx)
      have a1 := hG1 _ (hGa wr o hnx)
      have a2 := hG2 _ (hGa wr o hnx)
      have a3 := hGc _ (hGa wr o hnx) k hlt
      have hJ1 : J (ys.take k) (wr.alloc o).drew :=
        hJa _ wr _ none hJs ⟨rfl, rfl, rfl, by simp, fun b hb _ => Below.heap_alloc wr o b hb⟩ (fun r e => by cases e)
      obtain ⟨fn, tmps, assign, body, hy, hR⟩ := hY _ ys[k] _ hJ1 (by rw [List.length_take]; omega)
      have hat : ∀ (m : Nat) (W : World), CallsIn Fence.wide m Tryz.prog 143 #[.agg #[.slice (some ⟨b, off, none⟩) len cap, .int .i64 fr, .int .i64 ys.length], .int .i64 k] W fun e w' => e = .returned (.int .i64 (idx k)) ∧ w' = W.alloc o := fun m W => by
        have := ring_at_in Fence.wide m trivial rfl (some ⟨b, off, none⟩) len cap fr ys.length k W hlen
        rwa [i1] at this
      have q1 : (0 : Int) ≤ (idx k : Int) := by omega
      have q2 : (idx k : Int) < (len : Int) := by omega
      gi_wp2
      have hR' : RoundIn Fence.wide (n - 1) Tryz.prog l fn tmps assign body (wr.alloc o).drew fun e W' => ∃ t : Bool, e = .returned (.bool t) ∧ ((t = true ∧ J (ys.take (k + 1)) W' ∧ G W') ∨ (t = false ∧ Jx (ys.take (k + 1)) W')) := by
        refine hR.mono ?_
        rintro e W' (⟨rfl, h1, h2⟩ | ⟨rfl, h1⟩)
        · exact ⟨true, rfl, .inl ⟨rfl, by rw [take_next _ _ hlt]; exact h1, h2 (hGd _ (hGa _ _ hnx))⟩⟩
        · exact ⟨false, rfl, .inr ⟨rfl, by rw [take_next _ _ hlt]; exact h1⟩⟩
      gi_region_with_o (first
        | (refine ⟨trivial, (fun h => by cases h), ?_⟩; refine (hat _ _).mono ?_; rintro e w' ⟨rfl, rfl⟩)
        | (refine ⟨(fun h => by cases h), ?_⟩; refine hR'.mono ?_; rintro e W3 ⟨t, rfl, ht⟩))
      all_goals
        rcases ht with ⟨rfl, hJ3, hk3⟩ | ⟨rfl, hJx3⟩
        · gi_wp2
          go_roundw
          case rel => exact ⟨k + 1, by omega, by simp, hJ3, hk3⟩
          case measure => simp [intOf]; omega
        · gi_wp2
          refine bodyPost_ret (results_none rfl _ _ _) rfl ?_
          exact ⟨⟨_, rfl⟩, .inr ⟨_, trivial, hJx3⟩⟩
    · obtain rfl : k = ys.length := by omega
      gi_wp2
      go_end0
      exact ⟨⟨_, rfl⟩, .inl ⟨_, rfl, by simpa using hJs⟩⟩
end Go.Cat

set_option maxHeartbeats 0
namespace Go.Cat
open Go Go.Proofs.Tryz Go.RowKit
def codeL : Code → Code | .seq a _ => a | c => c
def codeR : Code → Code | .seq _ b => b | c => c
def codeB : Code → Code | .block _ b => b | c => c
def codeT : Code → Code | .cond _ a _ => a | c => c
def rangeB : Code → Code | .rangeFunc _ _ _ b => b | c => c
def regOps : Code → Array Oper | .region _ o _ => o | _ => #[]
def bodyOf (f : Func) : Code := f.body.getD .skip
noncomputable def rgB : Code := bodyOf f136
noncomputable def rg0 : Code := codeL rgB
noncomputable def rgX : Code := codeL (codeR rgB)
noncomputable def rg1 : Code := codeL rgX
noncomputable def rg2 : Code := codeL (codeR rgX)
noncomputable def rg3 : Code := codeT (codeR (codeR rgX))
noncomputable def rgY : Code := codeL (codeR (codeR rgB))
noncomputable def rg4 : Code := codeL rgY
noncomputable def rgO : Array Oper := regOps (codeB (rangeB (codeB (codeR rgY))))
noncomputable def rg7 : Code := codeR (codeR (codeR rgB))
theorem rg_body : f136.body = some (rg0.seq ((rg1.seq (rg2.seq (.cond (.tmp 9) rg3 .skip))).seq ((rg4.seq (.block 0 (.rangeFunc (.tmp 13) #[14]
    (.region 5 #[{ dst := some 5, op := .assign (.tmp 14), type := 48, pos := "ring.go:98", after := #[], guard := none }] false) (.block 1 (.region 6 rgO true))))).seq rg7))) := by kernel_rfl
noncomputable def envR : Env := { ty := tys, specs := [(139, s139), (141, s141)], inl := [(142, f142), (204, f204)], hints := hnts }
noncomputable def envR1 (r : TT [(.int .i64)]) : Env := { envR with specs := [(139, { params := [(.st .Queue)], results := [(.int .i64)], own := none, fn := fun _ => some r }), (141, s141)] }
noncomputable def rgS0 (q : Queue) : St := { tmps := [datSV (.st .Queue) q] ++ List.replicate 20 (.lit (.tuple #[])), m := { objs := fun _ => none, next := 0, wl := [] } }
noncomputable def preK (E : Env) (q : Queue) : Tr St :=
  codeK E (callK E 8) 136 rg0 (rgS0 q) fun e S => match e with
    | .normal => codeK E (callK E 8) 136 rg1 S fun e S => match e with
      | .normal => codeK E (callK E 8) 136 rg2 S fun e S => match e with
        | .normal => .ret S
        | _ => .fail
      | _ => .fail
    | _ => .fail
def St0 : St := { tmps := [], m := { objs := fun _ => none, next := 0, wl := [] } }
noncomputable def stA (q : Queue) (r : TT [(.int .i64)]) : St := (preK (envR1 r) q).den.getD St0
theorem T_pre (q : Queue) : (preK envR q).den = Option.bind (N_ring_Check (q, ())) fun r => some (stA q r) := by kernel_rfl
theorem T_bad (q : Queue) : (codeK envR (callK envR 8) 136 rg3 (stA q (8, ())) fun e S => match e with | .ret => finK envR f136 [(.sl (.sl (.int .u8))), (.int .i64)] S | _ => .fail).den = some ([], (8, ())) := by kernel_rfl
theorem T_c8 (q : Queue) : tmpAt (stA q (8, ())).tmps 9 = .leaf (.bool true) := by kernel_rfl
theorem T_c0 (q : Queue) : tmpAt (stA q (0, ())).tmps 9 = .leaf (.bool false) := by kernel_rfl
noncomputable def midK (q : Queue) : Tr St := codeK envR (callK envR 8) 136 rg4 (stA q (0, ())) fun e S => match e with | .normal => .ret S | _ => .fail
noncomputable def stB (q : Queue) : St := (midK q).den.getD St0
theorem T_mid (q : Queue) : (midK q).den = some (stB q) := by kernel_rfl
noncomputable def idB (q : Queue) : Nat := match tmpAt (stB q).tmps 13 with | .fn _ _ [.bptr id _] => id | _ => 0
theorem T_box (q : Queue) : (stB q).m.objs (idB q) = some (.blk [.leaf (.sl (.sl (.int .u8)) q.items), .leaf (.int .i64 q.head), .leaf (.int .i64 q.many)]) := by kernel_rfl
noncomputable def stC (q : Queue) : St := { stB q with m := { (stB q).m with objs := putAll (stB q).m.objs (freezeAll [idB q]) } }
def rgSl : List (Nat × SigV) := [(2, .cls [.own 48 (.sl (.int .u8))])]
def rgY0 (l : List (List Int)) : SigT rgSl := ((l, ()), ())
noncomputable def rgJ (q : Queue) : List Nat := match (sigOf (stC q).tmps (stC q).tmps rgSl).run (stC q).m.objs [] with | some ((_, js), _) => js | _ => []
noncomputable def rgR (q : Queue) : List Nat := match (sigOf (stC q).tmps (stC q).tmps rgSl).run (stC q).m.objs [] with | some ((_, _), rs) => rs | _ => []
theorem T_sig (q : Queue) : (sigOf (stC q).tmps (stC q).tmps rgSl).run (stC q).m.objs [] = some ((rgY0 [], rgJ q), rgR q) := by kernel_rfl
noncomputable def rgH (q : Queue) (l : List (List Int)) : St := loopHead (stC q).tmps (stC q).m (rgJ q) rgSl (rgY0 l)
theorem T_body (q : Queue) (l : List (List Int)) (x : List Int) : (regionK envR (callK envR 8) rgO true { tmps := setT (setT (rgH q l).tmps (some 14) (.leaf (.sl (.int .u8) x))) (some 5) (.leaf (.sl (.int .u8) x)), m := (rgH q l).m } fun S' =>
      (sigOf (stC q).tmps S'.tmps rgSl).k S'.m.objs [] fun q1 _ => match q1 with
        | (y, js') => match onlyWrote (stC q).m.next (rgJ q) (js' ++ S'.m.wl) && Nat.beq S'.tmps.length (stC q).tmps.length with
          | true => .ret y
          | false => .fail).den = Option.bind (N_ring_text (x, ())) fun r => (if decide (l.length + 1 ≤ big) = true then some (rgY0 (l ++ [r.1])) else none) := by kernel_rfl
theorem T_end (q : Queue) (l : List (List Int)) : (codeK envR (callK envR 8) 136 rg7 (rgH q l) fun e S => match e with | .ret => finK envR f136 [(.sl (.sl (.int .u8))), (.int .i64)] S | _ => .fail).den = some (l, (0, ())) := by kernel_rfl
theorem T_keep (q : Queue) (y : SigT rgSl) (t : Nat) : tmpAt (loopHead (stC q).tmps (stC q).m (rgJ q) rgSl y).tmps t = .any ∨ tmpAt (loopHead (stC q).tmps (stC q).m (rgJ q) rgSl y).tmps t = tmpAt (stC q).tmps t := by
  have h2 : ∃ id, tmpAt (stC q).tmps 2 = .bptr id 0 := ⟨_, (show tmpAt (stC q).tmps 2 = .bptr (match tmpAt (stC q).tmps 2 with | .bptr id _ => id | _ => 0) 0 by kernel_rfl)⟩
  obtain ⟨id, h2⟩ := h2
  obtain ⟨⟨l, u⟩, u'⟩ := y
  have e : (loopHead (stC q).tmps (stC q).m (rgJ q) rgSl ((l, u), u')).tmps = ((stC q).tmps.map fun _ => SV.any).set 2 (.bptr id 0) := by
    simp only [loopHead, rgSl, headSig, h2]
  rw [e]
  simp only [tmpAt, List.getElem?_set, List.getElem?_map]
  split
  · rename_i ht
    subst ht
    split
    · right; simpa [tmpAt] using h2.symm
    · left; rfl
  · left
    cases (stC q).tmps[t]? <;> rfl
theorem T_fnC (q : Queue) : tmpAt (stC q).tmps 13 = .fn 233 [] [.bptr (idB q) 0] := by kernel_rfl
theorem T_nextH (q : Queue) (l : List (List Int)) : Nat.ble (stC q).m.next (rgH q l).m.next = true := by kernel_rfl
theorem T_len (q : Queue) : (stC q).tmps.length = 21 := by kernel_rfl
theorem ring_env : TysOk Go.Proofs.Tryz.prog envR ∧ SpecSound Go.Proofs.Tryz.prog envR ∧ CallDen (CallR Go.Proofs.Tryz.prog) (callK envR 8) := by
  have hE : TysOk Go.Proofs.Tryz.prog envR := tysOk_of (E := envR) tys_ok
  have hS : SpecSound Go.Proofs.Tryz.prog envR := specSound_of (E := envR) (specsOk_cons C_ring_Check (specsOk_cons C_ring_text specsOk_nil))
  have hI : InlOk Go.Proofs.Tryz.prog envR := inlOk_of (E := envR) (inlB_cons func142 nm_142 (inlB_cons func204 nm_204 inlB_nil))
  exact ⟨hE, hS, callK_den hE hS mixed_ok hI 8⟩
theorem ring_init {ro : Snap} {w : World} {q : Queue} {vs : List Value} (hH0 : HSat ⟨w, ro, []⟩ (fun _ => none) ro (fun _ => False) (fun _ => none) w) (hargs : RepTT ro [(.st .Queue)] (q, ()) vs) :
    Sat ⟨w, ro, []⟩ (fun _ => none) ro (fun _ => False) (rgS0 q) { tmps := vs.toArray ++ Array.replicate (f136.ntmps - vs.toArray.size) undef, defers := [] } w := by
  have hn : f136.ntmps = 21 := by kernel_rfl
  rw [hn]
  exact init_sat (m := { objs := fun _ => none, next := 0, wl := [] }) hH0 (repTT_L hargs) 21
attribute [local irreducible] stB idB
theorem stC_eq (q : Queue) : stC q = { stB q with m := { (stB q).m with objs := putAll (stB q).m.objs (freezeAll [idB q]) } } := by unfold stC; rfl
theorem stC_sat {q : Queue} {w0 : Pt} {β : Pl} {ro : Snap} {D : Nat → Prop} {a : Go.Act} {w : World} (h : Sat w0 β ro D { stB q with m := { (stB q).m with objs := putAll (stB q).m.objs (freezeAll [idB q]) } } a w) : Sat w0 β ro D (stC q) a w := by rw [stC_eq]; exact h
theorem stC_next (q : Queue) : (stC q).m.next = (stB q).m.next := by rw [stC_eq]
theorem stC_lt {q : Queue} {D : Nat → Prop} (h : ∀ id, D id → id < (stB q).m.next) : ∀ id, D id → id < (stC q).m.next := fun id hi => by rw [stC_next]; exact h id hi
attribute [local irreducible] stA stC rgJ rgR rgS0 codeK callK regionK finK rg0 rg1 rg2 rg3 rg4 rg7 rgO envR envR1 f136
theorem ring_list_items (q : Queue) (hq : mayQueue q = true) : (queueList q).length = q.many.toNat ∧ q.many.toNat ≤ 64 ∧ (q.many = (q.many.toNat : Int)) ∧ 0 < q.items.length ∧
    (∀ k, k < q.many.toNat → Int.tmod (RowKit.wrap64 (q.head + (k : Int))) (q.items.length : Int) = ((place q k : Nat) : Int) ∧ place q k < q.items.length) := by
  obtain ⟨h1, h2, h3, h4, h5, h6, _⟩ := (queue_iff q).1 hq
  refine ⟨by simp [queueList], by omega, (Int.toNat_of_nonneg h5).symm, by omega, fun k hk => ?_⟩
  obtain ⟨p1, p2⟩ := place_mod q k h2 h3 h4 (by omega)
  refine ⟨?_, p2⟩
  rw [wrap_i64 (by omega) (by omega)] at p1
  have : RowKit.wrap64 (q.head + (k : Int)) = q.head + k := by unfold RowKit.wrap64; omega
  rw [this]; exact p1
theorem ring_bad {q : Queue} {r : List (List Int) × (Int × Unit)} (h : N_ring_List (q, ()) = some r) (hq : ¬ mayQueue q = true) : r = ([], (8, ())) := by
  unfold N_ring_List N_ref04_List at h
  simp only at h
  rw [if_neg hq] at h
  split at h
  · exact (Option.some.inj h).symm
  · cases h
theorem ring_good {q : Queue} {r : List (List Int) × (Int × Unit)} (h : N_ring_List (q, ()) = some r) (hq : mayQueue q = true) : r = (queueList q, (0, ())) ∧ fitAll q.items = true := by
  unfold N_ring_List N_ref04_List at h
  simp only at h
  rw [if_pos hq] at h
  split at h
  · rename_i hf; exact ⟨(Option.some.inj h).symm, hf⟩
  · cases h
theorem ring_mem {q : Queue} (hq : mayQueue q = true) {k : Nat} (hk : k < q.many.toNat) : ∃ x, q.items[place q k]? = some x ∧ nth q.items (place q k) = x ∧ x ∈ queueList q ∧ x ∈ q.items := by
  obtain ⟨_, _, _, _, h5⟩ := ring_list_items q hq
  have hlt := (h5 k hk).2
  refine ⟨q.items[place q k], List.getElem?_eq_getElem hlt, by simp [nth, hlt], ?_, List.getElem_mem hlt⟩
  unfold queueList
  rw [List.mem_map]
  exact ⟨k, List.mem_range.2 hk, by simp [nth, hlt]⟩
theorem ring_small {q : Queue} (hq : mayQueue q = true) (hf : fitAll q.items = true) {x : List Int} (hx : x ∈ queueList q) : x.length ≤ 1000000 := by
  unfold queueList at hx
  rw [List.mem_map] at hx
  obtain ⟨k, hk, rfl⟩ := hx
  obtain ⟨x, h1, h2, h3, h4⟩ := ring_mem hq (List.mem_range.1 hk)
  rw [h2]
  unfold fitAll at hf
  rw [Bool.and_eq_true] at hf
  exact of_decide_eq_true (List.all_eq_true.1 hf.2 x h4)
theorem ring_seq {ro : Snap} {w : World} {q : Queue} (hq : mayQueue q = true) {g : Nat} {v0 : Value} (hle : ro.le w) (hv : Rep ro (.sl (.sl (.int .u8)) q.items) v0)
    (h0 : ∀ W, ro.le W → W.cell? ⟨g, 0, none⟩ = some v0) (h1 : ∀ W, ro.le W → W.cell? ⟨g, 1, none⟩ = some (.int .i64 q.head)) (h2 : ∀ W, ro.le W → W.cell? ⟨g, 2, none⟩ = some (.int .i64 q.many)) :
    SeqStopsK Fence.wide (3 - 1) Go.Proofs.Tryz.prog 233 #[.pointer (some ⟨g, 0, none⟩)] (fun y : ItemV ro (fun x => Leaf.sl (.int .u8) x) (queueList q) => #[y.v]) (fun W W' => ro.le W → ro.le W') (fun ys => ys.map (·.x) = queueList q) (fun _ => True) (queueList q).length w := by
  obtain ⟨r1, r2, r3, r4, r5⟩ := ring_list_items q hq
  generalize hit : q.items = its at hv
  cases hv with
  | nil => rw [hit] at r4; cases r4
  | sl _ _ a cap us q1 q2 q3 q4 q5 =>
  have hsp : a.spot = none := by
    rcases q1 with h | h
    · exact h
    · rw [hit] at r4; omega
  have hat : ∀ (k : Nat), k < q.many.toNat → ro.cell? ⟨a.block, a.off + place q k, none⟩ = some (us (place q k) 0) ∧ Rep ro (.sl (.int .u8) (nth q.items (place q k))) (us (place q k) 0) := fun k hk => by
    obtain ⟨x, m1, m2, m3, m4⟩ := ring_mem hq hk
    rw [hit] at m1
    have e1 := q4 (place q k) x 0 (.sl (.int .u8) x) m1 rfl
    have e2 := q5 (place q k) x 0 (.sl (.int .u8) x) m1 rfl
    rw [m2]
    exact ⟨by rw [show place q k * sz (EN.sl (.int .u8)) + 0 = place q k from by show place q k * 1 + 0 = _; omega] at e1; exact e1, e2⟩
  let ys : List (ItemV ro (fun x => Leaf.sl (.int .u8) x) (queueList q)) := List.ofFn (n := q.many.toNat) fun k => { v := us (place q k.1) 0, x := nth q.items (place q k.1), rep := (hat k.1 k.2).2, mem := by obtain ⟨x, m1, m2, m3, m4⟩ := ring_mem hq k.2; rw [m2]; exact m3 }
  have hlen : ys.length = q.many.toNat := by simp [ys]
  have hmap : ys.map (·.x) = queueList q := by
    refine List.ext_getElem (by simp [ys, queueList]) fun i i1 i2 => ?_
    simp [ys, queueList]
  intro l J Jx W hB hJ hJx hY hJ0
  have hGW : ro.le W := fun b o hb => by
    have hb' := hle b o hb
    rw [hB.block b (Array.getElem?_eq_some_iff.1 hb').1]; exact hb'
  have hq0 : (a : Addr) = ⟨a.block, a.off, none⟩ := by cases a; simp only at hsp; subst hsp; rfl
  refine CallsIn.mono (ring_used1_in (fun y : ItemV ro (fun x => Leaf.sl (.int .u8) x) (queueList q) => y.v) ys (3 - 1) l g a.block a.off its.length cap q.head (by rw [← hit]; exact r4) (by omega) (place q)
    (fun k hk => by rw [← hit]; exact r5 k (by omega)) ro.le (fun W o hW b ob hb => ?_) (fun W hW => hW) (fun W hW => by rw [← hq0]; exact h0 W hW) h1 (fun W hW => by rw [hlen, ← r3]; exact h2 W hW)
    (fun W hW j hj => ?_) J Jx W hJ (fun pre x W1 hpre hl => ?_) hGW hJ0) ?_
  · have hb' := hW b ob hb
    rw [Below.heap_alloc W o b (Array.getElem?_eq_some_iff.1 hb').1]; exact hb'
  · have := (hat j (by omega)).1
    rw [Snap.cell_le hW this]
    simp [ys]
  · exact hY pre x W1 hpre (by rw [r1]; omega)
  · rintro e W' ⟨hv, h⟩
    refine ⟨hv, ?_⟩
    rcases h with ⟨xs, rfl, h⟩ | ⟨pre, h1, h2⟩
    · exact .inl ⟨ys, hmap, h⟩
    · exact .inr ⟨pre, trivial, h2⟩
theorem C_ring_List : SpecOk Go.Proofs.Tryz.prog 136 s136 := by
  refine ⟨en_136, fun ro w x vs r hle hargs hr => ?_⟩
  obtain ⟨q, ⟨⟩⟩ := x
  obtain ⟨hE, hS, hcall⟩ := ring_env
  have hr' : N_ring_List (q, ()) = some r := hr
  suffices h : CallsIn Fence.wide 3 Go.Proofs.Tryz.prog 136 vs.toArray w (SpecPost ro w [(.sl (.sl (.int .u8))), (.int .i64)] r) from callsIn_wide.1 h
  refine callsIn_of_wp_marks func136 rg_body trivial ?_
  have hH0 : HSat ⟨w, ro, []⟩ (fun _ => none) ro (fun _ => False) (fun _ => none) w :=
    ⟨Base.refl w, fun _ _ => rfl, fun _ _ => rfl, hle, by simp, by simp, by simp, by simp, by simp, by simp⟩
  have hs0 : Sat ⟨w, ro, []⟩ (fun _ => none) ro (fun _ => False) (rgS0 q) { tmps := vs.toArray ++ Array.replicate (f136.ntmps - vs.toArray.size) undef, defers := [] } w :=
    ring_init hH0 hargs
  generalize ha0 : ({ tmps := vs.toArray ++ Array.replicate (f136.ntmps - vs.toArray.size) undef, defers := [] } : Go.Act) = act0 at hs0 ⊢
  obtain ⟨c, hc, hcn⟩ : ∃ c : Int, N_ring_Check (q, ()) = some (c, ()) ∧ c = (if mayQueue q = true then 0 else 8) := ⟨_, rfl, rfl⟩
  have hpre : (preK envR q).den = some (stA q (c, ())) := by rw [T_pre, hc]; rfl
  unfold preK at hpre
  obtain ⟨e1, S1, a1, f1, c1⟩ := codeK_good hE callGood hS mixed_ok loop_good hcall 136 rg0 _ _ _ hpre
  cases e1 with
  | exit i => simp [Tr.den] at a1
  | goto i => simp [Tr.den] at a1
  | ret => simp [Tr.den] at a1
  | normal =>
  simp only at a1
  obtain ⟨e2, S2, a2, f2, c2⟩ := codeK_good hE callGood hS mixed_ok loop_good hcall 136 rg1 _ _ _ a1
  cases e2 with
  | exit i => simp [Tr.den] at a2
  | goto i => simp [Tr.den] at a2
  | ret => simp [Tr.den] at a2
  | normal =>
  simp only at a2
  obtain ⟨e3, S3, a3, f3, c3⟩ := codeK_good hE callGood hS mixed_ok loop_good hcall 136 rg2 _ _ _ a2
  cases e3 with
  | exit i => simp [Tr.den] at a3
  | goto i => simp [Tr.den] at a3
  | ret => simp [Tr.den] at a3
  | normal =>
  simp only [Tr.den] at a3
  have h3 : S3 = stA q (c, ()) := Option.some.inj a3
  subst h3
  have hlt1 : ∀ id, (False ∨ ((rgS0 q).m.next ≤ id ∧ id < S1.m.next)) → id < S1.m.next := then_lt (fun _ h => h.elim) f1.1
  have hlt2 := then_lt hlt1 f2.1
  have hlt3 := then_lt hlt2 f3.1
  refine wpIn_seq (wpIn_wide.2 (c1 _ _ ro _ _ w _ (fun _ h => h.elim) hs0 fun b1 w1 β1 ro1 x1 y1 z1 => ?_))
  refine wpIn_seq (wpIn_seq (wpIn_wide.2 (c2 _ _ ro1 _ _ w1 _ hlt1 z1 fun b2 w2 β2 ro2 x2 y2 z2 => ?_)))
  refine wpIn_seq (wpIn_wide.2 (c3 _ _ ro2 _ _ w2 _ hlt2 z2 fun b3 w3 β3 ro3 x3 y3 z3 => ?_))
  by_cases hq : mayQueue q = true
  ·
    rw [if_pos hq] at hcn
    subst hcn
    refine wpIn_cond_false ?_ (wpIn_skip ?_)
    · have := z3.t 9
      rw [T_c0] at this
      cases this with | leaf h => generalize hv : b3.tmps.getD 9 undef = v at h; cases h; exact hv
    have hmid := T_mid q
    unfold midK at hmid
    obtain ⟨e4, S4, a4, f4, c4⟩ := codeK_good hE callGood hS mixed_ok loop_good hcall 136 rg4 _ _ _ hmid
    cases e4 with
    | exit i => simp [Tr.den] at a4
    | goto i => simp [Tr.den] at a4
    | ret => simp [Tr.den] at a4
    | normal =>
    simp only [Tr.den] at a4
    have h4 : S4 = stB q := Option.some.inj a4
    subst h4
    have hlt4 := then_lt hlt3 f4.1
    refine wpIn_seq (wpIn_seq (wpIn_wide.2 (c4 _ _ ro3 _ _ w3 _ hlt3 z3 fun b4 w4 β4 ro4 x4 y4 z4 => ?_)))
    refine wpIn_block ?_
    obtain ⟨hrr, hf⟩ := ring_good hr' hq
    subst hrr
    obtain ⟨hd, g, cur, hb, hg, hcur, hcell, z5⟩ := frozen_at z4 (T_box q)
    have z5 := stC_sat z5
    have hlt4 := stC_lt hlt4
    obtain ⟨v0, us0, hu0, p0, hcur⟩ := hcur.of_cons
    obtain ⟨v1, us1, hu1, p1, hcur⟩ := hcur.of_cons
    obtain ⟨v2, us2, hu2, p2, hcur⟩ := hcur.of_cons
    have hu3 := hcur.of_nil
    subst hu3 hu2 hu1
    have p0' : Rep (ro4.plus β4 w4 [idB q]) (.sl (.sl (.int .u8)) q.items) v0 := by cases p0 with | leaf h => exact h.mono (Snap.ext_plus z4.h.snap _ _)
    have p1' : v1 = .int .i64 q.head := by cases p1 with | leaf h => cases h; rfl
    have p2' : v2 = .int .i64 q.many := by cases p2 with | leaf h => cases h; rfl
    have hg13 : b4.eval (.tmp 13) = .func (.func 233) #[] #[.pointer (some ⟨g, 0, none⟩)] := by
      have := z5.t 13
      rw [T_fnC] at this
      show b4.tmps.getD 13 undef = _
      generalize b4.tmps.getD 13 undef = v at this
      cases this with
      | @fn _ _ _ us vs k1 k2 k3 k4 =>
        obtain rfl : us = [] := List.eq_nil_of_length_eq_zero k1
        match vs, k2, k4 with
        | [p], _, k4 =>
          have := k4 0 _ p rfl rfl
          cases this with
          | bptr e1 e2 =>
            rw [hb] at e1; cases e1
            rw [hg] at e2; cases e2
            rfl
    have hle5 := z5.h.snap
    refine range_wp hE callGood hS mixed_ok hcall z5 hlt4 rfl (T_sig q) (T_keep q) (fun x => Leaf.sl (.int .u8) x) (queueList q) rgY0 rfl (p := 14) (q := 5) (by rw [T_len]; decide) (fun pre x hpre hx => ?_) hg13 (Go.Proofs.enters_of func233 (by kernel_rfl) rfl) (by decide)
      (ring_seq hq hle5 p0' (fun W hW => hcell W hW 0 v0 (by rw [hu0]; rfl)) (fun W hW => hcell W hW 1 _ (by rw [hu0, p1']; rfl)) (fun W hW => hcell W hW 2 _ (by rw [hu0, p2']; rfl))) ?_
    · have := T_body q pre x
      have hx1 := ring_small hq hf hx
      have hx2 : pre.length + 1 ≤ big := by
        obtain ⟨l1, l2, _⟩ := ring_list_items q hq
        rw [l1] at hpre
        have := big_eq
        omega
      rw [show N_ring_text (x, ()) = some (x, ()) from if_pos hx1, Option.bind_some, if_pos (decide_eq_true hx2)] at this
      exact this
    · intro d W β6 ro6 hd6 x6 y6 hW hrd hs6
      obtain ⟨e5, S5, a5, f5, c5⟩ := codeK_good hE callGood hS mixed_ok loop_good hcall 136 rg7 _ _ _ (T_end q (queueList q))
      cases e5 with
      | exit i => simp [Tr.den] at a5
      | goto i => simp [Tr.den] at a5
      | normal => simp [Tr.den] at a5
      | ret =>
      simp only at a5
      show rg7.wpIn Fence.wide 3 _ _ _ W
      refine wpIn_wide.2 (c5 _ _ ro6 _ _ W _ (then_lt hlt4 (Nat.le_of_ble_eq_true (T_nextH q _))) hs6 fun b7 w7 β7 ro7 x7 y7 z7 => ?_)
      exact fin_mark hE a5 z7 rfl hd6 (y7 _ _ hrd) hle
  · rw [if_neg hq] at hcn
    subst hcn
    refine wpIn_cond_true ?_ ?_
    · have := z3.t 9
      rw [T_c8] at this
      cases this with | leaf h => generalize hv : b3.tmps.getD 9 undef = v at h; cases h; exact hv
    obtain ⟨e4, S4, a4, f4, c4⟩ := codeK_good hE callGood hS mixed_ok loop_good hcall 136 rg3 _ _ _ (T_bad q)
    cases e4 with
    | exit i => simp [Tr.den] at a4
    | goto i => simp [Tr.den] at a4
    | normal => simp [Tr.den] at a4
    | ret =>
    simp only at a4
    refine wpIn_wide.2 (c4 _ _ ro3 _ _ w3 _ hlt3 z3 fun b4 w4 β4 ro4 x4 y4 z4 => ?_)
    obtain rfl := ring_bad hr' hq
    exact fin_plain hE a4 z4 rfl hle
end Go.Cat

set_option maxHeartbeats 0
namespace Go.Cat
open Go Go.Proofs.Tryz
noncomputable def env54 : Env := { ty := tys, specs := [(57, s57), (136, s136)], inl := [(54, f54), (55, f55), (137, f137), (138, f138), (205, f205)], hints := hnts }
theorem T_sess_Check (x : TT [(.st .Config), (.st .End)]) : (fnTree env54 54 [(.st .Config), (.st .End)] [(.int .i64)] x).den = D_sess_Check x.1 x.2.1 := by kernel_rfl
theorem C_sess_Check : SpecOk Go.Proofs.Tryz.prog 54 s54 :=
  (fnTree_spec (E := env54) (tysOk_of tys_ok) (specSound_of (specsOk_cons C_place_Check (specsOk_cons C_ring_List specsOk_nil))) mixed_ok (inlOk_of (inlB_cons func54 nm_54 (inlB_cons func55 nm_55 (inlB_cons func137 nm_137 (inlB_cons func138 nm_138 (inlB_cons func205 nm_205 inlB_nil)))))) en_54 [(.st .Config), (.st .End)] [(.int .i64)]).weaken (fun x r hx hn => (T_sess_Check x).trans (Q_sess_Check x r hx hn))
noncomputable def env140 : Env := { ty := tys, specs := [(141, s141)], inl := [(140, f140)], hints := hnts }
theorem T_ring_Twin (x : TT [(.st .Queue)]) : (fnTreeOwn env140 140 [(.st .Queue)] (.st .Queue) [some 48] x).den = D_ring_Twin x.1 := by kernel_rfl
theorem C_ring_Twin : SpecOk Go.Proofs.Tryz.prog 140 s140 :=
  (fnTreeOwn_spec (E := env140) (tysOk_of tys_ok) (specSound_of (specsOk_cons C_ring_text specsOk_nil)) mixed_ok (inlOk_of (inlB_cons func140 nm_140 inlB_nil)) en_140 [(.st .Queue)] (.st .Queue) [some 48]).weaken (fun x r hx hn => (T_ring_Twin x).trans (Q_ring_Twin x r hx hn))
noncomputable def env56 : Env := { ty := tys, specs := [(139, s139), (140, s140), (141, s141), (143, s143)], inl := [(56, f56), (142, f142)], hints := hnts }
theorem T_ring_Push (x : TT [(.st .Queue), (.sl (.int .u8))]) : (fnTree env56 56 [(.st .Queue), (.sl (.int .u8))] [(.st .Queue), (.int .i64)] x).den = D_ring_Push x.1 x.2.1 := by kernel_rfl
theorem C_ring_Push : SpecOk Go.Proofs.Tryz.prog 56 s56 :=
  (fnTree_spec (E := env56) (tysOk_of tys_ok) (specSound_of (specsOk_cons C_ring_Check (specsOk_cons C_ring_Twin (specsOk_cons C_ring_text (specsOk_cons C_ring_round_byte_at specsOk_nil))))) mixed_ok (inlOk_of (inlB_cons func56 nm_56 (inlB_cons func142 nm_142 inlB_nil))) en_56 [(.st .Queue), (.sl (.int .u8))] [(.st .Queue), (.int .i64)]).weaken (fun x r hx hn => (T_ring_Push x).trans (Q_ring_Push x r hx hn))
noncomputable def env18 : Env := { ty := tys, specs := [(54, s54), (56, s56)], inl := [(18, f18), (55, f55)], hints := hnts }
theorem T_sess_Put (x : TT [(.st .Config), (.st .End), (.sl (.int .u8))]) : (fnTree env18 18 [(.st .Config), (.st .End), (.sl (.int .u8))] [(.st .End), (.int .i64)] x).den = D_sess_Put x.1 x.2.1 x.2.2.1 := by kernel_rfl
theorem C_sess_Put : SpecOk Go.Proofs.Tryz.prog 18 s18 :=
  (fnTree_spec (E := env18) (tysOk_of tys_ok) (specSound_of (specsOk_cons C_sess_Check (specsOk_cons C_ring_Push specsOk_nil))) mixed_ok (inlOk_of (inlB_cons func18 nm_18 (inlB_cons func55 nm_55 inlB_nil))) en_18 [(.st .Config), (.st .End), (.sl (.int .u8))] [(.st .End), (.int .i64)]).weaken (fun x r hx hn => (T_sess_Put x).trans (Q_sess_Put x r hx hn))
noncomputable def env131 : Env := { ty := tys, specs := [], inl := [(131, f131)], hints := hnts }
theorem T_place_part_size (x : TT [(.st .Part)]) : (fnTree env131 131 [(.st .Part)] [(.int .i64)] x).den = D_place_part_size x.1 := by kernel_rfl
theorem C_place_part_size : SpecOk Go.Proofs.Tryz.prog 131 s131 :=
  (fnTree_spec (E := env131) (tysOk_of tys_ok) (specSound_of specsOk_nil) mixed_ok (inlOk_of (inlB_cons func131 nm_131 inlB_nil)) en_131 [(.st .Part)] [(.int .i64)]).weaken (fun x r hx hn => (T_place_part_size x).trans (Q_place_part_size x r hx hn))
noncomputable def env198 : Env := { ty := tys, specs := [], inl := [(198, f198)], hints := hnts }
theorem T_place_pages (x : TT [(.st .Config)]) : (fnTree env198 198 [(.st .Config)] [(.int .i64)] x).den = D_place_pages x.1 := by kernel_rfl
theorem C_place_pages : SpecOk Go.Proofs.Tryz.prog 198 s198 :=
  (fnTree_spec (E := env198) (tysOk_of tys_ok) (specSound_of specsOk_nil) mixed_ok (inlOk_of (inlB_cons func198 nm_198 inlB_nil)) en_198 [(.st .Config)] [(.int .i64)]).weaken (fun x r hx hn => (T_place_pages x).trans (Q_place_pages x r hx hn))
noncomputable def env50 : Env := { ty := tys, specs := [(57, s57), (131, s131), (198, s198)], inl := [(50, f50), (130, f130)], hints := hnts }
theorem T_place_Sectors (x : TT [(.st .Config)]) : (fnTree env50 50 [(.st .Config)] [(.int .i64), (.int .i64)] x).den = D_place_Sectors x.1 := by kernel_rfl
theorem C_place_Sectors : SpecOk Go.Proofs.Tryz.prog 50 s50 :=
  (fnTree_spec (E := env50) (tysOk_of tys_ok) (specSound_of (specsOk_cons C_place_Check (specsOk_cons C_place_part_size (specsOk_cons C_place_pages specsOk_nil)))) mixed_ok (inlOk_of (inlB_cons func50 nm_50 (inlB_cons func130 nm_130 inlB_nil))) en_50 [(.st .Config)] [(.int .i64), (.int .i64)]).weaken (fun x r hx hn => (T_place_Sectors x).trans (Q_place_Sectors x r hx hn))
noncomputable def env170 : Env := { ty := tys, specs := [], inl := [(170, f170)], hints := hnts }
theorem T_bytes_Equal (x : TT [(.sl (.int .u8)), (.sl (.int .u8))]) : (fnTree env170 170 [(.sl (.int .u8)), (.sl (.int .u8))] [.bool] x).den = D_bytes_Equal x.1 x.2.1 := by kernel_rfl
theorem C_bytes_Equal : SpecOk Go.Proofs.Tryz.prog 170 s170 :=
  (fnTree_spec (E := env170) (tysOk_of tys_ok) (specSound_of specsOk_nil) mixed_ok (inlOk_of (inlB_cons func170 nm_170 inlB_nil)) en_170 [(.sl (.int .u8)), (.sl (.int .u8))] [.bool]).weaken (fun x r hx hn => (T_bytes_Equal x).trans (Q_bytes_Equal x r hx hn))
noncomputable def env202 : Env := { ty := tys, specs := [], inl := [(137, f137), (202, f202), (205, f205), (229, f229)], hints := hnts }
theorem T_disk_sized (x : TT [(.sl (.sl (.int .u8)))]) : (fnTree env202 202 [(.sl (.sl (.int .u8)))] [.bool] x).den = D_disk_sized x.1 := by kernel_rfl
theorem C_disk_sized : SpecOk Go.Proofs.Tryz.prog 202 s202 :=
  (fnTree_spec (E := env202) (tysOk_of tys_ok) (specSound_of specsOk_nil) mixed_ok (inlOk_of (inlB_cons func137 nm_137 (inlB_cons func202 nm_202 (inlB_cons func205 nm_205 (inlB_cons func229 nm_229 inlB_nil))))) en_202 [(.sl (.sl (.int .u8)))] [.bool]).weaken (fun x r hx hn => (T_disk_sized x).trans (Q_disk_sized x r hx hn))
noncomputable def env206 : Env := { ty := tys, specs := [], inl := [(206, f206)], hints := hnts }
theorem T_disk_none (x : TT []) : (fnTree env206 206 [] [(.sl (.int .u8))] x).den = D_disk_none := by kernel_rfl
theorem C_disk_none : SpecOk Go.Proofs.Tryz.prog 206 s206 :=
  (fnTree_spec (E := env206) (tysOk_of tys_ok) (specSound_of specsOk_nil) mixed_ok (inlOk_of (inlB_cons func206 nm_206 inlB_nil)) en_206 [] [(.sl (.int .u8))]).weaken (fun x r hx hn => (T_disk_none x).trans (Q_disk_none x r hx hn))
noncomputable def env145 : Env := { ty := tys, specs := [(170, s170), (202, s202), (206, s206)], inl := [(145, f145)], hints := hnts }
theorem T_disk_Check (x : TT [(.st .Disk)]) : (fnTree env145 145 [(.st .Disk)] [(.int .i64)] x).den = D_disk_Check x.1 := by kernel_rfl
theorem C_disk_Check : SpecOk Go.Proofs.Tryz.prog 145 s145 :=
  (fnTree_spec (E := env145) (tysOk_of tys_ok) (specSound_of (specsOk_cons C_bytes_Equal (specsOk_cons C_disk_sized (specsOk_cons C_disk_none specsOk_nil)))) mixed_ok (inlOk_of (inlB_cons func145 nm_145 inlB_nil)) en_145 [(.st .Disk)] [(.int .i64)]).weaken (fun x r hx hn => (T_disk_Check x).trans (Q_disk_Check x r hx hn))
noncomputable def env58 : Env := { ty := tys, specs := [(50, s50), (145, s145)], inl := [(58, f58)], hints := hnts }
theorem T_track_Check (x : TT [(.st .Config), (.st .Disk)]) : (fnTree env58 58 [(.st .Config), (.st .Disk)] [(.int .i64)] x).den = D_track_Check x.1 x.2.1 := by kernel_rfl
theorem C_track_Check : SpecOk Go.Proofs.Tryz.prog 58 s58 :=
  (fnTree_spec (E := env58) (tysOk_of tys_ok) (specSound_of (specsOk_cons C_place_Sectors (specsOk_cons C_disk_Check specsOk_nil))) mixed_ok (inlOk_of (inlB_cons func58 nm_58 inlB_nil)) en_58 [(.st .Config), (.st .Disk)] [(.int .i64)]).weaken (fun x r hx hn => (T_track_Check x).trans (Q_track_Check x r hx hn))
noncomputable def env230 : Env := { ty := tys, specs := [], inl := [(230, f230), (246, f246), (247, f247)], hints := hnts }
theorem T_num_Write (x : TT [(.sl (.int .u64)), (.sl (.int .i64))]) : (fnTree env230 230 [(.sl (.int .u64)), (.sl (.int .i64))] [(.sl (.int .u8)), (.int .i64)] x).den = D_num_Write x.1 x.2.1 := by kernel_rfl
theorem C_num_Write : SpecOk Go.Proofs.Tryz.prog 230 s230 :=
  (fnTree_spec (E := env230) (tysOk_of tys_ok) (specSound_of specsOk_nil) mixed_ok (inlOk_of (inlB_cons func230 nm_230 (inlB_cons func246 nm_246 (inlB_cons func247 nm_247 inlB_nil)))) en_230 [(.sl (.int .u64)), (.sl (.int .i64))] [(.sl (.int .u8)), (.int .i64)]).weaken (fun x r hx hn => (T_num_Write x).trans (Q_num_Write x r hx hn))
noncomputable def env249 : Env := { ty := tys, specs := [], inl := [(163, f163), (217, f217), (249, f249), (253, f253)], hints := hnts }
theorem T_rec_site (x : TT [(.sl (.int .i64))]) : (fnTree env249 249 [(.sl (.int .i64))] [.bool] x).den = D_rec_site x.1 := by kernel_rfl
theorem C_rec_site : SpecOk Go.Proofs.Tryz.prog 249 s249 :=
  (fnTree_spec (E := env249) (tysOk_of tys_ok) (specSound_of specsOk_nil) mixed_ok (inlOk_of (inlB_cons func163 nm_163 (inlB_cons func217 nm_217 (inlB_cons func249 nm_249 (inlB_cons func253 nm_253 inlB_nil))))) en_249 [(.sl (.int .i64))] [.bool]).weaken (fun x r hx hn => (T_rec_site x).trans (Q_rec_site x r hx hn))
noncomputable def env234 : Env := { ty := tys, specs := [(249, s249)], inl := [(234, f234)], hints := hnts }
theorem T_rec_Check (x : TT [(.st .Rec)]) : (fnTree env234 234 [(.st .Rec)] [(.int .i64)] x).den = D_rec_Check x.1 := by kernel_rfl
theorem C_rec_Check : SpecOk Go.Proofs.Tryz.prog 234 s234 :=
  (fnTree_spec (E := env234) (tysOk_of tys_ok) (specSound_of (specsOk_cons C_rec_site specsOk_nil)) mixed_ok (inlOk_of (inlB_cons func234 nm_234 inlB_nil)) en_234 [(.st .Rec)] [(.int .i64)]).weaken (fun x r hx hn => (T_rec_Check x).trans (Q_rec_Check x r hx hn))
noncomputable def env235 : Env := { ty := tys, specs := [], inl := [(235, f235)], hints := hnts }
theorem T_rec_sizes (x : TT []) : (fnTree env235 235 [] [(.sl (.int .i64))] x).den = D_rec_sizes := by kernel_rfl
theorem C_rec_sizes : SpecOk Go.Proofs.Tryz.prog 235 s235 :=
  (fnTree_spec (E := env235) (tysOk_of tys_ok) (specSound_of specsOk_nil) mixed_ok (inlOk_of (inlB_cons func235 nm_235 inlB_nil)) en_235 [] [(.sl (.int .i64))]).weaken (fun x r hx hn => (T_rec_sizes x).trans (Q_rec_sizes x r hx hn))
noncomputable def env208 : Env := { ty := tys, specs := [(230, s230), (234, s234), (235, s235)], inl := [(208, f208)], hints := hnts }
theorem T_rec_Note (x : TT [(.st .Rec)]) : (fnTree env208 208 [(.st .Rec)] [(.sl (.int .u8)), (.int .i64)] x).den = D_rec_Note x.1 := by kernel_rfl
theorem C_rec_Note : SpecOk Go.Proofs.Tryz.prog 208 s208 :=
  (fnTree_spec (E := env208) (tysOk_of tys_ok) (specSound_of (specsOk_cons C_num_Write (specsOk_cons C_rec_Check (specsOk_cons C_rec_sizes specsOk_nil)))) mixed_ok (inlOk_of (inlB_cons func208 nm_208 inlB_nil)) en_208 [(.st .Rec)] [(.sl (.int .u8)), (.int .i64)]).weaken (fun x r hx hn => (T_rec_Note x).trans (Q_rec_Note x r hx hn))
noncomputable def env146 : Env := { ty := tys, specs := [(208, s208), (234, s234)], inl := [(146, f146), (207, f207)], hints := hnts }
theorem T_rec_Notes (x : TT [(.sl (.st .Rec))]) : (fnTree env146 146 [(.sl (.st .Rec))] [(.sl (.sl (.int .u8))), (.int .i64)] x).den = D_rec_Notes x.1 := by kernel_rfl
theorem C_rec_Notes : SpecOk Go.Proofs.Tryz.prog 146 s146 :=
  (fnTree_spec (E := env146) (tysOk_of tys_ok) (specSound_of (specsOk_cons C_rec_Note (specsOk_cons C_rec_Check specsOk_nil))) mixed_ok (inlOk_of (inlB_cons func146 nm_146 (inlB_cons func207 nm_207 inlB_nil))) en_146 [(.sl (.st .Rec))] [(.sl (.sl (.int .u8))), (.int .i64)]).weaken (fun x r hx hn => (T_rec_Notes x).trans (Q_rec_Notes x r hx hn))
noncomputable def env59 : Env := { ty := tys, specs := [(57, s57), (146, s146)], inl := [(59, f59)], hints := hnts }
theorem T_meta_Check (x : TT [(.st .Config), (.st .Meta)]) : (fnTree env59 59 [(.st .Config), (.st .Meta)] [(.int .i64)] x).den = D_meta_Check x.1 x.2.1 := by kernel_rfl
theorem C_meta_Check : SpecOk Go.Proofs.Tryz.prog 59 s59 :=
  (fnTree_spec (E := env59) (tysOk_of tys_ok) (specSound_of (specsOk_cons C_place_Check (specsOk_cons C_rec_Notes specsOk_nil))) mixed_ok (inlOk_of (inlB_cons func59 nm_59 inlB_nil)) en_59 [(.st .Config), (.st .Meta)] [(.int .i64)]).weaken (fun x r hx hn => (T_meta_Check x).trans (Q_meta_Check x r hx hn))
end Go.Cat

set_option maxHeartbeats 0
namespace Go.Cat
open Go Go.Proofs.Tryz
noncomputable def env62 : Env := { ty := tys, specs := [], inl := [(62, f62)], hints := hnts }
theorem T_act_limits_pair (x : TT [(.st .Config), (.int .i64)]) : (fnTree env62 62 [(.st .Config), (.int .i64)] [.bool] x).den = D_act_limits_pair x.1 x.2.1 := by kernel_rfl
theorem C_act_limits_pair : SpecOk Go.Proofs.Tryz.prog 62 s62 :=
  (fnTree_spec (E := env62) (tysOk_of tys_ok) (specSound_of specsOk_nil) mixed_ok (inlOk_of (inlB_cons func62 nm_62 inlB_nil)) en_62 [(.st .Config), (.int .i64)] [.bool]).weaken (fun x r hx hn => (T_act_limits_pair x).trans (Q_act_limits_pair x r hx hn))
noncomputable def env162 : Env := { ty := tys, specs := [], inl := [(162, f162), (200, f200), (216, f216), (228, f228), (244, f244), (245, f245)], hints := hnts }
theorem T_bits_All (x : TT [(.int .i64)]) : (fnTree env162 162 [(.int .i64)] [(.sl (.int .u8)), (.int .i64)] x).den = D_bits_All x.1 := by kernel_rfl
theorem C_bits_All : SpecOk Go.Proofs.Tryz.prog 162 s162 :=
  (fnTree_spec (E := env162) (tysOk_of tys_ok) (specSound_of specsOk_nil) mixed_ok (inlOk_of (inlB_cons func162 nm_162 (inlB_cons func200 nm_200 (inlB_cons func216 nm_216 (inlB_cons func228 nm_228 (inlB_cons func244 nm_244 (inlB_cons func245 nm_245 inlB_nil))))))) en_162 [(.int .i64)] [(.sl (.int .u8)), (.int .i64)]).weaken (fun x r hx hn => (T_bits_All x).trans (Q_bits_All x r hx hn))
noncomputable def env149 : Env := { ty := tys, specs := [(162, s162)], inl := [(149, f149)], hints := hnts }
theorem T_bits_Check (x : TT [(.int .i64), (.sl (.int .u8))]) : (fnTree env149 149 [(.int .i64), (.sl (.int .u8))] [(.int .i64)] x).den = D_bits_Check x.1 x.2.1 := by kernel_rfl
theorem C_bits_Check : SpecOk Go.Proofs.Tryz.prog 149 s149 :=
  (fnTree_spec (E := env149) (tysOk_of tys_ok) (specSound_of (specsOk_cons C_bits_All specsOk_nil)) mixed_ok (inlOk_of (inlB_cons func149 nm_149 inlB_nil)) en_149 [(.int .i64), (.sl (.int .u8))] [(.int .i64)]).weaken (fun x r hx hn => (T_bits_Check x).trans (Q_bits_Check x r hx hn))
noncomputable def env65 : Env := { ty := tys, specs := [(149, s149)], inl := [(65, f65), (150, f150), (151, f151), (152, f152), (153, f153), (154, f154), (209, f209), (210, f210)], hints := hnts }
theorem T_act_limits_side (x : TT [(.st .Config), (.st .Side)]) : (fnTree env65 65 [(.st .Config), (.st .Side)] [.bool] x).den = D_act_limits_side x.1 x.2.1 := by kernel_rfl
theorem C_act_limits_side : SpecOk Go.Proofs.Tryz.prog 65 s65 :=
  (fnTree_spec (E := env65) (tysOk_of tys_ok) (specSound_of (specsOk_cons C_bits_Check specsOk_nil)) mixed_ok (inlOk_of (inlB_cons func65 nm_65 (inlB_cons func150 nm_150 (inlB_cons func151 nm_151 (inlB_cons func152 nm_152 (inlB_cons func153 nm_153 (inlB_cons func154 nm_154 (inlB_cons func209 nm_209 (inlB_cons func210 nm_210 inlB_nil))))))))) en_65 [(.st .Config), (.st .Side)] [.bool]).weaken (fun x r hx hn => (T_act_limits_side x).trans (Q_act_limits_side x r hx hn))
noncomputable def env219 : Env := { ty := tys, specs := [], inl := [(219, f219)], hints := hnts }
theorem T_msg_of (x : TT [(.st .Msg)]) : (fnTree env219 219 [(.st .Msg)] [(.st .Plain)] x).den = D_msg_of x.1 := by kernel_rfl
theorem C_msg_of : SpecOk Go.Proofs.Tryz.prog 219 s219 :=
  (fnTree_spec (E := env219) (tysOk_of tys_ok) (specSound_of specsOk_nil) mixed_ok (inlOk_of (inlB_cons func219 nm_219 inlB_nil)) en_219 [(.st .Msg)] [(.st .Plain)]).weaken (fun x r hx hn => (T_msg_of x).trans (Q_msg_of x r hx hn))
noncomputable def env179 : Env := { ty := tys, specs := [(170, s170), (219, s219)], inl := [(179, f179)], hints := hnts }
theorem T_msg_Same (x : TT [(.st .Msg), (.st .Msg)]) : (fnTree env179 179 [(.st .Msg), (.st .Msg)] [.bool] x).den = D_msg_Same x.1 x.2.1 := by kernel_rfl
theorem C_msg_Same : SpecOk Go.Proofs.Tryz.prog 179 s179 :=
  (fnTree_spec (E := env179) (tysOk_of tys_ok) (specSound_of (specsOk_cons C_bytes_Equal (specsOk_cons C_msg_of specsOk_nil))) mixed_ok (inlOk_of (inlB_cons func179 nm_179 inlB_nil)) en_179 [(.st .Msg), (.st .Msg)] [.bool]).weaken (fun x r hx hn => (T_msg_Same x).trans (Q_msg_Same x r hx hn))
noncomputable def env250 : Env := { ty := tys, specs := [], inl := [(250, f250)], hints := hnts }
theorem T_msg_marks (x : TT [(.sl (.int .u8))]) : (fnTree env250 250 [(.sl (.int .u8))] [.bool] x).den = D_msg_marks x.1 := by kernel_rfl
theorem C_msg_marks : SpecOk Go.Proofs.Tryz.prog 250 s250 :=
  (fnTree_spec (E := env250) (tysOk_of tys_ok) (specSound_of specsOk_nil) mixed_ok (inlOk_of (inlB_cons func250 nm_250 inlB_nil)) en_250 [(.sl (.int .u8))] [.bool]).weaken (fun x r hx hn => (T_msg_marks x).trans (Q_msg_marks x r hx hn))
end Go.Cat

set_option maxHeartbeats 0
namespace Go.Cat
open Go Go.Proofs.Tryz
noncomputable def env236 : Env := { ty := tys, specs := [(234, s234), (250, s250)], inl := [(236, f236)], hints := hnts }
theorem T_msg_used (x : TT [(.st .Msg)]) : (fnTree env236 236 [(.st .Msg)] [(.st .Msg), .bool] x).den = D_msg_used x.1 := by kernel_rfl
theorem C_msg_used : SpecOk Go.Proofs.Tryz.prog 236 s236 :=
  (fnTree_spec (E := env236) (tysOk_of tys_ok) (specSound_of (specsOk_cons C_rec_Check (specsOk_cons C_msg_marks specsOk_nil))) mixed_ok (inlOk_of (inlB_cons func236 nm_236 inlB_nil)) en_236 [(.st .Msg)] [(.st .Msg), .bool]).weaken (fun x r hx hn => (T_msg_used x).trans (Q_msg_used x r hx hn))
noncomputable def env211 : Env := { ty := tys, specs := [(179, s179), (236, s236)], inl := [(211, f211)], hints := hnts }
theorem T_msg_Check (x : TT [(.st .Msg)]) : (fnTree env211 211 [(.st .Msg)] [(.int .i64)] x).den = D_msg_Check x.1 := by kernel_rfl
theorem C_msg_Check : SpecOk Go.Proofs.Tryz.prog 211 s211 :=
  (fnTree_spec (E := env211) (tysOk_of tys_ok) (specSound_of (specsOk_cons C_msg_Same (specsOk_cons C_msg_used specsOk_nil))) mixed_ok (inlOk_of (inlB_cons func211 nm_211 inlB_nil)) en_211 [(.st .Msg)] [(.int .i64)]).weaken (fun x r hx hn => (T_msg_Check x).trans (Q_msg_Check x r hx hn))
noncomputable def env156 : Env := { ty := tys, specs := [(62, s62), (211, s211)], inl := [(156, f156)], hints := hnts }
theorem T_act_limits_message (x : TT [(.st .Config), (.st .Msg)]) : (fnTree env156 156 [(.st .Config), (.st .Msg)] [.bool] x).den = D_act_limits_message x.1 x.2.1 := by kernel_rfl
theorem C_act_limits_message : SpecOk Go.Proofs.Tryz.prog 156 s156 :=
  (fnTree_spec (E := env156) (tysOk_of tys_ok) (specSound_of (specsOk_cons C_act_limits_pair (specsOk_cons C_msg_Check specsOk_nil))) mixed_ok (inlOk_of (inlB_cons func156 nm_156 inlB_nil)) en_156 [(.st .Config), (.st .Msg)] [.bool]).weaken (fun x r hx hn => (T_act_limits_message x).trans (Q_act_limits_message x r hx hn))
noncomputable def env68 : Env := { ty := tys, specs := [(62, s62), (156, s156)], inl := [(68, f68)], hints := hnts }
theorem T_act_limits_act (x : TT [(.st .Config), (.st .Act), (.int .i64)]) : (fnTree env68 68 [(.st .Config), (.st .Act), (.int .i64)] [.bool] x).den = D_act_limits_act x.1 x.2.1 x.2.2.1 := by kernel_rfl
theorem C_act_limits_act : SpecOk Go.Proofs.Tryz.prog 68 s68 :=
  (fnTree_spec (E := env68) (tysOk_of tys_ok) (specSound_of (specsOk_cons C_act_limits_pair (specsOk_cons C_act_limits_message specsOk_nil))) mixed_ok (inlOk_of (inlB_cons func68 nm_68 inlB_nil)) en_68 [(.st .Config), (.st .Act), (.int .i64)] [.bool]).weaken (fun x r hx hn => (T_act_limits_act x).trans (Q_act_limits_act x r hx hn))
noncomputable def env71 : Env := { ty := tys, specs := [(156, s156)], inl := [(71, f71)], hints := hnts }
theorem T_act_limits_mail (x : TT [(.st .Config), (.st .Mail)]) : (fnTree env71 71 [(.st .Config), (.st .Mail)] [.bool] x).den = D_act_limits_mail x.1 x.2.1 := by kernel_rfl
theorem C_act_limits_mail : SpecOk Go.Proofs.Tryz.prog 71 s71 :=
  (fnTree_spec (E := env71) (tysOk_of tys_ok) (specSound_of (specsOk_cons C_act_limits_message specsOk_nil)) mixed_ok (inlOk_of (inlB_cons func71 nm_71 inlB_nil)) en_71 [(.st .Config), (.st .Mail)] [.bool]).weaken (fun x r hx hn => (T_act_limits_mail x).trans (Q_act_limits_mail x r hx hn))
end Go.Cat

set_option maxHeartbeats 0
namespace Go.Cat
open Go Go.Proofs.Tryz
noncomputable def env20 : Env := { ty := tys, specs := [(54, s54), (57, s57), (58, s58), (59, s59), (62, s62), (65, s65), (68, s68), (71, s71)], inl := [(20, f20), (60, f60), (61, f61), (63, f63), (64, f64), (66, f66), (67, f67), (69, f69), (70, f70), (72, f72), (73, f73), (147, f147), (148, f148), (155, f155), (157, f157), (158, f158)], hints := hnts }
theorem T_act_Check (x : TT [(.st .Config), (.st .Site)]) : (fnTree env20 20 [(.st .Config), (.st .Site)] [(.int .i64)] x).den = D_act_Check x.1 x.2.1 := by kernel_rfl
theorem C_act_Check : SpecOk Go.Proofs.Tryz.prog 20 s20 :=
  (fnTree_spec (E := env20) (tysOk_of tys_ok) (specSound_of (specsOk_cons C_sess_Check (specsOk_cons C_place_Check (specsOk_cons C_track_Check (specsOk_cons C_meta_Check (specsOk_cons C_act_limits_pair (specsOk_cons C_act_limits_side (specsOk_cons C_act_limits_act (specsOk_cons C_act_limits_mail specsOk_nil))))))))) mixed_ok (inlOk_of (inlB_cons func20 nm_20 (inlB_cons func60 nm_60 (inlB_cons func61 nm_61 (inlB_cons func63 nm_63 (inlB_cons func64 nm_64 (inlB_cons func66 nm_66 (inlB_cons func67 nm_67 (inlB_cons func69 nm_69 (inlB_cons func70 nm_70 (inlB_cons func72 nm_72 (inlB_cons func73 nm_73 (inlB_cons func147 nm_147 (inlB_cons func148 nm_148 (inlB_cons func155 nm_155 (inlB_cons func157 nm_157 (inlB_cons func158 nm_158 inlB_nil))))))))))))))))) en_20 [(.st .Config), (.st .Site)] [(.int .i64)]).weaken (fun x r hx hn => (T_act_Check x).trans (Q_act_Check x r hx hn))
noncomputable def env115 : Env := { ty := tys, specs := [], inl := [(115, f115)], hints := hnts }
theorem C_slices_Clone_byte_byte : SpecOk Go.Proofs.Tryz.prog 115 s115 :=
  nil_split_own (E := env115) (f := 115) (e := (.int .u8)) (e' := (.sl (.int .u8))) (ets := [some 5]) (g := fun xs => if xs.length ≤ big then some (xs, ()) else none) (tysOk_of tys_ok) (specSound_of specsOk_nil) mixed_ok (inlOk_of (inlB_cons func115 nm_115 inlB_nil)) en_115
    (fun r h => (show (treeOwnOf env115 115 [.lit (.slice none 0 0)] (.sl (.int .u8)) [some 5]).den = some ([], ()) by kernel_rfl).trans h)
    (fun xs r h => (show (treeOwnOf env115 115 [.nn (.int .u8) xs] (.sl (.int .u8)) [some 5]).den = (if decide (0 + xs.length ≤ big) = true then some (xs, ()) else none) by kernel_rfl).trans (by rw [Nat.zero_add]; simp only [decide_eq_true_eq]; exact h))
noncomputable def env75 : Env := { ty := tys, specs := [(115, s115)], inl := [(75, f75)], hints := hnts }
theorem T_disk_Twin (x : TT [(.st .Disk)]) : (fnTreeOwn env75 75 [(.st .Disk)] (.st .Disk) [some 179, some 181] x).den = D_disk_Twin x.1 := by kernel_rfl
theorem C_disk_Twin : SpecOk Go.Proofs.Tryz.prog 75 s75 :=
  (fnTreeOwn_spec (E := env75) (tysOk_of tys_ok) (specSound_of (specsOk_cons C_slices_Clone_byte_byte specsOk_nil)) mixed_ok (inlOk_of (inlB_cons func75 nm_75 inlB_nil)) en_75 [(.st .Disk)] (.st .Disk) [some 179, some 181]).weaken (fun x r hx hn => (T_disk_Twin x).trans (Q_disk_Twin x r hx hn))
noncomputable def env76 : Env := { ty := tys, specs := [(140, s140)], inl := [(76, f76)], hints := hnts }
theorem T_sess_Twin (x : TT [(.st .End)]) : (fnTree env76 76 [(.st .End)] [(.st .End)] x).den = D_sess_Twin x.1 := by kernel_rfl
theorem C_sess_Twin : SpecOk Go.Proofs.Tryz.prog 76 s76 :=
  (fnTree_spec (E := env76) (tysOk_of tys_ok) (specSound_of (specsOk_cons C_ring_Twin specsOk_nil)) mixed_ok (inlOk_of (inlB_cons func76 nm_76 inlB_nil)) en_76 [(.st .End)] [(.st .End)]).weaken (fun x r hx hn => (T_sess_Twin x).trans (Q_sess_Twin x r hx hn))
noncomputable def env77 : Env := { ty := tys, specs := [], inl := [(77, f77)], hints := hnts }
theorem C_slices_Clone_api_Rec_api_Rec : SpecOk Go.Proofs.Tryz.prog 77 s77 :=
  nil_split_own (E := env77) (f := 77) (e := (.st .Rec)) (e' := (.sl (.st .Rec))) (ets := [some 62]) (g := fun xs => if xs.length ≤ big then some (xs, ()) else none) (tysOk_of tys_ok) (specSound_of specsOk_nil) mixed_ok (inlOk_of (inlB_cons func77 nm_77 inlB_nil)) en_77
    (fun r h => (show (treeOwnOf env77 77 [.lit (.slice none 0 0)] (.sl (.st .Rec)) [some 62]).den = some ([], ()) by kernel_rfl).trans h)
    (fun xs r h => (show (treeOwnOf env77 77 [.nn (.st .Rec) xs] (.sl (.st .Rec)) [some 62]).den = (if decide (0 + xs.length ≤ big) = true then some (xs, ()) else none) by kernel_rfl).trans (by rw [Nat.zero_add]; simp only [decide_eq_true_eq]; exact h))
noncomputable def env78 : Env := { ty := tys, specs := [], inl := [(78, f78)], hints := hnts }
theorem C_slices_Clone_int_int : SpecOk Go.Proofs.Tryz.prog 78 s78 :=
  nil_split_own (E := env78) (f := 78) (e := (.int .i64)) (e' := (.sl (.int .i64))) (ets := [some 3]) (g := fun xs => if xs.length ≤ big then some (xs, ()) else none) (tysOk_of tys_ok) (specSound_of specsOk_nil) mixed_ok (inlOk_of (inlB_cons func78 nm_78 inlB_nil)) en_78
    (fun r h => (show (treeOwnOf env78 78 [.lit (.slice none 0 0)] (.sl (.int .i64)) [some 3]).den = some ([], ()) by kernel_rfl).trans h)
    (fun xs r h => (show (treeOwnOf env78 78 [.nn (.int .i64) xs] (.sl (.int .i64)) [some 3]).den = (if decide (0 + xs.length ≤ big) = true then some (xs, ()) else none) by kernel_rfl).trans (by rw [Nat.zero_add]; simp only [decide_eq_true_eq]; exact h))
noncomputable def env81 : Env := { ty := tys, specs := [], inl := [(81, f81)], hints := hnts }
theorem C_bytes_Clone : SpecOk Go.Proofs.Tryz.prog 81 s81 :=
  nil_split (E := env81) (f := 81) (e := (.int .u8)) (results := [(.sl (.int .u8))]) (g := fun xs => if xs.length ≤ big then some (xs, ()) else none) (tysOk_of tys_ok) (specSound_of specsOk_nil) mixed_ok (inlOk_of (inlB_cons func81 nm_81 inlB_nil)) en_81
    (fun r h => (show (treeOf env81 81 [.lit (.slice none 0 0)] [(.sl (.int .u8))]).den = some ([], ()) by kernel_rfl).trans h)
    (fun xs r h => (show (treeOf env81 81 [.nn (.int .u8) xs] [(.sl (.int .u8))]).den = (if decide (0 + xs.length ≤ big) = true then some (xs, ()) else none) by kernel_rfl).trans (by rw [Nat.zero_add]; simp only [decide_eq_true_eq]; exact h))
noncomputable def env82 : Env := { ty := tys, specs := [], inl := [(82, f82)], hints := hnts }
theorem C_slices_Clone_api_Sent_api_Sent : SpecOk Go.Proofs.Tryz.prog 82 s82 :=
  nil_split_own (E := env82) (f := 82) (e := (.st .Sent)) (e' := (.sl (.st .Sent))) (ets := [some 151]) (g := fun xs => if xs.length ≤ big then some (xs, ()) else none) (tysOk_of tys_ok) (specSound_of specsOk_nil) mixed_ok (inlOk_of (inlB_cons func82 nm_82 inlB_nil)) en_82
    (fun r h => (show (treeOwnOf env82 82 [.lit (.slice none 0 0)] (.sl (.st .Sent)) [some 151]).den = some ([], ()) by kernel_rfl).trans h)
    (fun xs r h => (show (treeOwnOf env82 82 [.nn (.st .Sent) xs] (.sl (.st .Sent)) [some 151]).den = (if decide (0 + xs.length ≤ big) = true then some (xs, ()) else none) by kernel_rfl).trans (by rw [Nat.zero_add]; simp only [decide_eq_true_eq]; exact h))
noncomputable def env83 : Env := { ty := tys, specs := [], inl := [(83, f83)], hints := hnts }
theorem C_slices_Clone_api_Wait_api_Wait : SpecOk Go.Proofs.Tryz.prog 83 s83 :=
  nil_split_own (E := env83) (f := 83) (e := (.st .Wait)) (e' := (.sl (.st .Wait))) (ets := [some 154]) (g := fun xs => if xs.length ≤ big then some (xs, ()) else none) (tysOk_of tys_ok) (specSound_of specsOk_nil) mixed_ok (inlOk_of (inlB_cons func83 nm_83 inlB_nil)) en_83
    (fun r h => (show (treeOwnOf env83 83 [.lit (.slice none 0 0)] (.sl (.st .Wait)) [some 154]).den = some ([], ()) by kernel_rfl).trans h)
    (fun xs r h => (show (treeOwnOf env83 83 [.nn (.st .Wait) xs] (.sl (.st .Wait)) [some 154]).den = (if decide (0 + xs.length ≤ big) = true then some (xs, ()) else none) by kernel_rfl).trans (by rw [Nat.zero_add]; simp only [decide_eq_true_eq]; exact h))
noncomputable def env86 : Env := { ty := tys, specs := [(115, s115)], inl := [(86, f86)], hints := hnts }
theorem T_msg_Twin (x : TT [(.st .Msg)]) : (fnTree env86 86 [(.st .Msg)] [(.st .Msg)] x).den = D_msg_Twin x.1 := by kernel_rfl
theorem C_msg_Twin : SpecOk Go.Proofs.Tryz.prog 86 s86 :=
  (fnTree_spec (E := env86) (tysOk_of tys_ok) (specSound_of (specsOk_cons C_slices_Clone_byte_byte specsOk_nil)) mixed_ok (inlOk_of (inlB_cons func86 nm_86 inlB_nil)) en_86 [(.st .Msg)] [(.st .Msg)]).weaken (fun x r hx hn => (T_msg_Twin x).trans (Q_msg_Twin x r hx hn))
noncomputable def env87 : Env := { ty := tys, specs := [(115, s115)], inl := [(87, f87)], hints := hnts }
theorem T_act_reply (x : TT [(.st .Reply)]) : (fnTree env87 87 [(.st .Reply)] [(.st .Reply)] x).den = D_act_reply x.1 := by kernel_rfl
theorem C_act_reply : SpecOk Go.Proofs.Tryz.prog 87 s87 :=
  (fnTree_spec (E := env87) (tysOk_of tys_ok) (specSound_of (specsOk_cons C_slices_Clone_byte_byte specsOk_nil)) mixed_ok (inlOk_of (inlB_cons func87 nm_87 inlB_nil)) en_87 [(.st .Reply)] [(.st .Reply)]).weaken (fun x r hx hn => (T_act_reply x).trans (Q_act_reply x r hx hn))
end Go.Cat

set_option maxHeartbeats 0
namespace Go.Cat
open Go Go.Proofs.Tryz
noncomputable def env22 : Env := { ty := tys, specs := [(75, s75), (76, s76), (77, s77), (78, s78), (81, s81), (82, s82), (83, s83), (86, s86), (87, s87)], inl := [(22, f22), (79, f79), (80, f80), (84, f84), (85, f85), (88, f88), (89, f89), (90, f90), (91, f91), (92, f92)], hints := hnts }
theorem T_act_Twin (x : TT [(.st .Site)]) : (fnTreeOwn env22 22 [(.st .Site)] (.st .Site) [none, none, none, some 84, none, some 68, some 73, some 101, some 66, some 3] x).den = D_act_Twin x.1 := by kernel_rfl
theorem C_act_Twin : SpecOk Go.Proofs.Tryz.prog 22 s22 :=
  (fnTreeOwn_spec (E := env22) (tysOk_of tys_ok) (specSound_of (specsOk_cons C_disk_Twin (specsOk_cons C_sess_Twin (specsOk_cons C_slices_Clone_api_Rec_api_Rec (specsOk_cons C_slices_Clone_int_int (specsOk_cons C_bytes_Clone (specsOk_cons C_slices_Clone_api_Sent_api_Sent (specsOk_cons C_slices_Clone_api_Wait_api_Wait (specsOk_cons C_msg_Twin (specsOk_cons C_act_reply specsOk_nil)))))))))) mixed_ok (inlOk_of (inlB_cons func22 nm_22 (inlB_cons func79 nm_79 (inlB_cons func80 nm_80 (inlB_cons func84 nm_84 (inlB_cons func85 nm_85 (inlB_cons func88 nm_88 (inlB_cons func89 nm_89 (inlB_cons func90 nm_90 (inlB_cons func91 nm_91 (inlB_cons func92 nm_92 inlB_nil))))))))))) en_22 [(.st .Site)] (.st .Site) [none, none, none, some 84, none, some 68, some 73, some 101, some 66, some 3]).weaken (fun x r hx hn => (T_act_Twin x).trans (Q_act_Twin x r hx hn))
noncomputable def env132 : Env := { ty := tys, specs := [], inl := [(132, f132)], hints := hnts }
theorem T_ring_New (x : TT [(.int .i64)]) : (fnTree env132 132 [(.int .i64)] [(.st .Queue), (.int .i64)] x).den = D_ring_New x.1 := by kernel_rfl
theorem C_ring_New : SpecOk Go.Proofs.Tryz.prog 132 s132 :=
  (fnTree_spec (E := env132) (tysOk_of tys_ok) (specSound_of specsOk_nil) mixed_ok (inlOk_of (inlB_cons func132 nm_132 inlB_nil)) en_132 [(.int .i64)] [(.st .Queue), (.int .i64)]).weaken (fun x r hx hn => (T_ring_New x).trans (Q_ring_New x r hx hn))
noncomputable def env199 : Env := { ty := tys, specs := [(115, s115), (145, s145), (206, s206)], inl := [(75, f75), (199, f199)], hints := hnts }
theorem T_disk_Crash (x : TT [(.st .Disk), (.sl (.int .u8))]) : (fnTree env199 199 [(.st .Disk), (.sl (.int .u8))] [(.st .Disk), (.int .i64)] x).den = D_disk_Crash x.1 x.2.1 := by kernel_rfl
theorem C_disk_Crash : SpecOk Go.Proofs.Tryz.prog 199 s199 :=
  (fnTree_spec (E := env199) (tysOk_of tys_ok) (specSound_of (specsOk_cons C_slices_Clone_byte_byte (specsOk_cons C_disk_Check (specsOk_cons C_disk_none specsOk_nil)))) mixed_ok (inlOk_of (inlB_cons func75 nm_75 (inlB_cons func199 nm_199 inlB_nil))) en_199 [(.st .Disk), (.sl (.int .u8))] [(.st .Disk), (.int .i64)]).weaken (fun x r hx hn => (T_disk_Crash x).trans (Q_disk_Crash x r hx hn))
noncomputable def env200 : Env := { ty := tys, specs := [], inl := [(200, f200), (228, f228), (244, f244), (245, f245)], hints := hnts }
theorem T_slices_Repeat_uint8_uint8 (x : TT [(.sl (.int .u8)), (.int .i64)]) : (fnTreeOwn env200 200 [(.sl (.int .u8)), (.int .i64)] (.sl (.int .u8)) [some 5] x).den = D_slices_Repeat_uint8_uint8 x.1 x.2.1 := by kernel_rfl
theorem C_slices_Repeat_uint8_uint8 : SpecOk Go.Proofs.Tryz.prog 200 s200 :=
  (fnTreeOwn_spec (E := env200) (tysOk_of tys_ok) (specSound_of specsOk_nil) mixed_ok (inlOk_of (inlB_cons func200 nm_200 (inlB_cons func228 nm_228 (inlB_cons func244 nm_244 (inlB_cons func245 nm_245 inlB_nil))))) en_200 [(.sl (.int .u8)), (.int .i64)] (.sl (.int .u8)) [some 5]).weaken (fun x r hx hn => (T_slices_Repeat_uint8_uint8 x).trans (Q_slices_Repeat_uint8_uint8 x r hx hn))
noncomputable def env133 : Env := { ty := tys, specs := [(199, s199), (200, s200)], inl := [(133, f133)], hints := hnts }
theorem T_disk_Flush (x : TT [(.st .Disk)]) : (fnTree env133 133 [(.st .Disk)] [(.st .Disk), (.int .i64)] x).den = D_disk_Flush x.1 := by kernel_rfl
theorem C_disk_Flush : SpecOk Go.Proofs.Tryz.prog 133 s133 :=
  (fnTree_spec (E := env133) (tysOk_of tys_ok) (specSound_of (specsOk_cons C_disk_Crash (specsOk_cons C_slices_Repeat_uint8_uint8 specsOk_nil))) mixed_ok (inlOk_of (inlB_cons func133 nm_133 inlB_nil)) en_133 [(.st .Disk)] [(.st .Disk), (.int .i64)]).weaken (fun x r hx hn => (T_disk_Flush x).trans (Q_disk_Flush x r hx hn))
noncomputable def env201 : Env := { ty := tys, specs := [(145, s145)], inl := [(201, f201)], hints := hnts }
theorem T_disk_asked (x : TT [(.st .Disk), (.int .i64)]) : (fnTree env201 201 [(.st .Disk), (.int .i64)] [(.int .i64)] x).den = D_disk_asked x.1 x.2.1 := by kernel_rfl
theorem C_disk_asked : SpecOk Go.Proofs.Tryz.prog 201 s201 :=
  (fnTree_spec (E := env201) (tysOk_of tys_ok) (specSound_of (specsOk_cons C_disk_Check specsOk_nil)) mixed_ok (inlOk_of (inlB_cons func201 nm_201 inlB_nil)) en_201 [(.st .Disk), (.int .i64)] [(.int .i64)]).weaken (fun x r hx hn => (T_disk_asked x).trans (Q_disk_asked x r hx hn))
noncomputable def env134 : Env := { ty := tys, specs := [(75, s75), (115, s115), (201, s201), (202, s202)], inl := [(134, f134)], hints := hnts }
theorem T_disk_Write (x : TT [(.st .Disk), (.int .i64), (.sl (.int .u8))]) : (fnTree env134 134 [(.st .Disk), (.int .i64), (.sl (.int .u8))] [(.st .Disk), (.int .i64)] x).den = D_disk_Write x.1 x.2.1 x.2.2.1 := by kernel_rfl
theorem C_disk_Write : SpecOk Go.Proofs.Tryz.prog 134 s134 :=
  (fnTree_spec (E := env134) (tysOk_of tys_ok) (specSound_of (specsOk_cons C_disk_Twin (specsOk_cons C_slices_Clone_byte_byte (specsOk_cons C_disk_asked (specsOk_cons C_disk_sized specsOk_nil))))) mixed_ok (inlOk_of (inlB_cons func134 nm_134 inlB_nil)) en_134 [(.st .Disk), (.int .i64), (.sl (.int .u8))] [(.st .Disk), (.int .i64)]).weaken (fun x r hx hn => (T_disk_Write x).trans (Q_disk_Write x r hx hn))
noncomputable def env231 : Env := { ty := tys, specs := [], inl := [(231, f231)], hints := hnts }
theorem T_msg_sizes (x : TT []) : (fnTree env231 231 [] [(.sl (.int .i64))] x).den = D_msg_sizes := by kernel_rfl
theorem C_msg_sizes : SpecOk Go.Proofs.Tryz.prog 231 s231 :=
  (fnTree_spec (E := env231) (tysOk_of tys_ok) (specSound_of specsOk_nil) mixed_ok (inlOk_of (inlB_cons func231 nm_231 inlB_nil)) en_231 [] [(.sl (.int .i64))]).weaken (fun x r hx hn => (T_msg_sizes x).trans (Q_msg_sizes x r hx hn))
noncomputable def env232 : Env := { ty := tys, specs := [], inl := [(232, f232), (248, f248)], hints := hnts }
theorem T_slices_Concat_byte_byte (x : TT [(.sl (.sl (.int .u8)))]) : (fnTree env232 232 [(.sl (.sl (.int .u8)))] [(.sl (.int .u8))] x).den = D_slices_Concat_byte_byte x.1 := by kernel_rfl
theorem C_slices_Concat_byte_byte : SpecOk Go.Proofs.Tryz.prog 232 s232 :=
  (fnTree_spec (E := env232) (tysOk_of tys_ok) (specSound_of specsOk_nil) mixed_ok (inlOk_of (inlB_cons func232 nm_232 (inlB_cons func248 nm_248 inlB_nil))) en_232 [(.sl (.sl (.int .u8)))] [(.sl (.int .u8))]).weaken (fun x r hx hn => (T_slices_Concat_byte_byte x).trans (Q_slices_Concat_byte_byte x r hx hn))
noncomputable def env203 : Env := { ty := tys, specs := [(208, s208), (211, s211), (230, s230), (231, s231), (232, s232)], inl := [(203, f203)], hints := hnts }
theorem T_msg_Write (x : TT [(.st .Msg)]) : (fnTree env203 203 [(.st .Msg)] [(.sl (.int .u8)), (.int .i64)] x).den = D_msg_Write x.1 := by kernel_rfl
theorem C_msg_Write : SpecOk Go.Proofs.Tryz.prog 203 s203 :=
  (fnTree_spec (E := env203) (tysOk_of tys_ok) (specSound_of (specsOk_cons C_rec_Note (specsOk_cons C_msg_Check (specsOk_cons C_num_Write (specsOk_cons C_msg_sizes (specsOk_cons C_slices_Concat_byte_byte specsOk_nil)))))) mixed_ok (inlOk_of (inlB_cons func203 nm_203 inlB_nil)) en_203 [(.st .Msg)] [(.sl (.int .u8)), (.int .i64)]).weaken (fun x r hx hn => (T_msg_Write x).trans (Q_msg_Write x r hx hn))
end Go.Cat

set_option maxHeartbeats 0
namespace Go.Cat
open Go Go.Proofs.Tryz
noncomputable def env16 : Env := { ty := tys, specs := [(18, s18), (20, s20), (22, s22), (132, s132), (133, s133), (134, s134), (203, s203)], inl := [(16, f16), (53, f53), (135, f135)], hints := hnts }
theorem T_act_Do (x : TT [(.st .Config), (.st .Site)]) : (fnTree env16 16 [(.st .Config), (.st .Site)] [(.st .Site), (.int .i64)] x).den = D_act_Do x.1 x.2.1 := by kernel_rfl
theorem C_act_Do : SpecOk Go.Proofs.Tryz.prog 16 s16 :=
  (fnTree_spec (E := env16) (tysOk_of tys_ok) (specSound_of (specsOk_cons C_sess_Put (specsOk_cons C_act_Check (specsOk_cons C_act_Twin (specsOk_cons C_ring_New (specsOk_cons C_disk_Flush (specsOk_cons C_disk_Write (specsOk_cons C_msg_Write specsOk_nil)))))))) mixed_ok (inlOk_of (inlB_cons func16 nm_16 (inlB_cons func53 nm_53 (inlB_cons func135 nm_135 inlB_nil)))) en_16 [(.st .Config), (.st .Site)] [(.st .Site), (.int .i64)]).weaken (fun x r hx hn => (T_act_Do x).trans (Q_act_Do x r hx hn))
noncomputable def env17 : Env := { ty := tys, specs := [], inl := [(17, f17)], hints := hnts }
theorem T_law21_two (x : TT []) : (fnTree env17 17 [] [(.st .Config)] x).den = D_law21_two := by kernel_rfl
theorem C_law21_two : SpecOk Go.Proofs.Tryz.prog 17 s17 :=
  (fnTree_spec (E := env17) (tysOk_of tys_ok) (specSound_of specsOk_nil) mixed_ok (inlOk_of (inlB_cons func17 nm_17 inlB_nil)) en_17 [] [(.st .Config)]).weaken (fun x r hx hn => (T_law21_two x).trans (Q_law21_two x r hx hn))
noncomputable def env94 : Env := { ty := tys, specs := [], inl := [(94, f94), (162, f162), (163, f163), (164, f164), (165, f165), (200, f200), (216, f216), (217, f217), (228, f228), (244, f244), (245, f245)], hints := hnts }
theorem T_bits_Of (x : TT [(.int .i64), (.sl (.int .i64))]) : (fnTree env94 94 [(.int .i64), (.sl (.int .i64))] [(.sl (.int .u8)), (.int .i64)] x).den = D_bits_Of x.1 x.2.1 := by kernel_rfl
theorem C_bits_Of : SpecOk Go.Proofs.Tryz.prog 94 s94 :=
  (fnTree_spec (E := env94) (tysOk_of tys_ok) (specSound_of specsOk_nil) mixed_ok (inlOk_of (inlB_cons func94 nm_94 (inlB_cons func162 nm_162 (inlB_cons func163 nm_163 (inlB_cons func164 nm_164 (inlB_cons func165 nm_165 (inlB_cons func200 nm_200 (inlB_cons func216 nm_216 (inlB_cons func217 nm_217 (inlB_cons func228 nm_228 (inlB_cons func244 nm_244 (inlB_cons func245 nm_245 inlB_nil)))))))))))) en_94 [(.int .i64), (.sl (.int .i64))] [(.sl (.int .u8)), (.int .i64)]).weaken (fun x r hx hn => (T_bits_Of x).trans (Q_bits_Of x r hx hn))
noncomputable def env23 : Env := { ty := tys, specs := [(57, s57), (94, s94)], inl := [(23, f23), (93, f93)], hints := hnts }
theorem T_act_Side (x : TT [(.st .Config)]) : (fnTree env23 23 [(.st .Config)] [(.st .Side), (.int .i64)] x).den = D_act_Side x.1 := by kernel_rfl
theorem C_act_Side : SpecOk Go.Proofs.Tryz.prog 23 s23 :=
  (fnTree_spec (E := env23) (tysOk_of tys_ok) (specSound_of (specsOk_cons C_place_Check (specsOk_cons C_bits_Of specsOk_nil))) mixed_ok (inlOk_of (inlB_cons func23 nm_23 (inlB_cons func93 nm_93 inlB_nil))) en_23 [(.st .Config)] [(.st .Side), (.int .i64)]).weaken (fun x r hx hn => (T_act_Side x).trans (Q_act_Side x r hx hn))
noncomputable def env51 : Env := { ty := tys, specs := [], inl := [(51, f51)], hints := hnts }
theorem T_disk_New (x : TT [(.int .i64)]) : (fnTree env51 51 [(.int .i64)] [(.st .Disk), (.int .i64)] x).den = D_disk_New x.1 := by kernel_rfl
theorem C_disk_New : SpecOk Go.Proofs.Tryz.prog 51 s51 :=
  (fnTree_spec (E := env51) (tysOk_of tys_ok) (specSound_of specsOk_nil) mixed_ok (inlOk_of (inlB_cons func51 nm_51 inlB_nil)) en_51 [(.int .i64)] [(.st .Disk), (.int .i64)]).weaken (fun x r hx hn => (T_disk_New x).trans (Q_disk_New x r hx hn))
noncomputable def env52 : Env := { ty := tys, specs := [(132, s132)], inl := [(52, f52)], hints := hnts }
theorem T_sess_New (x : TT [(.int .u32)]) : (fnTree env52 52 [(.int .u32)] [(.st .End), (.int .i64)] x).den = D_sess_New x.1 := by kernel_rfl
theorem C_sess_New : SpecOk Go.Proofs.Tryz.prog 52 s52 :=
  (fnTree_spec (E := env52) (tysOk_of tys_ok) (specSound_of (specsOk_cons C_ring_New specsOk_nil)) mixed_ok (inlOk_of (inlB_cons func52 nm_52 inlB_nil)) en_52 [(.int .u32)] [(.st .End), (.int .i64)]).weaken (fun x r hx hn => (T_sess_New x).trans (Q_sess_New x r hx hn))
noncomputable def env15 : Env := { ty := tys, specs := [(17, s17), (23, s23), (50, s50), (51, s51), (52, s52)], inl := [(15, f15)], hints := hnts }
theorem T_law21_blank (x : TT []) : (fnTree env15 15 [] [(.st .Site), .bool] x).den = D_law21_blank := by kernel_rfl
theorem C_law21_blank : SpecOk Go.Proofs.Tryz.prog 15 s15 :=
  (fnTree_spec (E := env15) (tysOk_of tys_ok) (specSound_of (specsOk_cons C_law21_two (specsOk_cons C_act_Side (specsOk_cons C_place_Sectors (specsOk_cons C_disk_New (specsOk_cons C_sess_New specsOk_nil)))))) mixed_ok (inlOk_of (inlB_cons func15 nm_15 inlB_nil)) en_15 [] [(.st .Site), .bool]).weaken (fun x r hx hn => (T_law21_blank x).trans (Q_law21_blank x r hx hn))
end Go.Cat

set_option maxHeartbeats 0
namespace Go.Cat
open Go Go.Proofs.Tryz
noncomputable def env19 : Env := { ty := tys, specs := [(15, s15), (16, s16), (17, s17)], inl := [(19, f19)], hints := hnts }
theorem T_law21_alive (x : TT []) : (fnTree env19 19 [] [.bool] x).den = D_law21_alive := by kernel_rfl
theorem C_law21_alive : SpecOk Go.Proofs.Tryz.prog 19 s19 :=
  (fnTree_spec (E := env19) (tysOk_of tys_ok) (specSound_of (specsOk_cons C_law21_blank (specsOk_cons C_act_Do (specsOk_cons C_law21_two specsOk_nil)))) mixed_ok (inlOk_of (inlB_cons func19 nm_19 inlB_nil)) en_19 [] [.bool]).weaken (fun x r hx hn => (T_law21_alive x).trans (Q_law21_alive x r hx hn))
noncomputable def env6 : Env := { ty := tys, specs := [(8, s8), (9, s9), (12, s12), (16, s16), (19, s19), (20, s20)], inl := [(6, f6)], hints := hnts }
theorem T_law21_ActEnds (x : TT [(.st .Config), (.st .Site)]) : (fnTree env6 6 [(.st .Config), (.st .Site)] [.bool] x).den = D_law21_ActEnds x.1 x.2.1 := by kernel_rfl
theorem C_law21_ActEnds : SpecOk Go.Proofs.Tryz.prog 6 ⟨[(.st .Config), (.st .Site)], [.bool], none, fun x => (fnTree env6 6 [(.st .Config), (.st .Site)] [.bool] x).den⟩ :=
  fnTree_spec (E := env6) (tysOk_of tys_ok) (specSound_of (specsOk_cons C_ref21_Great (specsOk_cons C_ref21_Twin (specsOk_cons C_ref21_Same (specsOk_cons C_act_Do (specsOk_cons C_law21_alive (specsOk_cons C_act_Check specsOk_nil))))))) mixed_ok (inlOk_of (inlB_cons func6 nm_6 inlB_nil)) en_6 [(.st .Config), (.st .Site)] [.bool]
end Go.Cat

set_option maxHeartbeats 0
namespace Go.Cat
open Go Go.Proofs.Tryz
noncomputable def env5 : Env := { ty := tys, specs := [(15, s15), (16, s16), (17, s17), (18, s18), (19, s19), (20, s20)], inl := [(5, f5)], hints := hnts }
theorem T_law21_ActNames (x : TT []) : (fnTree env5 5 [] [.bool] x).den = D_law21_ActNames := by kernel_rfl
theorem C_law21_ActNames : SpecOk Go.Proofs.Tryz.prog 5 ⟨[], [.bool], none, fun x => (fnTree env5 5 [] [.bool] x).den⟩ :=
  fnTree_spec (E := env5) (tysOk_of tys_ok) (specSound_of (specsOk_cons C_law21_blank (specsOk_cons C_act_Do (specsOk_cons C_law21_two (specsOk_cons C_sess_Put (specsOk_cons C_law21_alive (specsOk_cons C_act_Check specsOk_nil))))))) mixed_ok (inlOk_of (inlB_cons func5 nm_5 inlB_nil)) en_5 [] [.bool]
end Go.Cat
