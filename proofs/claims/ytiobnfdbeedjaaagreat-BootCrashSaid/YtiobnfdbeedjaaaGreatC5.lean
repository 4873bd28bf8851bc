/-
  CatOf: printed by gen_of.py: cells of the right kinds are a datum.
  CatTrod: arguments that read as data are data.
  CatArg: an argument that reads as data is a datum.
  CatRow: a law's arguments are data; and they stand as they stood.
  CatChk: what an environment tells of a program, looked at by the kernel.
  CatRound: regions in a round of a range over a function.
  CatRange: a range over a function whose body is one region.
  CatRange2: a function's end, where a range over a function has been.
  CatPlain: plain laws of loops, numbers and lists.
-/
import Derived.Test.YtiobnfdbeedjaaaGreatC4
import Derived.ChangeShapes
import Derived.OpenShut
import Derived.Carry
import Derived.WideShapes
import Derived.OrdersIn
import Derived.RangeFuncCalls
import Derived.RangeFuncFrom
import Derived.RangeFuncLeaves
import Derived.TacticsInMore
import Derived.WalkKit
set_option linter.unusedVariables false
set_option linter.unusedSimpArgs false
namespace Go.Cat
open Go

theorem kcons {k : LK} {ks : List LK} {l : List Leaf} (h : l.map kindOf = k :: ks) : ∃ a l', l = a :: l' ∧ kindOf a = k ∧ l'.map kindOf = ks := by
  cases l with
  | nil => simp at h
  | cons a l => simp at h; exact ⟨a, l, rfl, h.1, h.2⟩
theorem knil {l : List Leaf} (h : l.map kindOf = []) : l = [] := by simpa using h
theorem kint {a : Leaf} {k : IntKind} (h : kindOf a = .int k) : ∃ n, a = .int k n := by cases a <;> simp [kindOf] at h; subst h; exact ⟨_, rfl⟩
theorem kbool {a : Leaf} (h : kindOf a = .bool) : ∃ n, a = .bool n := by cases a <;> simp [kindOf] at h; exact ⟨_, rfl⟩
theorem kstr {a : Leaf} (h : kindOf a = .str) : ∃ n, a = .str n := by cases a <;> simp [kindOf] at h; exact ⟨_, rfl⟩
theorem ksl {a : Leaf} {e : EN} (h : kindOf a = .sl e) : ∃ n, a = .sl e n := by cases a <;> simp [kindOf] at h; subst h; exact ⟨_, rfl⟩

theorem of_Sector {l : List Leaf} (h : l.map kindOf = stKinds .Sector) : ∃ x, stOf .Sector l = some x := by
  obtain ⟨a0, l0, rfl, h0, g0⟩ := kcons h; obtain ⟨b0, rfl⟩ := ksl h0
  obtain ⟨a1, l1, rfl, h1, g1⟩ := kcons g0; obtain ⟨b1, rfl⟩ := kbool h1
  obtain rfl := knil g1
  exact ⟨_, rfl⟩

theorem of_Pend {l : List Leaf} (h : l.map kindOf = stKinds .Pend) : ∃ x, stOf .Pend l = some x := by
  obtain ⟨a0, l0, rfl, h0, g0⟩ := kcons h; obtain ⟨b0, rfl⟩ := kint h0
  obtain ⟨a1, l1, rfl, h1, g1⟩ := kcons g0; obtain ⟨b1, rfl⟩ := ksl h1
  obtain rfl := knil g1
  exact ⟨_, rfl⟩

theorem of_Disk {l : List Leaf} (h : l.map kindOf = stKinds .Disk) : ∃ x, stOf .Disk l = some x := by
  obtain ⟨a0, l0, rfl, h0, g0⟩ := kcons h; obtain ⟨b0, rfl⟩ := ksl h0
  obtain ⟨a1, l1, rfl, h1, g1⟩ := kcons g0; obtain ⟨b1, rfl⟩ := ksl h1
  obtain rfl := knil g1
  exact ⟨_, rfl⟩

theorem of_Super {l : List Leaf} (h : l.map kindOf = stKinds .Super) : ∃ x, stOf .Super l = some x := by
  obtain ⟨a0, l0, rfl, h0, g0⟩ := kcons h; obtain ⟨b0, rfl⟩ := kint h0
  obtain ⟨a1, l1, rfl, h1, g1⟩ := kcons g0; obtain ⟨b1, rfl⟩ := kint h1
  obtain ⟨a2, l2, rfl, h2, g2⟩ := kcons g1; obtain ⟨b2, rfl⟩ := kint h2
  obtain rfl := knil g2
  exact ⟨_, rfl⟩

theorem of_Rec {l : List Leaf} (h : l.map kindOf = stKinds .Rec) : ∃ x, stOf .Rec l = some x := by
  obtain ⟨a0, l0, rfl, h0, g0⟩ := kcons h; obtain ⟨b0, rfl⟩ := kint h0
  obtain ⟨a1, l1, rfl, h1, g1⟩ := kcons g0; obtain ⟨b1, rfl⟩ := kint h1
  obtain ⟨a2, l2, rfl, h2, g2⟩ := kcons g1; obtain ⟨b2, rfl⟩ := kint h2
  obtain ⟨a3, l3, rfl, h3, g3⟩ := kcons g2; obtain ⟨b3, rfl⟩ := kint h3
  obtain ⟨a4, l4, rfl, h4, g4⟩ := kcons g3; obtain ⟨b4, rfl⟩ := kint h4
  obtain ⟨a5, l5, rfl, h5, g5⟩ := kcons g4; obtain ⟨b5, rfl⟩ := kint h5
  obtain ⟨a6, l6, rfl, h6, g6⟩ := kcons g5; obtain ⟨b6, rfl⟩ := kbool h6
  obtain ⟨a7, l7, rfl, h7, g7⟩ := kcons g6; obtain ⟨b7, rfl⟩ := kbool h7
  obtain rfl := knil g7
  exact ⟨_, rfl⟩

theorem of_Meta {l : List Leaf} (h : l.map kindOf = stKinds .Meta) : ∃ x, stOf .Meta l = some x := by
  obtain ⟨a0, l0, rfl, h0, g0⟩ := kcons h; obtain ⟨b0, rfl⟩ := kint h0
  obtain ⟨a1, l1, rfl, h1, g1⟩ := kcons g0; obtain ⟨b1, rfl⟩ := kint h1
  obtain ⟨a2, l2, rfl, h2, g2⟩ := kcons g1; obtain ⟨b2, rfl⟩ := kint h2
  obtain ⟨a3, l3, rfl, h3, g3⟩ := kcons g2; obtain ⟨b3, rfl⟩ := kint h3
  obtain ⟨a4, l4, rfl, h4, g4⟩ := kcons g3; obtain ⟨b4, rfl⟩ := kint h4
  obtain ⟨a5, l5, rfl, h5, g5⟩ := kcons g4; obtain ⟨b5, rfl⟩ := ksl h5
  obtain rfl := knil g5
  exact ⟨_, rfl⟩

theorem of_Msg {l : List Leaf} (h : l.map kindOf = stKinds .Msg) : ∃ x, stOf .Msg l = some x := by
  obtain ⟨a0, l0, rfl, h0, g0⟩ := kcons h; obtain ⟨b0, rfl⟩ := kint h0
  obtain ⟨a1, l1, rfl, h1, g1⟩ := kcons g0; obtain ⟨b1, rfl⟩ := kint h1
  obtain ⟨a2, l2, rfl, h2, g2⟩ := kcons g1; obtain ⟨b2, rfl⟩ := kbool h2
  obtain ⟨a3, l3, rfl, h3, g3⟩ := kcons g2; obtain ⟨b3, rfl⟩ := kint h3
  obtain ⟨a4, l4, rfl, h4, g4⟩ := kcons g3; obtain ⟨b4, rfl⟩ := kint h4
  obtain ⟨a5, l5, rfl, h5, g5⟩ := kcons g4; obtain ⟨b5, rfl⟩ := kint h5
  obtain ⟨a6, l6, rfl, h6, g6⟩ := kcons g5; obtain ⟨b6, rfl⟩ := kint h6
  obtain ⟨a7, l7, rfl, h7, g7⟩ := kcons g6; obtain ⟨b7, rfl⟩ := kint h7
  obtain ⟨a8, l8, rfl, h8, g8⟩ := kcons g7; obtain ⟨b8, rfl⟩ := kint h8
  obtain ⟨a9, l9, rfl, h9, g9⟩ := kcons g8; obtain ⟨b9, rfl⟩ := kbool h9
  obtain ⟨a10, l10, rfl, h10, g10⟩ := kcons g9; obtain ⟨b10, rfl⟩ := kbool h10
  obtain ⟨a11, l11, rfl, h11, g11⟩ := kcons g10; obtain ⟨b11, rfl⟩ := kint h11
  obtain ⟨a12, l12, rfl, h12, g12⟩ := kcons g11; obtain ⟨b12, rfl⟩ := kint h12
  obtain ⟨a13, l13, rfl, h13, g13⟩ := kcons g12; obtain ⟨b13, rfl⟩ := kint h13
  obtain ⟨a14, l14, rfl, h14, g14⟩ := kcons g13; obtain ⟨b14, rfl⟩ := kint h14
  obtain ⟨a15, l15, rfl, h15, g15⟩ := kcons g14; obtain ⟨b15, rfl⟩ := kint h15
  obtain ⟨a16, l16, rfl, h16, g16⟩ := kcons g15; obtain ⟨b16, rfl⟩ := kint h16
  obtain ⟨a17, l17, rfl, h17, g17⟩ := kcons g16; obtain ⟨b17, rfl⟩ := ksl h17
  obtain ⟨a18, l18, rfl, h18, g18⟩ := kcons g17; obtain ⟨b18, rfl⟩ := ksl h18
  obtain rfl := knil g18
  exact ⟨_, rfl⟩

theorem of_Reply {l : List Leaf} (h : l.map kindOf = stKinds .Reply) : ∃ x, stOf .Reply l = some x := by
  obtain ⟨a0, l0, rfl, h0, g0⟩ := kcons h; obtain ⟨b0, rfl⟩ := kint h0
  obtain ⟨a1, l1, rfl, h1, g1⟩ := kcons g0; obtain ⟨b1, rfl⟩ := kint h1
  obtain ⟨a2, l2, rfl, h2, g2⟩ := kcons g1; obtain ⟨b2, rfl⟩ := kint h2
  obtain ⟨a3, l3, rfl, h3, g3⟩ := kcons g2; obtain ⟨b3, rfl⟩ := ksl h3
  obtain rfl := knil g3
  exact ⟨_, rfl⟩

theorem of_Act {l : List Leaf} (h : l.map kindOf = stKinds .Act) : ∃ x, stOf .Act l = some x := by
  obtain ⟨a0, l0, rfl, h0, g0⟩ := kcons h; obtain ⟨b0, rfl⟩ := kint h0
  obtain ⟨a1, l1, rfl, h1, g1⟩ := kcons g0; obtain ⟨b1, rfl⟩ := kint h1
  obtain ⟨a2, l2, rfl, h2, g2⟩ := kcons g1; obtain ⟨b2, rfl⟩ := ksl h2
  obtain ⟨a3, l3, rfl, h3, g3⟩ := kcons g2; obtain ⟨b3, rfl⟩ := kint h3
  obtain ⟨a4, l4, rfl, h4, g4⟩ := kcons g3; obtain ⟨b4, rfl⟩ := kint h4
  obtain ⟨a5, l5, rfl, h5, g5⟩ := kcons g4; obtain ⟨b5, rfl⟩ := kint h5
  obtain ⟨a6, l6, rfl, h6, g6⟩ := kcons g5; obtain ⟨b6, rfl⟩ := kint h6
  obtain ⟨a7, l7, rfl, h7, g7⟩ := kcons g6; obtain ⟨b7, rfl⟩ := kbool h7
  obtain ⟨a8, l8, rfl, h8, g8⟩ := kcons g7; obtain ⟨b8, rfl⟩ := kint h8
  obtain ⟨a9, l9, rfl, h9, g9⟩ := kcons g8; obtain ⟨b9, rfl⟩ := kint h9
  obtain ⟨a10, l10, rfl, h10, g10⟩ := kcons g9; obtain ⟨b10, rfl⟩ := kint h10
  obtain ⟨a11, l11, rfl, h11, g11⟩ := kcons g10; obtain ⟨b11, rfl⟩ := kint h11
  obtain ⟨a12, l12, rfl, h12, g12⟩ := kcons g11; obtain ⟨b12, rfl⟩ := kint h12
  obtain ⟨a13, l13, rfl, h13, g13⟩ := kcons g12; obtain ⟨b13, rfl⟩ := kint h13
  obtain ⟨a14, l14, rfl, h14, g14⟩ := kcons g13; obtain ⟨b14, rfl⟩ := kbool h14
  obtain ⟨a15, l15, rfl, h15, g15⟩ := kcons g14; obtain ⟨b15, rfl⟩ := kbool h15
  obtain ⟨a16, l16, rfl, h16, g16⟩ := kcons g15; obtain ⟨b16, rfl⟩ := kint h16
  obtain ⟨a17, l17, rfl, h17, g17⟩ := kcons g16; obtain ⟨b17, rfl⟩ := kint h17
  obtain ⟨a18, l18, rfl, h18, g18⟩ := kcons g17; obtain ⟨b18, rfl⟩ := kint h18
  obtain ⟨a19, l19, rfl, h19, g19⟩ := kcons g18; obtain ⟨b19, rfl⟩ := kint h19
  obtain ⟨a20, l20, rfl, h20, g20⟩ := kcons g19; obtain ⟨b20, rfl⟩ := kint h20
  obtain ⟨a21, l21, rfl, h21, g21⟩ := kcons g20; obtain ⟨b21, rfl⟩ := kint h21
  obtain ⟨a22, l22, rfl, h22, g22⟩ := kcons g21; obtain ⟨b22, rfl⟩ := ksl h22
  obtain ⟨a23, l23, rfl, h23, g23⟩ := kcons g22; obtain ⟨b23, rfl⟩ := ksl h23
  obtain ⟨a24, l24, rfl, h24, g24⟩ := kcons g23; obtain ⟨b24, rfl⟩ := kint h24
  obtain ⟨a25, l25, rfl, h25, g25⟩ := kcons g24; obtain ⟨b25, rfl⟩ := kint h25
  obtain ⟨a26, l26, rfl, h26, g26⟩ := kcons g25; obtain ⟨b26, rfl⟩ := kint h26
  obtain ⟨a27, l27, rfl, h27, g27⟩ := kcons g26; obtain ⟨b27, rfl⟩ := ksl h27
  obtain ⟨a28, l28, rfl, h28, g28⟩ := kcons g27; obtain ⟨b28, rfl⟩ := kint h28
  obtain rfl := knil g28
  exact ⟨_, rfl⟩

theorem of_Ask {l : List Leaf} (h : l.map kindOf = stKinds .Ask) : ∃ x, stOf .Ask l = some x := by
  obtain ⟨a0, l0, rfl, h0, g0⟩ := kcons h; obtain ⟨b0, rfl⟩ := kint h0
  obtain ⟨a1, l1, rfl, h1, g1⟩ := kcons g0; obtain ⟨b1, rfl⟩ := kint h1
  obtain ⟨a2, l2, rfl, h2, g2⟩ := kcons g1; obtain ⟨b2, rfl⟩ := kint h2
  obtain ⟨a3, l3, rfl, h3, g3⟩ := kcons g2; obtain ⟨b3, rfl⟩ := kint h3
  obtain ⟨a4, l4, rfl, h4, g4⟩ := kcons g3; obtain ⟨b4, rfl⟩ := kint h4
  obtain ⟨a5, l5, rfl, h5, g5⟩ := kcons g4; obtain ⟨b5, rfl⟩ := ksl h5
  obtain rfl := knil g5
  exact ⟨_, rfl⟩

theorem of_Mail {l : List Leaf} (h : l.map kindOf = stKinds .Mail) : ∃ x, stOf .Mail l = some x := by
  obtain ⟨a0, l0, rfl, h0, g0⟩ := kcons h; obtain ⟨b0, rfl⟩ := kint h0
  obtain ⟨a1, l1, rfl, h1, g1⟩ := kcons g0; obtain ⟨b1, rfl⟩ := kint h1
  obtain ⟨a2, l2, rfl, h2, g2⟩ := kcons g1; obtain ⟨b2, rfl⟩ := kint h2
  obtain ⟨a3, l3, rfl, h3, g3⟩ := kcons g2; obtain ⟨b3, rfl⟩ := kint h3
  obtain ⟨a4, l4, rfl, h4, g4⟩ := kcons g3; obtain ⟨b4, rfl⟩ := kint h4
  obtain ⟨a5, l5, rfl, h5, g5⟩ := kcons g4; obtain ⟨b5, rfl⟩ := kbool h5
  obtain ⟨a6, l6, rfl, h6, g6⟩ := kcons g5; obtain ⟨b6, rfl⟩ := kint h6
  obtain ⟨a7, l7, rfl, h7, g7⟩ := kcons g6; obtain ⟨b7, rfl⟩ := kint h7
  obtain ⟨a8, l8, rfl, h8, g8⟩ := kcons g7; obtain ⟨b8, rfl⟩ := kint h8
  obtain ⟨a9, l9, rfl, h9, g9⟩ := kcons g8; obtain ⟨b9, rfl⟩ := kint h9
  obtain ⟨a10, l10, rfl, h10, g10⟩ := kcons g9; obtain ⟨b10, rfl⟩ := kint h10
  obtain ⟨a11, l11, rfl, h11, g11⟩ := kcons g10; obtain ⟨b11, rfl⟩ := kint h11
  obtain ⟨a12, l12, rfl, h12, g12⟩ := kcons g11; obtain ⟨b12, rfl⟩ := kbool h12
  obtain ⟨a13, l13, rfl, h13, g13⟩ := kcons g12; obtain ⟨b13, rfl⟩ := kbool h13
  obtain ⟨a14, l14, rfl, h14, g14⟩ := kcons g13; obtain ⟨b14, rfl⟩ := kint h14
  obtain ⟨a15, l15, rfl, h15, g15⟩ := kcons g14; obtain ⟨b15, rfl⟩ := kint h15
  obtain ⟨a16, l16, rfl, h16, g16⟩ := kcons g15; obtain ⟨b16, rfl⟩ := kint h16
  obtain ⟨a17, l17, rfl, h17, g17⟩ := kcons g16; obtain ⟨b17, rfl⟩ := kint h17
  obtain ⟨a18, l18, rfl, h18, g18⟩ := kcons g17; obtain ⟨b18, rfl⟩ := kint h18
  obtain ⟨a19, l19, rfl, h19, g19⟩ := kcons g18; obtain ⟨b19, rfl⟩ := kint h19
  obtain ⟨a20, l20, rfl, h20, g20⟩ := kcons g19; obtain ⟨b20, rfl⟩ := ksl h20
  obtain ⟨a21, l21, rfl, h21, g21⟩ := kcons g20; obtain ⟨b21, rfl⟩ := ksl h21
  obtain rfl := knil g21
  exact ⟨_, rfl⟩

theorem of_Sent {l : List Leaf} (h : l.map kindOf = stKinds .Sent) : ∃ x, stOf .Sent l = some x := by
  obtain ⟨a0, l0, rfl, h0, g0⟩ := kcons h; obtain ⟨b0, rfl⟩ := kint h0
  obtain ⟨a1, l1, rfl, h1, g1⟩ := kcons g0; obtain ⟨b1, rfl⟩ := kint h1
  obtain ⟨a2, l2, rfl, h2, g2⟩ := kcons g1; obtain ⟨b2, rfl⟩ := kbool h2
  obtain rfl := knil g2
  exact ⟨_, rfl⟩

theorem of_Wait {l : List Leaf} (h : l.map kindOf = stKinds .Wait) : ∃ x, stOf .Wait l = some x := by
  obtain ⟨a0, l0, rfl, h0, g0⟩ := kcons h; obtain ⟨b0, rfl⟩ := kint h0
  obtain ⟨a1, l1, rfl, h1, g1⟩ := kcons g0; obtain ⟨b1, rfl⟩ := kint h1
  obtain ⟨a2, l2, rfl, h2, g2⟩ := kcons g1; obtain ⟨b2, rfl⟩ := kint h2
  obtain ⟨a3, l3, rfl, h3, g3⟩ := kcons g2; obtain ⟨b3, rfl⟩ := kbool h3
  obtain rfl := knil g3
  exact ⟨_, rfl⟩

theorem of_Side {l : List Leaf} (h : l.map kindOf = stKinds .Side) : ∃ x, stOf .Side l = some x := by
  obtain ⟨a0, l0, rfl, h0, g0⟩ := kcons h; obtain ⟨b0, rfl⟩ := ksl h0
  obtain ⟨a1, l1, rfl, h1, g1⟩ := kcons g0; obtain ⟨b1, rfl⟩ := ksl h1
  obtain ⟨a2, l2, rfl, h2, g2⟩ := kcons g1; obtain ⟨b2, rfl⟩ := ksl h2
  obtain ⟨a3, l3, rfl, h3, g3⟩ := kcons g2; obtain ⟨b3, rfl⟩ := kint h3
  obtain ⟨a4, l4, rfl, h4, g4⟩ := kcons g3; obtain ⟨b4, rfl⟩ := ksl h4
  obtain ⟨a5, l5, rfl, h5, g5⟩ := kcons g4; obtain ⟨b5, rfl⟩ := ksl h5
  obtain ⟨a6, l6, rfl, h6, g6⟩ := kcons g5; obtain ⟨b6, rfl⟩ := kint h6
  obtain ⟨a7, l7, rfl, h7, g7⟩ := kcons g6; obtain ⟨b7, rfl⟩ := kint h7
  obtain ⟨a8, l8, rfl, h8, g8⟩ := kcons g7; obtain ⟨b8, rfl⟩ := kint h8
  obtain ⟨a9, l9, rfl, h9, g9⟩ := kcons g8; obtain ⟨b9, rfl⟩ := kint h9
  obtain ⟨a10, l10, rfl, h10, g10⟩ := kcons g9; obtain ⟨b10, rfl⟩ := kbool h10
  obtain ⟨a11, l11, rfl, h11, g11⟩ := kcons g10; obtain ⟨b11, rfl⟩ := kbool h11
  obtain ⟨a12, l12, rfl, h12, g12⟩ := kcons g11; obtain ⟨b12, rfl⟩ := kbool h12
  obtain ⟨a13, l13, rfl, h13, g13⟩ := kcons g12; obtain ⟨b13, rfl⟩ := kbool h13
  obtain rfl := knil g13
  exact ⟨_, rfl⟩

theorem of_Queue {l : List Leaf} (h : l.map kindOf = stKinds .Queue) : ∃ x, stOf .Queue l = some x := by
  obtain ⟨a0, l0, rfl, h0, g0⟩ := kcons h; obtain ⟨b0, rfl⟩ := ksl h0
  obtain ⟨a1, l1, rfl, h1, g1⟩ := kcons g0; obtain ⟨b1, rfl⟩ := kint h1
  obtain ⟨a2, l2, rfl, h2, g2⟩ := kcons g1; obtain ⟨b2, rfl⟩ := kint h2
  obtain rfl := knil g2
  exact ⟨_, rfl⟩

theorem of_End {l : List Leaf} (h : l.map kindOf = stKinds .End) : ∃ x, stOf .End l = some x := by
  obtain ⟨a0, l0, rfl, h0, g0⟩ := kcons h; obtain ⟨b0, rfl⟩ := kint h0
  obtain ⟨a1, l1, rfl, h1, g1⟩ := kcons g0; obtain ⟨b1, rfl⟩ := kint h1
  obtain ⟨a2, l2, rfl, h2, g2⟩ := kcons g1; obtain ⟨b2, rfl⟩ := kbool h2
  obtain ⟨a3, l3, rfl, h3, g3⟩ := kcons g2; obtain ⟨b3, rfl⟩ := kbool h3
  obtain ⟨a4, l4, rfl, h4, g4⟩ := kcons g3; obtain ⟨b4, rfl⟩ := kint h4
  obtain ⟨a5, l5, rfl, h5, g5⟩ := kcons g4; obtain ⟨b5, rfl⟩ := kint h5
  obtain ⟨a6, l6, rfl, h6, g6⟩ := kcons g5; obtain ⟨b6, rfl⟩ := ksl h6
  obtain ⟨a7, l7, rfl, h7, g7⟩ := kcons g6; obtain ⟨b7, rfl⟩ := kint h7
  obtain ⟨a8, l8, rfl, h8, g8⟩ := kcons g7; obtain ⟨b8, rfl⟩ := kint h8
  obtain ⟨a9, l9, rfl, h9, g9⟩ := kcons g8; obtain ⟨b9, rfl⟩ := kint h9
  obtain ⟨a10, l10, rfl, h10, g10⟩ := kcons g9; obtain ⟨b10, rfl⟩ := kint h10
  obtain rfl := knil g10
  exact ⟨_, rfl⟩

theorem of_Site {l : List Leaf} (h : l.map kindOf = stKinds .Site) : ∃ x, stOf .Site l = some x := by
  obtain ⟨a0, l0, rfl, h0, g0⟩ := kcons h; obtain ⟨b0, rfl⟩ := kint h0
  obtain ⟨a1, l1, rfl, h1, g1⟩ := kcons g0; obtain ⟨b1, rfl⟩ := ksl h1
  obtain ⟨a2, l2, rfl, h2, g2⟩ := kcons g1; obtain ⟨b2, rfl⟩ := ksl h2
  obtain ⟨a3, l3, rfl, h3, g3⟩ := kcons g2; obtain ⟨b3, rfl⟩ := kint h3
  obtain ⟨a4, l4, rfl, h4, g4⟩ := kcons g3; obtain ⟨b4, rfl⟩ := kint h4
  obtain ⟨a5, l5, rfl, h5, g5⟩ := kcons g4; obtain ⟨b5, rfl⟩ := kint h5
  obtain ⟨a6, l6, rfl, h6, g6⟩ := kcons g5; obtain ⟨b6, rfl⟩ := kint h6
  obtain ⟨a7, l7, rfl, h7, g7⟩ := kcons g6; obtain ⟨b7, rfl⟩ := kint h7
  obtain ⟨a8, l8, rfl, h8, g8⟩ := kcons g7; obtain ⟨b8, rfl⟩ := ksl h8
  obtain ⟨a9, l9, rfl, h9, g9⟩ := kcons g8; obtain ⟨b9, rfl⟩ := ksl h9
  obtain ⟨a10, l10, rfl, h10, g10⟩ := kcons g9; obtain ⟨b10, rfl⟩ := kint h10
  obtain ⟨a11, l11, rfl, h11, g11⟩ := kcons g10; obtain ⟨b11, rfl⟩ := kint h11
  obtain ⟨a12, l12, rfl, h12, g12⟩ := kcons g11; obtain ⟨b12, rfl⟩ := kbool h12
  obtain ⟨a13, l13, rfl, h13, g13⟩ := kcons g12; obtain ⟨b13, rfl⟩ := kbool h13
  obtain ⟨a14, l14, rfl, h14, g14⟩ := kcons g13; obtain ⟨b14, rfl⟩ := kint h14
  obtain ⟨a15, l15, rfl, h15, g15⟩ := kcons g14; obtain ⟨b15, rfl⟩ := kint h15
  obtain ⟨a16, l16, rfl, h16, g16⟩ := kcons g15; obtain ⟨b16, rfl⟩ := ksl h16
  obtain ⟨a17, l17, rfl, h17, g17⟩ := kcons g16; obtain ⟨b17, rfl⟩ := kint h17
  obtain ⟨a18, l18, rfl, h18, g18⟩ := kcons g17; obtain ⟨b18, rfl⟩ := kint h18
  obtain ⟨a19, l19, rfl, h19, g19⟩ := kcons g18; obtain ⟨b19, rfl⟩ := kint h19
  obtain ⟨a20, l20, rfl, h20, g20⟩ := kcons g19; obtain ⟨b20, rfl⟩ := kint h20
  obtain ⟨a21, l21, rfl, h21, g21⟩ := kcons g20; obtain ⟨b21, rfl⟩ := ksl h21
  obtain ⟨a22, l22, rfl, h22, g22⟩ := kcons g21; obtain ⟨b22, rfl⟩ := ksl h22
  obtain ⟨a23, l23, rfl, h23, g23⟩ := kcons g22; obtain ⟨b23, rfl⟩ := ksl h23
  obtain ⟨a24, l24, rfl, h24, g24⟩ := kcons g23; obtain ⟨b24, rfl⟩ := ksl h24
  obtain ⟨a25, l25, rfl, h25, g25⟩ := kcons g24; obtain ⟨b25, rfl⟩ := ksl h25
  obtain ⟨a26, l26, rfl, h26, g26⟩ := kcons g25; obtain ⟨b26, rfl⟩ := kint h26
  obtain ⟨a27, l27, rfl, h27, g27⟩ := kcons g26; obtain ⟨b27, rfl⟩ := kbool h27
  obtain rfl := knil g27
  exact ⟨_, rfl⟩

theorem of_Config {l : List Leaf} (h : l.map kindOf = stKinds .Config) : ∃ x, stOf .Config l = some x := by
  obtain ⟨a0, l0, rfl, h0, g0⟩ := kcons h; obtain ⟨b0, rfl⟩ := kint h0
  obtain ⟨a1, l1, rfl, h1, g1⟩ := kcons g0; obtain ⟨b1, rfl⟩ := kint h1
  obtain ⟨a2, l2, rfl, h2, g2⟩ := kcons g1; obtain ⟨b2, rfl⟩ := kint h2
  obtain ⟨a3, l3, rfl, h3, g3⟩ := kcons g2; obtain ⟨b3, rfl⟩ := kint h3
  obtain ⟨a4, l4, rfl, h4, g4⟩ := kcons g3; obtain ⟨b4, rfl⟩ := kint h4
  obtain ⟨a5, l5, rfl, h5, g5⟩ := kcons g4; obtain ⟨b5, rfl⟩ := kint h5
  obtain rfl := knil g5
  exact ⟨_, rfl⟩

theorem of_Bound {l : List Leaf} (h : l.map kindOf = stKinds .Bound) : ∃ x, stOf .Bound l = some x := by
  obtain ⟨a0, l0, rfl, h0, g0⟩ := kcons h; obtain ⟨b0, rfl⟩ := kint h0
  obtain ⟨a1, l1, rfl, h1, g1⟩ := kcons g0; obtain ⟨b1, rfl⟩ := kint h1
  obtain ⟨a2, l2, rfl, h2, g2⟩ := kcons g1; obtain ⟨b2, rfl⟩ := kint h2
  obtain rfl := knil g2
  exact ⟨_, rfl⟩

theorem of_Part {l : List Leaf} (h : l.map kindOf = stKinds .Part) : ∃ x, stOf .Part l = some x := by
  obtain ⟨a0, l0, rfl, h0, g0⟩ := kcons h; obtain ⟨b0, rfl⟩ := kint h0
  obtain ⟨a1, l1, rfl, h1, g1⟩ := kcons g0; obtain ⟨b1, rfl⟩ := kint h1
  obtain ⟨a2, l2, rfl, h2, g2⟩ := kcons g1; obtain ⟨b2, rfl⟩ := kint h2
  obtain ⟨a3, l3, rfl, h3, g3⟩ := kcons g2; obtain ⟨b3, rfl⟩ := kint h3
  obtain rfl := knil g3
  exact ⟨_, rfl⟩

theorem of_Plain {l : List Leaf} (h : l.map kindOf = stKinds .Plain) : ∃ x, stOf .Plain l = some x := by
  obtain ⟨a0, l0, rfl, h0, g0⟩ := kcons h; obtain ⟨b0, rfl⟩ := kint h0
  obtain ⟨a1, l1, rfl, h1, g1⟩ := kcons g0; obtain ⟨b1, rfl⟩ := kint h1
  obtain ⟨a2, l2, rfl, h2, g2⟩ := kcons g1; obtain ⟨b2, rfl⟩ := kint h2
  obtain ⟨a3, l3, rfl, h3, g3⟩ := kcons g2; obtain ⟨b3, rfl⟩ := kint h3
  obtain ⟨a4, l4, rfl, h4, g4⟩ := kcons g3; obtain ⟨b4, rfl⟩ := kbool h4
  obtain ⟨a5, l5, rfl, h5, g5⟩ := kcons g4; obtain ⟨b5, rfl⟩ := kint h5
  obtain ⟨a6, l6, rfl, h6, g6⟩ := kcons g5; obtain ⟨b6, rfl⟩ := kint h6
  obtain ⟨a7, l7, rfl, h7, g7⟩ := kcons g6; obtain ⟨b7, rfl⟩ := kint h7
  obtain ⟨a8, l8, rfl, h8, g8⟩ := kcons g7; obtain ⟨b8, rfl⟩ := kint h8
  obtain ⟨a9, l9, rfl, h9, g9⟩ := kcons g8; obtain ⟨b9, rfl⟩ := kint h9
  obtain ⟨a10, l10, rfl, h10, g10⟩ := kcons g9; obtain ⟨b10, rfl⟩ := kint h10
  obtain ⟨a11, l11, rfl, h11, g11⟩ := kcons g10; obtain ⟨b11, rfl⟩ := kbool h11
  obtain ⟨a12, l12, rfl, h12, g12⟩ := kcons g11; obtain ⟨b12, rfl⟩ := kbool h12
  obtain ⟨a13, l13, rfl, h13, g13⟩ := kcons g12; obtain ⟨b13, rfl⟩ := kint h13
  obtain ⟨a14, l14, rfl, h14, g14⟩ := kcons g13; obtain ⟨b14, rfl⟩ := kint h14
  obtain ⟨a15, l15, rfl, h15, g15⟩ := kcons g14; obtain ⟨b15, rfl⟩ := kint h15
  obtain ⟨a16, l16, rfl, h16, g16⟩ := kcons g15; obtain ⟨b16, rfl⟩ := kint h16
  obtain rfl := knil g16
  exact ⟨_, rfl⟩

theorem of_Head {l : List Leaf} (h : l.map kindOf = stKinds .Head) : ∃ x, stOf .Head l = some x := by
  obtain ⟨a0, l0, rfl, h0, g0⟩ := kcons h; obtain ⟨b0, rfl⟩ := kint h0
  obtain ⟨a1, l1, rfl, h1, g1⟩ := kcons g0; obtain ⟨b1, rfl⟩ := kint h1
  obtain ⟨a2, l2, rfl, h2, g2⟩ := kcons g1; obtain ⟨b2, rfl⟩ := kint h2
  obtain ⟨a3, l3, rfl, h3, g3⟩ := kcons g2; obtain ⟨b3, rfl⟩ := kint h3
  obtain ⟨a4, l4, rfl, h4, g4⟩ := kcons g3; obtain ⟨b4, rfl⟩ := kint h4
  obtain ⟨a5, l5, rfl, h5, g5⟩ := kcons g4; obtain ⟨b5, rfl⟩ := kbool h5
  obtain ⟨a6, l6, rfl, h6, g6⟩ := kcons g5; obtain ⟨b6, rfl⟩ := kbool h6
  obtain ⟨a7, l7, rfl, h7, g7⟩ := kcons g6; obtain ⟨b7, rfl⟩ := kint h7
  obtain rfl := knil g7
  exact ⟨_, rfl⟩

theorem of_Round {l : List Leaf} (h : l.map kindOf = stKinds .Round) : ∃ x, stOf .Round l = some x := by
  obtain ⟨a0, l0, rfl, h0, g0⟩ := kcons h; obtain ⟨b0, rfl⟩ := ksl h0
  obtain ⟨a1, l1, rfl, h1, g1⟩ := kcons g0; obtain ⟨b1, rfl⟩ := kint h1
  obtain ⟨a2, l2, rfl, h2, g2⟩ := kcons g1; obtain ⟨b2, rfl⟩ := kint h2
  obtain rfl := knil g2
  exact ⟨_, rfl⟩

theorem of_Step {l : List Leaf} (h : l.map kindOf = stKinds .Step) : ∃ x, stOf .Step l = some x := by
  obtain ⟨a0, l0, rfl, h0, g0⟩ := kcons h; obtain ⟨b0, rfl⟩ := ksl h0
  obtain ⟨a1, l1, rfl, h1, g1⟩ := kcons g0; obtain ⟨b1, rfl⟩ := kint h1
  obtain ⟨a2, l2, rfl, h2, g2⟩ := kcons g1; obtain ⟨b2, rfl⟩ := ksl h2
  obtain ⟨a3, l3, rfl, h3, g3⟩ := kcons g2; obtain ⟨b3, rfl⟩ := kint h3
  obtain rfl := knil g3
  exact ⟨_, rfl⟩

theorem stOf_some : ∀ (s : SN) {l : List Leaf}, l.map kindOf = stKinds s → ∃ x, stOf s l = some x
  | .Sector, _, h => of_Sector h
  | .Pend, _, h => of_Pend h
  | .Disk, _, h => of_Disk h
  | .Super, _, h => of_Super h
  | .Rec, _, h => of_Rec h
  | .Meta, _, h => of_Meta h
  | .Msg, _, h => of_Msg h
  | .Reply, _, h => of_Reply h
  | .Act, _, h => of_Act h
  | .Ask, _, h => of_Ask h
  | .Mail, _, h => of_Mail h
  | .Sent, _, h => of_Sent h
  | .Wait, _, h => of_Wait h
  | .Side, _, h => of_Side h
  | .Queue, _, h => of_Queue h
  | .End, _, h => of_End h
  | .Site, _, h => of_Site h
  | .Config, _, h => of_Config h
  | .Bound, _, h => of_Bound h
  | .Part, _, h => of_Part h
  | .Plain, _, h => of_Plain h
  | .Head, _, h => of_Head h
  | .Round, _, h => of_Round h
  | .Step, _, h => of_Step h

theorem ofCells_some (e : EN) {l : List Leaf} (h : l.map kindOf = kinds e) : ∃ x, ofCells e l = some x := by
  cases e with
  | int k => obtain ⟨a, l, rfl, h1, h2⟩ := kcons h; obtain ⟨b, rfl⟩ := kint h1; obtain rfl := knil h2; exact ⟨b, by simp [ofCells]⟩
  | bool => obtain ⟨a, l, rfl, h1, h2⟩ := kcons h; obtain ⟨b, rfl⟩ := kbool h1; obtain rfl := knil h2; exact ⟨b, by simp [ofCells]⟩
  | str => obtain ⟨a, l, rfl, h1, h2⟩ := kcons h; obtain ⟨b, rfl⟩ := kstr h1; obtain rfl := knil h2; exact ⟨b, by simp [ofCells]⟩
  | sl e => obtain ⟨a, l, rfl, h1, h2⟩ := kcons h; obtain ⟨b, rfl⟩ := ksl h1; obtain rfl := knil h2; exact ⟨castT rfl b, by simp [ofCells]⟩
  | st s => exact stOf_some s h

end Go.Cat

namespace Go.Cat
open Go

variable {P : Program} {E : Env} {H : Type} {enc : TypeId × Value → H} {w : World} {held : Bool}

def fieldsOk (f : Nat → List LK → Bool) (size : Nat → Option Nat) : Nat → List (Nat × Nat) → List LK → Bool
  | _, [], ks => ks.isEmpty
  | off, (o, t) :: r, ks => match size t with
    | some s => Nat.beq o off && Nat.ble s ks.length && f t (ks.take s) && fieldsOk f size (off + s) r (ks.drop s)
    | none => false

/-- Do a type's cells have these kinds? -/
def lkOk (E : Env) : Nat → Nat → List LK → Bool
  | 0, _, _ => false
  | n + 1, t, ks => match look E.ty t with
    | some { d := .int k, .. } => match ks with | [.int k'] => decide (k = k') | _ => false
    | some { d := .bool, .. } => match ks with | [.bool] => true | _ => false
    | some { d := .str, .. } => match ks with | [.str] => true | _ => false
    | some { d := .sl el, .. } => match ks with
      | [.sl e] => lkOk E n el (kinds e) && (match sizeT E el with | some s => Nat.beq s (sz e) && Nat.blt 0 s | none => false)
      | _ => false
    | some { d := .st fs, .. } => fieldsOk (lkOk E n) (sizeT E) 0 fs ks
    | _ => false

theorem RepC.append {ro : Snap} {a b : List Leaf} {us vs : List Value} (h : RepC ro a us) (k : RepC ro b vs) : RepC ro (a ++ b) (us ++ vs) := by
  induction a generalizing us with
  | nil =>
    have : us = [] := List.eq_nil_of_length_eq_zero (by simpa using h.1)
    subst this; exact k
  | cons c a ih =>
    cases us with
    | nil => simp [RepC] at h
    | cons u us => exact .cons (h.2 0 c u rfl rfl) (ih ⟨by simpa using h.1, fun j l v hl hv => h.2 (j + 1) l v (by simpa using hl) (by simpa using hv)⟩)

theorem cellsOf_look (hE : TysOk P E) {t s : Nat} (h : sizeT E t = some s) : P.cellsOf t = s := by
  obtain ⟨i, hl, rfl⟩ := sizeT_look h
  obtain ⟨inf, z, d, h1, _, h3, _⟩ := (hE.look hl).info
  simp [Program.cellsOf, h1, h3]

/-- Fields, one behind the other. -/
theorem fields_rep (hE : TysOk P E) {f : Nat → List LK → Bool} {g : Nat → List Value → Option (DataW H × List MemPlace)} (hf : ∀ t ks cs x, sizeT E t = some ks.length → f t ks = true → g t cs = some x → ∃ ls, ls.map kindOf = ks ∧ RepC (oldOf w) ls cs) :
    ∀ (fs : List (Nat × Nat)) (off : Nat) (ks : List LK) (cs : List Value) (ys : List (DataW H × List MemPlace)), fieldsOk f (sizeT E) off fs ks = true → off ≤ cs.length → cs.length = off + ks.length →
      (fs.mapM fun p => g p.2 ((cs.drop p.1).take (P.cellsOf p.2))) = some ys → ∃ ls, ls.map kindOf = ks ∧ RepC (oldOf w) ls (cs.drop off)
  | [], off, ks, cs, ys, h, hle, hlen, _ => by
    simp only [fieldsOk, List.isEmpty_iff] at h
    subst h
    exact ⟨[], rfl, by rw [List.drop_eq_nil_of_le (by simp at hlen; omega)]; exact .nil _⟩
  | (o, t) :: r, off, ks, cs, ys, h, hle, hlen, hm => by
    simp only [fieldsOk] at h
    cases hs : sizeT E t with
    | none => simp [hs] at h
    | some s =>
      simp only [hs, Bool.and_eq_true] at h
      obtain ⟨⟨⟨h1, h2⟩, h3⟩, h4⟩ := h
      have h1 := Nat.eq_of_beq_eq_true h1
      have h2 := Nat.le_of_ble_eq_true h2
      subst h1
      rw [List.mapM_cons] at hm
      rw [cellsOf_look hE hs] at hm
      cases hg : g t ((cs.drop o).take s) with
      | none => simp [hg] at hm
      | some y =>
        cases hr : (r.mapM fun p => g p.2 ((cs.drop p.1).take (P.cellsOf p.2))) with
        | none => simp [hg, hr] at hm
        | some ys' =>
          obtain ⟨l1, a1, a2⟩ := hf t _ _ y (by rw [hs, List.length_take, Nat.min_eq_left h2]) h3 hg
          obtain ⟨l2, b1, b2⟩ := fields_rep hE hf r (o + s) (ks.drop s) cs ys' h4 (by omega) (by simp; omega) hr
          refine ⟨l1 ++ l2, by rw [List.map_append, a1, b1, List.take_append_drop], ?_⟩
          have : cs.drop o = (cs.drop o).take s ++ cs.drop (o + s) := by rw [← List.drop_drop, List.take_append_drop]
          rw [this]
          exact a2.append b2

theorem old_cell (a : Addr) : (oldOf w).cell? a = w.cell? a := by
  unfold Snap.cell? World.cell? oldOf
  rfl

theorem spot_none {a : Addr} {v : Value} (h : w.cell? a = some v) : a.spot = none := by
  unfold World.cell? at h
  split at h
  · split at h
    · cases h
    · rename_i hn; cases hs : a.spot with | none => rfl | some x => simp [hs] at hn
  · cases h

/-- A row of elements that read as data. -/
theorem slice_rep {e : EN} (hpos : 0 < sz e) {a : Addr} {len cap : Nat} (hc : len ≤ cap) (hm : cap ≤ maxLen)
    (hel : ∀ i, i < len → ∃ cs, w.cells? 0 (a.add (i * sz e)) (sz e) = some cs ∧ ∃ ls, ls.map kindOf = kinds e ∧ RepC (oldOf w) ls cs)
    (hfirst : 0 < cap → ∃ cs, w.cells? 0 (a.add (0 * sz e)) (sz e) = some cs) : ∃ l, kindOf l = .sl e ∧ Rep (oldOf w) l (.slice (some a) len cap) := by
  have hspot : a.spot = none ∨ cap = 0 := by
    rcases Nat.eq_zero_or_pos cap with h | h
    · exact .inr h
    · obtain ⟨cs, hcs⟩ := hfirst h
      obtain ⟨_, h1, h2⟩ := World.cells?_some hcs
      have h3 := h2 0 hpos
      have hlt : 0 < cs.length := by omega
      rw [List.getElem?_eq_getElem hlt] at h3
      simp only [Nat.zero_mul, Addr.add, if_true] at h3
      exact .inl (spot_none h3)
  have hx : ∀ i, i < len → ∃ x : T e, ∃ cs, w.cells? 0 (a.add (i * sz e)) (sz e) = some cs ∧ RepC (oldOf w) (cells e x) cs := by
    intro i hi
    obtain ⟨cs, h1, ls, h2, h3⟩ := hel i hi
    obtain ⟨x, hx⟩ := ofCells_some e h2
    exact ⟨x, cs, h1, by rw [ofCells_cells e ls x hx]; exact h3⟩
  classical
  let g : Nat → T e := fun i => if h : i < len then (hx i h).choose else zeroT e
  have hg : ∀ i, i < len → ∃ cs, w.cells? 0 (a.add (i * sz e)) (sz e) = some cs ∧ RepC (oldOf w) (cells e (g i)) cs := by
    intro i hi
    have := (hx i hi).choose_spec
    simp only [g, hi, dif_pos]
    exact this
  have key : ∀ (i : Nat) (x : T e) (j : Nat) (l : Leaf), ((List.range len).map g)[i]? = some x → (cells e x)[j]? = some l →
      ∃ u, w.cell? ⟨a.block, a.off + (i * sz e + j), none⟩ = some u ∧ Rep (oldOf w) l u := by
    intro i x j l hi hj
    have hil : i < len := by have := (List.getElem?_eq_some_iff.1 hi).1; simpa using this
    have hxi : x = g i := by simp [hil] at hi; exact hi.symm
    subst hxi
    have hjs : j < sz e := by rw [← cells_length e (g i)]; exact (List.getElem?_eq_some_iff.1 hj).1
    obtain ⟨cs, h1, h2⟩ := hg i hil
    obtain ⟨_, h3, h4⟩ := World.cells?_some h1
    have hjc : j < cs.length := by omega
    have h5 := h4 j hjs
    rw [List.getElem?_eq_getElem hjc, addr_add (hspot.resolve_right (by omega)), addr_add rfl] at h5
    exact ⟨cs[j], by rw [← h5, Nat.add_assoc], h2.2 j l _ hj (List.getElem?_eq_getElem hjc)⟩
  have := Rep.sl (ro := oldOf w) e ((List.range len).map g) a cap (fun i j => (w.cell? ⟨a.block, a.off + (i * sz e + j), none⟩).getD default) hspot (by simpa using hc) hm
    (fun i x j l hi hj => by
      obtain ⟨u, hu, _⟩ := key i x j l hi hj
      rw [old_cell, hu]; rfl)
    (fun i x j l hi hj => by
      obtain ⟨u, hu, hr⟩ := key i x j l hi hj
      rw [hu]; exact hr)
  refine ⟨.sl e ((List.range len).map g), rfl, ?_⟩
  simpa using this

theorem one_leaf {l : Leaf} {k : LK} {v : Value} (hk : kindOf l = k) (h : Rep (oldOf w) l v) : ∃ ls, ls.map kindOf = [k] ∧ RepC (oldOf w) ls [v] :=
  ⟨[l], by simp [hk], .cons h (.nil _)⟩

theorem trod_int {k : IntKind} {t fuel : Nat} {cs : List Value} {x : DataW H × List MemPlace} (hu : P.underlying t = some (.int k)) (h : DataW.trod enc P w 0 (fun _ => true) held (fuel + 1) t cs = some x) : ∃ v, cs = [.int k v] ∧ rngB k v = true := by
  rcases cs with _ | ⟨c, _ | ⟨c2, r⟩⟩
  · simp [DataW.trod, hu] at h
  · cases c <;> simp [DataW.trod, hu] at h
    rename_i k' v
    obtain ⟨⟨rfl, hw⟩, _⟩ := h
    exact ⟨v, rfl, by simpa [rngB, Lit.wf] using hw⟩
  · simp [DataW.trod, hu] at h

theorem trod_bool {t fuel : Nat} {cs : List Value} {x : DataW H × List MemPlace} (hu : P.underlying t = some .bool) (h : DataW.trod enc P w 0 (fun _ => true) held (fuel + 1) t cs = some x) : ∃ v, cs = [.bool v] := by
  rcases cs with _ | ⟨c, _ | ⟨c2, r⟩⟩
  · simp [DataW.trod, hu] at h
  · cases c <;> simp [DataW.trod, hu] at h
    exact ⟨_, rfl⟩
  · simp [DataW.trod, hu] at h

theorem trod_str {t fuel : Nat} {cs : List Value} {x : DataW H × List MemPlace} (hu : P.underlying t = some .string) (h : DataW.trod enc P w 0 (fun _ => true) held (fuel + 1) t cs = some x) : ∃ v, cs = [.string v] ∧ v.size ≤ maxLen := by
  rcases cs with _ | ⟨c, _ | ⟨c2, r⟩⟩
  · simp [DataW.trod, hu] at h
  · cases c <;> simp [DataW.trod, hu] at h
    exact ⟨_, rfl, h.1⟩
  · simp [DataW.trod, hu] at h

theorem mapM_at {α β : Type} {f : α → Option β} {l : List α} {ys : List β} (h : l.mapM f = some ys) {i : Nat} {a : α} (hi : l[i]? = some a) : ∃ y, f a = some y := by
  have h1 := mapM_some_get h i a hi
  have h2 := mapM_some_length h
  have hlt : i < ys.length := by rw [h2]; exact (List.getElem?_eq_some_iff.1 hi).1
  rw [List.getElem?_eq_getElem hlt] at h1
  exact ⟨_, h1⟩

theorem trod_sl {el t fuel : Nat} {cs : List Value} {x : DataW H × List MemPlace} (hu : P.underlying t = some (.slice el)) (h : DataW.trod enc P w 0 (fun _ => true) held (fuel + 1) t cs = some x) :
    cs = [.slice none 0 0] ∨ ∃ a len cap, cs = [.slice (some a) len cap] ∧ len ≤ cap ∧ cap ≤ maxLen ∧
      ∀ i, i < cap → ∃ csi, w.cells? 0 (a.add (i * P.cellsOf el)) (P.cellsOf el) = some csi ∧ ∃ y, DataW.trod enc P w 0 (fun _ => true) held fuel el csi = some y := by
  rcases cs with _ | ⟨c, _ | ⟨c2, r⟩⟩
  · simp [DataW.trod, hu] at h
  · cases c with
    | slice a len cap =>
      cases a with
      | none =>
        left
        simp only [DataW.trod, hu] at h
        split at h <;> simp_all
      | some a =>
        right
        refine ⟨a, len, cap, rfl, ?_⟩
        simp only [DataW.trod, hu] at h
        split at h
        · rename_i hc
          refine ⟨hc.2.1, hc.2.2, fun i hi => ?_⟩
          cases h1 : (List.range len).mapM fun i => (w.cells? 0 (a.add (i * P.cellsOf el)) (P.cellsOf el)).bind (DataW.trod enc P w 0 (fun _ => true) held fuel el) with
          | none => rw [h1] at h; simp at h
          | some elems =>
            rw [h1] at h
            simp only [Option.bind_some, if_true] at h
            cases h2 : (List.range (cap - len)).mapM fun j => (w.cells? 0 (a.add ((len + j) * P.cellsOf el)) (P.cellsOf el)).bind (DataW.trod enc P w 0 (fun _ => true) held fuel el) with
            | none => rw [h2] at h; simp at h
            | some rest =>
              have fin : ∀ y, (w.cells? 0 (a.add (i * P.cellsOf el)) (P.cellsOf el)).bind (DataW.trod enc P w 0 (fun _ => true) held fuel el) = some y →
                  ∃ csi, w.cells? 0 (a.add (i * P.cellsOf el)) (P.cellsOf el) = some csi ∧ ∃ y, DataW.trod enc P w 0 (fun _ => true) held fuel el csi = some y := by
                intro y hy
                cases hcs : w.cells? 0 (a.add (i * P.cellsOf el)) (P.cellsOf el) with
                | none => rw [hcs] at hy; cases hy
                | some csi => rw [hcs] at hy; exact ⟨csi, rfl, y, hy⟩
              by_cases hil : i < len
              · obtain ⟨y, hy⟩ := mapM_at h1 (i := i) (a := i) (by simp [hil])
                exact fin y hy
              · obtain ⟨y, hy⟩ := mapM_at h2 (i := i - len) (a := i - len) (by rw [List.getElem?_range (by omega)])
                rw [show len + (i - len) = i by omega] at hy
                exact fin y hy
        · cases h
    | _ => simp [DataW.trod, hu] at h
  · simp [DataW.trod, hu] at h

theorem mapM_pairs {β : Type} (g : Nat → Nat → Option β) : ∀ (l : List Field), (l.map fun f => (f.offset, f.type)).mapM (fun p => g p.1 p.2) = l.mapM fun f => g f.offset f.type
  | [] => rfl
  | f :: l => by simp only [List.map_cons, List.mapM_cons, mapM_pairs g l]

theorem trod_rep (hE : TysOk P E) : ∀ (fuel n t : Nat) (ks : List LK) (cs : List Value) (x : DataW H × List MemPlace), lkOk E n t ks = true → (∀ i, look E.ty t = some i → i.size = ks.length) → DataW.trod enc P w 0 (fun _ => true) held fuel t cs = some x →
    ∃ ls, ls.map kindOf = ks ∧ RepC (oldOf w) ls cs := by
  intro fuel
  induction fuel with
  | zero => intro n t ks cs x _ _ h; simp [DataW.trod] at h
  | succ fuel ih =>
    intro n t ks cs x hk hsize h
    cases n with
    | zero => simp [lkOk] at hk
    | succ n =>
      simp only [lkOk] at hk
      split at hk
      · rename_i hl
        obtain ⟨inf, z, d, k1, k2, k3, _, _, _, _, _, _, _, rfl, _⟩ := (hE.look hl).info
        split at hk
        · have := of_decide_eq_true hk
          subst this
          obtain ⟨v, rfl, hv⟩ := trod_int k2 h
          exact one_leaf (l := .int _ v) rfl (.int _ _ hv)
        · cases hk
      · rename_i hl
        obtain ⟨inf, z, d, k1, k2, k3, _, _, _, _, _, _, _, rfl, _⟩ := (hE.look hl).info
        split at hk
        · obtain ⟨v, rfl⟩ := trod_bool k2 h
          exact one_leaf (l := .bool v) rfl (.bool _)
        · cases hk
      · rename_i hl
        obtain ⟨inf, z, d, k1, k2, k3, _, _, _, _, _, _, _, rfl, _⟩ := (hE.look hl).info
        split at hk
        · obtain ⟨v, rfl, hv⟩ := trod_str k2 h
          exact one_leaf (l := .str (strOf v)) rfl (.str _ hv)
        · cases hk
      · rename_i el _ _ _ _ hl
        obtain ⟨inf, z, d, k1, k2, k3, _, _, _, _, _, _, _, rfl, _⟩ := (hE.look hl).info
        split at hk
        · rename_i e
          simp only [Bool.and_eq_true] at hk
          obtain ⟨hk1, hk2⟩ := hk
          cases hs : sizeT E el with
          | none => simp [hs] at hk2
          | some s =>
            simp only [hs, Bool.and_eq_true] at hk2
            have he1 := Nat.eq_of_beq_eq_true hk2.1
            have hpos : 0 < s := by simpa [Nat.blt_eq] using hk2.2
            have hco := cellsOf_look hE hs
            rw [he1] at hco hpos
            rcases trod_sl k2 h with rfl | ⟨a, len, cap, rfl, h1, h2, h3⟩
            · exact one_leaf (l := .sl e []) rfl (.nil e)
            · rw [hco] at h3
              obtain ⟨l, l1, l2⟩ := slice_rep (e := e) hpos h1 h2 (fun i hi => by
                obtain ⟨csi, c1, y, c2⟩ := h3 i (by omega)
                refine ⟨csi, c1, ih n el (kinds e) csi y hk1 (fun j hj => ?_) c2⟩
                obtain ⟨j', hj', hjs⟩ := sizeT_look hs
                rw [hj] at hj'; cases hj'
                rw [hjs, he1]; rfl) (fun hc => by
                obtain ⟨csi, c1, _⟩ := h3 0 hc
                exact ⟨csi, c1⟩)
              exact one_leaf l1 l2
        · cases hk
      · rename_i fs sz0 _ _ _ hl
        have hsz := hsize _ hl
        obtain ⟨inf, z, d, k1, k2, k3, _, _, _, _, _, _, _, ⟨fields, rfl, hf, _⟩, _⟩ := (hE.look hl).info
        have hco : P.cellsOf t = ks.length := by simp only at hsz k3; simp [Program.cellsOf, k1, k3, hsz]
        simp only [DataW.trod, k2] at h
        split at h
        · rename_i hlen
          cases hm : fields.toList.mapM fun f => DataW.trod enc P w 0 (fun _ => true) held fuel f.type ((cs.drop f.offset).take (P.cellsOf f.type)) with
          | none => rw [hm] at h; simp at h
          | some ys =>
            have hp := mapM_pairs (fun o ft => DataW.trod enc P w 0 (fun _ => true) held fuel ft ((cs.drop o).take (P.cellsOf ft))) fields.toList
            rw [hm, hf] at hp
            have := fields_rep hE (w := w) (f := lkOk E n) (g := DataW.trod enc P w 0 (fun _ => true) held fuel) (fun ft ks' cs' x' hs' hk' hx' => ih n ft ks' cs' x' hk' (fun j hj => by
              obtain ⟨j', hj', hjs⟩ := sizeT_look hs'
              rw [hj] at hj'; cases hj'
              exact hjs) hx') fs 0 ks cs ys hk (Nat.zero_le _) (by omega) hp
            simpa using this
        · cases h
      · cases hk

end Go.Cat

namespace Go.Cat
open Go

variable {P : Program} {E : Env} {H : Type} {enc : TypeId × Value → H} {w : World} {held : Bool}

theorem arg_rep (hE : TysOk P E) {n t : Nat} {i : TyI} {e : EN} {v : Value} {d : DataW H} {ps : List MemPlace} (hl : look E.ty t = some i) (hk : lkOk E n t (kinds e) = true) (hsize : i.size = (kinds e).length)
    (hagg : isAggE e = true ↔ ∃ cs, v = .agg cs) (h : DataW.Trod enc P w 0 (fun _ => true) held t v d ps) : ∃ x : T e, RepT (oldOf w) e x v := by
  obtain ⟨fuel, hf⟩ := h
  obtain ⟨ls, h1, h2⟩ := trod_rep hE fuel n t (kinds e) _ _ hk (fun j hj => by rw [hl] at hj; cases hj; exact hsize) hf
  obtain ⟨x, hx⟩ := ofCells_some e h1
  exact ⟨x, by rw [ofCells_cells e ls x hx]; exact h2, hagg⟩

end Go.Cat

namespace Go.Cat
open Go Go.ChangeShapes Go.RowKit

variable {P : Program} {E : Env} {H : Type} {enc : TypeId × Value → H} {w : World} {held : Bool}

theorem cell_not_agg {r : Reach} {b t : Nat} {cs : Array Value} : ¬ Cell.okWide P w r b t (.agg cs) := by
  intro h
  unfold Cell.okWide at h
  split at h <;> try contradiction
  unfold Cell.ok at h
  split at h <;> contradiction

theorem okWide_agg {r : Reach} {b t : Nat} {d : TypeDesc} {v : Value} (hd : P.underlying t = some d) (h : Value.okWide P w r b t v) : isAggD d = true ↔ ∃ cs, v = .agg cs := by
  unfold Value.okWide at h
  rw [hd] at h
  constructor
  · intro ha
    cases d <;> first | (obtain ⟨cs, hc, _⟩ := h; exact ⟨cs, hc⟩) | cases ha
  · rintro ⟨cs, rfl⟩
    cases d <;> first | rfl | exact absurd h cell_not_agg

def argsOk (E : Env) : List Nat → List EN → Bool
  | [], [] => true
  | t :: ts, e :: es => (match look E.ty t with
      | some i => lkOk E 12 t (kinds e) && Nat.beq i.size (kinds e).length && (i.agg == isAggE e)
      | none => false) && argsOk E ts es
  | _, _ => false

theorem args_rep (hE : TysOk P E) : ∀ {ts : List Nat} {es : List EN} {vs : List Value} {ds : List (DataW H)} {p : List MemPlace}, argsOk E ts es = true →
    DataW.TrodAll enc P w 0 (fun _ => true) held ts vs ds p → (∀ (j : Nat) t v, ts[j]? = some t → vs[j]? = some v → ∃ b, Value.okWide P w .any b t v) → ∃ x : TT es, RepTT (oldOf w) es x vs
  | [], [], vs, ds, p, _, h, _ => by
    obtain ⟨rfl, _, _⟩ := trodAll_nil h
    exact ⟨(), rfl⟩
  | t :: ts, e :: es, vs, ds, p, ha, h, hv => by
    obtain ⟨v, vs', d, ds', p', q, rfl, rfl, rfl, h1, h2⟩ := trodAll_cons h
    simp only [argsOk, Bool.and_eq_true] at ha
    obtain ⟨ha1, ha2⟩ := ha
    cases hl : look E.ty t with
    | none => simp [hl] at ha1
    | some i =>
      simp only [hl, Bool.and_eq_true, beq_iff_eq] at ha1
      obtain ⟨⟨k1, k2⟩, k3⟩ := ha1
      obtain ⟨inf, z, dd, m1, m2, m3, m4, m5, m6, m7, m8, m9, m10⟩ := (hE.look hl).info
      obtain ⟨b, hb⟩ := hv 0 t v rfl rfl
      have hagg : isAggE e = true ↔ ∃ cs, v = .agg cs := by rw [← k3, ← m9]; exact okWide_agg m2 hb
      obtain ⟨x, hx⟩ := arg_rep hE hl k1 (Nat.eq_of_beq_eq_true k2) hagg h1
      obtain ⟨xs, hxs⟩ := args_rep hE ha2 h2 (fun j t v ht hj => hv (j + 1) t v (by simpa using ht) (by simpa using hj))
      exact ⟨(x, xs), v, vs', rfl, hx, hxs⟩
  | [], _ :: _, _, _, _, ha, _, _ => by simp [argsOk] at ha
  | _ :: _, [], _, _, _, ha, _, _ => by simp [argsOk] at ha

/-- What was read of the arguments is read of them still. -/
theorem args_back (hl : laidOutB P = true) {W' : World} (hb : Below w.heap.size w W') : ∀ {ts : List Nat} {vs : List Value} {ds : List (DataW H)} {p : List MemPlace}, (ts.all fun t => P.readableRec t && decide (t < P.types.size)) = true →
    DataW.TrodAll enc P w 0 (fun _ => true) true ts vs ds p → DataW.TrodAll enc P W' 0 (fun b => decide (b < w.heap.size)) true ts vs ds p
  | [], vs, ds, p, _, h => by
    obtain ⟨rfl, rfl, rfl⟩ := trodAll_nil h
    exact trodAll_mk0
  | t :: ts, vs, ds, p, ha, h => by
    obtain ⟨v, vs', d, ds', p', q, rfl, rfl, rfl, h1, h2⟩ := trodAll_cons h
    simp only [List.all_cons, Bool.and_eq_true, decide_eq_true_eq] at ha
    refine trodAll_cons_mk (Below.trod hl ha.1.1 ha.1.2 h1 hb ?_) (args_back hl hb (by simpa using ha.2) h2)
    obtain ⟨m, hm⟩ := h1
    exact DataW.trod_lt m _ _ _ hm

end Go.Cat

namespace Go.Cat
open Go

variable {P : Program} {E : Env}

def zeroEq : Value → SV → Bool
  | .int k n, .lit (.int k' n') => decide (k = k') && decide (n = n')
  | .bool b, .lit (.bool b') => b == b'
  | .string a, .lit (.string b) => Nat.beq a.size 0 && Nat.beq b.size 0
  | .slice none 0 0, .lit (.slice none 0 0) => true
  | .pointer none, .lit (.pointer none) => true
  | .nilFunc, .lit .nilFunc => true
  | _, _ => false

theorem bytes_zero {a : ByteArray} (h : Nat.beq a.size 0 = true) : a = ByteArray.empty := by
  have h := Nat.eq_of_beq_eq_true h
  cases a with
  | mk d =>
    have : d.size = 0 := h
    have : d = #[] := Array.eq_empty_of_size_eq_zero this
    subst this; rfl

theorem zeroEq_ok {v : Value} {s : SV} (h : zeroEq v s = true) : SV.lit v = s := by
  unfold zeroEq at h
  split at h
  · simp_all
  · simp_all
  · rename_i a b
    simp only [Bool.and_eq_true] at h
    rw [bytes_zero h.1, bytes_zero h.2]
  all_goals first | rfl | cases h

def listAll2 {α β : Type} (f : α → β → Bool) : List α → List β → Bool
  | [], [] => true
  | a :: as, b :: bs => f a b && listAll2 f as bs
  | _, _ => false

theorem listAll2_map {α β : Type} {f : α → β → Bool} {g : α → β} (h : ∀ a b, f a b = true → g a = b) : ∀ {as : List α} {bs : List β}, listAll2 f as bs = true → as.map g = bs
  | [], [], _ => rfl
  | a :: as, b :: bs, hh => by
    simp only [listAll2, Bool.and_eq_true] at hh
    rw [List.map_cons, h a b hh.1, listAll2_map h hh.2]
  | [], _ :: _, hh => by cases hh
  | _ :: _, [], hh => by cases hh

def zeroRep : Leaf → Value → Bool
  | .int k n, .int k' n' => decide (k = k') && decide (n = n') && rngB k n
  | .bool b, .bool b' => b == b'
  | .str s, .string b => s.isEmpty && Nat.beq b.size 0
  | .sl _ xs, .slice none 0 0 => xs.isEmpty
  | _, _ => false

theorem zeroRep_ok {ro : Snap} {l : Leaf} {v : Value} (h : zeroRep l v = true) : Rep ro l v := by
  unfold zeroRep at h
  split at h
  · simp only [Bool.and_eq_true, decide_eq_true_eq] at h
    obtain ⟨⟨rfl, rfl⟩, h⟩ := h
    exact .int _ _ h
  · simp only [beq_iff_eq] at h
    subst h; exact .bool _
  · rename_i s b
    simp only [Bool.and_eq_true, List.isEmpty_iff] at h
    obtain ⟨rfl, h⟩ := h
    have := bytes_zero h
    subst this
    exact .str ByteArray.empty (Nat.zero_le _)
  · simp only [List.isEmpty_iff] at h
    subst h
    exact .nil _
  · cases h

theorem zeroRep_all {ro : Snap} : ∀ {ls : List Leaf} {vs : List Value}, listAll2 zeroRep ls vs = true → RepC ro ls vs
  | [], [], _ => .nil _
  | l :: ls, v :: vs, h => by
    simp only [listAll2, Bool.and_eq_true] at h
    exact .cons (zeroRep_ok h.1) (zeroRep_all h.2)
  | [], _ :: _, h => by cases h
  | _ :: _, [], h => by cases h

def fieldEq (f : Field) (p : Nat × Nat) : Bool := Nat.beq f.offset p.1 && Nat.beq f.type p.2

theorem fieldEq_ok {f : Field} {p : Nat × Nat} (h : fieldEq f p = true) : (f.offset, f.type) = p := by
  simp only [fieldEq, Bool.and_eq_true] at h
  rw [Nat.eq_of_beq_eq_true h.1, Nat.eq_of_beq_eq_true h.2]

def descOk (P : Program) (t : Nat) (i : TyI) : TypeDesc → Bool
  | .struct fields => match i.d with
    | .st fs => listAll2 fieldEq fields.toList fs && (fields.toList.all fun f => match P.info? f.type with | some fi => !Nat.beq fi.size 0 | none => false) &&
        (!i.eq || (!P.stoodInHeld t && !P.eqGuardType P.depth t && fields.toList.all fun f => f.name != "_"))
    | .other | .sc => true
    | _ => false
  | .array n e => match i.d with
    | .arr n' e' => Nat.beq n n' && Nat.beq e e'
    | .other | .sc => true
    | _ => false
  | .slice e => match i.d with
    | .sl e' => Nat.beq e e'
    | .other | .sc => true
    | _ => false
  | .int k => match i.d with
    | .int k' => decide (k = k')
    | .other | .sc => true
    | _ => false
  | .string => match i.d with | .str | .other | .sc => true | _ => false
  | .bool => match i.d with | .bool | .other | .sc => true | _ => false
  | _ => match i.d with | .other | .sc => true | _ => false

theorem descOk_ok {t : Nat} {i : TyI} {d : TypeDesc} (h : descOk P t i d = true) : (match i.d with
      | .st fs => ∃ fields, d = .struct fields ∧ fields.toList.map (fun f => (f.offset, f.type)) = fs ∧ (∀ f ∈ fields.toList, ∃ fi, P.info? f.type = some fi ∧ fi.size ≠ 0) ∧
          (i.eq = true → P.stoodInHeld t = false ∧ P.eqGuardType P.depth t = false ∧ ∀ f ∈ fields.toList, (f.name != "_") = true)
      | .arr n e => d = .array n e
      | .sl e => d = .slice e
      | .int k => d = .int k
      | .str => d = .string
      | .bool => d = .bool
      | _ => True) := by
  unfold descOk at h
  split at h
  · rename_i fields
    split at h
    · rename_i fs hd
      simp only [Bool.and_eq_true] at h
      simp only [hd]
      obtain ⟨⟨h1, h2⟩, h3⟩ := h
      refine ⟨fields, rfl, listAll2_map (g := fun f : Field => (f.offset, f.type)) (fun _ _ => fieldEq_ok) h1, fun f hf => ?_, fun he => ?_⟩
      · have := List.all_eq_true.1 h2 f hf
        split at this
        · rename_i fi hi
          exact ⟨fi, hi, fun h0 => by rw [h0] at this; cases this⟩
        · cases this
      · rw [he] at h3
        simp only [Bool.not_true, Bool.false_or, Bool.and_eq_true, Bool.not_eq_true'] at h3
        exact ⟨h3.1.1, h3.1.2, fun f hf => List.all_eq_true.1 h3.2 f hf⟩
    · rename_i hd; simp only [hd]
    · rename_i hd; simp only [hd]
    · cases h
  · split at h
    · rename_i hd
      simp only [Bool.and_eq_true] at h
      simp only [hd]
      rw [Nat.eq_of_beq_eq_true h.1, Nat.eq_of_beq_eq_true h.2]
    · rename_i hd; simp only [hd]
    · rename_i hd; simp only [hd]
    · cases h
  · split at h
    · rename_i hd
      simp only [hd]
      rw [Nat.eq_of_beq_eq_true h]
    · rename_i hd; simp only [hd]
    · rename_i hd; simp only [hd]
    · cases h
  · split at h
    · rename_i hd
      simp only [decide_eq_true_eq] at h
      simp only [hd, h]
    · rename_i hd; simp only [hd]
    · rename_i hd; simp only [hd]
    · cases h
  · split at h <;> first | (cases h; done) | (rename_i hd; simp only [hd])
  · split at h <;> first | (cases h; done) | (rename_i hd; simp only [hd])
  · split at h <;> first | (cases h; done) | (rename_i hd; simp only [hd])

def tyOkB (P : Program) (t : Nat) (i : TyI) : Bool :=
  match P.info? t, P.underlying t with
  | some inf, some d => match inf.zero with
    | some z => Nat.beq inf.size i.size && Nat.beq z.cells.size i.size && listAll2 zeroEq z.cells.toList i.zero && z.cells.toList.all litOk && Nat.ble inf.bytes 131072 && (isAggD d == i.agg) &&
        (i.agg || Nat.beq i.size 1) && Nat.blt 0 i.size && descOk P t i d && (match i.en with
          | none => true
          | some e => Nat.beq (sz e) i.size && (isAggE e == i.agg) && listAll2 zeroRep (cells e (zeroT e)) z.cells.toList)
    | none => false
  | _, _ => false

theorem tyOkB_ok {t : Nat} {i : TyI} (h : tyOkB P t i = true) : TyOk P t i := by
  unfold tyOkB at h
  split at h
  · rename_i inf d h1 h2
    split at h
    · rename_i z hz
      simp only [Bool.and_eq_true, beq_iff_eq] at h
      obtain ⟨⟨⟨⟨⟨⟨⟨⟨⟨k1, k2⟩, k3⟩, k4⟩, k5⟩, k6⟩, k7⟩, k8⟩, k9⟩, k10⟩ := h
      have k8 : 0 < i.size := Nat.le_of_ble_eq_true k8
      refine ⟨inf, z, d, h1, h2, Nat.eq_of_beq_eq_true k1, hz, Nat.eq_of_beq_eq_true k2, listAll2_map (g := SV.lit) (fun _ _ => zeroEq_ok) k3, fun v hv => List.all_eq_true.1 k4 v hv, Nat.le_of_ble_eq_true k5, k6, ⟨fun ha => ?_, k8⟩, descOk_ok k9, fun e he => ?_⟩
      · rw [ha] at k7
        exact Nat.eq_of_beq_eq_true (by simpa using k7)
      · rw [he] at k10
        simp only [Bool.and_eq_true, beq_iff_eq] at k10
        exact ⟨Nat.eq_of_beq_eq_true k10.1.1, k8, k10.1.2, zeroRep_all k10.2⟩
    · cases h
  · cases h

def tysOkB (P : Program) (l : List (Nat × TyI)) : Bool := l.all fun p => tyOkB P p.1 p.2

theorem tysOk_of {E : Env} (h : tysOkB P E.ty = true) : TysOk P E := ⟨fun t i hm => tyOkB_ok (List.all_eq_true.1 h (t, i) hm)⟩

def inlB (P : Program) (l : List (Nat × Func)) : Prop := ∀ p ∈ l, P.funcs[p.1]? = some p.2 ∧ (p.2.name == "runtime.NumGoroutine") = false

theorem inlB_nil : inlB P [] := fun _ h => nomatch h
theorem inlB_cons {f : Nat} {fn : Func} {l : List (Nat × Func)} (h : P.funcs[f]? = some fn) (hn : (fn.name == "runtime.NumGoroutine") = false) (t : inlB P l) : inlB P ((f, fn) :: l) := by
  intro p hp
  rcases List.mem_cons.1 hp with rfl | hp
  · exact ⟨h, hn⟩
  · exact t p hp

theorem inlOk_of {E : Env} (h : inlB P E.inl) : InlOk P E := ⟨fun f fn hl => h (f, fn) (look_mem hl)⟩

theorem enters_of {f : Nat} {fn : Func} (h : P.funcs[f]? = some fn) (hn : (fn.name == "runtime.NumGoroutine") = false) (hb : fn.body.isNone = false) : Enters P f := ⟨fn, h, hn, hb⟩

def specsOk (P : Program) (l : List (Nat × VSpec)) : Prop := ∀ p ∈ l, SpecOk P p.1 p.2 ∧ p.2.own = none

theorem specsOk_nil : specsOk P [] := fun _ h => nomatch h
theorem specsOk_cons {f : Nat} {s : VSpec} {l : List (Nat × VSpec)} (h : SpecOk P f s) (ho : s.own = none) (t : specsOk P l) : specsOk P ((f, s) :: l) := by
  intro p hp
  rcases List.mem_cons.1 hp with rfl | hp
  · exact ⟨h, ho⟩
  · exact t p hp

theorem specSound_of {E : Env} (h : specsOk P E.specs) : SpecSound P E := ⟨fun n s nid as objs v u rs hl hr => by
  obtain ⟨h1, h2⟩ := h (n, s) (look_mem hl)
  exact ⟨h1.enters, fun w0 β ro D w vs hH _ hv => callSpec_none h1 h2 hr hH hv⟩⟩

end Go.Cat

namespace Go.Cat
open Go

variable {P : Program} {E : Env} {R : CallRel} {ops : Array Oper} {w0 : Pt} {β : Pl} {ro : Snap} {D : Nat → Prop} {w : World}

theorem not_defer_of_call {op : Op} {x : Operand × Array Operand} (h : callOf op = some x) : ∀ c, op ≠ .defer c := by
  rintro c rfl
  simp [callOf] at h

theorem not_defer_of_op {ρ : Operand → SV} {nid : Nat} {op : Op} {H : Heap} {rs : List Nat} {r : Ans × List Nat} (h : (opT E ρ nid op).run H rs = some r) : ∀ c, op ≠ .defer c := by
  rintro c rfl
  simp [opT, OT.run] at h

theorem step_in (lp m : Nat) (hE : TysOk P E) (hR : CallGood P R) (hS : SpecSound P E) {i : Nat} {o : Oper} (hi : ops[i]? = some o) {S : St} {a : Go.Act} (hs : Sat w0 β ro D S a w) {nid : Nat} {g : Bool} {v : SV} {m' : Mem} {fp : Foot}
    (hc : Core E R ops nid g o S.tmps S.m v m' fp) (hn : ∀ k, k < 64 → ¬ D (nid + k)) (hDm : ∀ id, D id → id < S.m.next) {K : Go.Act → World → Prop} {Q : Exit → Go.Act → World → Prop}
    (hK : ∀ a' w' β' ro', β.ext β' → ro.ext ro' → Sat w0 β' ro' (fun id => D id ∨ (nid ≤ id ∧ id < nid + 64) ∨ (S.m.next ≤ id ∧ id < m'.next)) ⟨setT S.tmps o.dst v, m'⟩ a' w' → K a' w') : wpOpIn (Fence.wide.inRound lp) m P ops Q i K a w := by
  unfold wpOpIn
  simp only [hi]
  have lit : ∀ {β' : Pl} {ro' : Snap} {v : SV} {x : Value}, RepS β' ro' v x → RepS β' ro' (litV g v) x := by
    intro β' ro' v x hv
    unfold litV
    split
    · cases hv with | leaf h => cases h with | bool b => exact .lit (.inl rfl)
    · exact hv
  cases hc with
  | off hw =>
    rw [wanted_sound hs hw]
    exact ⟨fun _ _ => trivial, hK _ _ β ro β.ext_refl ro.ext_refl (hs.put β.ext_refl ro.ext_refl (hs.h.less (fun _ _ h => h) (fun id h => .inl h)) (.lit (.inr rfl)) o.dst)⟩
  | op hw t ht v u rs hr =>
    rw [wanted_sound hs hw, if_pos rfl]
    refine ⟨fun _ _ => trivial, ?_⟩
    unfold otOf at ht
    split at ht
    · rename_i f args hcall
      split at ht
      · rename_i n as hcal
        split at ht
        · rename_i s hspec
          cases ht
          obtain ⟨he, hgood⟩ := hS.good n s nid as S.m.objs v u rs hspec hr
          obtain ⟨vs, hvs, hrun⟩ := call_run (P := P) (w := w) hs.ev hcall hcal he
          have hcalls := hgood w0 β ro D w vs hs.h hn hvs
          rw [Oper.semAt_eq _ _ _ (not_defer_of_call hcall), hrun]
          refine ⟨fun h => (by cases h), CallsIn.mono (CallsIn.inRound lp (callsIn_wide.2 hcalls)) ?_⟩
          rintro e w' ⟨x, β', ro', rfl, h1, h2, h3, h4⟩
          exact hK _ _ β' ro' h1 h2 (hs.put h1 h2 (h4.less (fun _ _ h => h) (fun id h => h.imp (fun x => x) .inl)) (lit h3) o.dst)
        · cases ht
      · cases ht
    · cases ht
      obtain ⟨w', β', ro', h1, h2, h3, h4⟩ := op_sound (P := P) (o := o) (D' := fun id => D id ∨ (nid ≤ id ∧ id < nid + 64) ∨ (S.m.next ≤ id ∧ id < S.m.next)) hE hs.h hs.ev (by simpa using hn 0 (by omega)) (fun id h => .inl h) (.inr (.inl ⟨Nat.le_refl _, by omega⟩)) hr
      rw [Oper.semAt_eq _ _ _ (not_defer_of_op hr)]
      rcases h4 with ⟨x, h5, h6⟩ | ⟨h5, rfl⟩
      · rw [h5]
        exact hK _ _ β' ro' h1 h2 (hs.put h1 h2 h3 (lit h6) o.dst)
      · rw [h5]
        exact hK _ _ β' ro' h1 h2 (hs.put h1 h2 h3 (lit (.lit (.inr rfl))) o.dst)
  | call hw n as ht v m' hr =>
    rw [wanted_sound hs hw, if_pos rfl]
    refine ⟨fun _ _ => trivial, ?_⟩
    obtain ⟨he, hfr, hgood⟩ := hR.good n as S.m v m' hr
    unfold inlOf at ht
    split at ht
    · rename_i f args hcall
      split at ht
      · rename_i n' as' hcal
        split at ht
        · cases ht
        · cases ht
          obtain ⟨vs, hvs, hrun⟩ := call_run (P := P) (w := w) hs.ev hcall hcal he
          have hcalls := hgood w0 β ro D w vs hs.h hDm hvs
          rw [Oper.semAt_eq _ _ _ (not_defer_of_call hcall), hrun]
          refine ⟨fun h => (by cases h), CallsIn.mono (CallsIn.inRound lp (callsIn_wide.2 hcalls)) ?_⟩
          rintro e w' ⟨x, β', ro', rfl, h1, h2, h3, h4⟩
          exact hK _ _ β' ro' h1 h2 (hs.put h1 h2 (h4.less (fun _ _ h => h) (fun id h => h.imp (fun x => x) .inr)) (lit h3) o.dst)
      · cases ht
    · cases ht


section
variable (hE : TysOk P E) (hR : CallGood P R) (hS : SpecSound P E)
include hE hR hS

/-- In text order. -/
theorem run_text_in (lp m : Nat) {D0 : Nat → Prop} {base : Nat} (h0 : ∀ id, D0 id → id < base) {fps : Nat → Foot} {Q : Exit → Go.Act → World → Prop} : ∀ {l : List Nat} {S S' : St}, RunL E R ops base fps l S S' → ∀ (isDone : Nat → Prop) (β : Pl) (ro : Snap) (a : Go.Act) (w : World),
    (∀ i ∈ l, i < ops.size ∧ ¬ isDone i) → l.Nodup → base + 64 * ops.size ≤ S.m.next → Sat w0 β ro (Taken D0 base ops.size isDone S.m.next) S a w →
    (∀ a' w' β' ro', β.ext β' → ro.ext ro' → Sat w0 β' ro' (fun id => D0 id ∨ (base ≤ id ∧ id < S'.m.next)) S' a' w' → Q .normal a' w') → wpOpsIn (Fence.wide.inRound lp) m P ops Q l a w := by
  intro l S S' h
  induction h with
  | nil S =>
    intro isDone β ro a w _ _ hn hs hq
    exact hq a w β ro β.ext_refl ro.ext_refl ⟨hs.h.less (fun _ _ h => h) (Taken.out hn), hs.sz, hs.t, hs.df⟩
  | @cons i rest S S' o hi v m' hs hr ih =>
    intro isDone β ro a w hl hnd hn hsat hq
    obtain ⟨hin, hid⟩ := hl i List.mem_cons_self
    rw [wpOpsIn_cons]
    have hle := hs.next hR
    refine step_in lp m hE hR hS hi hsat hs (fun k hk => Taken.fresh h0 hin hid k hk) (Taken.lt h0 hn) fun a' w' β' ro' hb hr' hsat' => ?_
    refine ih (fun j => isDone j ∨ j = i) β' ro' a' w' (fun j hj => ?_) (List.nodup_cons.1 hnd).2 (Nat.le_trans hn hle) ?_ (fun a'' w'' β'' ro'' k1 k2 k3 => hq a'' w'' β'' ro'' (Pl.ext_trans hb k1) (Snap.ext_trans hr' k2) k3)
    · obtain ⟨q1, q2⟩ := hl j (List.mem_cons_of_mem _ hj)
      exact ⟨q1, fun hor => hor.elim q2 fun e => (List.nodup_cons.1 hnd).1 (e ▸ hj)⟩
    · exact ⟨hsat'.h.less (fun _ _ h => h) (Taken.step hin hn hle), hsat'.sz, hsat'.t, hsat'.df⟩

/-- In any order. -/
theorem run_any_in (lp m : Nat) {D0 : Nat → Prop} {base : Nat} (h0 : ∀ id, D0 id → id < base) {fps : Nat → Foot} {Q : Exit → Go.Act → World → Prop} (hback : ∀ j o, ops[j]? = some o → ∀ e ∈ o.after.toList, Region.binds .any e = true → e.on < j)
    (hind : ∀ p q a b, p < q → ops[p]? = some a → ops[q]? = some b → (((ancs ops.toList)[q]?).getD 0).testBit p = true ∨ (Apart ops a b ∧ FootApart (fps p) (fps q))) :
    ∀ (n : Nat) (l : List Nat) (listed : Array Bool) (S S' : St) (β : Pl) (ro : Snap) (a : Go.Act) (w : World), l.length = n → Left ops listed l → RunL E R ops base fps l S S' →
    base + 64 * ops.size ≤ S.m.next → Sat w0 β ro (Taken D0 base ops.size (fun j => listed.getD j false = true) S.m.next) S a w →
    (∀ a' w' β' ro', β.ext β' → ro.ext ro' → Sat w0 β' ro' (fun id => D0 id ∨ (base ≤ id ∧ id < S'.m.next)) S' a' w' → Q .normal a' w') → wpAnyIn (Fence.wide.inRound lp) m P .any ops Q n listed a w := by
  intro n
  induction n with
  | zero =>
    intro l listed S S' β ro a w hlen hl hr hn hs hq
    have : l = [] := List.eq_nil_of_length_eq_zero hlen
    subst this
    refine ⟨?_, ?_⟩
    · rw [List.eq_nil_iff_forall_not_mem]
      intro i hi
      obtain ⟨h1, h2, _⟩ := ready_mem hi
      have := (hl.mem i).2 ⟨h1, h2⟩
      cases this
    · cases hr with
      | nil => exact hq a w β ro β.ext_refl ro.ext_refl ⟨hs.h.less (fun _ _ h => h) (Taken.out hn), hs.sz, hs.t, hs.df⟩
  | succ n ih =>
    intro l listed S S' β ro a w hlen hl hr hn hs hq
    refine ⟨fun hnil => ?_, fun i hi => ?_⟩
    · -- the first that is left is ready
      cases l with
      | nil => simp at hlen
      | cons i r =>
        exfalso
        obtain ⟨h1, h2⟩ := (hl.mem i).1 List.mem_cons_self
        have ho := Array.getElem?_eq_getElem h1
        have : i ∈ Region.ready .any ops listed := by
          unfold Region.ready
          rw [List.mem_filter, List.mem_range]
          refine ⟨h1, ?_⟩
          simp only [Bool.and_eq_true, Bool.not_eq_true']
          refine ⟨h2, ?_⟩
          rw [ho]
          simp only [Option.map_some, Option.getD_some, Array.all_eq_true', Bool.or_eq_true, Bool.not_eq_true']
          intro e he
          cases hb : Region.binds .any e with
          | false => exact .inl rfl
          | true =>
            refine .inr ?_
            have hlt := hback i _ ho e (by simpa using he) hb
            cases hd : listed.getD e.on true with
            | false =>
              have hm := (hl.mem e.on).2 ⟨by omega, hd⟩
              have hpw := List.pairwise_cons.1 hl.sorted
              rcases List.mem_cons.1 hm with h | h
              · omega
              · have := hpw.1 _ h; omega
            | true =>
              have hsz : e.on < listed.size := by rw [hl.size]; omega
              rw [Array.getD_eq_getD_getElem?, Array.getElem?_eq_getElem hsz] at hd ⊢
              exact hd
        rw [hnil] at this; cases this
    · obtain ⟨h1, h2, o, ho, hdep⟩ := ready_mem hi
      have him := (hl.mem i).2 ⟨h1, h2⟩
      obtain ⟨pre, post, rfl⟩ := List.append_of_mem him
      obtain ⟨s1, s2, s3⟩ := sorted_split hl.sorted
      have hiL : i < listed.size := by rw [hl.size]; exact h1
      have hpre : ∀ j ∈ pre, ∀ oj, ops[j]? = some oj → Apart ops oj o ∧ FootApart (fps j) (fps i) := by
        intro j hj oj hoj
        rcases hind j i oj o (s1 j hj) hoj ho with h | h
        · exfalso
          have hlj := hl.anc (i + 1) i (by omega) o ho hdep j h
          obtain ⟨q1, q2⟩ := (hl.mem j).1 (List.mem_append_left _ hj)
          have hsz : j < listed.size := by rw [hl.size]; exact q1
          rw [Array.getD_eq_getD_getElem?, Array.getElem?_eq_getElem hsz] at hlj q2
          rw [Option.getD_some] at hlj q2
          rw [hlj] at q2; cases q2
        · exact h
      obtain ⟨v, m', k1, k2⟩ := RunL.front ho pre hpre hr
      have hnotdone : ¬ (listed.getD i false = true) := by
        rw [Array.getD_eq_getD_getElem?, Array.getElem?_eq_getElem hiL] at h2 ⊢
        rw [Option.getD_some] at h2 ⊢
        rw [h2]; simp
      have hle := k1.next hR
      refine step_in lp m hE hR hS ho hs k1 (fun k hk => Taken.fresh h0 h1 hnotdone k hk) (Taken.lt h0 hn) fun a' w' β' ro' hb hr' hsat' => ?_
      refine ih (pre ++ post) (listed.setIfInBounds i true) _ S' β' ro' a' w' (by simp at hlen ⊢; omega) ⟨by simp [hl.size], s2, fun j => ?_, fun j oj hoj hlj e he hbd => ?_⟩ k2 (Nat.le_trans hn hle) ?_
        (fun a'' w'' β'' ro'' q1 q2 q3 => hq a'' w'' β'' ro'' (Pl.ext_trans hb q1) (Snap.ext_trans hr' q2) q3)
      · rw [getD_set hiL]
        by_cases hji : j = i
        · subst hji; simp [s3]
        · rw [if_neg hji, ← hl.mem j]
          simp [hji]
      · rw [getD_set hiL] at hlj ⊢
        by_cases heo : e.on = i
        · simp [heo]
        · rw [if_neg heo]
          by_cases hji : j = i
          · subst hji
            rw [ho] at hoj; cases hoj
            exact hdep e he hbd
          · rw [if_neg hji] at hlj
            exact hl.closed j oj hoj hlj e he hbd
      · refine ⟨hsat'.h.less (fun _ _ h => h) fun id hid => ?_, hsat'.sz, hsat'.t, hsat'.df⟩
        have := Taken.step h1 hn hle id hid
        rcases this with h | ⟨j, q1, q2, q3, q4⟩ | h
        · exact .inl h
        · refine .inr (.inl ⟨j, q1, ?_, q3, q4⟩)
          show (listed.setIfInBounds i true).getD j false = true
          rw [getD_set hiL]
          rcases q2 with q2 | rfl
          · split
            · rfl
            · exact q2
          · simp
        · exact .inr (.inr h)

end

/-- A region, in a round of a range over a function. -/
theorem regionK_in (lp m : Nat) (hE : TysOk P E) (hR : CallGood P R) (hS : SpecSound P E) (hmix : P.follows .mixedOrders = true) {call : CallK} (hc : CallDen R call) {draw : Bool} {X : Type} {S : St} {k : St → Tr X} {r : X}
    (h : (regionK E call ops draw S k).den = some r) : ∃ S', (k S').den = some r ∧ MFrame S.m S'.m ∧ ∀ (w0 : Pt) (β : Pl) (ro : Snap) (D0 : Nat → Prop) (a : Go.Act) (w : World) (id : Nat) (Q : Exit → Go.Act → World → Prop), (∀ id, D0 id → id < S.m.next) →
      Sat w0 β ro D0 S a w → (∀ a' w' β' ro', β.ext β' → ro.ext ro' → Sat w0 β' ro' (fun id => D0 id ∨ (S.m.next ≤ id ∧ id < S'.m.next)) S' a' w' → Q .normal a' w') → (Code.region id ops draw).wpIn (Fence.wide.inRound lp) m P Q a w := by
  unfold regionK at h
  obtain ⟨S1, ff, h1, h2⟩ := opsK_den hc ops.toList 0 (fun j => by simp) h
  simp only [List.reverse_nil, List.nil_append, Array.length_toList] at h1 h2
  have hrange : List.range' 0 ops.size = List.range ops.size := List.range_eq_range'.symm
  split at h2
  · rename_i hchk
    have hnext := h1.next hR
    simp only at hnext
    refine ⟨_, h2, ?_, ?_⟩
    · obtain ⟨new, e1, e2⟩ := h1.frame hR
      refine ⟨by simp only; omega, ((List.range' 0 ops.size).map ff).flatMap (·.wr) ++ new, by simp only; rw [e1, List.append_assoc], fun id hid hn => ?_⟩
      simp only [List.mem_append, not_or] at hn
      refine e2 id (by simp only; omega) hn.2 ?_
      simpa [List.flatMap_map] using hn.1
    · intro w0 β ro D0 a w rid Q hD0 hs hq
      have hs0 : ∀ isDone : Nat → Prop, (∀ j, ¬ isDone j) → Sat w0 β ro (Taken D0 S.m.next ops.size isDone (S.m.next + 64 * ops.size)) { S with m := { S.m with next := S.m.next + 64 * ops.size } } a w := fun isDone _ =>
        ⟨hs.h.less (fun _ _ h => h) (fun id hid => .inl hid), hs.sz, hs.t, hs.df⟩
      cases draw with
      | false =>
        refine wpIn_region ?_
        rw [← hrange]
        refine run_text_in hE hR hS lp m hD0 h1 (fun _ => False) β ro a w (fun i hi => ⟨by rw [hrange] at hi; exact List.mem_range.1 hi, fun h => h⟩) (by rw [hrange]; exact List.nodup_range) (Nat.le_refl _) (hs0 _ (fun _ h => h))
          fun a' w' β' ro' k1 k2 k3 => hq a' w' β' ro' k1 k2 ⟨k3.h, k3.sz, k3.t, k3.df⟩
      | true =>
        simp only [Bool.not_true, Bool.false_or, Bool.and_eq_true] at hchk
        refine wpIn_region_any hmix ?_
        have hl0 : Left ops (Array.replicate ops.size false) (List.range' 0 ops.size) := by
          refine ⟨by simp, ?_, fun j => ?_, fun j o _ hj => ?_⟩
          · rw [hrange]; exact List.pairwise_lt_range
          · rw [hrange, List.mem_range]
            constructor
            · intro h; exact ⟨h, by simp [Array.getD_eq_getD_getElem?, h]⟩
            · exact fun h => h.1
          · exfalso
            rw [Array.getD_eq_getD_getElem?, Array.getElem?_replicate] at hj
            split at hj <;> cases hj
        refine run_any_in hE hR hS lp m hD0 (fun j o ho => ?_) (fun p q x y hpq hp hq' => ?_) ops.size (List.range' 0 ops.size) _ _ S1 β ro a _ (by simp) hl0 h1 (Nat.le_refl _) ?_
          fun a' w' β' ro' k1 k2 k3 => hq a' w' β' ro' k1 k2 ⟨k3.h, k3.sz, k3.t, k3.df⟩
        · intro e he hb
          have := backB_spec ops.toList 0 hchk.1 j o (by simpa using ho) e he hb
          omega
        · have := indepAll_spec _ 0 [] hchk.2 p q _ _ hpq (by simpa using rowsOf_at rfl hp) (by simpa using rowsOf_at rfl hq') (by simp)
          exact this.imp (fun x => x) indep_spec
        · have hd : ∀ j, ¬ ((Array.replicate ops.size false).getD j false = true) := by
            intro j hj
            rw [Array.getD_eq_getD_getElem?, Array.getElem?_replicate] at hj
            split at hj <;> cases hj
          have := hs0 _ hd
          exact ⟨this.h.drew, this.sz, this.t, this.df⟩
  · simp [Tr.den] at h2


end Go.Cat

namespace Go.Cat
open Go Go.RowKit
attribute [local go_sem] Oper.semAt_some

variable {P : Program} {E : Env} {R : CallRel} {ops : Array Oper} {w0 : Pt} {β : Pl} {ro : Snap} {D : Nat → Prop} {w : World}

/- ---------------------------------------------------------------- what is read only: its cells alone matter -/

def Snap.sub (r r' : Snap) : Prop := ∀ a v, r.cell? a = some v → r'.cell? a = some v

theorem Rep.sub {r r' : Snap} (h : r.sub r') {l : Leaf} {v : Value} (hr : Rep r l v) : Rep r' l v := by
  induction hr with
  | int k n h => exact .int k n h
  | bool b => exact .bool b
  | str b h => exact .str b h
  | nil e => exact .nil e
  | sl e xs a cap us hs hc hm hcell hrep ih =>
    exact .sl e xs a cap us hs hc hm (fun i x j l hi hj => h _ _ (hcell i x j l hi hj)) ih

theorem RepS.sub {r r' : Snap} (h : r.sub r') {x : SV} {v : Value} (hr : RepS β r x v) : RepS β r' x v := by
  induction hr with
  | leaf h' => exact .leaf (h'.sub h)
  | lit h' => exact .lit h'
  | own hb => exact .own hb
  | win hb hl hc hm hn hs => exact .win hb hl hc hm hn hs
  | rptr us hc hr hs => exact .rptr us (fun j l hj => h _ _ (hc j l hj)) (fun j l hj => (hr j l hj).sub h) hs
  | optr hb hg hi => exact .optr hb hg hi
  | bptr hb hg => exact .bptr hb hg
  | fn h1 h2 _ _ i3 i4 => exact .fn h1 h2 i3 i4
  | iface _ ih => exact .iface ih
  | agg h1 _ ih => exact .agg h1 ih
  | tup h1 _ ih => exact .tup h1 ih
  | nn h' => exact .nn (h'.sub h)
  | any v => exact .any v

theorem RepL.sub {r r' : Snap} (h : r.sub r') {cs : List SV} {us : List Value} (hr : RepL β r cs us) : RepL β r' cs us :=
  ⟨hr.1, fun i c u hc hu => (hr.2 i c u hc hu).sub h⟩

theorem ObjAt.sub {r r' : Snap} (h : r.sub r') {hd : Hd} {o : SO} (ho : ObjAt β r w hd o) : ObjAt β r' w hd o := by
  cases o with
  | row et e xs =>
    obtain ⟨h1, h2, h3⟩ := ho
    refine ⟨h1, h2, ?_⟩
    cases hb : hd.blk with
    | none => simpa [hb] using h3
    | some g =>
      simp only [hb] at h3 ⊢
      obtain ⟨cur, k1, k2, k3, k4, k5⟩ := h3
      exact ⟨cur, k1, k2, k3, k4, fun i x j l hi hj => by obtain ⟨u, hu, hru⟩ := k5 i x j l hi hj; exact ⟨u, hu, hru.sub h⟩⟩
  | blk cs =>
    obtain ⟨g, cur, et, h1, h2, h3⟩ := ho
    exact ⟨g, cur, et, h1, h2, h3.sub h⟩

/-- From block N on: cells alone. -/
def Snap.cut (r : Snap) (N : Nat) : Snap := fun b => if b < N then r b else match r b with | some (.cells c t m) => some (.cells c t m) | _ => none

theorem Snap.cut_sub (r : Snap) (N : Nat) : r.sub (r.cut N) := by
  intro a v h
  unfold Snap.cell? at *
  cases hb : r a.block with
  | none => simp [hb] at h
  | some o =>
    have hc : (r.cut N) a.block = r a.block ∨ o.isCells = false := by
      unfold Snap.cut
      by_cases hN : a.block < N
      · rw [if_pos hN]; exact .inl rfl
      · rw [if_neg hN, hb]
        cases o <;> first | exact .inl rfl | exact .inr rfl
    rw [hb] at h
    rcases hc with hc | hc
    · rw [hc, hb]; exact h
    · cases o <;> first | cases h | cases hc

theorem Snap.cut_of {r : Snap} {N b : Nat} {o : Obj} (h : r.cut N b = some o) : r b = some o := by
  unfold Snap.cut at h
  split at h
  · exact h
  · split at h
    · rename_i hb; rw [hb]; exact h
    · cases h

theorem Snap.cut_cells {r : Snap} {N b : Nat} {o : Obj} (h : r.cut N b = some o) (hb : N ≤ b) : o.isCells = true := by
  unfold Snap.cut at h
  rw [if_neg (by omega)] at h
  split at h
  · cases h; rfl
  · cases h

theorem Snap.cut_low {r : Snap} {N b : Nat} (h : b < N) : r.cut N b = r b := by unfold Snap.cut; rw [if_pos h]

/-- Another set of what is read only, that has the same cells. -/
theorem HSat.resnap {objs : Heap} (h : HSat w0 β ro D objs w) {r' : Snap} (hsub : ro.sub r') (hle : r'.le w) (hlow : ∀ b, b < w0.heap.size → r' b = ro b) (hap : ∀ id o hd g, objs id = some o → β id = some hd → hd.blk = some g → r' g = none) : HSat w0 β r' D objs w :=
  ⟨h.base, fun b hb => (hlow b hb).trans (h.low b hb), h.old, hle, h.dom, h.lt, fun id o ho => by obtain ⟨hd, h1, h2⟩ := h.obj id o ho; exact ⟨hd, h1, h2.sub hsub⟩, hap, h.above, h.inj⟩

theorem HSat.cut {objs : Heap} (h : HSat w0 β ro D objs w) {N : Nat} (hN : w0.heap.size ≤ N) : HSat w0 β (ro.cut N) D objs w :=
  h.resnap (Snap.cut_sub ro N) (fun b o hb => h.snap b o (Snap.cut_of hb)) (fun b hb => Snap.cut_low (by omega)) (fun id o hd g h1 h2 h3 => by
    have := h.apart id o hd g h1 h2 h3
    cases hc : ro.cut N g with
    | none => rfl
    | some x => rw [Snap.cut_of hc] at this; cases this)

/-- Another world, that is the same but for new blocks, and one block that is no cells. -/
theorem HSat.grown {objs : Heap} (h : HSat w0 β ro D objs w) {w' : World} {row : Option Nat} (hg : w.grownBy w' row) {N : Nat} (hN : w0.heap.size ≤ N) (hrow : ∀ r, row = some r → N ≤ r ∧ ∃ o : Obj, w.heap[r]? = some o ∧ o.isCells = false)
    (hnc : ∀ b o, N ≤ b → ro b = some o → o.isCells = true) : HSat w0 β ro D objs w' := by
  have keep : ∀ k o, w.heap[k]? = some o → (k < N ∨ o.isCells = true) → w'.heap[k]? = some o := by
    intro k o hk hor
    refine (hg.block k (Array.getElem?_eq_some_iff.1 hk).1 fun e => ?_).trans hk
    obtain ⟨h1, o', h2, h3⟩ := hrow k e.symm
    rw [hk] at h2; cases h2
    rcases hor with hor | hor
    · omega
    · rw [h3] at hor; cases hor
  refine ⟨h.base.trans ⟨hg.os, hg.tape, hg.output, hg.size⟩, h.low, fun k hk => ?_, fun b o hb => ?_, h.dom, fun id hd g h1 h2 => Nat.lt_of_lt_of_le (h.lt id hd g h1 h2) hg.size, fun id o ho => ?_, h.apart, h.above, h.inj⟩
  · rw [← h.old k hk]
    refine hg.block k (Nat.lt_of_lt_of_le hk h.base.size) fun e => ?_
    have := (hrow k e.symm).1
    omega
  · have hb' := h.snap b o hb
    refine keep b o hb' ?_
    rcases Nat.lt_or_ge b N with hlt | hge
    · exact .inl hlt
    · exact .inr (hnc b o hge hb)
  · obtain ⟨hd, h1, h2⟩ := h.obj id o ho
    refine ⟨hd, h1, h2.mono β.ext_refl ro.ext_refl fun g hgb => ?_⟩
    have hcur : ∃ cur et, w.heap[g]? = some (.cells cur et (0, 0)) := by
      cases o with
      | row et e xs =>
        obtain ⟨_, _, h3⟩ := h2
        simp only [hgb] at h3
        obtain ⟨cur, k1, _⟩ := h3
        exact ⟨cur, et, k1⟩
      | blk cs =>
        obtain ⟨g', cur, et, e1, e2, _⟩ := h2
        rw [hgb] at e1; cases e1
        exact ⟨cur, et, e2⟩
    obtain ⟨cur, et, hc⟩ := hcur
    rw [hc, keep g _ hc (.inr rfl)]

open Classical in
/-- All that lies there, but what may be written. -/
noncomputable def Snap.all (r : Snap) (w0 : Pt) (β : Pl) (objs : Heap) (w : World) : Snap :=
  fun b => if w0.heap.size ≤ b ∧ ¬ ∃ id o hd, objs id = some o ∧ β id = some hd ∧ hd.blk = some b then w.heap[b]? else r b

theorem Snap.ext_all {objs : Heap} (h : ro.le w) : ro.ext (ro.all w0 β objs w) := by
  intro b o hb
  unfold Snap.all
  split
  · exact h _ _ hb
  · exact hb

theorem Snap.ext_sub {r r' : Snap} (h : r.ext r') : r.sub r' := fun _ _ hc => Snap.cell_ext h hc

theorem HSat.all {objs : Heap} (h : HSat w0 β ro D objs w) : HSat w0 β (ro.all w0 β objs w) D objs w := by
  refine h.resnap (Snap.ext_sub (Snap.ext_all h.snap)) (fun b o hb => ?_) (fun b hb => ?_) (fun id o hd g h1 h2 h3 => ?_)
  · unfold Snap.all at hb
    split at hb
    · exact hb
    · exact h.snap b o hb
  · unfold Snap.all
    rw [if_neg (by omega)]
  · unfold Snap.all
    rw [if_neg (fun hh => hh.2 ⟨id, o, hd, h1, h2, h3⟩)]
    exact h.apart id o hd g h1 h2 h3

theorem ObjAt.cells {hd : Hd} {o : SO} (h : ObjAt β ro w hd o) {g : Nat} (hg : hd.blk = some g) : ∃ cur et, w.heap[g]? = some (.cells cur et (0, 0)) := by
  cases o with
  | row et e xs =>
    obtain ⟨_, _, h3⟩ := h
    simp only [hg] at h3
    obtain ⟨cur, k1, _⟩ := h3
    exact ⟨cur, et, k1⟩
  | blk cs =>
    obtain ⟨g', cur, et, e1, e2, _⟩ := h
    rw [hg] at e1; cases e1
    exact ⟨cur, et, e2⟩

/-- What a run keeps that began where all was told. -/
theorem keeps_all {objs objs' : Heap} {β' : Pl} {ro' : Snap} {D' : Nat → Prop} {w' : World} (h : HSat w0 β ro D objs w) (h' : HSat w0 β' ro' D' objs' w') (hβ : β.ext β') (hr : (ro.all w0 β objs w).ext ro') : KeepsOthers w w' := by
  have live : ∀ k, w0.heap.size ≤ k → k < w.heap.size → (∃ id o hd, objs id = some o ∧ β id = some hd ∧ hd.blk = some k) ∨ w'.heap[k]? = w.heap[k]? := by
    intro k hk hlt
    by_cases hl : ∃ id o hd, objs id = some o ∧ β id = some hd ∧ hd.blk = some k
    · exact .inl hl
    · right
      have hget := Array.getElem?_eq_getElem hlt
      have hs : ro.all w0 β objs w k = some w.heap[k] := by
        unfold Snap.all
        rw [if_pos ⟨hk, hl⟩, hget]
      rw [h'.snap _ _ (hr _ _ hs), hget]
  refine ⟨?_, fun k o hk ho => ?_⟩
  · rcases Nat.lt_or_ge w0.heap.size w.heap.size with hlt | hge
    · obtain ⟨k, hk⟩ : ∃ k, w.heap.size = k + 1 := ⟨w.heap.size - 1, by omega⟩
      rcases live k (by omega) (by omega) with ⟨id, o, hd, h1, h2, h3⟩ | hs
      · have := h'.lt id hd k (hβ _ _ h2) h3
        omega
      · have hget : w.heap[k]? = some w.heap[k] := Array.getElem?_eq_getElem (by omega)
        rw [hget] at hs
        have := (Array.getElem?_eq_some_iff.1 hs).1
        omega
    · exact Nat.le_trans hge h'.base.size
  · have hlt := (Array.getElem?_eq_some_iff.1 hk).1
    rcases Nat.lt_or_ge k w0.heap.size with h0 | h0
    · rw [h'.old k h0, ← h.old k h0, hk]
    · rcases live k h0 hlt with ⟨id, o', hd, h1, h2, h3⟩ | hs
      · obtain ⟨hd', m1, m2⟩ := h.obj id o' h1
        rw [h2] at m1; cases m1
        obtain ⟨cur, et, hc⟩ := m2.cells h3
        rw [hk] at hc; cases hc
        cases ho
      · rw [hs, hk]

theorem grown_sat {S : St} {a : Go.Act} (h : Sat w0 β ro D S a w) {w' : World} (hh : HSat w0 β ro D S.m.objs w') : Sat w0 β ro D S a w' := ⟨hh, h.sz, h.t, h.df⟩

/-- An item, in memory that is read only. -/
structure ItemV (ro : Snap) {A : Type} (lf : A → Leaf) (items : List A) where
  v : Value
  x : A
  rep : Rep ro (lf x) v
  mem : x ∈ items

section
variable (hE : TysOk P E) (hR : CallGood P R) (hS : SpecSound P E)
include hE hR hS

/-- A range over a function whose body is one region. -/
theorem range_wp (hmix : P.follows .mixedOrders = true) {call : CallK} (hc : CallDen R call) {S : St} {a : Go.Act} (hs : Sat w0 β ro D S a w) (hD : ∀ id, D id → id < S.m.next) (hdefs : w0.defs = [])
    {sl : List (Nat × SigV)} {x0 : SigT sl} {js rs : List Nat} (hx0 : (sigOf S.tmps S.tmps sl).run S.m.objs [] = some ((x0, js), rs))
    (hkeep : ∀ y t, tmpAt (loopHead S.tmps S.m js sl y).tmps t = .any ∨ tmpAt (loopHead S.tmps S.m js sl y).tmps t = tmpAt S.tmps t)
    {A : Type} (lf : A → Leaf) (items : List A) (lst : List A → SigT sl) (hl0 : lst [] = x0) {p q : Nat} (hp : p < S.tmps.length) {draw : Bool} {rid ra bid ty : Nat} {pos : String}
    (hbody : ∀ pre x, pre.length < items.length → x ∈ items → (regionK E call ops draw { tmps := setT (setT (loopHead S.tmps S.m js sl (lst pre)).tmps (some p) (.leaf (lf x))) (some q) (.leaf (lf x)), m := (loopHead S.tmps S.m js sl (lst pre)).m } fun S' =>
      (sigOf S.tmps S'.tmps sl).k S'.m.objs [] fun q _ => match q with
        | (y, js') => match onlyWrote S.m.next js (js' ++ S'.m.wl) && Nat.beq S'.tmps.length S.tmps.length with
          | true => .ret y
          | false => .fail).den = some (lst (pre ++ [x])))
    {g : Operand} {gf n : Nat} {lb : Array Value} (hg : a.eval g = .func (.func gf) #[] lb) (eg : ∀ args w, (callFunc gf args).run P w = .ok (.enter gf args) w) (h1 : 1 ≤ n) {Sp : List (ItemV ro lf items) → Prop}
    (hseq : SeqStopsK Fence.wide (n - 1) P gf lb (fun y : ItemV ro lf items => #[y.v]) (fun W W' => ro.le W → ro.le W') (fun ys => ys.map (·.x) = items) Sp items.length w)
    {Q : Exit → Go.Act → World → Prop}
    (hdone : ∀ (d : Nat) (W : World) β3 ro3, w0.heap.size ≤ d → β.ext β3 → ro.ext ro3 → W.heap[d]? = some (.deferred (some [])) → ro3 d = some (.deferred (some [])) →
      Sat { w0 with defs := [{ target := .collected d, args := #[] }] } β3 ro3 (fun id => D id ∨ (S.m.next ≤ id ∧ id < (loopHead S.tmps S.m js sl (lst items)).m.next)) (loopHead S.tmps S.m js sl (lst items)) { a with defers := [{ target := .collected d, args := #[] }] } W →
      Q .normal { a with defers := [{ target := .collected d, args := #[] }] } W) :
    (Code.rangeFunc g #[p] (.region ra #[{ dst := some q, op := .assign (.tmp p), type := ty, pos := pos, after := #[], guard := none }] false) (.block bid (.region rid ops draw))).wpIn Fence.wide n P Q a w := by
  obtain ⟨is0, os0, hjs, hsig0, _, _⟩ := sigOf_run hx0
  have hent : Entry w0 S β D := ⟨hD, ro, a, w, hs⟩
  have hnone : ∀ b, w.heap.size ≤ b → ro b = none := fun b hb => by
    cases h : ro b with
    | none => rfl
    | some o =>
      have := (Array.getElem?_eq_some_iff.1 (hs.h.snap b o h)).1
      omega
  have hsz : w0.heap.size ≤ w.heap.size := hs.h.base.size
  -- the head, whatever the frame
  have hact : ∀ {y : SigT sl} {β3 : Pl} {ro3 : Snap} {D3 : Nat → Prop} {a3 : Go.Act} {W : World}, β.ext β3 → ro.ext ro3 → Sat w0 β3 ro3 D3 (loopHead S.tmps S.m js sl y) a3 W → Sat w0 β3 ro3 D3 (loopHead S.tmps S.m js sl y) a W := by
    intro y β3 ro3 D3 a3 W h1 h2 h3
    refine ⟨h3.h, ?_, fun t => ?_, hs.df⟩
    · rw [hs.sz]
      have := (headSig_frame hsig0 y { tmps := S.tmps.map fun _ => .any, m := { objs := putAll S.m.objs (freezeAll js), next := S.m.next, wl := [] } }).2.2.1
      simp only [loopHead]
      rw [this]; simp
    · rcases hkeep y t with h | h
      · rw [h]; exact .any _
      · rw [h]; exact (hs.t t).mono h1 h2
  obtain ⟨I, hI⟩ : ∃ I : List (ItemV ro lf items) → World → Prop, I = fun pre W => ∃ β3 ro3, β.ext β3 ∧ ro.ext ro3 ∧ (∀ b o, w.heap.size ≤ b → ro3 b = some o → o.isCells = true) ∧
      Sat w0 β3 ro3 (fun id => D id ∨ (S.m.next ≤ id ∧ id < (loopHead S.tmps S.m js sl (lst (pre.map (·.x)))).m.next)) (loopHead S.tmps S.m js sl (lst (pre.map (·.x)))) a W := ⟨_, rfl⟩
  have hto : ∀ {pre : List (ItemV ro lf items)} {W : World} {β3 : Pl} {ro3 : Snap} {a3 : Go.Act}, β.ext β3 → ro.ext ro3 → Sat w0 β3 ro3 (fun id => D id ∨ (S.m.next ≤ id ∧ id < (loopHead S.tmps S.m js sl (lst (pre.map (·.x)))).m.next)) (loopHead S.tmps S.m js sl (lst (pre.map (·.x)))) a3 W → I pre W := by
    intro pre W β3 ro3 a3 h1 h2 h3
    rw [hI]
    have h4 := hact h1 h2 h3
    refine ⟨β3, ro3.cut w.heap.size, h1, fun b o hb => ?_, fun b o hb hc => Snap.cut_cells hc hb, ⟨h4.h.cut hsz, h4.sz, fun t => (h4.t t).sub (Snap.cut_sub ro3 _), h4.df⟩⟩
    rw [Snap.cut_low]
    · exact h2 b o hb
    · exact (Array.getElem?_eq_some_iff.1 (hs.h.snap b o hb)).1
  refine wpIn_rangeFunc_ownF rfl h1 hg trivial eg hseq (fun h k => k ∘ h) (fun W l o o' hl hW _ _ hle b o'' hb => ?_) (Below.refl _ _) (fun x => rfl) I (fun _ _ _ => False) ?_ (fun _ _ _ _ _ h => h.elim) ?_
    (fun x => { tmps := (a.tmps.setIfInBounds p x.v).setIfInBounds q x.v, defers := [] }) ?_ ?_ ?_ (fun _ _ _ _ _ _ h => h.elim)
  · -- what the frame's own blocks are
    have hne : b ≠ l := by
      rintro rfl
      rw [hnone b hl] at hb; cases hb
    rw [World.putObj_heap_other hne]
    exact hle b o'' hb
  · -- the invariant abides
    intro pre W W' row hpre hgr hrow
    rw [hI] at hpre ⊢
    obtain ⟨β3, ro3, h1, h2, h3, h4⟩ := hpre
    exact ⟨β3, ro3, h1, h2, h3, grown_sat h4 (h4.h.grown hgr hsz hrow h3)⟩
  · -- at the start
    obtain ⟨β3, ro3, r1, r2, r3⟩ := relay (js := js) hent (fun _ h => .inl h) β.ext_refl hs rfl hx0 (fun id _ hn => ⟨rfl, hn⟩)
    exact hto (pre := []) r1 r2 (by simpa [hl0] using r3)
  · -- the item is taken
    intro l x W K hK
    have hsz' : p < a.tmps.size := by rw [hs.sz]; exact hp
    have hget : (a.tmps.setIfInBounds p x.v).getD p undef = x.v := by simp [Array.getD_eq_getD_getElem?, hsz']
    gi_wp2
    exact hK
  · -- a round
    intro l pre x W hpre hlen
    rw [hI] at hpre
    obtain ⟨β3, ro3, k1, k2, k3, k4⟩ := hpre
    have hrx : RepS β3 (ro3.all w0 β3 (loopHead S.tmps S.m js sl (lst (pre.map (·.x)))).m.objs W) (.leaf (lf x.x)) x.v := .leaf ((x.rep.mono k2).mono (Snap.ext_all k4.h.snap))
    have hro := Snap.ext_all (w0 := w0) (β := β3) (objs := (loopHead S.tmps S.m js sl (lst (pre.map (·.x)))).m.objs) k4.h.snap
    have hfr := headSig_frame hsig0 (lst (pre.map (·.x))) { tmps := S.tmps.map fun _ => .any, m := { objs := putAll S.m.objs (freezeAll js), next := S.m.next, wl := [] } }
    have hb := hbody (pre.map (·.x)) x.x (by simpa using hlen) x.mem
    obtain ⟨S1, d1, d2, d3⟩ := regionK_in l (n - 1 - 1) hE hR hS hmix hc hb
    refine wpIn_block ?_
    have hst : Sat w0 β3 (ro3.all w0 β3 (loopHead S.tmps S.m js sl (lst (pre.map (·.x)))).m.objs W) (fun id => D id ∨ (S.m.next ≤ id ∧ id < (loopHead S.tmps S.m js sl (lst (pre.map (·.x)))).m.next))
        { tmps := setT (setT (loopHead S.tmps S.m js sl (lst (pre.map (·.x)))).tmps (some p) (.leaf (lf x.x))) (some q) (.leaf (lf x.x)), m := (loopHead S.tmps S.m js sl (lst (pre.map (·.x)))).m }
        { tmps := (a.tmps.setIfInBounds p x.v).setIfInBounds q x.v, defers := [] } W := by
      have h5 := (k4.put β3.ext_refl hro k4.h.all hrx (some p)).put (m' := (loopHead S.tmps S.m js sl (lst (pre.map (·.x)))).m) β3.ext_refl (Snap.ext_refl _) k4.h.all hrx (some q)
      exact ⟨h5.h, h5.sz, h5.t, hdefs.symm⟩
    refine d3 w0 β3 _ _ _ W rid _ (then_lt hD hfr.1) hst fun a' w' β' ro' q1 q2 q3 => ?_
    obtain ⟨⟨y', js'⟩, rs', hy', hd'⟩ := OT.k_den _ _ d1
    simp only at hd'
    split at hd'
    · rename_i hchk
      simp only [Bool.and_eq_true] at hchk
      simp only [Tr.den] at hd'
      cases hd'
      have hw := onlyWrote_spec hchk.1
      obtain ⟨hn1, new, hn2, hn3⟩ := d2
      have hlink : ∀ id, id < S.m.next → id ∉ js → S1.m.objs id = S.m.objs id ∧ id ∉ js' := by
        intro id hid hnj
        have hnot : ∀ i ∈ js' ++ S1.m.wl, i ≠ id := by
          rintro i hi rfl
          rcases hw i hi with h | h
          · omega
          · exact hnj h
        refine ⟨?_, fun hm => hnot id (List.mem_append_left _ hm) rfl⟩
        have hwl : S1.m.wl = new := by rw [hn2]; simp [loopHead, hfr.2.1]
        rw [hn3 id (Nat.lt_of_lt_of_le hid hfr.1) (fun hm => hnot id (List.mem_append_right _ (hwl ▸ hm)) rfl)]
        have := hfr.2.2.2 id hid (fun hm => hnj (hjs ▸ List.mem_append_right _ hm))
        simp only [loopHead]
        rw [this]
        simp only
        rw [putAll_freeze, if_neg hnj]
      obtain ⟨β4, ro4, r1, r2, r3⟩ := relay hent (fun id hid => by
        rcases hid with (h | h) | h
        · exact .inl h
        · exact .inr h.1
        · exact .inr (Nat.le_trans hfr.1 h.1)) (Pl.ext_trans k1 q1) q3 (Nat.eq_of_beq_eq_true hchk.2) hy' hlink
      have hx4 : ro.ext ro4 := Snap.ext_trans k2 (Snap.ext_trans hro (Snap.ext_trans q2 r2))
      show ownPostK (fun W W' => ro.le W → ro.le W') I (fun _ _ _ => False) _ W .normal a' w'
      refine ⟨keeps_all k4.h q3.h q1 q2, fun _ b o hb => r3.h.snap b o (hx4 b o hb), hto r1 hx4 (by simpa using r3)⟩
    · simp [Tr.den] at hd'
  · -- behind it
    intro d xs W hd hxs hpre hW
    rw [hI] at hpre
    obtain ⟨β3, ro3, k1, k2, k3, k4⟩ := hpre
    rw [hxs] at k4
    have had : a.defers = [] := hs.df.trans hdefs
    rw [had]
    let ro5 : Snap := fun b => if b = d then some (.deferred (some [])) else ro3 b
    have hd3 : ro3 d = none ∨ ro3 d = some (.deferred (some [])) := by
      cases h : ro3 d with
      | none => exact .inl rfl
      | some o => right; have := k4.h.snap d o h; rw [hW] at this; rw [this]
    have hx5 : ro3.ext ro5 := by
      intro b o hb
      simp only [ro5]
      split
      · rename_i he; subst he
        rcases hd3 with h | h
        · rw [h] at hb; cases hb
        · rw [h] at hb; exact hb
      · exact hb
    have h5 : HSat w0 β3 ro5 _ _ W := k4.h.resnap (Snap.ext_sub hx5) (fun b o hb => by
        simp only [ro5] at hb
        split at hb
        · rename_i he; subst he; cases hb; exact hW
        · exact k4.h.snap b o hb) (fun b hb => by
        simp only [ro5]
        rw [if_neg (by omega)]) (fun id o hd g e1 e2 e3 => by
        simp only [ro5]
        split
        · rename_i he; subst he
          obtain ⟨hd', m1, m2⟩ := k4.h.obj id o e1
          rw [e2] at m1; cases m1
          obtain ⟨cur, et, hc⟩ := m2.cells e3
          rw [hW] at hc; cases hc
        · exact k4.h.apart id o hd g e1 e2 e3)
    refine hdone d W β3 ro5 (by omega) k1 (Snap.ext_trans k2 hx5) hW (by simp [ro5]) ⟨h5.defs _, k4.sz, fun t => (k4.t t).mono β3.ext_refl hx5, rfl⟩

end

end Go.Cat

namespace Go.Cat
open Go Go.RowKit

variable {P : Program} {E : Env} {w0 : Pt} {β : Pl} {ro : Snap} {D : Nat → Prop} {w : World}

/-- What a function hands back, taken as data. -/
def finK (E : Env) (fn : Func) (results : List EN) (S : St) : Tr (TT results) :=
  (resultsT E S.tmps fn.results.toList fun vs => ret (oneOr vs)).k S.m.objs [] fun v _ => (toTT results (outSV v.1 results.length) fun r _ => OT.out r).k S.m.objs [] fun r _ => .ret r

def mark (d : Nat) : Deferred := { target := .collected d, args := #[] }

def SpecPost (ro0 : Snap) (w0 : World) (results : List EN) (r : TT results) : Ending → World → Prop := fun e w' =>
  ∃ outs ro', e = .returned (oneV outs) ∧ Base w0 w' ∧ (∀ k, k < w0.heap.size → w'.heap[k]? = w0.heap[k]?) ∧ ro0.ext ro' ∧ ro'.le w' ∧ (∀ b, b < w0.heap.size → ro' b = ro0 b) ∧ RepTT ro' results r outs

theorem HSat.lowExt {objs : Heap} (h : HSat w0 β ro D objs w) (hle : w0.ro0.le w0.toWorld) : w0.ro0.ext ro := by
  intro b o hb
  have : b < w0.heap.size := (Array.getElem?_eq_some_iff.1 (hle b o hb)).1
  rw [h.low b this]; exact hb

theorem fin_run (hE : TysOk P E) {fn : Func} {results : List EN} {r : TT results} {S : St} (hfin : (finK E fn results S).den = some r) {a : Go.Act} (hs : Sat w0 β ro D S a w) (hle : w0.ro0.le w0.toWorld) :
    ∃ v, (Go.results fn a.tmps).run P w = .ok v w ∧ SpecPost w0.ro0 w0.toWorld results r (.returned v) w := by
  obtain ⟨⟨v, u⟩, rs, k1, k2⟩ := OT.k_den _ _ hfin
  obtain ⟨svs, rs', us, r1, r2, r3⟩ := resultsT_sound hE hs fn.results.toList k1
  obtain ⟨rfl, rfl⟩ := ret_inv r1
  refine ⟨_, results_run r2, ?_⟩
  obtain ⟨r', rs2, l1, l2⟩ := OT.k_den _ _ k2
  simp only [Tr.den] at l2
  cases l2
  obtain ⟨y, is, rs3, t1, t2⟩ := toTT_run l1
  simp only [OT.run] at t2
  cases t2
  have q3 := oneOr_rep r3
  have hlen := ttOf_length t1
  have houts : ∃ outs, RepL β ro (outSV (oneOr svs) results.length) outs ∧ oneV outs = (if hh : us.toArray.size = 1 then us.toArray[0] else .tuple us.toArray) := by
    generalize hv : oneOr svs = v at q3 hlen t1
    generalize (if hh : us.toArray.size = 1 then us.toArray[0] else Value.tuple us.toArray) = u at q3
    unfold outSV
    split
    · exact ⟨[u], .cons q3 (.nil _ _), rfl⟩
    · rename_i l hne
      cases q3 with
      | @tup _ us b1 b2 =>
        refine ⟨us, ⟨b1, b2⟩, ?_⟩
        rw [outSV_tup hne] at hlen
        have hl : us.length ≠ 1 := by rw [b1, hlen]; exact hne
        unfold oneV
        rw [dif_neg (by simpa using hl)]
    · exact ⟨[u], .cons q3 (.nil _ _), rfl⟩
  obtain ⟨outs, o1, o2⟩ := houts
  obtain ⟨a1, a2⟩ := ttOf_rep hs.h t1 o1
  have hfz := hs.h.freeze is a1
  exact ⟨outs, ro.plus β w is, by rw [o2], hfz.base, hfz.old, Snap.ext_trans (hs.h.lowExt hle) (Snap.ext_plus hs.h.snap β is), hfz.snap, hfz.low, a2 is fun _ h => h⟩

theorem fin_plain (hE : TysOk P E) {fn : Func} {results : List EN} {r : TT results} {S : St} (hfin : (finK E fn results S).den = some r) {a : Go.Act} (hs : Sat w0 β ro D S a w) (hdefs : w0.defs = []) (hle : w0.ro0.le w0.toWorld) {n : Nat} :
    bodyPostM Fence.wide n P fn (SpecPost w0.ro0 w0.toWorld results r) .ret a w := by
  show LeavesInM Fence.wide n P fn a.tmps _ a.defers .returning w
  rw [hs.df, hdefs]
  exact fin_run hE hfin hs hle

theorem fin_mark (hE : TysOk P E) {fn : Func} {results : List EN} {r : TT results} {S : St} (hfin : (finK E fn results S).den = some r) {a : Go.Act} (hs : Sat w0 β ro D S a w) {d : Nat} (hdefs : w0.defs = [mark d]) (hd : w0.heap.size ≤ d) (hrd : ro d = some (.deferred (some []))) (hle : w0.ro0.le w0.toWorld) {n : Nat} :
    bodyPostM Fence.wide n P fn (SpecPost w0.ro0 w0.toWorld results r) .ret a w := by
  show LeavesInM Fence.wide n P fn a.tmps _ a.defers .returning w
  rw [hs.df, hdefs]
  have hW := hs.h.snap d _ hrd
  refine ⟨by simp, .inl ⟨d, _, rfl, run_takeDeferred hW, ?_⟩⟩
  have h1 : HSat w0 β (ro.cut w0.heap.size) D S.m.objs w := hs.h.cut (Nat.le_refl _)
  have h2 := h1.grown (grownBy_putObj' w d (.deferred none)) (Nat.le_refl _) (fun k e => by cases e; exact ⟨hd, _, hW, rfl⟩) (fun b o hb hc => Snap.cut_cells hc hb)
  exact fin_run hE hfin ⟨h2, hs.sz, fun t => (hs.t t).sub (Snap.cut_sub ro _), hs.df⟩ hle

/-- What an object's row holds, once it is read only. -/
theorem frozen_at {S : St} {a : Go.Act} (hs : Sat w0 β ro D S a w) {id : Nat} {cs : List SV} (ho : S.m.objs id = some (.blk cs)) :
    ∃ (hd : Hd) (g : Nat) (cur : Array Value), β id = some hd ∧ hd.blk = some g ∧ RepL β ro cs cur.toList ∧ (∀ W, (ro.plus β w [id]).le W → ∀ j v, cur.toList[j]? = some v → W.cell? ⟨g, j, none⟩ = some v) ∧
      Sat w0 β (ro.plus β w [id]) D { S with m := { S.m with objs := putAll S.m.objs (freezeAll [id]) } } a w := by
  obtain ⟨hd, hb, g, cur, et, m1, m2, m3⟩ := hs.h.obj id _ ho
  refine ⟨hd, g, cur, hb, m1, m3, fun W hW j v hj => ?_, ⟨hs.h.freeze [id] (fun i hi => by rw [List.mem_singleton.1 hi, ho]; rfl), hs.sz, fun t => (hs.t t).mono β.ext_refl (Snap.ext_plus hs.h.snap β [id]), hs.df⟩⟩
  have : (ro.plus β w [id]) g = some (.cells cur et (0, 0)) := by
    unfold Snap.plus
    rw [if_pos ⟨id, List.mem_singleton.2 rfl, hd, hb, m1⟩, m2]
  have := hW g _ this
  rw [cell_of_row W g j cur et (0, 0) this]
  simpa using hj

end Go.Cat

namespace Go.Cat
open Go

def nth {α : Type} [Inhabited α] (xs : List α) (i : Nat) : α := (xs[i]?).getD default

section loops
variable {L R : Type} {step : L → Option (L ⊕ R)}

theorem loopO_inl {l l' : L} (h : step l = some (.inl l')) : loopO step l = loopO step l' := by
  cases hr : loopO step l' with
  | some r =>
    obtain ⟨n, hn⟩ := loopO_iff.1 hr
    exact loopO_iff.2 ⟨n + 1, by simp [iter, h, hn]⟩
  | none =>
    cases hq : loopO step l with
    | none => rfl
    | some r =>
      obtain ⟨n, hn⟩ := loopO_iff.1 hq
      cases n with
      | zero => simp [iter] at hn
      | succ n =>
        simp only [iter, h] at hn
        rw [loopO_iff.2 ⟨n, hn⟩] at hr
        cases hr

theorem loopO_exit {l : L} {t : Option R} (h : step l = t.map .inr) : loopO step l = t := by
  cases t with
  | some r => exact loopO_iff.2 ⟨1, by simp [iter, h]⟩
  | none =>
    cases hq : loopO step l with
    | none => rfl
    | some r =>
      obtain ⟨n, hn⟩ := loopO_iff.1 hq
      cases n with
      | zero => simp [iter] at hn
      | succ n => simp [iter, h] at hn

theorem loopO_for (f : Nat → L) (n : Nat) (t : Option R) (hs : ∀ k, k < n → step (f k) = some (.inl (f (k + 1)))) (he : step (f n) = t.map .inr) : loopO step (f 0) = t := by
  have gen : ∀ m k, k + m = n → loopO step (f k) = t := by
    intro m
    induction m with
    | zero => intro k hk; have : k = n := by omega
              subst this; exact loopO_exit he
    | succ m ih => intro k hk; rw [loopO_inl (hs k (by omega))]; exact ih (k + 1) (by omega)
  exact gen n 0 (by omega)

theorem loopO_all {α : Type} (xs : List α) (q : α → Bool) (f : Nat → L) (bad good : Option R)
    (hs : ∀ k (h : k < xs.length), step (f k) = if q xs[k] = true then some (.inl (f (k + 1))) else bad.map .inr) (he : step (f xs.length) = good.map .inr) :
    loopO step (f 0) = if xs.all q = true then good else bad := by
  have gen : ∀ m k, k + m = xs.length → loopO step (f k) = if (xs.drop k).all q = true then good else bad := by
    intro m
    induction m with
    | zero =>
      intro k hk
      have : k = xs.length := by omega
      subst this
      rw [loopO_exit he]; simp
    | succ m ih =>
      intro k hk
      have hlt : k < xs.length := by omega
      have h1 := hs k hlt
      rw [List.drop_eq_getElem_cons hlt, List.all_cons]
      cases hq : q xs[k] with
      | true =>
        simp only [hq, if_true] at h1
        rw [loopO_inl h1, ih (k + 1) (by omega)]
        simp
      | false =>
        simp only [hq, Bool.false_eq_true, if_false] at h1
        rw [loopO_exit h1]
        simp
  simpa using gen xs.length 0 (by omega)
theorem loopO_allN (a n : Nat) (q : Nat → Bool) (f : Nat → L) (bad good : Option R) (han : a ≤ n)
    (hs : ∀ k, a ≤ k → k < n → step (f k) = if q k = true then some (.inl (f (k + 1))) else bad.map .inr) (he : step (f n) = good.map .inr) :
    loopO step (f a) = if (List.range' a (n - a)).all q = true then good else bad := by
  have gen : ∀ m k, k + m = n → a ≤ k → loopO step (f k) = if (List.range' k m).all q = true then good else bad := by
    intro m
    induction m with
    | zero =>
      intro k hk _
      have : k = n := by omega
      subst this
      rw [loopO_exit he]; rfl
    | succ m ih =>
      intro k hk hak
      have h1 := hs k hak (by omega)
      rw [List.range'_succ, List.all_cons]
      cases hq : q k with
      | true =>
        simp only [hq, if_true] at h1
        rw [loopO_inl h1, ih (k + 1) (by omega) (by omega), Bool.true_and]
      | false =>
        simp only [hq, Bool.false_eq_true, if_false] at h1
        rw [loopO_exit h1, Bool.false_and]
        rfl
  exact gen (n - a) a (by omega) (Nat.le_refl _)
end loops

theorem okL_len {e : EN} {xs : List (T e)} (h : OkL (.sl e xs)) : xs.length ≤ maxLen := by cases h; assumption
theorem okL_elem {e : EN} {xs : List (T e)} (h : OkL (.sl e xs)) {x : T e} (hx : x ∈ xs) : OkT e x := by
  cases h with
  | sl _ _ h1 h2 =>
    intro l hl
    obtain ⟨i, hi⟩ := List.mem_iff_getElem?.1 hx
    obtain ⟨j, hj⟩ := List.mem_iff_getElem?.1 hl
    exact h2 i x j l hi hj
theorem okL_int {k : IntKind} {n : Int} (h : OkL (.int k n)) : k.min ≤ n ∧ n ≤ k.max := by
  cases h with
  | int _ _ h => simpa [rngB] using h
theorem min_i64 : IntKind.min .i64 = -9223372036854775808 := by decide
theorem max_i64 : IntKind.max .i64 = 9223372036854775807 := by decide
theorem min_u8 : IntKind.min .u8 = 0 := by decide
theorem max_u8 : IntKind.max .u8 = 255 := by decide
theorem min_u32 : IntKind.min .u32 = 0 := by decide
theorem max_u32 : IntKind.max .u32 = 4294967295 := by decide
theorem min_u64 : IntKind.min .u64 = 0 := by decide
theorem max_u64 : IntKind.max .u64 = 18446744073709551615 := by decide
theorem okL_i64 {n : Int} (h : OkL (.int .i64 n)) : -9223372036854775808 ≤ n ∧ n ≤ 9223372036854775807 := by have := okL_int h; rwa [min_i64, max_i64] at this
theorem okL_u8 {n : Int} (h : OkL (.int .u8 n)) : 0 ≤ n ∧ n ≤ 255 := by have := okL_int h; rwa [min_u8, max_u8] at this
theorem okL_u32 {n : Int} (h : OkL (.int .u32 n)) : 0 ≤ n ∧ n ≤ 4294967295 := by have := okL_int h; rwa [min_u32, max_u32] at this
theorem okL_u64 {n : Int} (h : OkL (.int .u64 n)) : 0 ≤ n ∧ n ≤ 18446744073709551615 := by have := okL_int h; rwa [min_u64, max_u64] at this

theorem nth_lt {α : Type} [Inhabited α] {xs : List α} {k : Nat} (h : k < xs.length) : nth xs k = xs[k] := by
  simp [nth, h]

theorem wrap_i64 {n : Int} (h1 : -9223372036854775808 ≤ n) (h2 : n ≤ 9223372036854775807) : IntKind.wrap .i64 n = n := by
  simp [IntKind.wrap, IntKind.signed, IntKind.bits]
  split <;> omega

theorem wrap_succ {k : Nat} (h : k < maxLen) : IntKind.wrap .i64 ((k : Int) + 1) = ((k + 1 : Nat) : Int) := by
  have : maxLen = 9223372036854775807 := rfl
  rw [wrap_i64 (by omega) (by omega)]
  rfl

theorem wrap_u8 {n : Int} (h1 : 0 ≤ n) (h2 : n ≤ 255) : IntKind.wrap .u8 n = n := by
  simp [IntKind.wrap, IntKind.signed, IntKind.bits]
  omega

theorem wrap_u64 {n : Int} (h1 : 0 ≤ n) (h2 : n ≤ 18446744073709551615) : IntKind.wrap .u64 n = n := by
  simp [IntKind.wrap, IntKind.signed, IntKind.bits]
  omega

theorem wrap_u32 {n : Int} (h1 : 0 ≤ n) (h2 : n ≤ 4294967295) : IntKind.wrap .u32 n = n := by
  simp [IntKind.wrap, IntKind.signed, IntKind.bits]
  omega

end Go.Cat
