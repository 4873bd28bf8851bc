/-
  No cell of these rows narrows 'for every input' (looked for: loops, veiled, ifaces, maps, wideKeys, modest, calm, conditions, laid).
  DERIVED. THE GIVEN ROWS OF THIS SEAT. 5 by the template 'for every input the law returns true; each argument reads behind the call as it read before'; 0 by the template 'total and deterministic' (their statements: YtiflikkmjeikdaaGreatTotals.lean).
  GIVEN WITH THE SEED: the statements are not yours to turn. If you find one false, say at which input.
  Laid BY PROGRAM, IN A SANDBOX (cutbox-rows.mjs): the forced cells as the released guide's own fill.sh prints them over the translation 8f383a2d480e1c41… (all of the seat's roots in one cut). By AI agents, Wed Nov 11 2026. No macro, syntax, notation, axiom, sorry.
-/
import Derived.Test.YtiflikkmjeikdaaGreatChecked
import GoSem.Claim
import GoSem.ClaimJoined
import GoSem.ClaimMapViews
import Derived.JoinedTies
import Derived.KernelRfl
namespace Go.Proofs.YtiflikkmjeikdaaGreat
/- THE CELL 'sum', in the pinned program and in every row, IS THE sha256 OF THE DUMP (.gsa) THAT YtiflikkmjeikdaaGreatProg.lean LOADS. Nothing in Lean hashes anything: it is a label: what it is worth is what the hold of that sum in a sandbox is worth. -/
noncomputable def Tryz.pinned : Pinned := { name := "ytiflikkmjeikdaagreat", sum := "8f383a2d480e1c41fe416801d33a7e7775e699127e66c30f8c129b5c49eaa092", checked := Tryz.checked }
namespace Rows
def none {H : Type} : Left H := { results := [], args := [] }

/-- 'catamaranlaw28.ReqSubmits': WHATEVER THE INPUT: true; the input reads as it did. -/
def reqSubmitsSpec : ChangeSpec := { name := "reqSubmits", fn := fun _ => fun
  | [d1, d2, d3, d4] => { results := [.lit (.bool true)], args := [d1, d2, d3, d4] }
  | _ => none }
def reqSubmitsRow : OpenClaim := { program := "ytiflikkmjeikdaagreat", sum := "8f383a2d480e1c41fe416801d33a7e7775e699127e66c30f8c129b5c49eaa092", func := "catamaran/catamaranlaw28.ReqSubmits", spec := "reqSubmits", unfollowed := true, recurses := true, apart := false }
def ReqSubmitsSaid : Prop := reqSubmitsRow.holds Tryz.pinned (OpenSpec.ofChange reqSubmitsSpec)

/-- ITS FALSE NEIGHBOUR: 'it returns false'. Refute it at one input. -/
def reqSubmitsWrong : ChangeSpec := { name := "reqSubmits", fn := fun _ => fun
  | [d1, d2, d3, d4] => { results := [.lit (.bool false)], args := [d1, d2, d3, d4] }
  | _ => none }
def ReqSubmitsWrongFalsely : Prop := reqSubmitsRow.holds Tryz.pinned (OpenSpec.ofChange reqSubmitsWrong)

/-- 'catamaranlaw28.ReqBurst': WHATEVER THE INPUT: true; the input reads as it did. -/
def reqBurstSpec : ChangeSpec := { name := "reqBurst", fn := fun _ => fun
  | [d1, d2, d3, d4, d5, d6, d7] => { results := [.lit (.bool true)], args := [d1, d2, d3, d4, d5, d6, d7] }
  | _ => none }
def reqBurstRow : OpenClaim := { program := "ytiflikkmjeikdaagreat", sum := "8f383a2d480e1c41fe416801d33a7e7775e699127e66c30f8c129b5c49eaa092", func := "catamaran/catamaranlaw28.ReqBurst", spec := "reqBurst", unfollowed := true, recurses := true, apart := false }
def ReqBurstSaid : Prop := reqBurstRow.holds Tryz.pinned (OpenSpec.ofChange reqBurstSpec)

/-- ITS FALSE NEIGHBOUR: 'it returns false'. Refute it at one input. -/
def reqBurstWrong : ChangeSpec := { name := "reqBurst", fn := fun _ => fun
  | [d1, d2, d3, d4, d5, d6, d7] => { results := [.lit (.bool false)], args := [d1, d2, d3, d4, d5, d6, d7] }
  | _ => none }
def ReqBurstWrongFalsely : Prop := reqBurstRow.holds Tryz.pinned (OpenSpec.ofChange reqBurstWrong)

/-- 'catamaranlaw21.ActNames': WHATEVER THE INPUT: true; the input reads as it did. -/
def actNamesSpec : ChangeSpec := { name := "actNames", fn := fun _ => fun
  | [] => { results := [.lit (.bool true)], args := [] }
  | _ => none }
def actNamesRow : OpenClaim := { program := "ytiflikkmjeikdaagreat", sum := "8f383a2d480e1c41fe416801d33a7e7775e699127e66c30f8c129b5c49eaa092", func := "catamaran/catamaranlaw21.ActNames", spec := "actNames", unfollowed := true, recurses := true, apart := false }
def ActNamesSaid : Prop := actNamesRow.holds Tryz.pinned (OpenSpec.ofChange actNamesSpec)

/-- ITS FALSE NEIGHBOUR: 'it returns false'. Refute it at one input. -/
def actNamesWrong : ChangeSpec := { name := "actNames", fn := fun _ => fun
  | [] => { results := [.lit (.bool false)], args := [] }
  | _ => none }
def ActNamesWrongFalsely : Prop := actNamesRow.holds Tryz.pinned (OpenSpec.ofChange actNamesWrong)

/-- 'catamaranlaw21.ActEnds': WHATEVER THE INPUT: true; the input reads as it did. -/
def actEndsSpec : ChangeSpec := { name := "actEnds", fn := fun _ => fun
  | [d1, d2] => { results := [.lit (.bool true)], args := [d1, d2] }
  | _ => none }
def actEndsRow : OpenClaim := { program := "ytiflikkmjeikdaagreat", sum := "8f383a2d480e1c41fe416801d33a7e7775e699127e66c30f8c129b5c49eaa092", func := "catamaran/catamaranlaw21.ActEnds", spec := "actEnds", unfollowed := true, recurses := true, apart := false }
def ActEndsSaid : Prop := actEndsRow.holds Tryz.pinned (OpenSpec.ofChange actEndsSpec)

/-- ITS FALSE NEIGHBOUR: 'it returns false'. Refute it at one input. -/
def actEndsWrong : ChangeSpec := { name := "actEnds", fn := fun _ => fun
  | [d1, d2] => { results := [.lit (.bool false)], args := [d1, d2] }
  | _ => none }
def ActEndsWrongFalsely : Prop := actEndsRow.holds Tryz.pinned (OpenSpec.ofChange actEndsWrong)

/-- 'catamaranlaw21.ActDoes': WHATEVER THE INPUT: true; the input reads as it did. -/
def actDoesSpec : ChangeSpec := { name := "actDoes", fn := fun _ => fun
  | [d1, d2, d3] => { results := [.lit (.bool true)], args := [d1, d2, d3] }
  | _ => none }
def actDoesRow : OpenClaim := { program := "ytiflikkmjeikdaagreat", sum := "8f383a2d480e1c41fe416801d33a7e7775e699127e66c30f8c129b5c49eaa092", func := "catamaran/catamaranlaw21.ActDoes", spec := "actDoes", unfollowed := true, recurses := true, apart := false }
def ActDoesSaid : Prop := actDoesRow.holds Tryz.pinned (OpenSpec.ofChange actDoesSpec)

/-- ITS FALSE NEIGHBOUR: 'it returns false'. Refute it at one input. -/
def actDoesWrong : ChangeSpec := { name := "actDoes", fn := fun _ => fun
  | [d1, d2, d3] => { results := [.lit (.bool false)], args := [d1, d2, d3] }
  | _ => none }
def ActDoesWrongFalsely : Prop := actDoesRow.holds Tryz.pinned (OpenSpec.ofChange actDoesWrong)

/- THE SECOND FORM. 'bulk': how many values and letters a reading holds, each counted each time it is reached (what is shared counts as often as it is met; a slice's spare places count too). A statement '..UptoSaid' is the law's where the arguments, and the package variables that the reading takes, are together of bulk at most 1048576: NARROWER than '..Said'. Prove '..Said' where nothing that the law and all that it calls make is longer than what came in: it says more and counts as full. Else prove '..UptoSaid'. A law counts once. -/
mutual
def uptoBulk {H : Type} : DataW H → Nat
  | .lit (.string bytes) => bytes.length + 1
  | .lit _ => 1
  | .nil => 1
  | .ptr d => uptoBulk d + 1
  | .slice elems spare => uptoBulkAll elems + uptoBulkAll spare + 1
  | .agg parts => uptoBulkAll parts + 1
  | .iface _ d => uptoBulk d + 1
  | .map entries => uptoBulkEntries entries + 1
  | .held _ => 1
def uptoBulkAll {H : Type} : List (DataW H) → Nat
  | [] => 0
  | d :: r => uptoBulk d + uptoBulkAll r
def uptoBulkEntries {H : Type} : List (Lit × DataW H) → Nat
  | [] => 0
  | x :: r => uptoBulkEntry x + uptoBulkEntries r
def uptoBulkEntry {H : Type} : Lit × DataW H → Nat
  | (.string bytes, d) => bytes.length + uptoBulk d + 1
  | (_, d) => uptoBulk d + 1
 end
def uptoSmall : (H : Type) → List (DataW H) → Bool := fun _ ds => decide (uptoBulkAll ds ≤ 1048576)
def OpenSpec.upto (s : _root_.Go.ChangeSpec) : _root_.Go.OpenSpec := { _root_.Go.OpenSpec.ofChange s with cond := some uptoSmall }

/-- 'catamaranlaw28.ReqSubmits', WHERE WHAT IT READS IS OF BULK AT MOST 1048576: true; the input reads as it did. -/
def reqSubmitsUptoRow : OpenClaim := { program := "ytiflikkmjeikdaagreat", sum := "8f383a2d480e1c41fe416801d33a7e7775e699127e66c30f8c129b5c49eaa092", func := "catamaran/catamaranlaw28.ReqSubmits", spec := "reqSubmits", unfollowed := true, recurses := true, apart := false, narrowed := true }
def ReqSubmitsUptoSaid : Prop := reqSubmitsUptoRow.holds Tryz.pinned (OpenSpec.upto reqSubmitsSpec)

/-- 'catamaranlaw28.ReqBurst', WHERE WHAT IT READS IS OF BULK AT MOST 1048576: true; the input reads as it did. -/
def reqBurstUptoRow : OpenClaim := { program := "ytiflikkmjeikdaagreat", sum := "8f383a2d480e1c41fe416801d33a7e7775e699127e66c30f8c129b5c49eaa092", func := "catamaran/catamaranlaw28.ReqBurst", spec := "reqBurst", unfollowed := true, recurses := true, apart := false, narrowed := true }
def ReqBurstUptoSaid : Prop := reqBurstUptoRow.holds Tryz.pinned (OpenSpec.upto reqBurstSpec)

/-- 'catamaranlaw21.ActNames', WHERE WHAT IT READS IS OF BULK AT MOST 1048576: true; the input reads as it did. -/
def actNamesUptoRow : OpenClaim := { program := "ytiflikkmjeikdaagreat", sum := "8f383a2d480e1c41fe416801d33a7e7775e699127e66c30f8c129b5c49eaa092", func := "catamaran/catamaranlaw21.ActNames", spec := "actNames", unfollowed := true, recurses := true, apart := false, narrowed := true }
def ActNamesUptoSaid : Prop := actNamesUptoRow.holds Tryz.pinned (OpenSpec.upto actNamesSpec)

/-- 'catamaranlaw21.ActEnds', WHERE WHAT IT READS IS OF BULK AT MOST 1048576: true; the input reads as it did. -/
def actEndsUptoRow : OpenClaim := { program := "ytiflikkmjeikdaagreat", sum := "8f383a2d480e1c41fe416801d33a7e7775e699127e66c30f8c129b5c49eaa092", func := "catamaran/catamaranlaw21.ActEnds", spec := "actEnds", unfollowed := true, recurses := true, apart := false, narrowed := true }
def ActEndsUptoSaid : Prop := actEndsUptoRow.holds Tryz.pinned (OpenSpec.upto actEndsSpec)

/-- 'catamaranlaw21.ActDoes', WHERE WHAT IT READS IS OF BULK AT MOST 1048576: true; the input reads as it did. -/
def actDoesUptoRow : OpenClaim := { program := "ytiflikkmjeikdaagreat", sum := "8f383a2d480e1c41fe416801d33a7e7775e699127e66c30f8c129b5c49eaa092", func := "catamaran/catamaranlaw21.ActDoes", spec := "actDoes", unfollowed := true, recurses := true, apart := false, narrowed := true }
def ActDoesUptoSaid : Prop := actDoesUptoRow.holds Tryz.pinned (OpenSpec.upto actDoesSpec)

end Rows
end Go.Proofs.YtiflikkmjeikdaaGreat
