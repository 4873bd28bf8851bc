/-
  No cell of these rows narrows 'for every input' (looked for: loops, veiled, ifaces, maps, wideKeys, modest, calm, conditions, laid).
  DERIVED. THE GIVEN ROWS OF THIS SEAT. 3 by the template 'for every input the law returns true; each argument reads behind the call as it read before'; 0 by the template 'total and deterministic' (their statements: YtiobnfdbeedjaaaGreatTotals.lean).
  GIVEN WITH THE SEED: the statements are not yours to turn. If you find one false, say at which input.
  Laid BY PROGRAM, IN A SANDBOX (cutbox-rows.mjs): the forced cells as the released guide's own fill.sh prints them over the translation 0747702fc17c8a33… (all of the seat's roots in one cut). By AI agents, Wed Nov 11 2026. No macro, syntax, notation, axiom, sorry.
-/
import Derived.Test.YtiobnfdbeedjaaaGreatChecked
import GoSem.Claim
import GoSem.ClaimJoined
import GoSem.ClaimMapViews
import Derived.JoinedTies
import Derived.KernelRfl
namespace Go.Proofs.YtiobnfdbeedjaaaGreat
/- THE CELL 'sum', in the pinned program and in every row, IS THE sha256 OF THE DUMP (.gsa) THAT YtiobnfdbeedjaaaGreatProg.lean LOADS. Nothing in Lean hashes anything: it is a label: what it is worth is what the hold of that sum in a sandbox is worth. -/
noncomputable def Tryz.pinned : Pinned := { name := "ytiobnfdbeedjaaagreat", sum := "0747702fc17c8a335f73cbe5e91350fffba4b93926f27ef7266c2e8cdcfc15bd", checked := Tryz.checked }
namespace Rows
def none {H : Type} : Left H := { results := [], args := [] }

/-- 'catamaranlaw26.BootCrash': WHATEVER THE INPUT: true; the input reads as it did. -/
def bootCrashSpec : ChangeSpec := { name := "bootCrash", fn := fun _ => fun
  | [d1, d2, d3] => { results := [.lit (.bool true)], args := [d1, d2, d3] }
  | _ => none }
def bootCrashRow : OpenClaim := { program := "ytiobnfdbeedjaaagreat", sum := "0747702fc17c8a335f73cbe5e91350fffba4b93926f27ef7266c2e8cdcfc15bd", func := "catamaran/catamaranlaw26.BootCrash", spec := "bootCrash", unfollowed := true, recurses := true, apart := false }
def BootCrashSaid : Prop := bootCrashRow.holds Tryz.pinned (OpenSpec.ofChange bootCrashSpec)

/-- ITS FALSE NEIGHBOUR: 'it returns false'. Refute it at one input. -/
def bootCrashWrong : ChangeSpec := { name := "bootCrash", fn := fun _ => fun
  | [d1, d2, d3] => { results := [.lit (.bool false)], args := [d1, d2, d3] }
  | _ => none }
def BootCrashWrongFalsely : Prop := bootCrashRow.holds Tryz.pinned (OpenSpec.ofChange bootCrashWrong)

/-- 'catamaranlaw28.ReqSubmits': WHATEVER THE INPUT: true; the input reads as it did. -/
def reqSubmitsSpec : ChangeSpec := { name := "reqSubmits", fn := fun _ => fun
  | [d1, d2, d3, d4] => { results := [.lit (.bool true)], args := [d1, d2, d3, d4] }
  | _ => none }
def reqSubmitsRow : OpenClaim := { program := "ytiobnfdbeedjaaagreat", sum := "0747702fc17c8a335f73cbe5e91350fffba4b93926f27ef7266c2e8cdcfc15bd", func := "catamaran/catamaranlaw28.ReqSubmits", spec := "reqSubmits", unfollowed := true, recurses := true, apart := false }
def ReqSubmitsSaid : Prop := reqSubmitsRow.holds Tryz.pinned (OpenSpec.ofChange reqSubmitsSpec)

/-- ITS FALSE NEIGHBOUR: 'it returns false'. Refute it at one input. -/
def reqSubmitsWrong : ChangeSpec := { name := "reqSubmits", fn := fun _ => fun
  | [d1, d2, d3, d4] => { results := [.lit (.bool false)], args := [d1, d2, d3, d4] }
  | _ => none }
def ReqSubmitsWrongFalsely : Prop := reqSubmitsRow.holds Tryz.pinned (OpenSpec.ofChange reqSubmitsWrong)

/-- 'catamaranlaw28.ReqBurst': WHATEVER THE INPUT: true; the input reads as it did. -/
def reqBurstSpec : ChangeSpec := { name := "reqBurst", fn := fun _ => fun
  | [d1, d2, d3, d4, d5, d6, d7] => { results := [.lit (.bool true)], args := [d1, d2, d3, d4, d5, d6, d7] }
  | _ => none }
def reqBurstRow : OpenClaim := { program := "ytiobnfdbeedjaaagreat", sum := "0747702fc17c8a335f73cbe5e91350fffba4b93926f27ef7266c2e8cdcfc15bd", func := "catamaran/catamaranlaw28.ReqBurst", spec := "reqBurst", unfollowed := true, recurses := true, apart := false }
def ReqBurstSaid : Prop := reqBurstRow.holds Tryz.pinned (OpenSpec.ofChange reqBurstSpec)

/-- ITS FALSE NEIGHBOUR: 'it returns false'. Refute it at one input. -/
def reqBurstWrong : ChangeSpec := { name := "reqBurst", fn := fun _ => fun
  | [d1, d2, d3, d4, d5, d6, d7] => { results := [.lit (.bool false)], args := [d1, d2, d3, d4, d5, d6, d7] }
  | _ => none }
def ReqBurstWrongFalsely : Prop := reqBurstRow.holds Tryz.pinned (OpenSpec.ofChange reqBurstWrong)

/- THE SECOND FORM. 'bulk': how many values and letters a reading holds, each counted each time it is reached (what is shared counts as often as it is met; a slice's spare places count too). A statement '..UptoSaid' is the law's where the arguments, and the package variables that the reading takes, are together of bulk at most 1048576: NARROWER than '..Said'. Prove '..Said' where nothing that the law and all that it calls make is longer than what came in: it says more and counts as full. Else prove '..UptoSaid'. A law counts once. -/
mutual
def uptoBulk {H : Type} : DataW H → Nat
  | .lit (.string bytes) => bytes.length + 1
  | .lit _ => 1
  | .nil => 1
  | .ptr d => uptoBulk d + 1
  | .slice elems spare => uptoBulkAll elems + uptoBulkAll spare + 1
  | .agg parts => uptoBulkAll parts + 1
  | .iface _ d => uptoBulk d + 1
  | .map entries => uptoBulkEntries entries + 1
  | .held _ => 1
def uptoBulkAll {H : Type} : List (DataW H) → Nat
  | [] => 0
  | d :: r => uptoBulk d + uptoBulkAll r
def uptoBulkEntries {H : Type} : List (Lit × DataW H) → Nat
  | [] => 0
  | x :: r => uptoBulkEntry x + uptoBulkEntries r
def uptoBulkEntry {H : Type} : Lit × DataW H → Nat
  | (.string bytes, d) => bytes.length + uptoBulk d + 1
  | (_, d) => uptoBulk d + 1
 end
def uptoSmall : (H : Type) → List (DataW H) → Bool := fun _ ds => decide (uptoBulkAll ds ≤ 1048576)
def OpenSpec.upto (s : _root_.Go.ChangeSpec) : _root_.Go.OpenSpec := { _root_.Go.OpenSpec.ofChange s with cond := some uptoSmall }

/-- 'catamaranlaw26.BootCrash', WHERE WHAT IT READS IS OF BULK AT MOST 1048576: true; the input reads as it did. -/
def bootCrashUptoRow : OpenClaim := { program := "ytiobnfdbeedjaaagreat", sum := "0747702fc17c8a335f73cbe5e91350fffba4b93926f27ef7266c2e8cdcfc15bd", func := "catamaran/catamaranlaw26.BootCrash", spec := "bootCrash", unfollowed := true, recurses := true, apart := false, narrowed := true }
def BootCrashUptoSaid : Prop := bootCrashUptoRow.holds Tryz.pinned (OpenSpec.upto bootCrashSpec)

/-- 'catamaranlaw28.ReqSubmits', WHERE WHAT IT READS IS OF BULK AT MOST 1048576: true; the input reads as it did. -/
def reqSubmitsUptoRow : OpenClaim := { program := "ytiobnfdbeedjaaagreat", sum := "0747702fc17c8a335f73cbe5e91350fffba4b93926f27ef7266c2e8cdcfc15bd", func := "catamaran/catamaranlaw28.ReqSubmits", spec := "reqSubmits", unfollowed := true, recurses := true, apart := false, narrowed := true }
def ReqSubmitsUptoSaid : Prop := reqSubmitsUptoRow.holds Tryz.pinned (OpenSpec.upto reqSubmitsSpec)

/-- 'catamaranlaw28.ReqBurst', WHERE WHAT IT READS IS OF BULK AT MOST 1048576: true; the input reads as it did. -/
def reqBurstUptoRow : OpenClaim := { program := "ytiobnfdbeedjaaagreat", sum := "0747702fc17c8a335f73cbe5e91350fffba4b93926f27ef7266c2e8cdcfc15bd", func := "catamaran/catamaranlaw28.ReqBurst", spec := "reqBurst", unfollowed := true, recurses := true, apart := false, narrowed := true }
def ReqBurstUptoSaid : Prop := reqBurstUptoRow.holds Tryz.pinned (OpenSpec.upto reqBurstSpec)

end Rows
end Go.Proofs.YtiobnfdbeedjaaaGreat
