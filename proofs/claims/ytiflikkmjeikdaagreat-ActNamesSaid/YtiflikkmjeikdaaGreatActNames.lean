/-
  My own text: a part of the proof.
-/
import Derived.Test.YtiflikkmjeikdaaGreatRows
import Derived.Test.YtiflikkmjeikdaaGreatActNamesLaw
import Derived.Test.YtiflikkmjeikdaaGreatActNamesFacts
import Derived.WalkKit
import Derived.ProofKit
import Derived.OpenShut
import Derived.ShutString
import Derived.ChangeOld
import Derived.Below
import Derived.SizedLaws
import Derived.JoinedOf
import Derived.Carry
set_option linter.unusedVariables false
set_option linter.unusedSimpArgs false
namespace Go.Proofs.YtiflikkmjeikdaaGreat.actNames
open Go.ChangeShapes Go.WideShapes Go.ChangeAt Go.RowKit
set_option linter.unusedVariables false
set_option maxHeartbeats 0
theorem own : ownKnob Tryz.prog.godebug = none := by kernel_rfl
theorem laidOut : laidOutB Tryz.prog = true := g1
theorem argsFit : Go.Cat.argsOk Go.Cat.env5 [] [] = true := by kernel_rfl
theorem readable : (([] : List Nat).all fun t => Tryz.prog.readableRec t && decide (t < Tryz.prog.types.size)) = true := by kernel_rfl
theorem called (W : World) (vs : List Value) (x : Go.Cat.TT []) (hx : Go.Cat.RepTT (Go.Cat.oldOf W) [] x vs) : Calls Tryz.prog 5 vs.toArray W fun e w' => e = .returned (.bool true) ∧ Below W.heap.size W w' :=
  Go.Cat.law_calls Go.Cat.C_law21_ActNames hx (Go.Cat.law_law21_ActNames x hx.ok)
set_option maxRecDepth 100000 in
theorem lifted (os : Os) (started : os.Started) (H : Type) (enc : TypeId × Value → H) :
    ReturnsInHanded {} Tryz.checked os 5 .any (Rows.actNamesSpec.pre6 enc Tryz.prog Tryz.f5 Rows.actNamesRow.domain false) (Rows.actNamesSpec.post enc Tryz.prog Tryz.f5 false true false false) := by
  refine returnsInHanded_of_change_sized (C := Tryz.checked) own started (by kernel_rfl) Tryz.func5
    (ChangeSpec.witness6 (enc := enc) (C := Tryz.checked) false ⟨#[], #[], []⟩ 8 (by kernel_rfl) (by kernel_rfl) (by kernel_rfl) (by kernel_rfl)) ?_
  intro W base args ds gs before hval0 hW hcnd hsz0 _
  have hval : ∀ (j : Nat) t v, Tryz.f5.params[j]? = some t → args[j]? = some v → Value.okWide Tryz.prog W .any base t v := hval0
  have hW' := hW
  obtain ⟨p, q, hA0, hV, rfl, hfz, hnd⟩ := hW
  have hA : DataW.TrodAll enc Tryz.prog W 0 (fun _ => true) true Tryz.f5.params.toList args.toList ds p := hA0
  rw [Tryz.params5] at hA hval
  obtain ⟨hargs, rfl, rfl⟩ := trodAll_nil hA
  obtain rfl : args = #[] := by cases args; simp_all
  obtain ⟨rfl, rfl⟩ := trodVars_none hV
  have hall : DataW.TrodAll enc Tryz.prog W 0 (fun _ => true) true [] [] [] [] := trodAll_mk0
  obtain ⟨x, hx⟩ := Go.Cat.args_rep (E := Go.Cat.env5) (es := []) (Go.Cat.tysOk_of Go.Cat.tys_ok) argsFit hall (fun j t v ht hv => ⟨base, hval j t v (by simp at ht) (by simp at ht)⟩)
  refine (called W [] x hx).mono fun e W' ⟨he, bel⟩ => ?_
  subst he
  exact ⟨_, rfl, _, _, _, [], _, [], hW', trodAll_mk1 (shut_bool Tryz.underlying4 _), Go.Cat.args_back laidOut bel readable hall, rfl, bel.frame _, fun h => by cases h⟩
theorem over : Rows.actNamesRow.holds Tryz.pinned (OpenSpec.ofChange Rows.actNamesSpec) :=
  OpenClaim.holds_of_wide 5 Tryz.f5 rfl rfl rfl rfl rfl rfl rfl ⟨rfl, rfl, rfl, rfl, rfl⟩ rfl rfl rfl rfl rfl (by kernel_rfl) Tryz.func5 closed
    (of_decide_eq_true (by kernel_rfl)) (by unfold Func.isWrapper; first | (rw [if_pos (by decide +kernel)]; kernel_rfl) | (rw [if_neg (by decide +kernel)]; exact ⟨rfl, rfl⟩))
    (fun os started H enc _ => lifted os started H enc)
end Go.Proofs.YtiflikkmjeikdaaGreat.actNames
namespace Go.Proofs.YtiflikkmjeikdaaGreat
theorem actNames_holds : Rows.ActNamesSaid := actNames.over
end Go.Proofs.YtiflikkmjeikdaaGreat
