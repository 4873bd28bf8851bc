/-
  My own text: a part of the proof.
-/
import Derived.Test.YtiflikkmjeikdaaGreatRows
import Derived.Test.YtiflikkmjeikdaaGreatActEndsLaw
import Derived.Test.YtiflikkmjeikdaaGreatActEndsFacts
import Derived.WalkKit
import Derived.ProofKit
import Derived.OpenShut
import Derived.ShutString
import Derived.ChangeOld
import Derived.Below
import Derived.SizedLaws
import Derived.JoinedOf
import Derived.Carry
set_option linter.unusedVariables false
set_option linter.unusedSimpArgs false
namespace Go.Proofs.YtiflikkmjeikdaaGreat.actEnds
open Go.ChangeShapes Go.WideShapes Go.ChangeAt Go.RowKit
set_option linter.unusedVariables false
set_option maxHeartbeats 0
theorem own : ownKnob Tryz.prog.godebug = none := by kernel_rfl
theorem laidOut : laidOutB Tryz.prog = true := g1
theorem argsFit : Go.Cat.argsOk Go.Cat.env6 [23, 47] [(.st .Config), (.st .Site)] = true := by kernel_rfl
theorem readable : (([23, 47] : List Nat).all fun t => Tryz.prog.readableRec t && decide (t < Tryz.prog.types.size)) = true := by kernel_rfl
theorem called (W : World) (vs : List Value) (x : Go.Cat.TT [(.st .Config), (.st .Site)]) (hx : Go.Cat.RepTT (Go.Cat.oldOf W) [(.st .Config), (.st .Site)] x vs) : Calls Tryz.prog 6 vs.toArray W fun e w' => e = .returned (.bool true) ∧ Below W.heap.size W w' :=
  Go.Cat.law_calls Go.Cat.C_law21_ActEnds hx (Go.Cat.law_law21_ActEnds x hx.ok)
set_option maxRecDepth 100000 in
theorem lifted (os : Os) (started : os.Started) (H : Type) (enc : TypeId × Value → H) :
    ReturnsInHanded {} Tryz.checked os 6 .any (Rows.actEndsSpec.pre6 enc Tryz.prog Tryz.f6 Rows.actEndsRow.domain false) (Rows.actEndsSpec.post enc Tryz.prog Tryz.f6 false true false false) := by
  refine returnsInHanded_of_change_sized (C := Tryz.checked) own started (by kernel_rfl) Tryz.func6
    (ChangeSpec.witness6 (enc := enc) (C := Tryz.checked) false ⟨#[], #[.agg #[.int .i64 0, .int .i64 0, .int .i64 0, .int .i64 0, .int .i64 0, .int .i64 0], .agg #[.int .i64 0, .slice none 0 0, .slice none 0 0, .int .u32 0, .int .i64 0, .int .u64 0, .int .i64 0, .int .i64 0, .slice none 0 0, .slice none 0 0, .int .u32 0, .int .u32 0, .bool false, .bool false, .int .u32 0, .int .u32 0, .slice none 0 0, .int .i64 0, .int .i64 0, .int .u32 0, .int .i64 0, .slice none 0 0, .slice none 0 0, .slice none 0 0, .slice none 0 0, .slice none 0 0, .int .u32 0, .bool false]], []⟩ 8 (by kernel_rfl) (by kernel_rfl) (by kernel_rfl) (by kernel_rfl)) ?_
  intro W base args ds gs before hval0 hW hcnd hsz0 _
  have hval : ∀ (j : Nat) t v, Tryz.f6.params[j]? = some t → args[j]? = some v → Value.okWide Tryz.prog W .any base t v := hval0
  have hW' := hW
  obtain ⟨p, q, hA0, hV, rfl, hfz, hnd⟩ := hW
  have hA : DataW.TrodAll enc Tryz.prog W 0 (fun _ => true) true Tryz.f6.params.toList args.toList ds p := hA0
  rw [Tryz.params6] at hA hval
  obtain ⟨v0, vs0, d0, ds0, p0, q0, hargs, rfl, rfl, h0, r0⟩ := trodAll_cons hA
  obtain ⟨v1, vs1, d1, ds1, p1, q1, rfl, rfl, rfl, h1, r1⟩ := trodAll_cons r0
  obtain ⟨rfl, rfl, rfl⟩ := trodAll_nil r1
  obtain rfl : args = #[v0, v1] := by cases args; simp_all
  obtain ⟨rfl, rfl⟩ := trodVars_none hV
  have hall := (trodAll_cons_mk h0 (trodAll_cons_mk h1 trodAll_mk0))
  obtain ⟨x, hx⟩ := Go.Cat.args_rep (E := Go.Cat.env6) (es := [(.st .Config), (.st .Site)]) (Go.Cat.tysOk_of Go.Cat.tys_ok) argsFit hall (fun j t v ht hv => ⟨base, hval j t v (by simpa using ht) (by simpa using hv)⟩)
  refine (called W [v0, v1] x hx).mono fun e W' ⟨he, bel⟩ => ?_
  subst he
  exact ⟨_, rfl, _, _, _, [], _, [], hW', trodAll_mk1 (shut_bool Tryz.underlying4 _), Go.Cat.args_back laidOut bel readable hall, rfl, bel.frame _, fun h => by cases h⟩
theorem over : Rows.actEndsRow.holds Tryz.pinned (OpenSpec.ofChange Rows.actEndsSpec) :=
  OpenClaim.holds_of_wide 6 Tryz.f6 rfl rfl rfl rfl rfl rfl rfl ⟨rfl, rfl, rfl, rfl, rfl⟩ rfl rfl rfl rfl rfl (by kernel_rfl) Tryz.func6 closed
    (of_decide_eq_true (by kernel_rfl)) (by unfold Func.isWrapper; first | (rw [if_pos (by decide +kernel)]; kernel_rfl) | (rw [if_neg (by decide +kernel)]; exact ⟨rfl, rfl⟩))
    (fun os started H enc _ => lifted os started H enc)
end Go.Proofs.YtiflikkmjeikdaaGreat.actEnds
namespace Go.Proofs.YtiflikkmjeikdaaGreat
theorem actEnds_holds : Rows.ActEndsSaid := actEnds.over
end Go.Proofs.YtiflikkmjeikdaaGreat
