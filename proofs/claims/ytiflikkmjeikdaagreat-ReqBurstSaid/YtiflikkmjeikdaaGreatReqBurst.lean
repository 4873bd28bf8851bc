/-
  My own text: a part of the proof.
-/
import Derived.Test.YtiflikkmjeikdaaGreatRows
import Derived.Test.YtiflikkmjeikdaaGreatReqBurstLaw
import Derived.Test.YtiflikkmjeikdaaGreatReqBurstFacts
import Derived.WalkKit
import Derived.ProofKit
import Derived.OpenShut
import Derived.ShutString
import Derived.ChangeOld
import Derived.Below
import Derived.SizedLaws
import Derived.JoinedOf
import Derived.Carry
set_option linter.unusedVariables false
set_option linter.unusedSimpArgs false
namespace Go.Proofs.YtiflikkmjeikdaaGreat.reqBurst
open Go.ChangeShapes Go.WideShapes Go.ChangeAt Go.RowKit
set_option linter.unusedVariables false
set_option maxHeartbeats 0
theorem own : ownKnob Tryz.prog.godebug = none := by kernel_rfl
theorem laidOut : laidOutB Tryz.prog = true := g1
theorem argsFit : Go.Cat.argsOk Go.Cat.env4 [23, 47, 3, 5, 5, 5, 28] [(.st .Config), (.st .Site), (.int .i64), (.int .u8), (.int .u8), (.int .u8), (.int .u32)] = true := by kernel_rfl
theorem readable : (([23, 47, 3, 5, 5, 5, 28] : List Nat).all fun t => Tryz.prog.readableRec t && decide (t < Tryz.prog.types.size)) = true := by kernel_rfl
theorem called (W : World) (vs : List Value) (x : Go.Cat.TT [(.st .Config), (.st .Site), (.int .i64), (.int .u8), (.int .u8), (.int .u8), (.int .u32)]) (hx : Go.Cat.RepTT (Go.Cat.oldOf W) [(.st .Config), (.st .Site), (.int .i64), (.int .u8), (.int .u8), (.int .u8), (.int .u32)] x vs) : Calls Tryz.prog 4 vs.toArray W fun e w' => e = .returned (.bool true) ∧ Below W.heap.size W w' :=
  Go.Cat.law_calls Go.Cat.C_law28_ReqBurst hx (Go.Cat.law_law28_ReqBurst x hx.ok)
set_option maxRecDepth 100000 in
theorem lifted (os : Os) (started : os.Started) (H : Type) (enc : TypeId × Value → H) :
    ReturnsInHanded {} Tryz.checked os 4 .any (Rows.reqBurstSpec.pre6 enc Tryz.prog Tryz.f4 Rows.reqBurstRow.domain false) (Rows.reqBurstSpec.post enc Tryz.prog Tryz.f4 false true false false) := by
  refine returnsInHanded_of_change_sized (C := Tryz.checked) own started (by kernel_rfl) Tryz.func4
    (ChangeSpec.witness6 (enc := enc) (C := Tryz.checked) false ⟨#[], #[.agg #[.int .i64 0, .int .i64 0, .int .i64 0, .int .i64 0, .int .i64 0, .int .i64 0], .agg #[.int .i64 0, .slice none 0 0, .slice none 0 0, .int .u32 0, .int .i64 0, .int .u64 0, .int .i64 0, .int .i64 0, .slice none 0 0, .slice none 0 0, .int .u32 0, .int .u32 0, .bool false, .bool false, .int .u32 0, .int .u32 0, .slice none 0 0, .int .i64 0, .int .i64 0, .int .u32 0, .int .i64 0, .slice none 0 0, .slice none 0 0, .slice none 0 0, .slice none 0 0, .slice none 0 0, .int .u32 0, .bool false], .int .i64 0, .int .u8 0, .int .u8 0, .int .u8 0, .int .u32 0], []⟩ 8 (by kernel_rfl) (by kernel_rfl) (by kernel_rfl) (by kernel_rfl)) ?_
  intro W base args ds gs before hval0 hW hcnd hsz0 _
  have hval : ∀ (j : Nat) t v, Tryz.f4.params[j]? = some t → args[j]? = some v → Value.okWide Tryz.prog W .any base t v := hval0
  have hW' := hW
  obtain ⟨p, q, hA0, hV, rfl, hfz, hnd⟩ := hW
  have hA : DataW.TrodAll enc Tryz.prog W 0 (fun _ => true) true Tryz.f4.params.toList args.toList ds p := hA0
  rw [Tryz.params4] at hA hval
  obtain ⟨v0, vs0, d0, ds0, p0, q0, hargs, rfl, rfl, h0, r0⟩ := trodAll_cons hA
  obtain ⟨v1, vs1, d1, ds1, p1, q1, rfl, rfl, rfl, h1, r1⟩ := trodAll_cons r0
  obtain ⟨v2, vs2, d2, ds2, p2, q2, rfl, rfl, rfl, h2, r2⟩ := trodAll_cons r1
  obtain ⟨v3, vs3, d3, ds3, p3, q3, rfl, rfl, rfl, h3, r3⟩ := trodAll_cons r2
  obtain ⟨v4, vs4, d4, ds4, p4, q4, rfl, rfl, rfl, h4, r4⟩ := trodAll_cons r3
  obtain ⟨v5, vs5, d5, ds5, p5, q5, rfl, rfl, rfl, h5, r5⟩ := trodAll_cons r4
  obtain ⟨v6, vs6, d6, ds6, p6, q6, rfl, rfl, rfl, h6, r6⟩ := trodAll_cons r5
  obtain ⟨rfl, rfl, rfl⟩ := trodAll_nil r6
  obtain rfl : args = #[v0, v1, v2, v3, v4, v5, v6] := by cases args; simp_all
  obtain ⟨rfl, rfl⟩ := trodVars_none hV
  have hall := (trodAll_cons_mk h0 (trodAll_cons_mk h1 (trodAll_cons_mk h2 (trodAll_cons_mk h3 (trodAll_cons_mk h4 (trodAll_cons_mk h5 (trodAll_cons_mk h6 trodAll_mk0)))))))
  obtain ⟨x, hx⟩ := Go.Cat.args_rep (E := Go.Cat.env4) (es := [(.st .Config), (.st .Site), (.int .i64), (.int .u8), (.int .u8), (.int .u8), (.int .u32)]) (Go.Cat.tysOk_of Go.Cat.tys_ok) argsFit hall (fun j t v ht hv => ⟨base, hval j t v (by simpa using ht) (by simpa using hv)⟩)
  refine (called W [v0, v1, v2, v3, v4, v5, v6] x hx).mono fun e W' ⟨he, bel⟩ => ?_
  subst he
  exact ⟨_, rfl, _, _, _, [], _, [], hW', trodAll_mk1 (shut_bool Tryz.underlying4 _), Go.Cat.args_back laidOut bel readable hall, rfl, bel.frame _, fun h => by cases h⟩
theorem over : Rows.reqBurstRow.holds Tryz.pinned (OpenSpec.ofChange Rows.reqBurstSpec) :=
  OpenClaim.holds_of_wide 4 Tryz.f4 rfl rfl rfl rfl rfl rfl rfl ⟨rfl, rfl, rfl, rfl, rfl⟩ rfl rfl rfl rfl rfl (by kernel_rfl) Tryz.func4 closed
    (of_decide_eq_true (by kernel_rfl)) (by unfold Func.isWrapper; first | (rw [if_pos (by decide +kernel)]; kernel_rfl) | (rw [if_neg (by decide +kernel)]; exact ⟨rfl, rfl⟩))
    (fun os started H enc _ => lifted os started H enc)
end Go.Proofs.YtiflikkmjeikdaaGreat.reqBurst
namespace Go.Proofs.YtiflikkmjeikdaaGreat
theorem reqBurst_holds : Rows.ReqBurstSaid := reqBurst.over
end Go.Proofs.YtiflikkmjeikdaaGreat
