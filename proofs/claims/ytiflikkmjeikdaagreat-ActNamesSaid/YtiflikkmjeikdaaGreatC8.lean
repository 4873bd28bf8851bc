/-
  My own text: a part of the proof.
  My own text: a part of the proof.
  My own text: a part of the proof.
-/
import Derived.Test.YtiflikkmjeikdaaGreatC4
import Derived.OrdersIn
import Derived.RangeFuncCalls
import Derived.RangeFuncFrom
import Derived.RangeFuncLeaves
import Derived.TacticsInMore
import Derived.WalkKit
set_option linter.unusedVariables false
set_option linter.unusedSimpArgs false
namespace Go.Cat
open Go
variable {P : Program} {E : Env} {R : CallRel} {ops : Array Oper} {w0 : Pt} {β : Pl} {ro : Snap} {D : Nat → Prop} {w : World}
theorem not_defer_of_call {op : Op} {x : Operand × Array Operand} (h : callOf op = some x) : ∀ c, op ≠ .defer c := by
  rintro c rfl
  simp [callOf] at h
theorem not_defer_of_op {ρ : Operand → SV} {nid : Nat} {op : Op} {H : Heap} {rs : List Nat} {r : Ans × List Nat} (h : (opT E ρ nid op).run H rs = some r) : ∀ c, op ≠ .defer c := by
  rintro c rfl
  simp [opT, OT.run] at h
theorem step_in (lp m : Nat) (hE : TysOk P E) (hR : CallGood P R) (hS : SpecSound P E) {i : Nat} {o : Oper} (hi : ops[i]? = some o) {S : St} {a : Go.Act} (hs : Sat w0 β ro D S a w) {nid : Nat} {g : Bool} {v : SV} {m' : Mem} {fp : Foot}
    (hc : Core E R ops nid g o S.tmps S.m v m' fp) (hn : ∀ k, k < 64 → ¬ D (nid + k)) (hDm : ∀ id, D id → id < S.m.next) {K : Go.Act → World → Prop} {Q : Exit → Go.Act → World → Prop}
    (hK : ∀ a' w' β' ro', β.ext β' → ro.ext ro' → Sat w0 β' ro' (fun id => D id ∨ (nid ≤ id ∧ id < nid + 64) ∨ (S.m.next ≤ id ∧ id < m'.next)) ⟨setT S.tmps o.dst v, m'⟩ a' w' → K a' w') : wpOpIn (Fence.wide.inRound lp) m P ops Q i K a w := by
  unfold wpOpIn
  simp only [hi]
  have lit : ∀ {β' : Pl} {ro' : Snap} {v : SV} {x : Value}, RepS β' ro' v x → RepS β' ro' (litV g v) x := by
    intro β' ro' v x hv
    unfold litV
    split
    · cases hv with | leaf h => cases h with | bool b => exact .lit (.inl rfl)
    · exact hv
  cases hc with
  | off hw =>
    rw [wanted_sound hs hw]
    exact ⟨fun _ _ => trivial, hK _ _ β ro β.ext_refl ro.ext_refl (hs.put β.ext_refl ro.ext_refl (hs.h.less (fun _ _ h => h) (fun id h => .inl h)) (.lit (.inr rfl)) o.dst)⟩
  | op hw t ht v u rs hr =>
    rw [wanted_sound hs hw, if_pos rfl]
    refine ⟨fun _ _ => trivial, ?_⟩
    unfold otOf at ht
    split at ht
    · rename_i f args hcall
      split at ht
      · rename_i n as hcal
        split at ht
        · rename_i s hspec
          cases ht
          obtain ⟨he, hgood⟩ := hS.good n s nid as S.m.objs v u rs hspec hr
          obtain ⟨vs, hvs, hrun⟩ := call_run (P := P) (w := w) hs.ev hcall hcal he
          have hcalls := hgood w0 β ro D w vs hs.h hn hvs
          rw [Oper.semAt_eq _ _ _ (not_defer_of_call hcall), hrun]
          refine ⟨fun h => (by cases h), CallsIn.mono (CallsIn.inRound lp (callsIn_wide.2 hcalls)) ?_⟩
          rintro e w' ⟨x, β', ro', rfl, h1, h2, h3, h4⟩
          exact hK _ _ β' ro' h1 h2 (hs.put h1 h2 (h4.less (fun _ _ h => h) (fun id h => h.imp (fun x => x) .inl)) (lit h3) o.dst)
        · cases ht
      · cases ht
    · cases ht
      obtain ⟨w', β', ro', h1, h2, h3, h4⟩ := op_sound (P := P) (o := o) (D' := fun id => D id ∨ (nid ≤ id ∧ id < nid + 64) ∨ (S.m.next ≤ id ∧ id < S.m.next)) hE hs.h hs.ev (by simpa using hn 0 (by omega)) (fun id h => .inl h) (.inr (.inl ⟨Nat.le_refl _, by omega⟩)) hr
      rw [Oper.semAt_eq _ _ _ (not_defer_of_op hr)]
      rcases h4 with ⟨x, h5, h6⟩ | ⟨h5, rfl⟩
      · rw [h5]
        exact hK _ _ β' ro' h1 h2 (hs.put h1 h2 h3 (lit h6) o.dst)
      · rw [h5]
        exact hK _ _ β' ro' h1 h2 (hs.put h1 h2 h3 (lit (.lit (.inr rfl))) o.dst)
  | call hw n as ht v m' hr =>
    rw [wanted_sound hs hw, if_pos rfl]
    refine ⟨fun _ _ => trivial, ?_⟩
    obtain ⟨he, hfr, hgood⟩ := hR.good n as S.m v m' hr
    unfold inlOf at ht
    split at ht
    · rename_i f args hcall
      split at ht
      · rename_i n' as' hcal
        split at ht
        · cases ht
        · cases ht
          obtain ⟨vs, hvs, hrun⟩ := call_run (P := P) (w := w) hs.ev hcall hcal he
          have hcalls := hgood w0 β ro D w vs hs.h hDm hvs
          rw [Oper.semAt_eq _ _ _ (not_defer_of_call hcall), hrun]
          refine ⟨fun h => (by cases h), CallsIn.mono (CallsIn.inRound lp (callsIn_wide.2 hcalls)) ?_⟩
          rintro e w' ⟨x, β', ro', rfl, h1, h2, h3, h4⟩
          exact hK _ _ β' ro' h1 h2 (hs.put h1 h2 (h4.less (fun _ _ h => h) (fun id h => h.imp (fun x => x) .inr)) (lit h3) o.dst)
      · cases ht
    · cases ht
section
variable (hE : TysOk P E) (hR : CallGood P R) (hS : SpecSound P E)
include hE hR hS
theorem run_text_in (lp m : Nat) {D0 : Nat → Prop} {base : Nat} (h0 : ∀ id, D0 id → id < base) {fps : Nat → Foot} {Q : Exit → Go.Act → World → Prop} : ∀ {l : List Nat} {S S' : St}, RunL E R ops base fps l S S' → ∀ (isDone : Nat → Prop) (β : Pl) (ro : Snap) (a : Go.Act) (w : World),
    (∀ i ∈ l, i < ops.size ∧ ¬ isDone i) → l.Nodup → base + 64 * ops.size ≤ S.m.next → Sat w0 β ro (Taken D0 base ops.size isDone S.m.next) S a w →
    (∀ a' w' β' ro', β.ext β' → ro.ext ro' → Sat w0 β' ro' (fun id => D0 id ∨ (base ≤ id ∧ id < S'.m.next)) S' a' w' → Q .normal a' w') → wpOpsIn (Fence.wide.inRound lp) m P ops Q l a w := by
  intro l S S' h
  induction h with
  | nil S =>
    intro isDone β ro a w _ _ hn hs hq
    exact hq a w β ro β.ext_refl ro.ext_refl ⟨hs.h.less (fun _ _ h => h) (Taken.out hn), hs.sz, hs.t, hs.df⟩
  | @cons i rest S S' o hi v m' hs hr ih =>
    intro isDone β ro a w hl hnd hn hsat hq
    obtain ⟨hin, hid⟩ := hl i List.mem_cons_self
    rw [wpOpsIn_cons]
    have hle := hs.next hR
    refine step_in lp m hE hR hS hi hsat hs (fun k hk => Taken.fresh h0 hin hid k hk) (Taken.lt h0 hn) fun a' w' β' ro' hb hr' hsat' => ?_
    refine ih (fun j => isDone j ∨ j = i) β' ro' a' w' (fun j hj => ?_) (List.nodup_cons.1 hnd).2 (Nat.le_trans hn hle) ?_ (fun a'' w'' β'' ro'' k1 k2 k3 => hq a'' w'' β'' ro'' (Pl.ext_trans hb k1) (Snap.ext_trans hr' k2) k3)
    · obtain ⟨q1, q2⟩ := hl j (List.mem_cons_of_mem _ hj)
      exact ⟨q1, fun hor => hor.elim q2 fun e => (List.nodup_cons.1 hnd).1 (e ▸ hj)⟩
    · exact ⟨hsat'.h.less (fun _ _ h => h) (Taken.step hin hn hle), hsat'.sz, hsat'.t, hsat'.df⟩
theorem run_any_in (lp m : Nat) {D0 : Nat → Prop} {base : Nat} (h0 : ∀ id, D0 id → id < base) {fps : Nat → Foot} {Q : Exit → Go.Act → World → Prop} (hback : ∀ j o, ops[j]? = some o → ∀ e ∈ o.after.toList, Region.binds .any e = true → e.on < j)
    (hind : ∀ p q a b, p < q → ops[p]? = some a → ops[q]? = some b → (((ancs ops.toList)[q]?).getD 0).testBit p = true ∨ (Apart ops a b ∧ FootApart (fps p) (fps q))) :
    ∀ (n : Nat) (l : List Nat) (listed : Array Bool) (S S' : St) (β : Pl) (ro : Snap) (a : Go.Act) (w : World), l.length = n → Left ops listed l → RunL E R ops base fps l S S' →
    base + 64 * ops.size ≤ S.m.next → Sat w0 β ro (Taken D0 base ops.size (fun j => listed.getD j false = true) S.m.next) S a w →
    (∀ a' w' β' ro', β.ext β' → ro.ext ro' → Sat w0 β' ro' (fun id => D0 id ∨ (base ≤ id ∧ id < S'.m.next)) S' a' w' → Q .normal a' w') → wpAnyIn (Fence.wide.inRound lp) m P .any ops Q n listed a w := by
  intro n
  induction n with
  | zero =>
    intro l listed S S' β ro a w hlen hl hr hn hs hq
    have : l = [] := List.eq_nil_of_length_eq_zero hlen
    subst this
    refine ⟨?_, ?_⟩
    · rw [List.eq_nil_iff_forall_not_mem]
      intro i hi
      obtain ⟨h1, h2, _⟩ := ready_mem hi
      have := (hl.mem i).2 ⟨h1, h2⟩
      cases this
    · cases hr with
      | nil => exact hq a w β ro β.ext_refl ro.ext_refl ⟨hs.h.less (fun _ _ h => h) (Taken.out hn), hs.sz, hs.t, hs.df⟩
  | succ n ih =>
    intro l listed S S' β ro a w hlen hl hr hn hs hq
    refine ⟨fun hnil => ?_, fun i hi => ?_⟩
    ·
      cases l with
      | nil => simp at hlen
      | cons i r =>
        exfalso
        obtain ⟨h1, h2⟩ := (hl.mem i).1 List.mem_cons_self
        have ho := Array.getElem?_eq_getElem h1
        have : i ∈ Region.ready .any ops listed := by
          unfold Region.ready
          rw [List.mem_filter, List.mem_range]
          refine ⟨h1, ?_⟩
          simp only [Bool.and_eq_true, Bool.not_eq_true']
          refine ⟨h2, ?_⟩
          rw [ho]
          simp only [Option.map_some, Option.getD_some, Array.all_eq_true', Bool.or_eq_true, Bool.not_eq_true']
          intro e he
          cases hb : Region.binds .any e with
          | false => exact .inl rfl
          | true =>
            refine .inr ?_
            have hlt := hback i _ ho e (by simpa using he) hb
            cases hd : listed.getD e.on true with
            | false =>
              have hm := (hl.mem e.on).2 ⟨by omega, hd⟩
              have hpw := List.pairwise_cons.1 hl.sorted
              rcases List.mem_cons.1 hm with h | h
              · omega
              · have := hpw.1 _ h; omega
            | true =>
              have hsz : e.on < listed.size := by rw [hl.size]; omega
              rw [Array.getD_eq_getD_getElem?, Array.getElem?_eq_getElem hsz] at hd ⊢
              exact hd
        rw [hnil] at this; cases this
    · obtain ⟨h1, h2, o, ho, hdep⟩ := ready_mem hi
      have him := (hl.mem i).2 ⟨h1, h2⟩
      obtain ⟨pre, post, rfl⟩ := List.append_of_mem him
      obtain ⟨s1, s2, s3⟩ := sorted_split hl.sorted
      have hiL : i < listed.size := by rw [hl.size]; exact h1
      have hpre : ∀ j ∈ pre, ∀ oj, ops[j]? = some oj → Apart ops oj o ∧ FootApart (fps j) (fps i) := by
        intro j hj oj hoj
        rcases hind j i oj o (s1 j hj) hoj ho with h | h
        · exfalso
          have hlj := hl.anc (i + 1) i (by omega) o ho hdep j h
          obtain ⟨q1, q2⟩ := (hl.mem j).1 (List.mem_append_left _ hj)
          have hsz : j < listed.size := by rw [hl.size]; exact q1
          rw [Array.getD_eq_getD_getElem?, Array.getElem?_eq_getElem hsz] at hlj q2
          rw [Option.getD_some] at hlj q2
          rw [hlj] at q2; cases q2
        · exact h
      obtain ⟨v, m', k1, k2⟩ := RunL.front (fun _ _ _ _ _ h => (hR.good _ _ _ _ _ h).2.1) ho pre hpre hr
      have hnotdone : ¬ (listed.getD i false = true) := by
        rw [Array.getD_eq_getD_getElem?, Array.getElem?_eq_getElem hiL] at h2 ⊢
        rw [Option.getD_some] at h2 ⊢
        rw [h2]; simp
      have hle := k1.next hR
      refine step_in lp m hE hR hS ho hs k1 (fun k hk => Taken.fresh h0 h1 hnotdone k hk) (Taken.lt h0 hn) fun a' w' β' ro' hb hr' hsat' => ?_
      refine ih (pre ++ post) (listed.setIfInBounds i true) _ S' β' ro' a' w' (by simp at hlen ⊢; omega) ⟨by simp [hl.size], s2, fun j => ?_, fun j oj hoj hlj e he hbd => ?_⟩ k2 (Nat.le_trans hn hle) ?_
        (fun a'' w'' β'' ro'' q1 q2 q3 => hq a'' w'' β'' ro'' (Pl.ext_trans hb q1) (Snap.ext_trans hr' q2) q3)
      · rw [getD_set hiL]
        by_cases hji : j = i
        · subst hji; simp [s3]
        · rw [if_neg hji, ← hl.mem j]
          simp [hji]
      · rw [getD_set hiL] at hlj ⊢
        by_cases heo : e.on = i
        · simp [heo]
        · rw [if_neg heo]
          by_cases hji : j = i
          · subst hji
            rw [ho] at hoj; cases hoj
            exact hdep e he hbd
          · rw [if_neg hji] at hlj
            exact hl.closed j oj hoj hlj e he hbd
      · refine ⟨hsat'.h.less (fun _ _ h => h) fun id hid => ?_, hsat'.sz, hsat'.t, hsat'.df⟩
        have := Taken.step h1 hn hle id hid
        rcases this with h | ⟨j, q1, q2, q3, q4⟩ | h
        · exact .inl h
        · refine .inr (.inl ⟨j, q1, ?_, q3, q4⟩)
          show (listed.setIfInBounds i true).getD j false = true
          rw [getD_set hiL]
          rcases q2 with q2 | rfl
          · split
            · rfl
            · exact q2
          · simp
        · exact .inr (.inr h)
end
theorem regionK_in (lp m : Nat) (hE : TysOk P E) (hR : CallGood P R) (hS : SpecSound P E) (hmix : P.follows .mixedOrders = true) {call : CallK} (hc : CallDen R call) {draw : Bool} {X : Type} {S : St} {k : St → Tr X} {r : X}
    (h : (regionK E call ops draw S k).den = some r) : ∃ S', (k S').den = some r ∧ MFrame S.m S'.m ∧ ∀ (w0 : Pt) (β : Pl) (ro : Snap) (D0 : Nat → Prop) (a : Go.Act) (w : World) (id : Nat) (Q : Exit → Go.Act → World → Prop), (∀ id, D0 id → id < S.m.next) →
      Sat w0 β ro D0 S a w → (∀ a' w' β' ro', β.ext β' → ro.ext ro' → Sat w0 β' ro' (fun id => D0 id ∨ (S.m.next ≤ id ∧ id < S'.m.next)) S' a' w' → Q .normal a' w') → (Code.region id ops draw).wpIn (Fence.wide.inRound lp) m P Q a w := by
  unfold regionK at h
  obtain ⟨S1, ff, h1, h2⟩ := opsK_den hc ops.toList 0 (fun j => by simp) h
  simp only [List.reverse_nil, List.nil_append, Array.length_toList] at h1 h2
  have hrange : List.range' 0 ops.size = List.range ops.size := List.range_eq_range'.symm
  split at h2
  · rename_i hchk
    have hnext := h1.next hR
    simp only at hnext
    refine ⟨_, h2, ?_, ?_⟩
    · obtain ⟨new, e1, e2⟩ := h1.frame hR
      refine ⟨by simp only; omega, ((List.range' 0 ops.size).map ff).flatMap (·.wr) ++ new, by simp only; rw [e1, List.append_assoc], fun id hid hn => ?_⟩
      simp only [List.mem_append, not_or] at hn
      refine e2 id (by simp only; omega) hn.2 ?_
      simpa [List.flatMap_map] using hn.1
    · intro w0 β ro D0 a w rid Q hD0 hs hq
      have hs0 : ∀ isDone : Nat → Prop, (∀ j, ¬ isDone j) → Sat w0 β ro (Taken D0 S.m.next ops.size isDone (S.m.next + 64 * ops.size)) { S with m := { S.m with next := S.m.next + 64 * ops.size } } a w := fun isDone _ =>
        ⟨hs.h.less (fun _ _ h => h) (fun id hid => .inl hid), hs.sz, hs.t, hs.df⟩
      cases draw with
      | false =>
        refine wpIn_region ?_
        rw [← hrange]
        refine run_text_in hE hR hS lp m hD0 h1 (fun _ => False) β ro a w (fun i hi => ⟨by rw [hrange] at hi; exact List.mem_range.1 hi, fun h => h⟩) (by rw [hrange]; exact List.nodup_range) (Nat.le_refl _) (hs0 _ (fun _ h => h))
          fun a' w' β' ro' k1 k2 k3 => hq a' w' β' ro' k1 k2 ⟨k3.h, k3.sz, k3.t, k3.df⟩
      | true =>
        simp only [Bool.not_true, Bool.false_or, Bool.and_eq_true] at hchk
        refine wpIn_region_any hmix ?_
        have hl0 : Left ops (Array.replicate ops.size false) (List.range' 0 ops.size) := by
          refine ⟨by simp, ?_, fun j => ?_, fun j o _ hj => ?_⟩
          · rw [hrange]; exact List.pairwise_lt_range
          · rw [hrange, List.mem_range]
            constructor
            · intro h; exact ⟨h, by simp [Array.getD_eq_getD_getElem?, h]⟩
            · exact fun h => h.1
          · exfalso
            rw [Array.getD_eq_getD_getElem?, Array.getElem?_replicate] at hj
            split at hj <;> cases hj
        refine run_any_in hE hR hS lp m hD0 (fun j o ho => ?_) (fun p q x y hpq hp hq' => ?_) ops.size (List.range' 0 ops.size) _ _ S1 β ro a _ (by simp) hl0 h1 (Nat.le_refl _) ?_
          fun a' w' β' ro' k1 k2 k3 => hq a' w' β' ro' k1 k2 ⟨k3.h, k3.sz, k3.t, k3.df⟩
        · intro e he hb
          have := backB_spec ops.toList 0 hchk.1 j o (by simpa using ho) e he hb
          omega
        · have := indepAll_spec _ 0 [] hchk.2 p q _ _ hpq (by simpa using rowsOf_at rfl hp) (by simpa using rowsOf_at rfl hq') (by simp)
          exact this.imp (fun x => x) indep_spec
        · have hd : ∀ j, ¬ ((Array.replicate ops.size false).getD j false = true) := by
            intro j hj
            rw [Array.getD_eq_getD_getElem?, Array.getElem?_replicate] at hj
            split at hj <;> cases hj
          have := hs0 _ hd
          exact ⟨this.h.drew, this.sz, this.t, this.df⟩
  · simp [Tr.den] at h2
end Go.Cat

namespace Go.Cat
open Go Go.RowKit
attribute [local go_sem] Oper.semAt_some
variable {P : Program} {E : Env} {R : CallRel} {ops : Array Oper} {w0 : Pt} {β : Pl} {ro : Snap} {D : Nat → Prop} {w : World}
def Snap.sub (r r' : Snap) : Prop := ∀ a v, r.cell? a = some v → r'.cell? a = some v
theorem Rep.sub {r r' : Snap} (h : r.sub r') {l : Leaf} {v : Value} (hr : Rep r l v) : Rep r' l v := by
  induction hr with
  | int k n h => exact .int k n h
  | bool b => exact .bool b
  | str b h => exact .str b h
  | nil e => exact .nil e
  | sl e xs a cap us hs hc hm hcell hrep ih =>
    exact .sl e xs a cap us hs hc hm (fun i x j l hi hj => h _ _ (hcell i x j l hi hj)) ih
theorem RepS.sub {r r' : Snap} (h : r.sub r') {x : SV} {v : Value} (hr : RepS β r x v) : RepS β r' x v := by
  induction hr with
  | leaf h' => exact .leaf (h'.sub h)
  | lit h' => exact .lit h'
  | own hb => exact .own hb
  | win hb hl hc hm hn hs => exact .win hb hl hc hm hn hs
  | rptr us hc hr hs => exact .rptr us (fun j l hj => h _ _ (hc j l hj)) (fun j l hj => (hr j l hj).sub h) hs
  | optr hb hg hi => exact .optr hb hg hi
  | bptr hb hg => exact .bptr hb hg
  | fn h1 h2 _ _ i3 i4 => exact .fn h1 h2 i3 i4
  | iface _ ih => exact .iface ih
  | agg h1 _ ih => exact .agg h1 ih
  | tup h1 _ ih => exact .tup h1 ih
  | nn h' => exact .nn (h'.sub h)
  | any v => exact .any v
theorem RepL.sub {r r' : Snap} (h : r.sub r') {cs : List SV} {us : List Value} (hr : RepL β r cs us) : RepL β r' cs us :=
  ⟨hr.1, fun i c u hc hu => (hr.2 i c u hc hu).sub h⟩
theorem ObjAt.sub {r r' : Snap} (h : r.sub r') {hd : Hd} {o : SO} (ho : ObjAt β r w hd o) : ObjAt β r' w hd o := by
  cases o with
  | row et e xs =>
    obtain ⟨h1, h2, h3⟩ := ho
    refine ⟨h1, h2, ?_⟩
    cases hb : hd.blk with
    | none => simpa [hb] using h3
    | some g =>
      simp only [hb] at h3 ⊢
      obtain ⟨cur, k1, k2, k3, k4, k5⟩ := h3
      exact ⟨cur, k1, k2, k3, k4, fun i x j l hi hj => by obtain ⟨u, hu, hru⟩ := k5 i x j l hi hj; exact ⟨u, hu, hru.sub h⟩⟩
  | blk cs =>
    obtain ⟨g, cur, et, h1, h2, h3⟩ := ho
    exact ⟨g, cur, et, h1, h2, h3.sub h⟩
def Snap.cut (r : Snap) (N : Nat) : Snap := fun b => if b < N then r b else match r b with | some (.cells c t m) => some (.cells c t m) | _ => none
theorem Snap.cut_sub (r : Snap) (N : Nat) : r.sub (r.cut N) := by
  intro a v h
  unfold Snap.cell? at *
  cases hb : r a.block with
  | none => simp [hb] at h
  | some o =>
    have hc : (r.cut N) a.block = r a.block ∨ o.isCells = false := by
      unfold Snap.cut
      by_cases hN : a.block < N
      · rw [if_pos hN]; exact .inl rfl
      · rw [if_neg hN, hb]
        cases o <;> first | exact .inl rfl | exact .inr rfl
    rw [hb] at h
    rcases hc with hc | hc
    · rw [hc, hb]; exact h
    · cases o <;> first | cases h | cases hc
theorem Snap.cut_of {r : Snap} {N b : Nat} {o : Obj} (h : r.cut N b = some o) : r b = some o := by
  unfold Snap.cut at h
  split at h
  · exact h
  · split at h
    · rename_i hb; rw [hb]; exact h
    · cases h
theorem Snap.cut_cells {r : Snap} {N b : Nat} {o : Obj} (h : r.cut N b = some o) (hb : N ≤ b) : o.isCells = true := by
  unfold Snap.cut at h
  rw [if_neg (by omega)] at h
  split at h
  · cases h; rfl
  · cases h
theorem Snap.cut_low {r : Snap} {N b : Nat} (h : b < N) : r.cut N b = r b := by unfold Snap.cut; rw [if_pos h]
theorem HSat.resnap {objs : Heap} (h : HSat w0 β ro D objs w) {r' : Snap} (hsub : ro.sub r') (hle : r'.le w) (hlow : ∀ b, b < w0.heap.size → r' b = ro b) (hap : ∀ id o hd g, objs id = some o → β id = some hd → hd.blk = some g → r' g = none) : HSat w0 β r' D objs w :=
  ⟨h.base, fun b hb => (hlow b hb).trans (h.low b hb), h.old, hle, h.dom, h.lt, fun id o ho => by obtain ⟨hd, h1, h2⟩ := h.obj id o ho; exact ⟨hd, h1, h2.sub hsub⟩, hap, h.above, h.inj⟩
theorem HSat.cut {objs : Heap} (h : HSat w0 β ro D objs w) {N : Nat} (hN : w0.heap.size ≤ N) : HSat w0 β (ro.cut N) D objs w :=
  h.resnap (Snap.cut_sub ro N) (fun b o hb => h.snap b o (Snap.cut_of hb)) (fun b hb => Snap.cut_low (by omega)) (fun id o hd g h1 h2 h3 => by
    have := h.apart id o hd g h1 h2 h3
    cases hc : ro.cut N g with
    | none => rfl
    | some x => rw [Snap.cut_of hc] at this; cases this)
theorem HSat.grown {objs : Heap} (h : HSat w0 β ro D objs w) {w' : World} {row : Option Nat} (hg : w.grownBy w' row) {N : Nat} (hN : w0.heap.size ≤ N) (hrow : ∀ r, row = some r → N ≤ r ∧ ∃ o : Obj, w.heap[r]? = some o ∧ o.isCells = false)
    (hnc : ∀ b o, N ≤ b → ro b = some o → o.isCells = true) : HSat w0 β ro D objs w' := by
  have keep : ∀ k o, w.heap[k]? = some o → (k < N ∨ o.isCells = true) → w'.heap[k]? = some o := by
    intro k o hk hor
    refine (hg.block k (Array.getElem?_eq_some_iff.1 hk).1 fun e => ?_).trans hk
    obtain ⟨h1, o', h2, h3⟩ := hrow k e.symm
    rw [hk] at h2; cases h2
    rcases hor with hor | hor
    · omega
    · rw [h3] at hor; cases hor
  refine ⟨h.base.trans ⟨hg.os, hg.tape, hg.output, hg.size⟩, h.low, fun k hk => ?_, fun b o hb => ?_, h.dom, fun id hd g h1 h2 => Nat.lt_of_lt_of_le (h.lt id hd g h1 h2) hg.size, fun id o ho => ?_, h.apart, h.above, h.inj⟩
  · rw [← h.old k hk]
    refine hg.block k (Nat.lt_of_lt_of_le hk h.base.size) fun e => ?_
    have := (hrow k e.symm).1
    omega
  · have hb' := h.snap b o hb
    refine keep b o hb' ?_
    rcases Nat.lt_or_ge b N with hlt | hge
    · exact .inl hlt
    · exact .inr (hnc b o hge hb)
  · obtain ⟨hd, h1, h2⟩ := h.obj id o ho
    refine ⟨hd, h1, h2.mono β.ext_refl ro.ext_refl fun g hgb => ?_⟩
    have hcur : ∃ cur et, w.heap[g]? = some (.cells cur et (0, 0)) := by
      cases o with
      | row et e xs =>
        obtain ⟨_, _, h3⟩ := h2
        simp only [hgb] at h3
        obtain ⟨cur, k1, _⟩ := h3
        exact ⟨cur, et, k1⟩
      | blk cs =>
        obtain ⟨g', cur, et, e1, e2, _⟩ := h2
        rw [hgb] at e1; cases e1
        exact ⟨cur, et, e2⟩
    obtain ⟨cur, et, hc⟩ := hcur
    rw [hc, keep g _ hc (.inr rfl)]
open Classical in
noncomputable def Snap.all (r : Snap) (w0 : Pt) (β : Pl) (objs : Heap) (w : World) : Snap :=
  fun b => if w0.heap.size ≤ b ∧ ¬ ∃ id o hd, objs id = some o ∧ β id = some hd ∧ hd.blk = some b then w.heap[b]? else r b
theorem Snap.ext_all {objs : Heap} (h : ro.le w) : ro.ext (ro.all w0 β objs w) := by
  intro b o hb
  unfold Snap.all
  split
  · exact h _ _ hb
  · exact hb
theorem Snap.ext_sub {r r' : Snap} (h : r.ext r') : r.sub r' := fun _ _ hc => Snap.cell_ext h hc
theorem HSat.all {objs : Heap} (h : HSat w0 β ro D objs w) : HSat w0 β (ro.all w0 β objs w) D objs w := by
  refine h.resnap (Snap.ext_sub (Snap.ext_all h.snap)) (fun b o hb => ?_) (fun b hb => ?_) (fun id o hd g h1 h2 h3 => ?_)
  · unfold Snap.all at hb
    split at hb
    · exact hb
    · exact h.snap b o hb
  · unfold Snap.all
    rw [if_neg (by omega)]
  · unfold Snap.all
    rw [if_neg (fun hh => hh.2 ⟨id, o, hd, h1, h2, h3⟩)]
    exact h.apart id o hd g h1 h2 h3
theorem ObjAt.cells {hd : Hd} {o : SO} (h : ObjAt β ro w hd o) {g : Nat} (hg : hd.blk = some g) : ∃ cur et, w.heap[g]? = some (.cells cur et (0, 0)) := by
  cases o with
  | row et e xs =>
    obtain ⟨_, _, h3⟩ := h
    simp only [hg] at h3
    obtain ⟨cur, k1, _⟩ := h3
    exact ⟨cur, et, k1⟩
  | blk cs =>
    obtain ⟨g', cur, et, e1, e2, _⟩ := h
    rw [hg] at e1; cases e1
    exact ⟨cur, et, e2⟩
theorem keeps_all {objs objs' : Heap} {β' : Pl} {ro' : Snap} {D' : Nat → Prop} {w' : World} (h : HSat w0 β ro D objs w) (h' : HSat w0 β' ro' D' objs' w') (hβ : β.ext β') (hr : (ro.all w0 β objs w).ext ro') : KeepsOthers w w' := by
  have live : ∀ k, w0.heap.size ≤ k → k < w.heap.size → (∃ id o hd, objs id = some o ∧ β id = some hd ∧ hd.blk = some k) ∨ w'.heap[k]? = w.heap[k]? := by
    intro k hk hlt
    by_cases hl : ∃ id o hd, objs id = some o ∧ β id = some hd ∧ hd.blk = some k
    · exact .inl hl
    · right
      have hget := Array.getElem?_eq_getElem hlt
      have hs : ro.all w0 β objs w k = some w.heap[k] := by
        unfold Snap.all
        rw [if_pos ⟨hk, hl⟩, hget]
      rw [h'.snap _ _ (hr _ _ hs), hget]
  refine ⟨?_, fun k o hk ho => ?_⟩
  · rcases Nat.lt_or_ge w0.heap.size w.heap.size with hlt | hge
    · obtain ⟨k, hk⟩ : ∃ k, w.heap.size = k + 1 := ⟨w.heap.size - 1, by omega⟩
      rcases live k (by omega) (by omega) with ⟨id, o, hd, h1, h2, h3⟩ | hs
      · have := h'.lt id hd k (hβ _ _ h2) h3
        omega
      · have hget : w.heap[k]? = some w.heap[k] := Array.getElem?_eq_getElem (by omega)
        rw [hget] at hs
        have := (Array.getElem?_eq_some_iff.1 hs).1
        omega
    · exact Nat.le_trans hge h'.base.size
  · have hlt := (Array.getElem?_eq_some_iff.1 hk).1
    rcases Nat.lt_or_ge k w0.heap.size with h0 | h0
    · rw [h'.old k h0, ← h.old k h0, hk]
    · rcases live k h0 hlt with ⟨id, o', hd, h1, h2, h3⟩ | hs
      · obtain ⟨hd', m1, m2⟩ := h.obj id o' h1
        rw [h2] at m1; cases m1
        obtain ⟨cur, et, hc⟩ := m2.cells h3
        rw [hk] at hc; cases hc
        cases ho
      · rw [hs, hk]
theorem grown_sat {S : St} {a : Go.Act} (h : Sat w0 β ro D S a w) {w' : World} (hh : HSat w0 β ro D S.m.objs w') : Sat w0 β ro D S a w' := ⟨hh, h.sz, h.t, h.df⟩
structure ItemV (ro : Snap) {A : Type} (lf : A → Leaf) (items : List A) where
  v : Value
  x : A
  rep : Rep ro (lf x) v
  mem : x ∈ items
section
variable (hE : TysOk P E) (hR : CallGood P R) (hS : SpecSound P E)
include hE hR hS
theorem range_wp (hmix : P.follows .mixedOrders = true) {call : CallK} (hc : CallDen R call) {S : St} {a : Go.Act} (hs : Sat w0 β ro D S a w) (hD : ∀ id, D id → id < S.m.next) (hdefs : w0.defs = [])
    {sl : List (Nat × SigV)} {x0 : SigT sl} {js rs : List Nat} (hx0 : (sigOf S.tmps S.tmps sl).run S.m.objs [] = some ((x0, js), rs))
    (hkeep : ∀ y t, tmpAt (loopHead S.tmps S.m js sl y).tmps t = .any ∨ tmpAt (loopHead S.tmps S.m js sl y).tmps t = tmpAt S.tmps t)
    {A : Type} (lf : A → Leaf) (items : List A) (lst : List A → SigT sl) (hl0 : lst [] = x0) {p q : Nat} (hp : p < S.tmps.length) {draw : Bool} {rid ra bid ty : Nat} {pos : String}
    (hbody : ∀ pre x, pre.length < items.length → x ∈ items → (regionK E call ops draw { tmps := setT (setT (loopHead S.tmps S.m js sl (lst pre)).tmps (some p) (.leaf (lf x))) (some q) (.leaf (lf x)), m := (loopHead S.tmps S.m js sl (lst pre)).m } fun S' =>
      (sigOf S.tmps S'.tmps sl).k S'.m.objs [] fun q _ => match q with
        | (y, js') => match onlyWrote S.m.next js (js' ++ S'.m.wl) && Nat.beq S'.tmps.length S.tmps.length with
          | true => .ret y
          | false => .fail).den = some (lst (pre ++ [x])))
    {g : Operand} {gf n : Nat} {lb : Array Value} (hg : a.eval g = .func (.func gf) #[] lb) (eg : ∀ args w, (callFunc gf args).run P w = .ok (.enter gf args) w) (h1 : 1 ≤ n) {Sp : List (ItemV ro lf items) → Prop}
    (hseq : SeqStopsK Fence.wide (n - 1) P gf lb (fun y : ItemV ro lf items => #[y.v]) (fun W W' => ro.le W → ro.le W') (fun ys => ys.map (·.x) = items) Sp items.length w)
    {Q : Exit → Go.Act → World → Prop}
    (hdone : ∀ (d : Nat) (W : World) β3 ro3, w0.heap.size ≤ d → β.ext β3 → ro.ext ro3 → W.heap[d]? = some (.deferred (some [])) → ro3 d = some (.deferred (some [])) →
      Sat { w0 with defs := [{ target := .collected d, args := #[] }] } β3 ro3 (fun id => D id ∨ (S.m.next ≤ id ∧ id < (loopHead S.tmps S.m js sl (lst items)).m.next)) (loopHead S.tmps S.m js sl (lst items)) { a with defers := [{ target := .collected d, args := #[] }] } W →
      Q .normal { a with defers := [{ target := .collected d, args := #[] }] } W) :
    (Code.rangeFunc g #[p] (.region ra #[{ dst := some q, op := .assign (.tmp p), type := ty, pos := pos, after := #[], guard := none }] false) (.block bid (.region rid ops draw))).wpIn Fence.wide n P Q a w := by
  obtain ⟨is0, os0, hjs, hsig0, _, _⟩ := sigOf_run hx0
  have hent : Entry w0 S β D := ⟨hD, ro, a, w, hs⟩
  have hnone : ∀ b, w.heap.size ≤ b → ro b = none := fun b hb => by
    cases h : ro b with
    | none => rfl
    | some o =>
      have := (Array.getElem?_eq_some_iff.1 (hs.h.snap b o h)).1
      omega
  have hsz : w0.heap.size ≤ w.heap.size := hs.h.base.size
  have hact : ∀ {y : SigT sl} {β3 : Pl} {ro3 : Snap} {D3 : Nat → Prop} {a3 : Go.Act} {W : World}, β.ext β3 → ro.ext ro3 → Sat w0 β3 ro3 D3 (loopHead S.tmps S.m js sl y) a3 W → Sat w0 β3 ro3 D3 (loopHead S.tmps S.m js sl y) a W := by
    intro y β3 ro3 D3 a3 W h1 h2 h3
    refine ⟨h3.h, ?_, fun t => ?_, hs.df⟩
    · rw [hs.sz]
      have := (headSig_frame hsig0 y { tmps := S.tmps.map fun _ => .any, m := { objs := putAll S.m.objs (freezeAll js), next := S.m.next, wl := [] } }).2.2.1
      simp only [loopHead]
      rw [this]; simp
    · rcases hkeep y t with h | h
      · rw [h]; exact .any _
      · rw [h]; exact (hs.t t).mono h1 h2
  obtain ⟨I, hI⟩ : ∃ I : List (ItemV ro lf items) → World → Prop, I = fun pre W => ∃ β3 ro3, β.ext β3 ∧ ro.ext ro3 ∧ (∀ b o, w.heap.size ≤ b → ro3 b = some o → o.isCells = true) ∧
      Sat w0 β3 ro3 (fun id => D id ∨ (S.m.next ≤ id ∧ id < (loopHead S.tmps S.m js sl (lst (pre.map (·.x)))).m.next)) (loopHead S.tmps S.m js sl (lst (pre.map (·.x)))) a W := ⟨_, rfl⟩
  have hto : ∀ {pre : List (ItemV ro lf items)} {W : World} {β3 : Pl} {ro3 : Snap} {a3 : Go.Act}, β.ext β3 → ro.ext ro3 → Sat w0 β3 ro3 (fun id => D id ∨ (S.m.next ≤ id ∧ id < (loopHead S.tmps S.m js sl (lst (pre.map (·.x)))).m.next)) (loopHead S.tmps S.m js sl (lst (pre.map (·.x)))) a3 W → I pre W := by
    intro pre W β3 ro3 a3 h1 h2 h3
    rw [hI]
    have h4 := hact h1 h2 h3
    refine ⟨β3, ro3.cut w.heap.size, h1, fun b o hb => ?_, fun b o hb hc => Snap.cut_cells hc hb, ⟨h4.h.cut hsz, h4.sz, fun t => (h4.t t).sub (Snap.cut_sub ro3 _), h4.df⟩⟩
    rw [Snap.cut_low]
    · exact h2 b o hb
    · exact (Array.getElem?_eq_some_iff.1 (hs.h.snap b o hb)).1
  refine wpIn_rangeFunc_ownF rfl h1 hg trivial eg hseq (fun h k => k ∘ h) (fun W l o o' hl hW _ _ hle b o'' hb => ?_) (Below.refl _ _) (fun x => rfl) I (fun _ _ _ => False) ?_ (fun _ _ _ _ _ h => h.elim) ?_
    (fun x => { tmps := (a.tmps.setIfInBounds p x.v).setIfInBounds q x.v, defers := [] }) ?_ ?_ ?_ (fun _ _ _ _ _ _ h => h.elim)
  ·
    have hne : b ≠ l := by
      rintro rfl
      rw [hnone b hl] at hb; cases hb
    rw [World.putObj_heap_other hne]
    exact hle b o'' hb
  ·
    intro pre W W' row hpre hgr hrow
    rw [hI] at hpre ⊢
    obtain ⟨β3, ro3, h1, h2, h3, h4⟩ := hpre
    exact ⟨β3, ro3, h1, h2, h3, grown_sat h4 (h4.h.grown hgr hsz hrow h3)⟩
  ·
    obtain ⟨β3, ro3, r1, r2, r3⟩ := relay (js := js) hent (fun _ h => .inl h) β.ext_refl hs rfl hx0 (fun id _ hn => ⟨rfl, hn⟩)
    exact hto (pre := []) r1 r2 (by simpa [hl0] using r3)
  ·
    intro l x W K hK
    have hsz' : p < a.tmps.size := by rw [hs.sz]; exact hp
    have hget : (a.tmps.setIfInBounds p x.v).getD p undef = x.v := by simp [Array.getD_eq_getD_getElem?, hsz']
    gi_wp2
    exact hK
  ·
    intro l pre x W hpre hlen
    rw [hI] at hpre
    obtain ⟨β3, ro3, k1, k2, k3, k4⟩ := hpre
    have hrx : RepS β3 (ro3.all w0 β3 (loopHead S.tmps S.m js sl (lst (pre.map (·.x)))).m.objs W) (.leaf (lf x.x)) x.v := .leaf ((x.rep.mono k2).mono (Snap.ext_all k4.h.snap))
    have hro := Snap.ext_all (w0 := w0) (β := β3) (objs := (loopHead S.tmps S.m js sl (lst (pre.map (·.x)))).m.objs) k4.h.snap
    have hfr := headSig_frame hsig0 (lst (pre.map (·.x))) { tmps := S.tmps.map fun _ => .any, m := { objs := putAll S.m.objs (freezeAll js), next := S.m.next, wl := [] } }
    have hb := hbody (pre.map (·.x)) x.x (by simpa using hlen) x.mem
    obtain ⟨S1, d1, d2, d3⟩ := regionK_in l (n - 1 - 1) hE hR hS hmix hc hb
    refine wpIn_block ?_
    have hst : Sat w0 β3 (ro3.all w0 β3 (loopHead S.tmps S.m js sl (lst (pre.map (·.x)))).m.objs W) (fun id => D id ∨ (S.m.next ≤ id ∧ id < (loopHead S.tmps S.m js sl (lst (pre.map (·.x)))).m.next))
        { tmps := setT (setT (loopHead S.tmps S.m js sl (lst (pre.map (·.x)))).tmps (some p) (.leaf (lf x.x))) (some q) (.leaf (lf x.x)), m := (loopHead S.tmps S.m js sl (lst (pre.map (·.x)))).m }
        { tmps := (a.tmps.setIfInBounds p x.v).setIfInBounds q x.v, defers := [] } W := by
      have h5 := (k4.put β3.ext_refl hro k4.h.all hrx (some p)).put (m' := (loopHead S.tmps S.m js sl (lst (pre.map (·.x)))).m) β3.ext_refl (Snap.ext_refl _) k4.h.all hrx (some q)
      exact ⟨h5.h, h5.sz, h5.t, hdefs.symm⟩
    refine d3 w0 β3 _ _ _ W rid _ (then_lt hD hfr.1) hst fun a' w' β' ro' q1 q2 q3 => ?_
    obtain ⟨⟨y', js'⟩, rs', hy', hd'⟩ := OT.k_den _ _ d1
    simp only at hd'
    split at hd'
    · rename_i hchk
      simp only [Bool.and_eq_true] at hchk
      simp only [Tr.den] at hd'
      cases hd'
      have hw := onlyWrote_spec hchk.1
      obtain ⟨hn1, new, hn2, hn3⟩ := d2
      have hlink : ∀ id, id < S.m.next → id ∉ js → S1.m.objs id = S.m.objs id ∧ id ∉ js' := by
        intro id hid hnj
        have hnot : ∀ i ∈ js' ++ S1.m.wl, i ≠ id := by
          rintro i hi rfl
          rcases hw i hi with h | h
          · omega
          · exact hnj h
        refine ⟨?_, fun hm => hnot id (List.mem_append_left _ hm) rfl⟩
        have hwl : S1.m.wl = new := by rw [hn2]; simp [loopHead, hfr.2.1]
        rw [hn3 id (Nat.lt_of_lt_of_le hid hfr.1) (fun hm => hnot id (List.mem_append_right _ (hwl ▸ hm)) rfl)]
        have := hfr.2.2.2 id hid (fun hm => hnj (hjs ▸ List.mem_append_right _ hm))
        simp only [loopHead]
        rw [this]
        simp only
        rw [putAll_freeze, if_neg hnj]
      obtain ⟨β4, ro4, r1, r2, r3⟩ := relay hent (fun id hid => by
        rcases hid with (h | h) | h
        · exact .inl h
        · exact .inr h.1
        · exact .inr (Nat.le_trans hfr.1 h.1)) (Pl.ext_trans k1 q1) q3 (Nat.eq_of_beq_eq_true hchk.2) hy' hlink
      have hx4 : ro.ext ro4 := Snap.ext_trans k2 (Snap.ext_trans hro (Snap.ext_trans q2 r2))
      show ownPostK (fun W W' => ro.le W → ro.le W') I (fun _ _ _ => False) _ W .normal a' w'
      refine ⟨keeps_all k4.h q3.h q1 q2, fun _ b o hb => r3.h.snap b o (hx4 b o hb), hto r1 hx4 (by simpa using r3)⟩
    · simp [Tr.den] at hd'
  ·
    intro d xs W hd hxs hpre hW
    rw [hI] at hpre
    obtain ⟨β3, ro3, k1, k2, k3, k4⟩ := hpre
    rw [hxs] at k4
    have had : a.defers = [] := hs.df.trans hdefs
    rw [had]
    let ro5 : Snap := fun b => if b = d then some (.deferred (some [])) else ro3 b
    have hd3 : ro3 d = none ∨ ro3 d = some (.deferred (some [])) := by
      cases h : ro3 d with
      | none => exact .inl rfl
      | some o => right; have := k4.h.snap d o h; rw [hW] at this; rw [this]
    have hx5 : ro3.ext ro5 := by
      intro b o hb
      simp only [ro5]
      split
      · rename_i he; subst he
        rcases hd3 with h | h
        · rw [h] at hb; cases hb
        · rw [h] at hb; exact hb
      · exact hb
    have h5 : HSat w0 β3 ro5 _ _ W := k4.h.resnap (Snap.ext_sub hx5) (fun b o hb => by
        simp only [ro5] at hb
        split at hb
        · rename_i he; subst he; cases hb; exact hW
        · exact k4.h.snap b o hb) (fun b hb => by
        simp only [ro5]
        rw [if_neg (by omega)]) (fun id o hd g e1 e2 e3 => by
        simp only [ro5]
        split
        · rename_i he; subst he
          obtain ⟨hd', m1, m2⟩ := k4.h.obj id o e1
          rw [e2] at m1; cases m1
          obtain ⟨cur, et, hc⟩ := m2.cells e3
          rw [hW] at hc; cases hc
        · exact k4.h.apart id o hd g e1 e2 e3)
    refine hdone d W β3 ro5 (by omega) k1 (Snap.ext_trans k2 hx5) hW (by simp [ro5]) ⟨h5.defs _, k4.sz, fun t => (k4.t t).mono β3.ext_refl hx5, rfl⟩
end
end Go.Cat

namespace Go.Cat
open Go Go.RowKit
variable {P : Program} {E : Env} {w0 : Pt} {β : Pl} {ro : Snap} {D : Nat → Prop} {w : World}
def finK (E : Env) (fn : Func) (results : List EN) (S : St) : Tr (TT results) :=
  (resultsT E S.tmps fn.results.toList fun vs => ret (oneOr vs)).k S.m.objs [] fun v _ => (toTT results (outSV v.1 results.length) fun r _ => OT.out r).k S.m.objs [] fun r _ => .ret r
def mark (d : Nat) : Deferred := { target := .collected d, args := #[] }
def SpecPost (ro0 : Snap) (w0 : World) (results : List EN) (r : TT results) : Ending → World → Prop := fun e w' =>
  ∃ outs ro', e = .returned (oneV outs) ∧ Base w0 w' ∧ (∀ k, k < w0.heap.size → w'.heap[k]? = w0.heap[k]?) ∧ ro0.ext ro' ∧ ro'.le w' ∧ (∀ b, b < w0.heap.size → ro' b = ro0 b) ∧ RepTT ro' results r outs
theorem HSat.lowExt {objs : Heap} (h : HSat w0 β ro D objs w) (hle : w0.ro0.le w0.toWorld) : w0.ro0.ext ro := by
  intro b o hb
  have : b < w0.heap.size := (Array.getElem?_eq_some_iff.1 (hle b o hb)).1
  rw [h.low b this]; exact hb
theorem fin_run (hE : TysOk P E) {fn : Func} {results : List EN} {r : TT results} {S : St} (hfin : (finK E fn results S).den = some r) {a : Go.Act} (hs : Sat w0 β ro D S a w) (hle : w0.ro0.le w0.toWorld) :
    ∃ v, (Go.results fn a.tmps).run P w = .ok v w ∧ SpecPost w0.ro0 w0.toWorld results r (.returned v) w := by
  obtain ⟨⟨v, u⟩, rs, k1, k2⟩ := OT.k_den _ _ hfin
  obtain ⟨svs, rs', us, r1, r2, r3⟩ := resultsT_sound hE hs fn.results.toList k1
  obtain ⟨rfl, rfl⟩ := ret_inv r1
  refine ⟨_, results_run r2, ?_⟩
  obtain ⟨r', rs2, l1, l2⟩ := OT.k_den _ _ k2
  simp only [Tr.den] at l2
  cases l2
  obtain ⟨y, is, rs3, t1, t2⟩ := toTT_run l1
  simp only [OT.run] at t2
  cases t2
  have q3 := oneOr_rep r3
  have hlen := ttOf_length t1
  have houts : ∃ outs, RepL β ro (outSV (oneOr svs) results.length) outs ∧ oneV outs = (if hh : us.toArray.size = 1 then us.toArray[0] else .tuple us.toArray) := by
    generalize hv : oneOr svs = v at q3 hlen t1
    generalize (if hh : us.toArray.size = 1 then us.toArray[0] else Value.tuple us.toArray) = u at q3
    unfold outSV
    split
    · exact ⟨[u], .cons q3 (.nil _ _), rfl⟩
    · rename_i l hne
      cases q3 with
      | @tup _ us b1 b2 =>
        refine ⟨us, ⟨b1, b2⟩, ?_⟩
        rw [outSV_tup hne] at hlen
        have hl : us.length ≠ 1 := by rw [b1, hlen]; exact hne
        unfold oneV
        rw [dif_neg (by simpa using hl)]
    · exact ⟨[u], .cons q3 (.nil _ _), rfl⟩
  obtain ⟨outs, o1, o2⟩ := houts
  obtain ⟨a1, a2⟩ := ttOf_rep hs.h t1 o1
  have hfz := hs.h.freeze is a1
  exact ⟨outs, ro.plus β w is, by rw [o2], hfz.base, hfz.old, Snap.ext_trans (hs.h.lowExt hle) (Snap.ext_plus hs.h.snap β is), hfz.snap, hfz.low, a2 is fun _ h => h⟩
theorem fin_plain (hE : TysOk P E) {fn : Func} {results : List EN} {r : TT results} {S : St} (hfin : (finK E fn results S).den = some r) {a : Go.Act} (hs : Sat w0 β ro D S a w) (hdefs : w0.defs = []) (hle : w0.ro0.le w0.toWorld) {n : Nat} :
    bodyPostM Fence.wide n P fn (SpecPost w0.ro0 w0.toWorld results r) .ret a w := by
  show LeavesInM Fence.wide n P fn a.tmps _ a.defers .returning w
  rw [hs.df, hdefs]
  exact fin_run hE hfin hs hle
theorem fin_mark (hE : TysOk P E) {fn : Func} {results : List EN} {r : TT results} {S : St} (hfin : (finK E fn results S).den = some r) {a : Go.Act} (hs : Sat w0 β ro D S a w) {d : Nat} (hdefs : w0.defs = [mark d]) (hd : w0.heap.size ≤ d) (hrd : ro d = some (.deferred (some []))) (hle : w0.ro0.le w0.toWorld) {n : Nat} :
    bodyPostM Fence.wide n P fn (SpecPost w0.ro0 w0.toWorld results r) .ret a w := by
  show LeavesInM Fence.wide n P fn a.tmps _ a.defers .returning w
  rw [hs.df, hdefs]
  have hW := hs.h.snap d _ hrd
  refine ⟨by simp, .inl ⟨d, _, rfl, run_takeDeferred hW, ?_⟩⟩
  have h1 : HSat w0 β (ro.cut w0.heap.size) D S.m.objs w := hs.h.cut (Nat.le_refl _)
  have h2 := h1.grown (grownBy_putObj' w d (.deferred none)) (Nat.le_refl _) (fun k e => by cases e; exact ⟨hd, _, hW, rfl⟩) (fun b o hb hc => Snap.cut_cells hc hb)
  exact fin_run hE hfin ⟨h2, hs.sz, fun t => (hs.t t).sub (Snap.cut_sub ro _), hs.df⟩ hle
theorem frozen_at {S : St} {a : Go.Act} (hs : Sat w0 β ro D S a w) {id : Nat} {cs : List SV} (ho : S.m.objs id = some (.blk cs)) :
    ∃ (hd : Hd) (g : Nat) (cur : Array Value), β id = some hd ∧ hd.blk = some g ∧ RepL β ro cs cur.toList ∧ (∀ W, (ro.plus β w [id]).le W → ∀ j v, cur.toList[j]? = some v → W.cell? ⟨g, j, none⟩ = some v) ∧
      Sat w0 β (ro.plus β w [id]) D { S with m := { S.m with objs := putAll S.m.objs (freezeAll [id]) } } a w := by
  obtain ⟨hd, hb, g, cur, et, m1, m2, m3⟩ := hs.h.obj id _ ho
  refine ⟨hd, g, cur, hb, m1, m3, fun W hW j v hj => ?_, ⟨hs.h.freeze [id] (fun i hi => by rw [List.mem_singleton.1 hi, ho]; rfl), hs.sz, fun t => (hs.t t).mono β.ext_refl (Snap.ext_plus hs.h.snap β [id]), hs.df⟩⟩
  have : (ro.plus β w [id]) g = some (.cells cur et (0, 0)) := by
    unfold Snap.plus
    rw [if_pos ⟨id, List.mem_singleton.2 rfl, hd, hb, m1⟩, m2]
  have := hW g _ this
  rw [cell_of_row W g j cur et (0, 0) this]
  simpa using hj
end Go.Cat
