/-
  My own text: a part of the proof.
  My own text: a part of the proof.
  My own text: a part of the proof.
  My own text: a part of the proof.
  My own text: a part of the proof.
  My own text: a part of the proof.
  My own text: a part of the proof.
  My own text: a part of the proof.
  My own text: a part of the proof.
  My own text: a part of the proof.
-/
import Derived.Test.YtiflikkmjeikdaaGreatC3
import Derived.ChangeShapes
import Derived.OpenShut
import Derived.Carry
import Derived.WideShapes
set_option linter.unusedVariables false
set_option linter.unusedSimpArgs false
namespace Go.Cat
open Go
variable {P : Program} {E : Env} {w0 : Pt} {β : Pl} {ro : Snap} {D : Nat → Prop} {objs : Heap} {w : World}
def oneV (outs : List Value) : Value := if hh : outs.toArray.size = 1 then outs.toArray[0] else .tuple outs.toArray
def OwnOut (e : EN) (ets : List (Option Nat)) (ro' : Snap) (w w' : World) (x : T e) (u : Value) : Prop :=
  ∀ n, (ownCells (cells e x) ets n).2.length ≤ 64 → ∃ β' : Pl, RepS β' ro' (mkVal e (ownCells (cells e x) ets n).1) u ∧
    (∀ id o, putAll (fun _ => none) (ownCells (cells e x) ets n).2 id = some o → ∃ hd, β' id = some hd ∧ ObjAt β' ro' w' hd o ∧ ∀ g, hd.blk = some g → w.heap.size ≤ g ∧ ro' g = none) ∧
    (∀ id id' h h' g, β' id = some h → β' id' = some h' → h.blk = some g → h'.blk = some g → id = id') ∧
    ∀ id hd, β' id = some hd → n ≤ id ∧ id < n + 64 ∧ ∀ g, hd.blk = some g → g < w'.heap.size
structure SpecOk (P : Program) (n : Nat) (s : VSpec) : Prop where
  enters : Enters P n
  calls : ∀ (ro : Snap) (w : World) (x : TT s.params) (vs : List Value) (r : TT s.results), ro.le w → RepTT ro s.params x vs → s.fn x = some r →
    Calls P n vs.toArray w fun e w' => ∃ outs ro', e = .returned (oneV outs) ∧ Base w w' ∧ (∀ k, k < w.heap.size → w'.heap[k]? = w.heap[k]?) ∧ ro.ext ro' ∧ ro'.le w' ∧ (∀ b, b < w.heap.size → ro' b = ro b) ∧
      (match s.own with | none => RepTT ro' s.results r outs | some ets => ∃ e x u, oneT s.results r = some ⟨e, x⟩ ∧ outs = [u] ∧ OwnOut e ets ro' w w' x u)
theorem HSat.after (h : HSat w0 β ro D objs w) {w' : World} {ro' : Snap} (hb : Base w w') (hsame : ∀ k, k < w.heap.size → w'.heap[k]? = w.heap[k]?) (hx : ro.ext ro') (hle : ro'.le w') (hlow : ∀ b, b < w.heap.size → ro' b = ro b)
    {D' : Nat → Prop} (hD : ∀ id, D id → D' id) : HSat w0 β ro' D' objs w' := by
  refine ⟨h.base.trans hb, fun b hb' => ?_, fun k hk => (hsame k (Nat.lt_of_lt_of_le hk h.base.size)).trans (h.old k hk), hle, fun id hd hh => hD _ (h.dom id hd hh), fun id hd g h1 h2 => Nat.lt_of_lt_of_le (h.lt id hd g h1 h2) hb.size, fun id o ho => ?_,
    fun id o hd g h1 h2 h3 => ?_, h.above, h.inj⟩
  · rw [hlow b (Nat.lt_of_lt_of_le hb' h.base.size)]; exact h.low b hb'
  · obtain ⟨hd, h1, h2⟩ := h.obj id o ho
    exact ⟨hd, h1, h2.mono β.ext_refl hx fun g hg => hsame g (h.lt id hd g h1 hg)⟩
  · rw [hlow g (h.lt id hd g h2 h3)]; exact h.apart id o hd g h1 h2 h3
theorem kinds_cells (e : EN) (x : T e) : (cells e x).map kindOf = kinds e := by
  cases e with
  | st s => cases s <;> rfl
  | _ => rfl
theorem Rep.plain {r r' : Snap} {l : Leaf} {u : Value} (h : Rep r l u) (hk : ∀ e, kindOf l ≠ .sl e) : Rep r' l u := by
  cases h with
  | int k n h => exact .int k n h
  | bool b => exact .bool b
  | str b h => exact .str b h
  | nil e => exact absurd rfl (hk e)
  | sl e => exact absurd rfl (hk e)
theorem RepTT.plain {r r' : Snap} : ∀ {es : List EN} {x : TT es} {us : List Value}, hasSl es = false → RepTT r es x us → RepTT r' es x us
  | [], _, _, _, h => h
  | e :: es, x, us, hn, ⟨u, us', hu, hx, ht⟩ => by
    have hn2 : (((kinds e).any fun | .sl _ => true | _ => false) || hasSl es) = false := hn
    have hn' := Bool.or_eq_false_iff.1 hn2
    refine ⟨u, us', hu, ⟨⟨hx.1.1, fun j l v hl hv => (hx.1.2 j l v hl hv).plain fun e' he => ?_⟩, hx.2⟩, RepTT.plain hn'.2 ht⟩
    have hm : LK.sl e' ∈ kinds e := by
      rw [← kinds_cells e x.1, ← he]
      exact List.mem_map.2 ⟨l, List.mem_of_getElem? hl, rfl⟩
    exact List.any_eq_false.1 hn'.1 _ hm rfl
theorem repTT_L : ∀ {es : List EN} {x : TT es} {us : List Value}, RepTT ro es x us → RepL β ro ((nthT es x).map fun p => datSV p.1 p.2) us
  | [], _, _, h => by rw [show _ = [] from h]; exact .nil _ _
  | e :: es, (x, xs), us, ⟨u, us', hu, hx, ht⟩ => by
    subst hu
    exact .cons (datSV_rep hx) (repTT_L (es := es) ht)
theorem callSpec_none {n : Nat} {s : VSpec} (hs : SpecOk P n s) (hown : s.own = none) {nid : Nat} {as : List SV} {v : SV} {u : List (Nat × Option SO)} {rs : List Nat} (h : (callSpec nid s as).run objs [] = some ((v, u), rs))
    (hH : HSat w0 β ro D objs w) {vs : List Value} (hv : RepL β ro as vs) : Calls P n vs.toArray w (CallPost w0 β ro (fun id => D id ∨ (nid ≤ id ∧ id < nid + 64)) (putAll objs u) v) := by
  unfold callSpec at h
  obtain ⟨x, is, rs1, h1, h2⟩ := toTT_run h
  simp only [OT.run] at h2
  cases hf : s.fn x with
  | none => simp [hf] at h2
  | some r =>
    simp only [hf, Option.bind_some, hown, OT.run] at h2
    cases h2
    obtain ⟨a1, a2⟩ := ttOf_rep hH h1 hv
    have hargs := a2 is (fun _ h => h)
    refine Calls.mono (hs.calls _ w x vs r (Snap.plus_le hH.snap β is) hargs hf) ?_
    rintro e w' ⟨outs, ro', rfl, k1, k2, k3, k4, k5, k6⟩
    rw [hown] at k6
    cases hsl : hasSl s.results with
    | true =>
      have hfz := hH.freeze is a1
      refine ⟨_, β, ro', rfl, β.ext_refl, Snap.ext_trans (Snap.ext_plus hH.snap β is) k3, oneOr_rep (repTT_L k6), ?_⟩
      exact hfz.after k1 k2 k3 k4 k5 (fun _ h => .inl h)
    | false =>
      refine ⟨_, β, ro, rfl, β.ext_refl, ro.ext_refl, oneOr_rep (repTT_L (RepTT.plain hsl k6)), ?_⟩
      refine hH.after k1 k2 ro.ext_refl (fun b o hb => ?_) (fun _ _ => rfl) (fun _ h => .inl h)
      have hb' := hH.snap b o hb
      rw [k2 b (Array.getElem?_eq_some_iff.1 hb').1]
      exact hb'
theorem ttOf_length {H : Heap} : ∀ {es : List EN} {vs : List SV} {x : TT es} {is : List Nat}, ttOf H es vs = some (x, is) → vs.length = es.length
  | [], [], _, _, _ => rfl
  | e :: es, v :: vs, x, is, h => by
    simp only [ttOf] at h
    split at h
    · rename_i y i z j h1 h2
      simp [ttOf_length (es := es) h2]
    · cases h
  | [], _ :: _, _, _, h => by simp [ttOf] at h
  | _ :: _, [], _, _, h => by simp [ttOf] at h
theorem outSV_tup {l : List SV} {n : Nat} (h : n ≠ 1) : outSV (.tup l) n = l := by
  unfold outSV
  split <;> simp_all
def treeOf (E : Env) (f : Nat) (as : List SV) (results : List EN) : Tr (TT results) :=
  callK E 9 f as { objs := fun _ => none, next := 0, wl := [] } fun v m => (toTT results (outSV v results.length) fun r _ => OT.out r).k m.objs [] fun r _ => .ret r
theorem tree_calls (hE : TysOk P E) (hS : SpecSound P E) (hmix : P.follows .mixedOrders = true) (hI : InlOk P E) {f : Nat} {as : List SV} {results : List EN} {r : TT results} (hden : (treeOf E f as results).den = some r)
    {ro : Snap} {w : World} {vs : List Value} (hle : ro.le w) (hargs : RepL (fun _ => none) ro as vs) :
    Calls P f vs.toArray w fun e w' => ∃ outs ro', e = .returned (oneV outs) ∧ Base w w' ∧ (∀ k, k < w.heap.size → w'.heap[k]? = w.heap[k]?) ∧ ro.ext ro' ∧ ro'.le w' ∧ (∀ b, b < w.heap.size → ro' b = ro b) ∧ RepTT ro' results r outs := by
  unfold treeOf at hden
  obtain ⟨v, m', h1, h2⟩ := (callK_den hE hS hmix hI 9).den _ _ _ _ _ hden
  obtain ⟨r', rs, k1, k2⟩ := OT.k_den _ _ h2
  simp only [Tr.den] at k2
  cases k2
  obtain ⟨y, is, rs', t1, t2⟩ := toTT_run k1
  simp only [OT.run] at t2
  cases t2
  obtain ⟨_, _, hcall⟩ := h1
  have h0 : HSat ⟨w, ro, []⟩ (fun _ => none) ro (fun _ => False) (fun _ => none) w :=
    ⟨Base.refl w, fun _ _ => rfl, fun _ _ => rfl, hle, by simp, by simp, by simp, by simp, by simp, by simp⟩
  refine Calls.mono (hcall ⟨w, ro, []⟩ _ ro (fun _ => False) w vs h0 (fun _ h => h.elim) hargs) ?_
  rintro e w' ⟨u, β', ro', rfl, q1, q2, q3, q4⟩
  have hlen := ttOf_length t1
  have houts : ∃ outs, RepL β' ro' (outSV v results.length) outs ∧ oneV outs = u := by
    unfold outSV
    split
    · exact ⟨[u], .cons q3 (.nil _ _), rfl⟩
    · rename_i l hne
      cases q3 with
      | @tup _ us b1 b2 =>
        refine ⟨us, ⟨b1, b2⟩, ?_⟩
        rw [outSV_tup hne] at hlen
        have hl : us.length ≠ 1 := by rw [b1, hlen]; exact hne
        unfold oneV
        rw [dif_neg (by simpa using hl)]
    · exact ⟨[u], .cons q3 (.nil _ _), rfl⟩
  obtain ⟨outs, o1, o2⟩ := houts
  obtain ⟨a1, a2⟩ := ttOf_rep q4 t1 o1
  have hfz := q4.freeze is a1
  exact ⟨outs, ro'.plus β' w' is, by rw [o2], hfz.base, hfz.old, Snap.ext_trans q2 (Snap.ext_plus q4.snap β' is), hfz.snap, hfz.low, a2 is fun _ h => h⟩
theorem fnTree_spec (hE : TysOk P E) (hS : SpecSound P E) (hmix : P.follows .mixedOrders = true) (hI : InlOk P E) {f : Nat} (hent : Enters P f) (params results : List EN) :
    SpecOk P f ⟨params, results, none, fun x => (fnTree E f params results x).den⟩ :=
  ⟨hent, fun _ _ _ _ _ hle hargs hden => tree_calls hE hS hmix hI hden hle (repTT_L hargs)⟩
theorem nil_split (hE : TysOk P E) (hS : SpecSound P E) (hmix : P.follows .mixedOrders = true) (hI : InlOk P E) {f : Nat} (hent : Enters P f) {e : EN} {results : List EN} {g : List (T e) → Option (TT results)}
    (h0 : ∀ r, g [] = some r → (treeOf E f [.lit (.slice none 0 0)] results).den = some r) (h1 : ∀ xs r, g xs = some r → (treeOf E f [.nn e xs] results).den = some r) :
    SpecOk P f ⟨[.sl e], results, none, fun x => g x.1⟩ := by
  refine ⟨hent, fun ro w x vs r hle hargs hden => ?_⟩
  obtain ⟨xs, _⟩ := x
  obtain ⟨u, us, rfl, hx, hn⟩ := hargs
  have hus : us = [] := hn
  subst hus
  have hrep : Rep ro (.sl e xs) u := by
    obtain ⟨hc, ha⟩ := hx
    have hna : ¬ ∃ cs, u = .agg cs := fun hh => by have := ha.2 hh; simp [isAggE] at this
    have hcells : u.cells.toList = [u] := by cases u <;> first | rfl | exact absurd ⟨_, rfl⟩ hna
    exact hc.2 0 (.sl e xs) u rfl (by rw [hcells]; rfl)
  cases hrep with
  | nil => exact tree_calls hE hS hmix hI (h0 r hden) hle (.cons (.lit (.inl rfl)) (.nil _ _))
  | sl _ _ a cap us2 q1 q2 q3 q4 q5 => exact tree_calls hE hS hmix hI (h1 xs r hden) hle (.cons (.nn (.sl e xs a cap us2 q1 q2 q3 q4 q5)) (.nil _ _))
inductive OkL : Leaf → Prop
  | int (k : IntKind) (n : Int) (h : rngB k n = true) : OkL (.int k n)
  | bool (b : Bool) : OkL (.bool b)
  | str (s : List Int) (h : s.length ≤ maxLen) (h2 : ∀ c ∈ s, 0 ≤ c ∧ c < 256) : OkL (.str s)
  | sl (e : EN) (xs : List (T e)) (h : xs.length ≤ maxLen) (hx : ∀ (i : Nat) (x : T e) (j : Nat) (l : Leaf), xs[i]? = some x → (cells e x)[j]? = some l → OkL l) : OkL (.sl e xs)
theorem Rep.ok {l : Leaf} {v : Value} (h : Rep ro l v) : OkL l := by
  induction h with
  | int k n h => exact .int k n h
  | bool b => exact .bool b
  | str b h =>
    refine .str _ ?_ fun c hc => ?_
    · have : (strOf b).length = b.size := by
        show (List.map _ b.data.toList).length = b.data.size
        rw [List.length_map, Array.length_toList]
      exact this ▸ h
    · simp only [strOf, List.mem_map] at hc
      obtain ⟨u, _, rfl⟩ := hc
      have := u.toNat_lt
      omega
  | nil e => exact .sl e [] (Nat.zero_le _) (fun i x j l h => by cases i <;> cases h)
  | sl e xs a cap us hs hc hm hcell hrep ih => exact .sl e xs (by omega) ih
def OkT (e : EN) (x : T e) : Prop := ∀ l ∈ cells e x, OkL l
theorem RepT.ok {e : EN} {x : T e} {u : Value} (h : RepT ro e x u) : OkT e x := by
  intro l hl
  obtain ⟨j, hj⟩ := List.mem_iff_getElem?.1 hl
  have hlt : j < u.cells.toList.length := by rw [h.1.1]; exact (List.getElem?_eq_some_iff.1 hj).1
  exact (h.1.2 j l _ hj (List.getElem?_eq_getElem hlt)).ok
def OkTT : (es : List EN) → TT es → Prop
  | [], _ => True
  | e :: es, x => OkT e x.1 ∧ OkTT es x.2
theorem RepTT.ok : ∀ {es : List EN} {x : TT es} {us : List Value}, RepTT ro es x us → OkTT es x
  | [], _, _, _ => trivial
  | e :: es, (x, xs), us, ⟨u, us', _, hx, ht⟩ => ⟨hx.ok, RepTT.ok (es := es) ht⟩
theorem SpecOk.weaken {n : Nat} {ps rs : List EN} {own : Option (List (Option Nat))} {f g : TT ps → Option (TT rs)} (h : SpecOk P n ⟨ps, rs, own, f⟩) (hg : ∀ x r, OkTT ps x → g x = some r → f x = some r) : SpecOk P n ⟨ps, rs, own, g⟩ :=
  ⟨h.enters, fun ro w x vs r hle hargs hr => h.calls ro w x vs r hle hargs (hg x r hargs.ok hr)⟩
theorem okT_sl {e : EN} {xs : List (T e)} (h : OkT (.sl e) xs) : xs.length ≤ maxLen ∧ ∀ x ∈ xs, OkT e x := by
  have := h (.sl e xs) (List.mem_singleton.2 rfl)
  cases this with
  | sl _ _ h1 h2 =>
    refine ⟨h1, fun x hx l hl => ?_⟩
    obtain ⟨i, hi⟩ := List.mem_iff_getElem?.1 hx
    obtain ⟨j, hj⟩ := List.mem_iff_getElem?.1 hl
    exact h2 i x j l hi hj
end Go.Cat

namespace Go.Cat
open Go
theorem kcons {k : LK} {ks : List LK} {l : List Leaf} (h : l.map kindOf = k :: ks) : ∃ a l', l = a :: l' ∧ kindOf a = k ∧ l'.map kindOf = ks := by
  cases l with
  | nil => simp at h
  | cons a l => simp at h; exact ⟨a, l, rfl, h.1, h.2⟩
theorem knil {l : List Leaf} (h : l.map kindOf = []) : l = [] := by simpa using h
theorem kint {a : Leaf} {k : IntKind} (h : kindOf a = .int k) : ∃ n, a = .int k n := by cases a <;> simp [kindOf] at h; subst h; exact ⟨_, rfl⟩
theorem kbool {a : Leaf} (h : kindOf a = .bool) : ∃ n, a = .bool n := by cases a <;> simp [kindOf] at h; exact ⟨_, rfl⟩
theorem kstr {a : Leaf} (h : kindOf a = .str) : ∃ n, a = .str n := by cases a <;> simp [kindOf] at h; exact ⟨_, rfl⟩
theorem ksl {a : Leaf} {e : EN} (h : kindOf a = .sl e) : ∃ n, a = .sl e n := by cases a <;> simp [kindOf] at h; subst h; exact ⟨_, rfl⟩
theorem of_Sector {l : List Leaf} (h : l.map kindOf = stKinds .Sector) : ∃ x, stOf .Sector l = some x := by
  obtain ⟨a0, l0, rfl, h0, g0⟩ := kcons h; obtain ⟨b0, rfl⟩ := ksl h0
  obtain ⟨a1, l1, rfl, h1, g1⟩ := kcons g0; obtain ⟨b1, rfl⟩ := kbool h1
  obtain rfl := knil g1
  exact ⟨_, rfl⟩
theorem of_Pend {l : List Leaf} (h : l.map kindOf = stKinds .Pend) : ∃ x, stOf .Pend l = some x := by
  obtain ⟨a0, l0, rfl, h0, g0⟩ := kcons h; obtain ⟨b0, rfl⟩ := kint h0
  obtain ⟨a1, l1, rfl, h1, g1⟩ := kcons g0; obtain ⟨b1, rfl⟩ := ksl h1
  obtain rfl := knil g1
  exact ⟨_, rfl⟩
theorem of_Disk {l : List Leaf} (h : l.map kindOf = stKinds .Disk) : ∃ x, stOf .Disk l = some x := by
  obtain ⟨a0, l0, rfl, h0, g0⟩ := kcons h; obtain ⟨b0, rfl⟩ := ksl h0
  obtain ⟨a1, l1, rfl, h1, g1⟩ := kcons g0; obtain ⟨b1, rfl⟩ := ksl h1
  obtain rfl := knil g1
  exact ⟨_, rfl⟩
theorem of_Super {l : List Leaf} (h : l.map kindOf = stKinds .Super) : ∃ x, stOf .Super l = some x := by
  obtain ⟨a0, l0, rfl, h0, g0⟩ := kcons h; obtain ⟨b0, rfl⟩ := kint h0
  obtain ⟨a1, l1, rfl, h1, g1⟩ := kcons g0; obtain ⟨b1, rfl⟩ := kint h1
  obtain ⟨a2, l2, rfl, h2, g2⟩ := kcons g1; obtain ⟨b2, rfl⟩ := kint h2
  obtain rfl := knil g2
  exact ⟨_, rfl⟩
theorem of_Rec {l : List Leaf} (h : l.map kindOf = stKinds .Rec) : ∃ x, stOf .Rec l = some x := by
  obtain ⟨a0, l0, rfl, h0, g0⟩ := kcons h; obtain ⟨b0, rfl⟩ := kint h0
  obtain ⟨a1, l1, rfl, h1, g1⟩ := kcons g0; obtain ⟨b1, rfl⟩ := kint h1
  obtain ⟨a2, l2, rfl, h2, g2⟩ := kcons g1; obtain ⟨b2, rfl⟩ := kint h2
  obtain ⟨a3, l3, rfl, h3, g3⟩ := kcons g2; obtain ⟨b3, rfl⟩ := kint h3
  obtain ⟨a4, l4, rfl, h4, g4⟩ := kcons g3; obtain ⟨b4, rfl⟩ := kint h4
  obtain ⟨a5, l5, rfl, h5, g5⟩ := kcons g4; obtain ⟨b5, rfl⟩ := kint h5
  obtain ⟨a6, l6, rfl, h6, g6⟩ := kcons g5; obtain ⟨b6, rfl⟩ := kbool h6
  obtain ⟨a7, l7, rfl, h7, g7⟩ := kcons g6; obtain ⟨b7, rfl⟩ := kbool h7
  obtain rfl := knil g7
  exact ⟨_, rfl⟩
theorem of_Meta {l : List Leaf} (h : l.map kindOf = stKinds .Meta) : ∃ x, stOf .Meta l = some x := by
  obtain ⟨a0, l0, rfl, h0, g0⟩ := kcons h; obtain ⟨b0, rfl⟩ := kint h0
  obtain ⟨a1, l1, rfl, h1, g1⟩ := kcons g0; obtain ⟨b1, rfl⟩ := kint h1
  obtain ⟨a2, l2, rfl, h2, g2⟩ := kcons g1; obtain ⟨b2, rfl⟩ := kint h2
  obtain ⟨a3, l3, rfl, h3, g3⟩ := kcons g2; obtain ⟨b3, rfl⟩ := kint h3
  obtain ⟨a4, l4, rfl, h4, g4⟩ := kcons g3; obtain ⟨b4, rfl⟩ := kint h4
  obtain ⟨a5, l5, rfl, h5, g5⟩ := kcons g4; obtain ⟨b5, rfl⟩ := ksl h5
  obtain rfl := knil g5
  exact ⟨_, rfl⟩
theorem of_Msg {l : List Leaf} (h : l.map kindOf = stKinds .Msg) : ∃ x, stOf .Msg l = some x := by
  obtain ⟨a0, l0, rfl, h0, g0⟩ := kcons h; obtain ⟨b0, rfl⟩ := kint h0
  obtain ⟨a1, l1, rfl, h1, g1⟩ := kcons g0; obtain ⟨b1, rfl⟩ := kint h1
  obtain ⟨a2, l2, rfl, h2, g2⟩ := kcons g1; obtain ⟨b2, rfl⟩ := kbool h2
  obtain ⟨a3, l3, rfl, h3, g3⟩ := kcons g2; obtain ⟨b3, rfl⟩ := kint h3
  obtain ⟨a4, l4, rfl, h4, g4⟩ := kcons g3; obtain ⟨b4, rfl⟩ := kint h4
  obtain ⟨a5, l5, rfl, h5, g5⟩ := kcons g4; obtain ⟨b5, rfl⟩ := kint h5
  obtain ⟨a6, l6, rfl, h6, g6⟩ := kcons g5; obtain ⟨b6, rfl⟩ := kint h6
  obtain ⟨a7, l7, rfl, h7, g7⟩ := kcons g6; obtain ⟨b7, rfl⟩ := kint h7
  obtain ⟨a8, l8, rfl, h8, g8⟩ := kcons g7; obtain ⟨b8, rfl⟩ := kint h8
  obtain ⟨a9, l9, rfl, h9, g9⟩ := kcons g8; obtain ⟨b9, rfl⟩ := kbool h9
  obtain ⟨a10, l10, rfl, h10, g10⟩ := kcons g9; obtain ⟨b10, rfl⟩ := kbool h10
  obtain ⟨a11, l11, rfl, h11, g11⟩ := kcons g10; obtain ⟨b11, rfl⟩ := kint h11
  obtain ⟨a12, l12, rfl, h12, g12⟩ := kcons g11; obtain ⟨b12, rfl⟩ := kint h12
  obtain ⟨a13, l13, rfl, h13, g13⟩ := kcons g12; obtain ⟨b13, rfl⟩ := kint h13
  obtain ⟨a14, l14, rfl, h14, g14⟩ := kcons g13; obtain ⟨b14, rfl⟩ := kint h14
  obtain ⟨a15, l15, rfl, h15, g15⟩ := kcons g14; obtain ⟨b15, rfl⟩ := kint h15
  obtain ⟨a16, l16, rfl, h16, g16⟩ := kcons g15; obtain ⟨b16, rfl⟩ := kint h16
  obtain ⟨a17, l17, rfl, h17, g17⟩ := kcons g16; obtain ⟨b17, rfl⟩ := ksl h17
  obtain ⟨a18, l18, rfl, h18, g18⟩ := kcons g17; obtain ⟨b18, rfl⟩ := ksl h18
  obtain rfl := knil g18
  exact ⟨_, rfl⟩
theorem of_Reply {l : List Leaf} (h : l.map kindOf = stKinds .Reply) : ∃ x, stOf .Reply l = some x := by
  obtain ⟨a0, l0, rfl, h0, g0⟩ := kcons h; obtain ⟨b0, rfl⟩ := kint h0
  obtain ⟨a1, l1, rfl, h1, g1⟩ := kcons g0; obtain ⟨b1, rfl⟩ := kint h1
  obtain ⟨a2, l2, rfl, h2, g2⟩ := kcons g1; obtain ⟨b2, rfl⟩ := kint h2
  obtain ⟨a3, l3, rfl, h3, g3⟩ := kcons g2; obtain ⟨b3, rfl⟩ := ksl h3
  obtain rfl := knil g3
  exact ⟨_, rfl⟩
theorem of_Act {l : List Leaf} (h : l.map kindOf = stKinds .Act) : ∃ x, stOf .Act l = some x := by
  obtain ⟨a0, l0, rfl, h0, g0⟩ := kcons h; obtain ⟨b0, rfl⟩ := kint h0
  obtain ⟨a1, l1, rfl, h1, g1⟩ := kcons g0; obtain ⟨b1, rfl⟩ := kint h1
  obtain ⟨a2, l2, rfl, h2, g2⟩ := kcons g1; obtain ⟨b2, rfl⟩ := ksl h2
  obtain ⟨a3, l3, rfl, h3, g3⟩ := kcons g2; obtain ⟨b3, rfl⟩ := kint h3
  obtain ⟨a4, l4, rfl, h4, g4⟩ := kcons g3; obtain ⟨b4, rfl⟩ := kint h4
  obtain ⟨a5, l5, rfl, h5, g5⟩ := kcons g4; obtain ⟨b5, rfl⟩ := kint h5
  obtain ⟨a6, l6, rfl, h6, g6⟩ := kcons g5; obtain ⟨b6, rfl⟩ := kint h6
  obtain ⟨a7, l7, rfl, h7, g7⟩ := kcons g6; obtain ⟨b7, rfl⟩ := kbool h7
  obtain ⟨a8, l8, rfl, h8, g8⟩ := kcons g7; obtain ⟨b8, rfl⟩ := kint h8
  obtain ⟨a9, l9, rfl, h9, g9⟩ := kcons g8; obtain ⟨b9, rfl⟩ := kint h9
  obtain ⟨a10, l10, rfl, h10, g10⟩ := kcons g9; obtain ⟨b10, rfl⟩ := kint h10
  obtain ⟨a11, l11, rfl, h11, g11⟩ := kcons g10; obtain ⟨b11, rfl⟩ := kint h11
  obtain ⟨a12, l12, rfl, h12, g12⟩ := kcons g11; obtain ⟨b12, rfl⟩ := kint h12
  obtain ⟨a13, l13, rfl, h13, g13⟩ := kcons g12; obtain ⟨b13, rfl⟩ := kint h13
  obtain ⟨a14, l14, rfl, h14, g14⟩ := kcons g13; obtain ⟨b14, rfl⟩ := kbool h14
  obtain ⟨a15, l15, rfl, h15, g15⟩ := kcons g14; obtain ⟨b15, rfl⟩ := kbool h15
  obtain ⟨a16, l16, rfl, h16, g16⟩ := kcons g15; obtain ⟨b16, rfl⟩ := kint h16
  obtain ⟨a17, l17, rfl, h17, g17⟩ := kcons g16; obtain ⟨b17, rfl⟩ := kint h17
  obtain ⟨a18, l18, rfl, h18, g18⟩ := kcons g17; obtain ⟨b18, rfl⟩ := kint h18
  obtain ⟨a19, l19, rfl, h19, g19⟩ := kcons g18; obtain ⟨b19, rfl⟩ := kint h19
  obtain ⟨a20, l20, rfl, h20, g20⟩ := kcons g19; obtain ⟨b20, rfl⟩ := kint h20
  obtain ⟨a21, l21, rfl, h21, g21⟩ := kcons g20; obtain ⟨b21, rfl⟩ := kint h21
  obtain ⟨a22, l22, rfl, h22, g22⟩ := kcons g21; obtain ⟨b22, rfl⟩ := ksl h22
  obtain ⟨a23, l23, rfl, h23, g23⟩ := kcons g22; obtain ⟨b23, rfl⟩ := ksl h23
  obtain ⟨a24, l24, rfl, h24, g24⟩ := kcons g23; obtain ⟨b24, rfl⟩ := kint h24
  obtain ⟨a25, l25, rfl, h25, g25⟩ := kcons g24; obtain ⟨b25, rfl⟩ := kint h25
  obtain ⟨a26, l26, rfl, h26, g26⟩ := kcons g25; obtain ⟨b26, rfl⟩ := kint h26
  obtain ⟨a27, l27, rfl, h27, g27⟩ := kcons g26; obtain ⟨b27, rfl⟩ := ksl h27
  obtain ⟨a28, l28, rfl, h28, g28⟩ := kcons g27; obtain ⟨b28, rfl⟩ := kint h28
  obtain rfl := knil g28
  exact ⟨_, rfl⟩
theorem of_Ask {l : List Leaf} (h : l.map kindOf = stKinds .Ask) : ∃ x, stOf .Ask l = some x := by
  obtain ⟨a0, l0, rfl, h0, g0⟩ := kcons h; obtain ⟨b0, rfl⟩ := kint h0
  obtain ⟨a1, l1, rfl, h1, g1⟩ := kcons g0; obtain ⟨b1, rfl⟩ := kint h1
  obtain ⟨a2, l2, rfl, h2, g2⟩ := kcons g1; obtain ⟨b2, rfl⟩ := kint h2
  obtain ⟨a3, l3, rfl, h3, g3⟩ := kcons g2; obtain ⟨b3, rfl⟩ := kint h3
  obtain ⟨a4, l4, rfl, h4, g4⟩ := kcons g3; obtain ⟨b4, rfl⟩ := kint h4
  obtain ⟨a5, l5, rfl, h5, g5⟩ := kcons g4; obtain ⟨b5, rfl⟩ := ksl h5
  obtain rfl := knil g5
  exact ⟨_, rfl⟩
theorem of_Mail {l : List Leaf} (h : l.map kindOf = stKinds .Mail) : ∃ x, stOf .Mail l = some x := by
  obtain ⟨a0, l0, rfl, h0, g0⟩ := kcons h; obtain ⟨b0, rfl⟩ := kint h0
  obtain ⟨a1, l1, rfl, h1, g1⟩ := kcons g0; obtain ⟨b1, rfl⟩ := kint h1
  obtain ⟨a2, l2, rfl, h2, g2⟩ := kcons g1; obtain ⟨b2, rfl⟩ := kint h2
  obtain ⟨a3, l3, rfl, h3, g3⟩ := kcons g2; obtain ⟨b3, rfl⟩ := kint h3
  obtain ⟨a4, l4, rfl, h4, g4⟩ := kcons g3; obtain ⟨b4, rfl⟩ := kint h4
  obtain ⟨a5, l5, rfl, h5, g5⟩ := kcons g4; obtain ⟨b5, rfl⟩ := kbool h5
  obtain ⟨a6, l6, rfl, h6, g6⟩ := kcons g5; obtain ⟨b6, rfl⟩ := kint h6
  obtain ⟨a7, l7, rfl, h7, g7⟩ := kcons g6; obtain ⟨b7, rfl⟩ := kint h7
  obtain ⟨a8, l8, rfl, h8, g8⟩ := kcons g7; obtain ⟨b8, rfl⟩ := kint h8
  obtain ⟨a9, l9, rfl, h9, g9⟩ := kcons g8; obtain ⟨b9, rfl⟩ := kint h9
  obtain ⟨a10, l10, rfl, h10, g10⟩ := kcons g9; obtain ⟨b10, rfl⟩ := kint h10
  obtain ⟨a11, l11, rfl, h11, g11⟩ := kcons g10; obtain ⟨b11, rfl⟩ := kint h11
  obtain ⟨a12, l12, rfl, h12, g12⟩ := kcons g11; obtain ⟨b12, rfl⟩ := kbool h12
  obtain ⟨a13, l13, rfl, h13, g13⟩ := kcons g12; obtain ⟨b13, rfl⟩ := kbool h13
  obtain ⟨a14, l14, rfl, h14, g14⟩ := kcons g13; obtain ⟨b14, rfl⟩ := kint h14
  obtain ⟨a15, l15, rfl, h15, g15⟩ := kcons g14; obtain ⟨b15, rfl⟩ := kint h15
  obtain ⟨a16, l16, rfl, h16, g16⟩ := kcons g15; obtain ⟨b16, rfl⟩ := kint h16
  obtain ⟨a17, l17, rfl, h17, g17⟩ := kcons g16; obtain ⟨b17, rfl⟩ := kint h17
  obtain ⟨a18, l18, rfl, h18, g18⟩ := kcons g17; obtain ⟨b18, rfl⟩ := kint h18
  obtain ⟨a19, l19, rfl, h19, g19⟩ := kcons g18; obtain ⟨b19, rfl⟩ := kint h19
  obtain ⟨a20, l20, rfl, h20, g20⟩ := kcons g19; obtain ⟨b20, rfl⟩ := ksl h20
  obtain ⟨a21, l21, rfl, h21, g21⟩ := kcons g20; obtain ⟨b21, rfl⟩ := ksl h21
  obtain rfl := knil g21
  exact ⟨_, rfl⟩
theorem of_Sent {l : List Leaf} (h : l.map kindOf = stKinds .Sent) : ∃ x, stOf .Sent l = some x := by
  obtain ⟨a0, l0, rfl, h0, g0⟩ := kcons h; obtain ⟨b0, rfl⟩ := kint h0
  obtain ⟨a1, l1, rfl, h1, g1⟩ := kcons g0; obtain ⟨b1, rfl⟩ := kint h1
  obtain ⟨a2, l2, rfl, h2, g2⟩ := kcons g1; obtain ⟨b2, rfl⟩ := kbool h2
  obtain rfl := knil g2
  exact ⟨_, rfl⟩
theorem of_Wait {l : List Leaf} (h : l.map kindOf = stKinds .Wait) : ∃ x, stOf .Wait l = some x := by
  obtain ⟨a0, l0, rfl, h0, g0⟩ := kcons h; obtain ⟨b0, rfl⟩ := kint h0
  obtain ⟨a1, l1, rfl, h1, g1⟩ := kcons g0; obtain ⟨b1, rfl⟩ := kint h1
  obtain ⟨a2, l2, rfl, h2, g2⟩ := kcons g1; obtain ⟨b2, rfl⟩ := kint h2
  obtain ⟨a3, l3, rfl, h3, g3⟩ := kcons g2; obtain ⟨b3, rfl⟩ := kbool h3
  obtain rfl := knil g3
  exact ⟨_, rfl⟩
theorem of_Side {l : List Leaf} (h : l.map kindOf = stKinds .Side) : ∃ x, stOf .Side l = some x := by
  obtain ⟨a0, l0, rfl, h0, g0⟩ := kcons h; obtain ⟨b0, rfl⟩ := ksl h0
  obtain ⟨a1, l1, rfl, h1, g1⟩ := kcons g0; obtain ⟨b1, rfl⟩ := ksl h1
  obtain ⟨a2, l2, rfl, h2, g2⟩ := kcons g1; obtain ⟨b2, rfl⟩ := ksl h2
  obtain ⟨a3, l3, rfl, h3, g3⟩ := kcons g2; obtain ⟨b3, rfl⟩ := kint h3
  obtain ⟨a4, l4, rfl, h4, g4⟩ := kcons g3; obtain ⟨b4, rfl⟩ := ksl h4
  obtain ⟨a5, l5, rfl, h5, g5⟩ := kcons g4; obtain ⟨b5, rfl⟩ := ksl h5
  obtain ⟨a6, l6, rfl, h6, g6⟩ := kcons g5; obtain ⟨b6, rfl⟩ := kint h6
  obtain ⟨a7, l7, rfl, h7, g7⟩ := kcons g6; obtain ⟨b7, rfl⟩ := kint h7
  obtain ⟨a8, l8, rfl, h8, g8⟩ := kcons g7; obtain ⟨b8, rfl⟩ := kint h8
  obtain ⟨a9, l9, rfl, h9, g9⟩ := kcons g8; obtain ⟨b9, rfl⟩ := kint h9
  obtain ⟨a10, l10, rfl, h10, g10⟩ := kcons g9; obtain ⟨b10, rfl⟩ := kbool h10
  obtain ⟨a11, l11, rfl, h11, g11⟩ := kcons g10; obtain ⟨b11, rfl⟩ := kbool h11
  obtain ⟨a12, l12, rfl, h12, g12⟩ := kcons g11; obtain ⟨b12, rfl⟩ := kbool h12
  obtain ⟨a13, l13, rfl, h13, g13⟩ := kcons g12; obtain ⟨b13, rfl⟩ := kbool h13
  obtain rfl := knil g13
  exact ⟨_, rfl⟩
theorem of_Queue {l : List Leaf} (h : l.map kindOf = stKinds .Queue) : ∃ x, stOf .Queue l = some x := by
  obtain ⟨a0, l0, rfl, h0, g0⟩ := kcons h; obtain ⟨b0, rfl⟩ := ksl h0
  obtain ⟨a1, l1, rfl, h1, g1⟩ := kcons g0; obtain ⟨b1, rfl⟩ := kint h1
  obtain ⟨a2, l2, rfl, h2, g2⟩ := kcons g1; obtain ⟨b2, rfl⟩ := kint h2
  obtain rfl := knil g2
  exact ⟨_, rfl⟩
theorem of_End {l : List Leaf} (h : l.map kindOf = stKinds .End) : ∃ x, stOf .End l = some x := by
  obtain ⟨a0, l0, rfl, h0, g0⟩ := kcons h; obtain ⟨b0, rfl⟩ := kint h0
  obtain ⟨a1, l1, rfl, h1, g1⟩ := kcons g0; obtain ⟨b1, rfl⟩ := kint h1
  obtain ⟨a2, l2, rfl, h2, g2⟩ := kcons g1; obtain ⟨b2, rfl⟩ := kbool h2
  obtain ⟨a3, l3, rfl, h3, g3⟩ := kcons g2; obtain ⟨b3, rfl⟩ := kbool h3
  obtain ⟨a4, l4, rfl, h4, g4⟩ := kcons g3; obtain ⟨b4, rfl⟩ := kint h4
  obtain ⟨a5, l5, rfl, h5, g5⟩ := kcons g4; obtain ⟨b5, rfl⟩ := kint h5
  obtain ⟨a6, l6, rfl, h6, g6⟩ := kcons g5; obtain ⟨b6, rfl⟩ := ksl h6
  obtain ⟨a7, l7, rfl, h7, g7⟩ := kcons g6; obtain ⟨b7, rfl⟩ := kint h7
  obtain ⟨a8, l8, rfl, h8, g8⟩ := kcons g7; obtain ⟨b8, rfl⟩ := kint h8
  obtain ⟨a9, l9, rfl, h9, g9⟩ := kcons g8; obtain ⟨b9, rfl⟩ := kint h9
  obtain ⟨a10, l10, rfl, h10, g10⟩ := kcons g9; obtain ⟨b10, rfl⟩ := kint h10
  obtain rfl := knil g10
  exact ⟨_, rfl⟩
theorem of_Site {l : List Leaf} (h : l.map kindOf = stKinds .Site) : ∃ x, stOf .Site l = some x := by
  obtain ⟨a0, l0, rfl, h0, g0⟩ := kcons h; obtain ⟨b0, rfl⟩ := kint h0
  obtain ⟨a1, l1, rfl, h1, g1⟩ := kcons g0; obtain ⟨b1, rfl⟩ := ksl h1
  obtain ⟨a2, l2, rfl, h2, g2⟩ := kcons g1; obtain ⟨b2, rfl⟩ := ksl h2
  obtain ⟨a3, l3, rfl, h3, g3⟩ := kcons g2; obtain ⟨b3, rfl⟩ := kint h3
  obtain ⟨a4, l4, rfl, h4, g4⟩ := kcons g3; obtain ⟨b4, rfl⟩ := kint h4
  obtain ⟨a5, l5, rfl, h5, g5⟩ := kcons g4; obtain ⟨b5, rfl⟩ := kint h5
  obtain ⟨a6, l6, rfl, h6, g6⟩ := kcons g5; obtain ⟨b6, rfl⟩ := kint h6
  obtain ⟨a7, l7, rfl, h7, g7⟩ := kcons g6; obtain ⟨b7, rfl⟩ := kint h7
  obtain ⟨a8, l8, rfl, h8, g8⟩ := kcons g7; obtain ⟨b8, rfl⟩ := ksl h8
  obtain ⟨a9, l9, rfl, h9, g9⟩ := kcons g8; obtain ⟨b9, rfl⟩ := ksl h9
  obtain ⟨a10, l10, rfl, h10, g10⟩ := kcons g9; obtain ⟨b10, rfl⟩ := kint h10
  obtain ⟨a11, l11, rfl, h11, g11⟩ := kcons g10; obtain ⟨b11, rfl⟩ := kint h11
  obtain ⟨a12, l12, rfl, h12, g12⟩ := kcons g11; obtain ⟨b12, rfl⟩ := kbool h12
  obtain ⟨a13, l13, rfl, h13, g13⟩ := kcons g12; obtain ⟨b13, rfl⟩ := kbool h13
  obtain ⟨a14, l14, rfl, h14, g14⟩ := kcons g13; obtain ⟨b14, rfl⟩ := kint h14
  obtain ⟨a15, l15, rfl, h15, g15⟩ := kcons g14; obtain ⟨b15, rfl⟩ := kint h15
  obtain ⟨a16, l16, rfl, h16, g16⟩ := kcons g15; obtain ⟨b16, rfl⟩ := ksl h16
  obtain ⟨a17, l17, rfl, h17, g17⟩ := kcons g16; obtain ⟨b17, rfl⟩ := kint h17
  obtain ⟨a18, l18, rfl, h18, g18⟩ := kcons g17; obtain ⟨b18, rfl⟩ := kint h18
  obtain ⟨a19, l19, rfl, h19, g19⟩ := kcons g18; obtain ⟨b19, rfl⟩ := kint h19
  obtain ⟨a20, l20, rfl, h20, g20⟩ := kcons g19; obtain ⟨b20, rfl⟩ := kint h20
  obtain ⟨a21, l21, rfl, h21, g21⟩ := kcons g20; obtain ⟨b21, rfl⟩ := ksl h21
  obtain ⟨a22, l22, rfl, h22, g22⟩ := kcons g21; obtain ⟨b22, rfl⟩ := ksl h22
  obtain ⟨a23, l23, rfl, h23, g23⟩ := kcons g22; obtain ⟨b23, rfl⟩ := ksl h23
  obtain ⟨a24, l24, rfl, h24, g24⟩ := kcons g23; obtain ⟨b24, rfl⟩ := ksl h24
  obtain ⟨a25, l25, rfl, h25, g25⟩ := kcons g24; obtain ⟨b25, rfl⟩ := ksl h25
  obtain ⟨a26, l26, rfl, h26, g26⟩ := kcons g25; obtain ⟨b26, rfl⟩ := kint h26
  obtain ⟨a27, l27, rfl, h27, g27⟩ := kcons g26; obtain ⟨b27, rfl⟩ := kbool h27
  obtain rfl := knil g27
  exact ⟨_, rfl⟩
theorem of_Config {l : List Leaf} (h : l.map kindOf = stKinds .Config) : ∃ x, stOf .Config l = some x := by
  obtain ⟨a0, l0, rfl, h0, g0⟩ := kcons h; obtain ⟨b0, rfl⟩ := kint h0
  obtain ⟨a1, l1, rfl, h1, g1⟩ := kcons g0; obtain ⟨b1, rfl⟩ := kint h1
  obtain ⟨a2, l2, rfl, h2, g2⟩ := kcons g1; obtain ⟨b2, rfl⟩ := kint h2
  obtain ⟨a3, l3, rfl, h3, g3⟩ := kcons g2; obtain ⟨b3, rfl⟩ := kint h3
  obtain ⟨a4, l4, rfl, h4, g4⟩ := kcons g3; obtain ⟨b4, rfl⟩ := kint h4
  obtain ⟨a5, l5, rfl, h5, g5⟩ := kcons g4; obtain ⟨b5, rfl⟩ := kint h5
  obtain rfl := knil g5
  exact ⟨_, rfl⟩
theorem of_Bound {l : List Leaf} (h : l.map kindOf = stKinds .Bound) : ∃ x, stOf .Bound l = some x := by
  obtain ⟨a0, l0, rfl, h0, g0⟩ := kcons h; obtain ⟨b0, rfl⟩ := kint h0
  obtain ⟨a1, l1, rfl, h1, g1⟩ := kcons g0; obtain ⟨b1, rfl⟩ := kint h1
  obtain ⟨a2, l2, rfl, h2, g2⟩ := kcons g1; obtain ⟨b2, rfl⟩ := kint h2
  obtain rfl := knil g2
  exact ⟨_, rfl⟩
theorem of_Part {l : List Leaf} (h : l.map kindOf = stKinds .Part) : ∃ x, stOf .Part l = some x := by
  obtain ⟨a0, l0, rfl, h0, g0⟩ := kcons h; obtain ⟨b0, rfl⟩ := kint h0
  obtain ⟨a1, l1, rfl, h1, g1⟩ := kcons g0; obtain ⟨b1, rfl⟩ := kint h1
  obtain ⟨a2, l2, rfl, h2, g2⟩ := kcons g1; obtain ⟨b2, rfl⟩ := kint h2
  obtain ⟨a3, l3, rfl, h3, g3⟩ := kcons g2; obtain ⟨b3, rfl⟩ := kint h3
  obtain rfl := knil g3
  exact ⟨_, rfl⟩
theorem of_Plain {l : List Leaf} (h : l.map kindOf = stKinds .Plain) : ∃ x, stOf .Plain l = some x := by
  obtain ⟨a0, l0, rfl, h0, g0⟩ := kcons h; obtain ⟨b0, rfl⟩ := kint h0
  obtain ⟨a1, l1, rfl, h1, g1⟩ := kcons g0; obtain ⟨b1, rfl⟩ := kint h1
  obtain ⟨a2, l2, rfl, h2, g2⟩ := kcons g1; obtain ⟨b2, rfl⟩ := kint h2
  obtain ⟨a3, l3, rfl, h3, g3⟩ := kcons g2; obtain ⟨b3, rfl⟩ := kint h3
  obtain ⟨a4, l4, rfl, h4, g4⟩ := kcons g3; obtain ⟨b4, rfl⟩ := kbool h4
  obtain ⟨a5, l5, rfl, h5, g5⟩ := kcons g4; obtain ⟨b5, rfl⟩ := kint h5
  obtain ⟨a6, l6, rfl, h6, g6⟩ := kcons g5; obtain ⟨b6, rfl⟩ := kint h6
  obtain ⟨a7, l7, rfl, h7, g7⟩ := kcons g6; obtain ⟨b7, rfl⟩ := kint h7
  obtain ⟨a8, l8, rfl, h8, g8⟩ := kcons g7; obtain ⟨b8, rfl⟩ := kint h8
  obtain ⟨a9, l9, rfl, h9, g9⟩ := kcons g8; obtain ⟨b9, rfl⟩ := kint h9
  obtain ⟨a10, l10, rfl, h10, g10⟩ := kcons g9; obtain ⟨b10, rfl⟩ := kint h10
  obtain ⟨a11, l11, rfl, h11, g11⟩ := kcons g10; obtain ⟨b11, rfl⟩ := kbool h11
  obtain ⟨a12, l12, rfl, h12, g12⟩ := kcons g11; obtain ⟨b12, rfl⟩ := kbool h12
  obtain ⟨a13, l13, rfl, h13, g13⟩ := kcons g12; obtain ⟨b13, rfl⟩ := kint h13
  obtain ⟨a14, l14, rfl, h14, g14⟩ := kcons g13; obtain ⟨b14, rfl⟩ := kint h14
  obtain ⟨a15, l15, rfl, h15, g15⟩ := kcons g14; obtain ⟨b15, rfl⟩ := kint h15
  obtain ⟨a16, l16, rfl, h16, g16⟩ := kcons g15; obtain ⟨b16, rfl⟩ := kint h16
  obtain rfl := knil g16
  exact ⟨_, rfl⟩
theorem of_Head {l : List Leaf} (h : l.map kindOf = stKinds .Head) : ∃ x, stOf .Head l = some x := by
  obtain ⟨a0, l0, rfl, h0, g0⟩ := kcons h; obtain ⟨b0, rfl⟩ := kint h0
  obtain ⟨a1, l1, rfl, h1, g1⟩ := kcons g0; obtain ⟨b1, rfl⟩ := kint h1
  obtain ⟨a2, l2, rfl, h2, g2⟩ := kcons g1; obtain ⟨b2, rfl⟩ := kint h2
  obtain ⟨a3, l3, rfl, h3, g3⟩ := kcons g2; obtain ⟨b3, rfl⟩ := kint h3
  obtain ⟨a4, l4, rfl, h4, g4⟩ := kcons g3; obtain ⟨b4, rfl⟩ := kint h4
  obtain ⟨a5, l5, rfl, h5, g5⟩ := kcons g4; obtain ⟨b5, rfl⟩ := kbool h5
  obtain ⟨a6, l6, rfl, h6, g6⟩ := kcons g5; obtain ⟨b6, rfl⟩ := kbool h6
  obtain ⟨a7, l7, rfl, h7, g7⟩ := kcons g6; obtain ⟨b7, rfl⟩ := kint h7
  obtain rfl := knil g7
  exact ⟨_, rfl⟩
theorem of_Round {l : List Leaf} (h : l.map kindOf = stKinds .Round) : ∃ x, stOf .Round l = some x := by
  obtain ⟨a0, l0, rfl, h0, g0⟩ := kcons h; obtain ⟨b0, rfl⟩ := ksl h0
  obtain ⟨a1, l1, rfl, h1, g1⟩ := kcons g0; obtain ⟨b1, rfl⟩ := kint h1
  obtain ⟨a2, l2, rfl, h2, g2⟩ := kcons g1; obtain ⟨b2, rfl⟩ := kint h2
  obtain rfl := knil g2
  exact ⟨_, rfl⟩
theorem of_Step {l : List Leaf} (h : l.map kindOf = stKinds .Step) : ∃ x, stOf .Step l = some x := by
  obtain ⟨a0, l0, rfl, h0, g0⟩ := kcons h; obtain ⟨b0, rfl⟩ := ksl h0
  obtain ⟨a1, l1, rfl, h1, g1⟩ := kcons g0; obtain ⟨b1, rfl⟩ := kint h1
  obtain ⟨a2, l2, rfl, h2, g2⟩ := kcons g1; obtain ⟨b2, rfl⟩ := ksl h2
  obtain ⟨a3, l3, rfl, h3, g3⟩ := kcons g2; obtain ⟨b3, rfl⟩ := kint h3
  obtain rfl := knil g3
  exact ⟨_, rfl⟩
theorem stOf_some : ∀ (s : SN) {l : List Leaf}, l.map kindOf = stKinds s → ∃ x, stOf s l = some x
  | .Sector, _, h => of_Sector h
  | .Pend, _, h => of_Pend h
  | .Disk, _, h => of_Disk h
  | .Super, _, h => of_Super h
  | .Rec, _, h => of_Rec h
  | .Meta, _, h => of_Meta h
  | .Msg, _, h => of_Msg h
  | .Reply, _, h => of_Reply h
  | .Act, _, h => of_Act h
  | .Ask, _, h => of_Ask h
  | .Mail, _, h => of_Mail h
  | .Sent, _, h => of_Sent h
  | .Wait, _, h => of_Wait h
  | .Side, _, h => of_Side h
  | .Queue, _, h => of_Queue h
  | .End, _, h => of_End h
  | .Site, _, h => of_Site h
  | .Config, _, h => of_Config h
  | .Bound, _, h => of_Bound h
  | .Part, _, h => of_Part h
  | .Plain, _, h => of_Plain h
  | .Head, _, h => of_Head h
  | .Round, _, h => of_Round h
  | .Step, _, h => of_Step h
theorem ofCells_some (e : EN) {l : List Leaf} (h : l.map kindOf = kinds e) : ∃ x, ofCells e l = some x := by
  cases e with
  | int k => obtain ⟨a, l, rfl, h1, h2⟩ := kcons h; obtain ⟨b, rfl⟩ := kint h1; obtain rfl := knil h2; exact ⟨b, by simp [ofCells]⟩
  | bool => obtain ⟨a, l, rfl, h1, h2⟩ := kcons h; obtain ⟨b, rfl⟩ := kbool h1; obtain rfl := knil h2; exact ⟨b, by simp [ofCells]⟩
  | str => obtain ⟨a, l, rfl, h1, h2⟩ := kcons h; obtain ⟨b, rfl⟩ := kstr h1; obtain rfl := knil h2; exact ⟨b, by simp [ofCells]⟩
  | sl e => obtain ⟨a, l, rfl, h1, h2⟩ := kcons h; obtain ⟨b, rfl⟩ := ksl h1; obtain rfl := knil h2; exact ⟨castT rfl b, by simp [ofCells]⟩
  | st s => exact stOf_some s h
end Go.Cat

namespace Go.Cat
open Go
variable {P : Program} {E : Env} {w0 : Pt} {β : Pl} {ro : Snap} {D : Nat → Prop} {H : Heap} {w : World}
inductive OwnRs (H : Heap) : List LK → List (Option Nat) → List SV → List Leaf → List Nat → List Nat → Prop
  | nil (ets : List (Option Nat)) : OwnRs H [] ets [] [] [] []
  | own {e : EN} {ks : List LK} {ets : List (Option Nat)} {et id : Nat} {xs : List (T e)} {vs : List SV} {ls : List Leaf} {is os : List Nat} (hk : ownNext (.sl e) ets = some et) (hH : H id = some (.row et e xs))
      (t : OwnRs H ks (ownRest (.sl e) ets) vs ls is os) : OwnRs H (.sl e :: ks) ets (.own id :: vs) (.sl e xs :: ls) is (id :: os)
  | none {e : EN} {ks : List LK} {ets : List (Option Nat)} {et : Nat} {vs : List SV} {ls : List Leaf} {is os : List Nat} (hk : ownNext (.sl e) ets = some et)
      (t : OwnRs H ks (ownRest (.sl e) ets) vs ls is os) : OwnRs H (.sl e :: ks) ets (.lit (.slice none 0 0) :: vs) (.sl e [] :: ls) is os
  | dat {k : LK} {ks : List LK} {ets : List (Option Nat)} {v : SV} {l : Leaf} {i : List Nat} {vs : List SV} {ls : List Leaf} {is os : List Nat} (hk : ownNext k ets = none) (hl : leafOf H k v = some (l, i))
      (t : OwnRs H ks (ownRest k ets) vs ls is os) : OwnRs H (k :: ks) ets (v :: vs) (l :: ls) (i ++ is) os
theorem ownNext_sl {k : LK} {ets : List (Option Nat)} {et : Nat} (h : ownNext k ets = some et) : ∃ e, k = .sl e := by
  cases k with
  | sl e => exact ⟨e, rfl⟩
  | _ => simp [ownNext] at h
theorem readOwn_run {A : Type} : ∀ {ks : List LK} {ets : List (Option Nat)} {vs : List SV} {f : List Leaf → List Nat → List Nat → OT A} {rs : List Nat} {r : A × List Nat}, (readOwn ks ets vs f).run H rs = some r →
    ∃ ls is os rs', OwnRs H ks ets vs ls is os ∧ (f ls is os).run H rs' = some r
  | [], ets, [], f, rs, r, h => ⟨[], [], [], rs, .nil ets, h⟩
  | k :: ks, ets, v :: vs, f, rs, r, h => by
    simp only [readOwn] at h
    have dat : ownNext k ets = none → (toLeaf k v fun l i => readOwn ks (ownRest k ets) vs fun ls is os => f (l :: ls) (i ++ is) os).run H rs = some r → ∃ ls is os rs', OwnRs H (k :: ks) ets (v :: vs) ls is os ∧ (f ls is os).run H rs' = some r := by
      intro hk h
      obtain ⟨l, i, rs1, h1, h2⟩ := toLeaf_run h
      obtain ⟨ls, is, os, rs2, h3, h4⟩ := readOwn_run h2
      exact ⟨_, _, _, _, .dat hk h1 h3, h4⟩
    cases hk : ownNext k ets with
    | none => rw [hk] at h; exact dat hk h
    | some et =>
      obtain ⟨e, rfl⟩ := ownNext_sl hk
      rw [hk] at h
      simp only at h
      obtain ⟨xs, o, rs1, h1, h2⟩ := ownRow_run h
      obtain ⟨ls, is, os, rs2, h3, h4⟩ := readOwn_run h2
      cases h1 with
      | nil => exact ⟨_, _, _, _, .none hk h3, h4⟩
      | row h1 => exact ⟨_, _, _, _, .own hk h1 h3, h4⟩
  | [], _, _ :: _, _, _, _, h => by simp [readOwn, OT.run] at h
  | _ :: _, _, [], _, _, _, h => by simp [readOwn, OT.run] at h
theorem putAll_or : ∀ (u : List (Nat × Option SO)) (G : Heap) (id : Nat), (∀ p ∈ u, p.2.isSome) → putAll G u id = (putAll (fun _ => none) u id).or (G id)
  | [], G, id, _ => rfl
  | (j, o) :: r, G, id, h => by
    simp only [putAll]
    have hr := fun p hp => h p (List.mem_cons_of_mem _ hp)
    rw [putAll_or r (putH G j o) id hr, putAll_or r (putH (fun _ => none) j o) id hr]
    cases hx : putAll (fun _ => none) r id with
    | some x => simp
    | none =>
      simp only [Option.none_or]
      by_cases hj : id = j
      · subst hj
        rw [putH_same, putH_same]
        obtain ⟨x, hx⟩ := Option.isSome_iff_exists.1 (h (id, o) List.mem_cons_self)
        simp only at hx
        rw [hx]; rfl
      · rw [putH_other _ _ hj, putH_other _ _ hj]; rfl
theorem ownCells_some : ∀ (ls : List Leaf) (ets : List (Option Nat)) (n : Nat), ∀ p ∈ (ownCells ls ets n).2, p.2.isSome
  | [], _, _ => by simp [ownCells]
  | l :: ls, ets, n => by
    intro p hp
    unfold ownCells at hp
    split at hp
    · rcases List.mem_cons.1 hp with rfl | hp
      · rfl
      · exact ownCells_some ls _ _ p hp
    · exact ownCells_some ls _ _ p hp
theorem leafOf_kind {k : LK} {v : SV} {l : Leaf} {is : List Nat} (h : leafOf H k v = some (l, is)) : kindOf l = k := by
  unfold leafOf at h
  cases k with
  | sl e =>
    simp only at h
    split at h
    · split at h
      · cases h; rename_i he; subst he; rfl
      · cases h
    · cases h; rfl
    · split at h
      · split at h
        · cases h; rename_i he; subst he; rfl
        · cases h
      · cases h
    · split at h
      · split at h
        · cases h; rename_i he; subst he; rfl
        · cases h
      · cases h
    · cases h
  | _ =>
    simp only at h
    repeat' split at h
    all_goals first | cases h; rfl | cases h
theorem ownCells_dat {l : Leaf} {ls : List Leaf} {ets : List (Option Nat)} {n : Nat} {k : LK} (hl : kindOf l = k) (hk : ownNext k ets = none) : ownCells (l :: ls) ets n = (.leaf l :: (ownCells ls (ownRest k ets) n).1, (ownCells ls (ownRest k ets) n).2) := by
  subst hl
  conv => lhs; unfold ownCells
  simp only [hk]
theorem ownCells_own {e : EN} {xs : List (T e)} {ls : List Leaf} {ets : List (Option Nat)} {n et : Nat} (hk : ownNext (.sl e) ets = some et) :
    ownCells (.sl e xs :: ls) ets n = (.own n :: (ownCells ls (ownRest (.sl e) ets) (n + 1)).1, (n, some (.row et e xs)) :: (ownCells ls (ownRest (.sl e) ets) (n + 1)).2) := by
  conv => lhs; unfold ownCells
  have hk' : ownNext (kindOf (.sl e xs)) ets = some et := hk
  simp only [hk']
  rfl
theorem ownRs_rep (hs : HSat w0 β ro D H w) {js : List Nat} : ∀ {ks : List LK} {ets : List (Option Nat)} {vs : List SV} {ls : List Leaf} {is os : List Nat} {us : List Value}, OwnRs H ks ets vs ls is os → RepL β ro vs us →
    (∀ i ∈ is, i ∈ js) → os.Nodup → ∃ hds : List Hd,
      (∀ n, (ownCells ls ets n).2.length = hds.length) ∧
      (∀ n (βx : Pl), (∀ i hd, hds[i]? = some hd → βx (n + i) = some hd) → RepL βx (ro.plus β w js) (ownCells ls ets n).1 us) ∧
      (∀ n id o, putAll (fun _ => none) (ownCells ls ets n).2 id = some o → ∃ i hd, id = n + i ∧ hds[i]? = some hd ∧ ObjAt β (ro.plus β w js) w hd o) ∧
      (∀ hd ∈ hds, ∀ g, hd.blk = some g → ∃ id o, id ∈ os ∧ H id = some o ∧ β id = some hd) ∧
      hds.Pairwise (fun a b => ∀ g, a.blk = some g → b.blk ≠ some g) := by
  intro ks ets vs ls is os us h
  induction h generalizing us with
  | nil ets =>
    intro hv _ _
    rw [hv.of_nil]
    exact ⟨[], fun _ => rfl, fun _ _ _ => .nil _ _, fun n id o h => by simp [ownCells, putAll] at h, by simp, .nil⟩
  | @dat k ks ets v l i vs ls is os hk hl t ih =>
    intro hv hjs hnd
    obtain ⟨u, us', rfl, h1, h2⟩ := hv.of_cons
    obtain ⟨hds, a1, a2, a3, a4, a5⟩ := ih h2 (fun i hi => hjs i (List.mem_append_right _ hi)) hnd
    have hrep := (leafOf_rep hs hl h1).2 js (fun i hi => hjs i (List.mem_append_left _ hi))
    have hkind := leafOf_kind hl
    refine ⟨hds, fun n => ?_, fun n βx hx => ?_, fun n id o => ?_, a4, a5⟩
    · rw [ownCells_dat hkind hk]; exact a1 n
    · rw [ownCells_dat hkind hk]; exact .cons (.leaf hrep) (a2 n βx hx)
    · rw [ownCells_dat hkind hk]; exact a3 n id o
  | @none e ks ets et vs ls is os hk t ih =>
    intro hv hjs hnd
    obtain ⟨u, us', rfl, h1, h2⟩ := hv.of_cons
    obtain ⟨hds, a1, a2, a3, a4, a5⟩ := ih h2 hjs hnd
    have hu : u = .slice none 0 0 := by cases h1; rfl
    subst hu
    refine ⟨{ blk := none, cap := 0, len := 0, esz := sz e } :: hds, fun n => ?_, fun n βx hx => ?_, fun n id o => ?_, ?_, ?_⟩
    · rw [ownCells_own hk]; simp [a1 (n + 1)]
    · rw [ownCells_own hk]
      refine .cons (RepS.own (h := { blk := none, cap := 0, len := 0, esz := sz e }) (hx 0 _ rfl)) (a2 (n + 1) βx fun i hd hi => ?_)
      have := hx (i + 1) hd (by simpa using hi)
      rw [← this]; congr 1; omega
    · rw [ownCells_own hk]
      simp only [putAll]
      rw [putAll_or _ _ _ (ownCells_some _ _ _)]
      intro ho
      cases hp : putAll (fun _ => none) (ownCells ls (ownRest (.sl e) ets) (n + 1)).2 id with
      | some x =>
        rw [hp] at ho
        simp only [Option.some_or] at ho
        cases ho
        obtain ⟨i, hd, b1, b2, b3⟩ := a3 (n + 1) id _ hp
        exact ⟨i + 1, hd, by omega, by simpa using b2, b3⟩
      | none =>
        rw [hp] at ho
        simp only [Option.none_or] at ho
        by_cases hid : id = n
        · subst hid
          rw [putH_same] at ho
          cases ho
          exact ⟨0, _, rfl, rfl, rfl, rfl, rfl⟩
        · rw [putH_other _ _ hid] at ho; cases ho
    · intro hd hm g hg
      rcases List.mem_cons.1 hm with rfl | hm
      · cases hg
      · exact a4 hd hm g hg
    · refine List.pairwise_cons.2 ⟨fun b _ g hg => ?_, a5⟩
      cases hg
  | @own e ks ets et id0 xs vs ls is os hk hH t ih =>
    intro hv hjs hnd
    obtain ⟨u, us', rfl, h1, h2⟩ := hv.of_cons
    obtain ⟨hn1, hn2⟩ := List.nodup_cons.1 hnd
    obtain ⟨hds, a1, a2, a3, a4, a5⟩ := ih h2 hjs hn2
    obtain ⟨hd0, hb0, ho0⟩ := hs.obj id0 _ hH
    have hu : u = hd0.val := by
      cases h1 with
      | own hb => rw [hb0] at hb; cases hb; rfl
    subst hu
    refine ⟨hd0 :: hds, fun n => ?_, fun n βx hx => ?_, fun n id o => ?_, ?_, ?_⟩
    · rw [ownCells_own hk]; simp [a1 (n + 1)]
    · rw [ownCells_own hk]
      refine .cons (.own (hx 0 _ rfl)) (a2 (n + 1) βx fun i hd hi => ?_)
      have := hx (i + 1) hd (by simpa using hi)
      rw [← this]; congr 1; omega
    · rw [ownCells_own hk]
      simp only [putAll]
      rw [putAll_or _ _ _ (ownCells_some _ _ _)]
      intro ho
      cases hp : putAll (fun _ => none) (ownCells ls (ownRest (.sl e) ets) (n + 1)).2 id with
      | some x =>
        rw [hp] at ho
        simp only [Option.some_or] at ho
        cases ho
        obtain ⟨i, hd, b1, b2, b3⟩ := a3 (n + 1) id _ hp
        exact ⟨i + 1, hd, by omega, by simpa using b2, b3⟩
      | none =>
        rw [hp] at ho
        simp only [Option.none_or] at ho
        by_cases hid : id = n
        · subst hid
          rw [putH_same] at ho
          cases ho
          exact ⟨0, hd0, rfl, rfl, ho0.mono β.ext_refl (Snap.ext_plus hs.snap β js) (fun _ _ => rfl)⟩
        · rw [putH_other _ _ hid] at ho; cases ho
    · intro hd hm g hg
      rcases List.mem_cons.1 hm with rfl | hm
      · exact ⟨id0, _, List.mem_cons_self, hH, hb0⟩
      · obtain ⟨id, o, b1, b2, b3⟩ := a4 hd hm g hg
        exact ⟨id, o, List.mem_cons_of_mem _ b1, b2, b3⟩
    · refine List.pairwise_cons.2 ⟨fun b hm g hg hb => ?_, a5⟩
      obtain ⟨id, o, b1, b2, b3⟩ := a4 b hm g hb
      have := hs.inj id0 id _ o hd0 b g hH b2 hb0 b3 hg hb
      subst this
      exact hn1 b1
theorem mkVal_of {e : EN} {cs : List SV} {u : Value} (hL : RepL β ro cs u.cells.toList) (ha : isAggE e = true ↔ ∃ cs, u = .agg cs) : RepS β ro (mkVal e cs) u := by
  unfold mkVal
  cases hag : isAggE e with
  | true =>
    obtain ⟨us, rfl⟩ := ha.1 hag
    simp only
    have := RepS.agg (us := us.toList) hL.1 hL.2
    simpa [Value.cells] using this
  | false =>
    have hn : ¬ ∃ cs, u = .agg cs := fun hh => by rw [ha.2 hh] at hag; cases hag
    have hu : u.cells.toList = [u] := by cases u <;> first | rfl | exact absurd ⟨_, rfl⟩ hn
    rw [hu] at hL
    match cs, hL with
    | [], hL => simp [RepL] at hL
    | [c], hL => exact hL.2 0 c u rfl rfl
    | _ :: _ :: _, hL => simp [RepL] at hL
theorem meet_false' {a b : List Nat} (h : meet a b = false) : ∀ i ∈ a, i ∉ b := by
  intro i hi hb
  have := List.any_eq_false.1 h i hi
  apply this
  clear this h hi
  induction b with
  | nil => cases hb
  | cons c r ih =>
    simp only [inB]
    by_cases hc : i = c
    · subst hc; simp
    · rcases List.mem_cons.1 hb with h | h
      · exact absurd h hc
      · split
        · rfl
        · exact ih h
def treeOwnOf (E : Env) (f : Nat) (as : List SV) (e : EN) (ets : List (Option Nat)) : Tr (TT [e]) :=
  callK E 9 f as { objs := fun _ => none, next := 0, wl := [] } fun v m => (ownOutT e ets v).k m.objs [] fun r _ => .ret r
theorem treeOwn_calls (hE : TysOk P E) (hS : SpecSound P E) (hmix : P.follows .mixedOrders = true) (hI : InlOk P E) {f : Nat} {as : List SV} {e : EN} {ets : List (Option Nat)} {r : TT [e]} (hden' : (treeOwnOf E f as e ets).den = some r)
    {ro : Snap} {w : World} {vs : List Value} (hle : ro.le w) (hargs' : RepL (fun _ => none) ro as vs) :
    Calls P f vs.toArray w fun e' w' => ∃ outs ro', e' = .returned (oneV outs) ∧ Base w w' ∧ (∀ k, k < w.heap.size → w'.heap[k]? = w.heap[k]?) ∧ ro.ext ro' ∧ ro'.le w' ∧ (∀ b, b < w.heap.size → ro' b = ro b) ∧
      ∃ e1 x u, oneT [e] r = some ⟨e1, x⟩ ∧ outs = [u] ∧ OwnOut e1 ets ro' w w' x u := by
  unfold treeOwnOf at hden'
  obtain ⟨v, m', h1, h2⟩ := (callK_den hE hS hmix hI 9).den _ _ _ _ _ hden'
  obtain ⟨r', rs, k1, k2⟩ := OT.k_den _ _ h2
  simp only [Tr.den] at k2
  have k3 := Option.some.inj k2
  subst k3
  unfold ownOutT at k1
  cases ha : aggSV v == isAggE e with
  | false => simp [ha, OT.run] at k1
  | true =>
  simp only [ha] at k1
  obtain ⟨ls, is, os, rs1, hrel, h4⟩ := readOwn_run k1
  cases hof : ofCells e ls with
  | none => simp [hof, OT.run] at h4
  | some y =>
  cases hd : distinctB os && !meet os is with
  | false => simp [hof, hd, OT.run] at h4
  | true =>
  simp only [hof, hd, OT.run] at h4
  simp only [Bool.and_eq_true, Bool.not_eq_true'] at hd
  cases h4
  have hls : cells e y = ls := ofCells_cells e ls y hof
  obtain ⟨_, _, hcall⟩ := h1
  have h0 : HSat ⟨w, ro, []⟩ (fun _ => none) ro (fun _ => False) (fun _ => none) w :=
    ⟨Base.refl w, fun _ _ => rfl, fun _ _ => rfl, hle, by simp, by simp, by simp, by simp, by simp, by simp⟩
  refine Calls.mono (hcall ⟨w, ro, []⟩ _ ro (fun _ => False) w vs h0 (fun _ h => h.elim) hargs') ?_
  rintro e' w' ⟨u, β', ro', rfl, q1, q2, q3, q4⟩
  have hany : v ≠ .any := by
    rintro rfl
    have hlen : ∀ {ks : List LK} {ets : List (Option Nat)} {vs : List SV} {ls : List Leaf} {is os : List Nat}, OwnRs m'.objs ks ets vs ls is os → SV.any ∉ vs := by
      intro ks ets vs ls is os h
      induction h with
      | nil => simp
      | own _ _ _ ih => simpa using ih
      | none _ _ ih => simpa using ih
      | @dat k _ _ v _ _ _ _ _ _ _ hl _ ih =>
        intro hm
        rcases List.mem_cons.1 hm with h | h
        · subst h
          unfold leafOf at hl
          cases k <;> simp [asI, asB, asS] at hl
        · exact ih h
    exact hlen hrel (by simp [SV.cells])
  obtain ⟨hc, hag⟩ := cells_rep q3 hany
  have hagg : isAggE e = true ↔ ∃ cs, u = .agg cs := by
    rw [← hag]
    have : aggSV v = isAggE e := by simpa using ha
    rw [this]
  have hlive : ∀ i ∈ is, (m'.objs i).isSome := by
    have gen : ∀ {ks : List LK} {ets : List (Option Nat)} {vs : List SV} {ls : List Leaf} {is os : List Nat} {us : List Value}, OwnRs m'.objs ks ets vs ls is os → RepL β' ro' vs us → ∀ i ∈ is, (m'.objs i).isSome := by
      intro ks ets vs ls is os us h
      induction h generalizing us with
      | nil => simp
      | own _ _ _ ih => intro hv; obtain ⟨u, us', rfl, h1, h2⟩ := hv.of_cons; exact ih h2
      | none _ _ ih => intro hv; obtain ⟨u, us', rfl, h1, h2⟩ := hv.of_cons; exact ih h2
      | dat _ hl _ ih => intro hv; obtain ⟨u, us', rfl, h1, h2⟩ := hv.of_cons; exact fun i hi => (List.mem_append.1 hi).elim ((leafOf_rep q4 hl h1).1 i) (ih h2 i)
    exact gen hrel hc
  obtain ⟨hds, a1, a2, a3, a4, a5⟩ := ownRs_rep q4 (js := is) hrel hc (fun _ h => h) (distinctB_nodup hd.1)
  have hfz := q4.freeze is hlive
  have hnm := meet_false' hd.2
  refine ⟨[u], ro'.plus β' w' is, rfl, hfz.base, hfz.old, Snap.ext_trans q2 (Snap.ext_plus q4.snap β' is), hfz.snap, hfz.low, e, y, u, rfl, rfl, fun n hn => ?_⟩
  rw [hls] at hn ⊢
  rw [a1 n] at hn
  have hget : ∀ i hd, hds[i]? = some hd → (fun id => if n ≤ id then hds[id - n]? else none) (n + i) = some hd := fun i hd hi => by
    simp only
    rw [if_pos (by omega), Nat.add_sub_cancel_left]; exact hi
  have hback : ∀ {id : Nat} {hd : Hd}, (if n ≤ id then hds[id - n]? else none) = some hd → n ≤ id ∧ hds[id - n]? = some hd ∧ id - n < hds.length := by
    intro id hd h
    split at h
    · exact ⟨by assumption, h, (List.getElem?_eq_some_iff.1 h).1⟩
    · cases h
  refine ⟨fun id => if n ≤ id then hds[id - n]? else none, mkVal_of (a2 n _ hget) hagg, fun id o ho => ?_, fun id id' h h' g b1 b2 b3 b4 => ?_, fun id hd hb => ?_⟩
  · obtain ⟨i, hd, rfl, c1, c2⟩ := a3 n id o ho
    refine ⟨hd, hget i hd c1, ?_, fun g hg => ?_⟩
    · cases o with
      | row et e xs => exact c2
      | blk cs =>
        exfalso
        have gen : ∀ (ls : List Leaf) (ets : List (Option Nat)) (n id : Nat) (cs : List SV), putAll (fun _ => none) (ownCells ls ets n).2 id ≠ some (.blk cs) := by
          intro ls
          induction ls with
          | nil => intro ets n id cs h; simp [ownCells, putAll] at h
          | cons l ls ih =>
            intro ets n id cs h
            unfold ownCells at h
            split at h
            · simp only [putAll] at h
              rw [putAll_or _ _ _ (ownCells_some _ _ _)] at h
              cases hp : putAll (fun _ => none) (ownCells ls (ownRest (kindOf _) ets) (n + 1)).2 id with
              | some x => rw [hp] at h; simp only [Option.some_or] at h; cases h; exact ih _ _ _ _ hp
              | none =>
                rw [hp] at h
                simp only [Option.none_or] at h
                by_cases hid : id = n
                · subst hid; rw [putH_same] at h; cases h
                · rw [putH_other _ _ hid] at h; cases h
            · exact ih _ _ _ _ h
        exact gen _ _ _ _ _ ho
    · obtain ⟨id, o', d1, d2, d3⟩ := a4 hd (List.mem_of_getElem? c1) g hg
      refine ⟨q4.above id o' hd g d2 d3 hg, ?_⟩
      have := hfz.apart id o' hd g (by rw [putAll_freeze, if_neg (hnm id d1)]; exact d2) d3 hg
      exact this
  · obtain ⟨c1, c2, c3⟩ := hback b1
    obtain ⟨d1, d2, d3⟩ := hback b2
    rcases Nat.lt_trichotomy (id - n) (id' - n) with hlt | heq | hlt
    · exfalso
      have := List.pairwise_iff_getElem.1 a5 (id - n) (id' - n) c3 d3 hlt g
      rw [List.getElem?_eq_getElem c3] at c2; cases c2
      rw [List.getElem?_eq_getElem d3] at d2; cases d2
      exact this b3 b4
    · omega
    · exfalso
      have := List.pairwise_iff_getElem.1 a5 (id' - n) (id - n) d3 c3 hlt g
      rw [List.getElem?_eq_getElem c3] at c2; cases c2
      rw [List.getElem?_eq_getElem d3] at d2; cases d2
      exact this b4 b3
  · obtain ⟨c1, c2, c3⟩ := hback hb
    refine ⟨c1, by omega, fun g hg => ?_⟩
    obtain ⟨id', o', d1, d2, d3⟩ := a4 hd (List.mem_of_getElem? c2) g hg
    exact q4.lt id' hd g d3 hg
theorem fnTreeOwn_spec (hE : TysOk P E) (hS : SpecSound P E) (hmix : P.follows .mixedOrders = true) (hI : InlOk P E) {f : Nat} (hent : Enters P f) (params : List EN) (e : EN) (ets : List (Option Nat)) :
    SpecOk P f ⟨params, [e], some ets, fun x => (fnTreeOwn E f params e ets x).den⟩ :=
  ⟨hent, fun ro w x vs r hle hargs hden => by
    have hd : (treeOwnOf E f ((nthT params x).map fun p => datSV p.1 p.2) e ets).den = some r := hden
    exact treeOwn_calls hE hS hmix hI hd hle (repTT_L hargs)⟩
theorem nil_split_own (hE : TysOk P E) (hS : SpecSound P E) (hmix : P.follows .mixedOrders = true) (hI : InlOk P E) {f : Nat} (hent : Enters P f) {e e' : EN} {ets : List (Option Nat)} {g : List (T e) → Option (TT [e'])}
    (h0 : ∀ r, g [] = some r → (treeOwnOf E f [.lit (.slice none 0 0)] e' ets).den = some r) (h1 : ∀ xs r, g xs = some r → (treeOwnOf E f [.nn e xs] e' ets).den = some r) :
    SpecOk P f ⟨[.sl e], [e'], some ets, fun x => g x.1⟩ := by
  refine ⟨hent, fun ro w x vs r hle hargs hden => ?_⟩
  obtain ⟨xs, _⟩ := x
  obtain ⟨u, us, rfl, hx, hn⟩ := hargs
  have hus : us = [] := hn
  subst hus
  have hrep : Rep ro (.sl e xs) u := by
    obtain ⟨hc, ha⟩ := hx
    have hna : ¬ ∃ cs, u = .agg cs := fun hh => by have := ha.2 hh; simp [isAggE] at this
    have hcells : u.cells.toList = [u] := by cases u <;> first | rfl | exact absurd ⟨_, rfl⟩ hna
    exact hc.2 0 (.sl e xs) u rfl (by rw [hcells]; rfl)
  cases hrep with
  | nil => exact treeOwn_calls hE hS hmix hI (h0 r hden) hle (.cons (.lit (.inl rfl)) (.nil _ _))
  | sl _ _ a cap us2 q1 q2 q3 q4 q5 => exact treeOwn_calls hE hS hmix hI (h1 xs r hden) hle (.cons (.nn (.sl e xs a cap us2 q1 q2 q3 q4 q5)) (.nil _ _))
theorem callSpec_own {n : Nat} {s : VSpec} (hs : SpecOk P n s) {ets : List (Option Nat)} (hown : s.own = some ets) {nid : Nat} {as : List SV} {v : SV} {u : List (Nat × Option SO)} {rs : List Nat} (h : (callSpec nid s as).run H [] = some ((v, u), rs))
    (hH : HSat w0 β ro D H w) (hfree : ∀ k, k < 64 → ¬ D (nid + k)) {vs : List Value} (hv : RepL β ro as vs) : Calls P n vs.toArray w (CallPost w0 β ro (fun id => D id ∨ (nid ≤ id ∧ id < nid + 64)) (putAll H u) v) := by
  unfold callSpec at h
  obtain ⟨x, is, rs1, h1, h2⟩ := toTT_run h
  simp only [OT.run] at h2
  cases hf : s.fn x with
  | none => simp [hf] at h2
  | some r =>
  simp only [hf, Option.bind_some, hown] at h2
  cases hone : oneT s.results r with
  | none => simp [hone, OT.run] at h2
  | some q =>
  obtain ⟨e, y⟩ := q
  simp only [hone] at h2
  cases hble : Nat.ble (ownCells (cells e y) ets nid).2.length 64 with
  | false => simp [hble, OT.run] at h2
  | true =>
  simp only [hble, OT.run] at h2
  cases h2
  obtain ⟨a1, a2⟩ := ttOf_rep hH h1 hv
  have hargs := a2 is (fun _ h => h)
  refine Calls.mono (hs.calls _ w x vs r (Snap.plus_le hH.snap β is) hargs hf) ?_
  rintro e' w' ⟨outs, ro', rfl, k1, k2, k3, k4, k5, k6⟩
  rw [hown] at k6
  obtain ⟨e2, x2, u2, m1, rfl, m2⟩ := k6
  rw [hone] at m1
  cases m1
  obtain ⟨β2, b1, b2, b3, b4⟩ := m2 nid (Nat.le_of_ble_eq_true hble)
  have hfz := (hH.freeze is a1).after k1 k2 k3 k4 k5 (D' := D) (fun _ h => h)
  have hnone : ∀ id, nid ≤ id → id < nid + 64 → β id = none := fun id g1 g2 => by
    cases hb : β id with
    | none => rfl
    | some hd =>
      exfalso
      have := hH.dom id hd hb
      have := hfree (id - nid) (by omega)
      rw [show nid + (id - nid) = id from by omega] at this
      contradiction
  let β3 : Pl := fun id => (β2 id).or (β id)
  have hx1 : β.ext β3 := fun id hd hb => by
    simp only [β3]
    cases hb2 : β2 id with
    | none => rw [Option.none_or]; exact hb
    | some hd2 =>
      obtain ⟨g1, g2, _⟩ := b4 id hd2 hb2
      rw [hnone id g1 g2] at hb; cases hb
  have hx2 : β2.ext β3 := fun id hd hb => by simp only [β3, hb, Option.some_or]
  have hold : ∀ {id : Nat} {o : SO}, putAll H (freezeAll is) id = some o → β2 id = none := fun {id o} ho => by
    cases hb2 : β2 id with
    | none => rfl
    | some hd2 =>
      exfalso
      obtain ⟨g1, g2, _⟩ := b4 id hd2 hb2
      obtain ⟨hd, hb, _⟩ := hfz.obj id o ho
      rw [hnone id g1 g2] at hb; cases hb
  have hsplit : ∀ {id : Nat} {o : SO}, putAll H (freezeAll is ++ (ownCells (cells e y) ets nid).2) id = some o →
      (putAll (fun _ => none) (ownCells (cells e y) ets nid).2 id = some o) ∨ (putAll H (freezeAll is) id = some o ∧ β2 id = none) := by
    intro id o ho
    rw [putAll_append, putAll_or _ _ _ (ownCells_some _ _ _)] at ho
    cases hp : putAll (fun _ => none) (ownCells (cells e y) ets nid).2 id with
    | some x => rw [hp] at ho; exact .inl (by simpa using ho)
    | none => rw [hp] at ho; simp only [Option.none_or] at ho; exact .inr ⟨ho, hold ho⟩
  have hb3 : ∀ {id : Nat} {hd : Hd}, β2 id = none → β3 id = some hd → β id = some hd := fun h1 h2 => by simp only [β3, h1, Option.none_or] at h2; exact h2
  refine ⟨u2, β3, ro', by rfl, hx1, Snap.ext_trans (Snap.ext_plus hH.snap β is) k3, b1.mono hx2 ro'.ext_refl, ?_⟩
  refine ⟨hfz.base, hfz.low, hfz.old, hfz.snap, fun id hd hb => ?_, fun id hd g hb hg => ?_, fun id o ho => ?_, fun id o hd g ho hb hg => ?_, fun id o hd g ho hb hg => ?_, fun id id' o o' hd hd' g ho ho' hb hb' hg hg' => ?_⟩
  · cases hb2 : β2 id with
    | none => exact .inl (hH.dom id hd (hb3 hb2 hb))
    | some hd2 => obtain ⟨g1, g2, _⟩ := b4 id hd2 hb2; exact .inr ⟨g1, g2⟩
  · cases hb2 : β2 id with
    | none => exact hfz.lt id hd g (hb3 hb2 hb) hg
    | some hd2 =>
      have := hx2 id hd2 hb2
      rw [this] at hb; cases hb
      exact (b4 id _ hb2).2.2 g hg
  · rcases hsplit ho with h | ⟨h, hn⟩
    · obtain ⟨hd, c1, c2, _⟩ := b2 id o h
      exact ⟨hd, hx2 _ _ c1, c2.mono hx2 ro'.ext_refl (fun _ _ => rfl)⟩
    · obtain ⟨hd, c1, c2⟩ := hfz.obj id o h
      exact ⟨hd, hx1 _ _ c1, c2.mono hx1 ro'.ext_refl (fun _ _ => rfl)⟩
  · rcases hsplit ho with h | ⟨h, hn⟩
    · obtain ⟨hd', c1, _, c3⟩ := b2 id o h
      have := hx2 _ _ c1
      rw [this] at hb; cases hb
      exact (c3 g hg).2
    · exact hfz.apart id o hd g h (hb3 hn hb) hg
  · rcases hsplit ho with h | ⟨h, hn⟩
    · obtain ⟨hd', c1, _, c3⟩ := b2 id o h
      have := hx2 _ _ c1
      rw [this] at hb; cases hb
      exact Nat.le_trans hH.base.size (c3 g hg).1
    · exact hfz.above id o hd g h (hb3 hn hb) hg
  · have fresh : ∀ {id id' : Nat} {o o' : SO} {hd hd' : Hd}, putAll (fun _ => none) (ownCells (cells e y) ets nid).2 id = some o → β3 id = some hd → hd.blk = some g →
        putAll H (freezeAll is) id' = some o' → β2 id' = none → β3 id' = some hd' → hd'.blk = some g → False := by
      intro id id' o o' hd hd' h b g' h' hn' b' g''
      obtain ⟨hd2, c1, _, c3⟩ := b2 id o h
      have := hx2 _ _ c1
      rw [this] at b; cases b
      have h1 := (c3 g g').1
      have h2 := hH.lt id' hd' g (hb3 hn' b') g''
      omega
    rcases hsplit ho with h | ⟨h, hn⟩
    · rcases hsplit ho' with h' | ⟨h', hn'⟩
      · obtain ⟨hd1, c1, _⟩ := b2 id o h
        obtain ⟨hd2, c2, _⟩ := b2 id' o' h'
        have := hx2 _ _ c1
        rw [this] at hb; cases hb
        have := hx2 _ _ c2
        rw [this] at hb'; cases hb'
        exact b3 id id' _ _ g c1 c2 hg hg'
      · exact (fresh h hb hg h' hn' hb' hg').elim
    · rcases hsplit ho' with h' | ⟨h', hn'⟩
      · exact (fresh h' hb' hg' h hn hb hg).elim
      · exact hfz.inj id id' o o' hd hd' g h h' (hb3 hn hb) (hb3 hn' hb') hg hg'
end Go.Cat

namespace Go.Cat
open Go Go.RowKit
variable {P : Program}
theorem oldOf_le (w : World) : (oldOf w).le w := fun _ _ h => h
theorem law_calls {n : Nat} {params : List EN} {fn : TT params → Option (TT [.bool])} (h : SpecOk P n ⟨params, [.bool], none, fn⟩) {w : World} {x : TT params} {vs : List Value} (hx : RepTT (oldOf w) params x vs)
    (ht : fn x = some (true, ())) : Calls P n vs.toArray w fun e w' => e = .returned (.bool true) ∧ Below w.heap.size w w' := by
  refine Calls.mono (h.calls (oldOf w) w x vs (true, ()) (oldOf_le w) hx ht) ?_
  rintro e w' ⟨outs, ro', rfl, h1, h2, _, _, _, h6⟩
  obtain ⟨u, us, rfl, hT, hn⟩ := h6
  have hus : us = [] := hn
  subst hus
  have hu : u = .bool true := by
    obtain ⟨hc, ha⟩ := hT
    have hna : ¬ ∃ cs, u = .agg cs := fun hh => by have := ha.2 hh; simp [isAggE] at this
    have hcells : u.cells.toList = [u] := by cases u <;> first | rfl | exact absurd ⟨_, rfl⟩ hna
    have := hc.2 0 (.bool true) u rfl (by rw [hcells]; rfl)
    cases this with | bool b => rfl
  subst hu
  exact ⟨rfl, ⟨h1.os, h1.tape, h1.output, h1.size, h2⟩⟩
end Go.Cat

namespace Go.Cat
open Go
variable {P : Program} {E : Env} {H : Type} {enc : TypeId × Value → H} {w : World} {held : Bool}
def fieldsOk (f : Nat → List LK → Bool) (size : Nat → Option Nat) : Nat → List (Nat × Nat) → List LK → Bool
  | _, [], ks => ks.isEmpty
  | off, (o, t) :: r, ks => match size t with
    | some s => Nat.beq o off && Nat.ble s ks.length && f t (ks.take s) && fieldsOk f size (off + s) r (ks.drop s)
    | none => false
def lkOk (E : Env) : Nat → Nat → List LK → Bool
  | 0, _, _ => false
  | n + 1, t, ks => match look E.ty t with
    | some { d := .int k, .. } => match ks with | [.int k'] => decide (k = k') | _ => false
    | some { d := .bool, .. } => match ks with | [.bool] => true | _ => false
    | some { d := .str, .. } => match ks with | [.str] => true | _ => false
    | some { d := .sl el, .. } => match ks with
      | [.sl e] => lkOk E n el (kinds e) && (match sizeT E el with | some s => Nat.beq s (sz e) && Nat.blt 0 s | none => false)
      | _ => false
    | some { d := .st fs, .. } => fieldsOk (lkOk E n) (sizeT E) 0 fs ks
    | _ => false
theorem RepC.append {ro : Snap} {a b : List Leaf} {us vs : List Value} (h : RepC ro a us) (k : RepC ro b vs) : RepC ro (a ++ b) (us ++ vs) := by
  induction a generalizing us with
  | nil =>
    have : us = [] := List.eq_nil_of_length_eq_zero (by simpa using h.1)
    subst this; exact k
  | cons c a ih =>
    cases us with
    | nil => simp [RepC] at h
    | cons u us => exact .cons (h.2 0 c u rfl rfl) (ih ⟨by simpa using h.1, fun j l v hl hv => h.2 (j + 1) l v (by simpa using hl) (by simpa using hv)⟩)
theorem cellsOf_look (hE : TysOk P E) {t s : Nat} (h : sizeT E t = some s) : P.cellsOf t = s := by
  obtain ⟨i, hl, rfl⟩ := sizeT_look h
  obtain ⟨inf, z, d, h1, _, h3, _⟩ := (hE.look hl).info
  simp [Program.cellsOf, h1, h3]
theorem fields_rep (hE : TysOk P E) {f : Nat → List LK → Bool} {g : Nat → List Value → Option (DataW H × List MemPlace)} (hf : ∀ t ks cs x, sizeT E t = some ks.length → f t ks = true → g t cs = some x → ∃ ls, ls.map kindOf = ks ∧ RepC (oldOf w) ls cs) :
    ∀ (fs : List (Nat × Nat)) (off : Nat) (ks : List LK) (cs : List Value) (ys : List (DataW H × List MemPlace)), fieldsOk f (sizeT E) off fs ks = true → off ≤ cs.length → cs.length = off + ks.length →
      (fs.mapM fun p => g p.2 ((cs.drop p.1).take (P.cellsOf p.2))) = some ys → ∃ ls, ls.map kindOf = ks ∧ RepC (oldOf w) ls (cs.drop off)
  | [], off, ks, cs, ys, h, hle, hlen, _ => by
    simp only [fieldsOk, List.isEmpty_iff] at h
    subst h
    exact ⟨[], rfl, by rw [List.drop_eq_nil_of_le (by simp at hlen; omega)]; exact .nil _⟩
  | (o, t) :: r, off, ks, cs, ys, h, hle, hlen, hm => by
    simp only [fieldsOk] at h
    cases hs : sizeT E t with
    | none => simp [hs] at h
    | some s =>
      simp only [hs, Bool.and_eq_true] at h
      obtain ⟨⟨⟨h1, h2⟩, h3⟩, h4⟩ := h
      have h1 := Nat.eq_of_beq_eq_true h1
      have h2 := Nat.le_of_ble_eq_true h2
      subst h1
      rw [List.mapM_cons] at hm
      rw [cellsOf_look hE hs] at hm
      cases hg : g t ((cs.drop o).take s) with
      | none => simp [hg] at hm
      | some y =>
        cases hr : (r.mapM fun p => g p.2 ((cs.drop p.1).take (P.cellsOf p.2))) with
        | none => simp [hg, hr] at hm
        | some ys' =>
          obtain ⟨l1, a1, a2⟩ := hf t _ _ y (by rw [hs, List.length_take, Nat.min_eq_left h2]) h3 hg
          obtain ⟨l2, b1, b2⟩ := fields_rep hE hf r (o + s) (ks.drop s) cs ys' h4 (by omega) (by simp; omega) hr
          refine ⟨l1 ++ l2, by rw [List.map_append, a1, b1, List.take_append_drop], ?_⟩
          have : cs.drop o = (cs.drop o).take s ++ cs.drop (o + s) := by rw [← List.drop_drop, List.take_append_drop]
          rw [this]
          exact a2.append b2
theorem old_cell (a : Addr) : (oldOf w).cell? a = w.cell? a := by
  unfold Snap.cell? World.cell? oldOf
  rfl
theorem spot_none {a : Addr} {v : Value} (h : w.cell? a = some v) : a.spot = none := by
  unfold World.cell? at h
  split at h
  · split at h
    · cases h
    · rename_i hn; cases hs : a.spot with | none => rfl | some x => simp [hs] at hn
  · cases h
theorem slice_rep {e : EN} (hpos : 0 < sz e) {a : Addr} {len cap : Nat} (hc : len ≤ cap) (hm : cap ≤ maxLen)
    (hel : ∀ i, i < len → ∃ cs, w.cells? 0 (a.add (i * sz e)) (sz e) = some cs ∧ ∃ ls, ls.map kindOf = kinds e ∧ RepC (oldOf w) ls cs)
    (hfirst : 0 < cap → ∃ cs, w.cells? 0 (a.add (0 * sz e)) (sz e) = some cs) : ∃ l, kindOf l = .sl e ∧ Rep (oldOf w) l (.slice (some a) len cap) := by
  have hspot : a.spot = none ∨ cap = 0 := by
    rcases Nat.eq_zero_or_pos cap with h | h
    · exact .inr h
    · obtain ⟨cs, hcs⟩ := hfirst h
      obtain ⟨_, h1, h2⟩ := World.cells?_some hcs
      have h3 := h2 0 hpos
      have hlt : 0 < cs.length := by omega
      rw [List.getElem?_eq_getElem hlt] at h3
      simp only [Nat.zero_mul, Addr.add, if_true] at h3
      exact .inl (spot_none h3)
  have hx : ∀ i, i < len → ∃ x : T e, ∃ cs, w.cells? 0 (a.add (i * sz e)) (sz e) = some cs ∧ RepC (oldOf w) (cells e x) cs := by
    intro i hi
    obtain ⟨cs, h1, ls, h2, h3⟩ := hel i hi
    obtain ⟨x, hx⟩ := ofCells_some e h2
    exact ⟨x, cs, h1, by rw [ofCells_cells e ls x hx]; exact h3⟩
  classical
  let g : Nat → T e := fun i => if h : i < len then (hx i h).choose else zeroT e
  have hg : ∀ i, i < len → ∃ cs, w.cells? 0 (a.add (i * sz e)) (sz e) = some cs ∧ RepC (oldOf w) (cells e (g i)) cs := by
    intro i hi
    have := (hx i hi).choose_spec
    simp only [g, hi, dif_pos]
    exact this
  have key : ∀ (i : Nat) (x : T e) (j : Nat) (l : Leaf), ((List.range len).map g)[i]? = some x → (cells e x)[j]? = some l →
      ∃ u, w.cell? ⟨a.block, a.off + (i * sz e + j), none⟩ = some u ∧ Rep (oldOf w) l u := by
    intro i x j l hi hj
    have hil : i < len := by have := (List.getElem?_eq_some_iff.1 hi).1; simpa using this
    have hxi : x = g i := by simp [hil] at hi; exact hi.symm
    subst hxi
    have hjs : j < sz e := by rw [← cells_length e (g i)]; exact (List.getElem?_eq_some_iff.1 hj).1
    obtain ⟨cs, h1, h2⟩ := hg i hil
    obtain ⟨_, h3, h4⟩ := World.cells?_some h1
    have hjc : j < cs.length := by omega
    have h5 := h4 j hjs
    rw [List.getElem?_eq_getElem hjc, addr_add (hspot.resolve_right (by omega)), addr_add rfl] at h5
    exact ⟨cs[j], by rw [← h5, Nat.add_assoc], h2.2 j l _ hj (List.getElem?_eq_getElem hjc)⟩
  have := Rep.sl (ro := oldOf w) e ((List.range len).map g) a cap (fun i j => (w.cell? ⟨a.block, a.off + (i * sz e + j), none⟩).getD default) hspot (by simpa using hc) hm
    (fun i x j l hi hj => by
      obtain ⟨u, hu, _⟩ := key i x j l hi hj
      rw [old_cell, hu]; rfl)
    (fun i x j l hi hj => by
      obtain ⟨u, hu, hr⟩ := key i x j l hi hj
      rw [hu]; exact hr)
  refine ⟨.sl e ((List.range len).map g), rfl, ?_⟩
  simpa using this
theorem one_leaf {l : Leaf} {k : LK} {v : Value} (hk : kindOf l = k) (h : Rep (oldOf w) l v) : ∃ ls, ls.map kindOf = [k] ∧ RepC (oldOf w) ls [v] :=
  ⟨[l], by simp [hk], .cons h (.nil _)⟩
theorem trod_int {k : IntKind} {t fuel : Nat} {cs : List Value} {x : DataW H × List MemPlace} (hu : P.underlying t = some (.int k)) (h : DataW.trod enc P w 0 (fun _ => true) held (fuel + 1) t cs = some x) : ∃ v, cs = [.int k v] ∧ rngB k v = true := by
  rcases cs with _ | ⟨c, _ | ⟨c2, r⟩⟩
  · simp [DataW.trod, hu] at h
  · cases c <;> simp [DataW.trod, hu] at h
    rename_i k' v
    obtain ⟨⟨rfl, hw⟩, _⟩ := h
    exact ⟨v, rfl, by simpa [rngB, Lit.wf] using hw⟩
  · simp [DataW.trod, hu] at h
theorem trod_bool {t fuel : Nat} {cs : List Value} {x : DataW H × List MemPlace} (hu : P.underlying t = some .bool) (h : DataW.trod enc P w 0 (fun _ => true) held (fuel + 1) t cs = some x) : ∃ v, cs = [.bool v] := by
  rcases cs with _ | ⟨c, _ | ⟨c2, r⟩⟩
  · simp [DataW.trod, hu] at h
  · cases c <;> simp [DataW.trod, hu] at h
    exact ⟨_, rfl⟩
  · simp [DataW.trod, hu] at h
theorem trod_str {t fuel : Nat} {cs : List Value} {x : DataW H × List MemPlace} (hu : P.underlying t = some .string) (h : DataW.trod enc P w 0 (fun _ => true) held (fuel + 1) t cs = some x) : ∃ v, cs = [.string v] ∧ v.size ≤ maxLen := by
  rcases cs with _ | ⟨c, _ | ⟨c2, r⟩⟩
  · simp [DataW.trod, hu] at h
  · cases c <;> simp [DataW.trod, hu] at h
    exact ⟨_, rfl, h.1⟩
  · simp [DataW.trod, hu] at h
theorem mapM_at {α β : Type} {f : α → Option β} {l : List α} {ys : List β} (h : l.mapM f = some ys) {i : Nat} {a : α} (hi : l[i]? = some a) : ∃ y, f a = some y := by
  have h1 := mapM_some_get h i a hi
  have h2 := mapM_some_length h
  have hlt : i < ys.length := by rw [h2]; exact (List.getElem?_eq_some_iff.1 hi).1
  rw [List.getElem?_eq_getElem hlt] at h1
  exact ⟨_, h1⟩
theorem trod_sl {el t fuel : Nat} {cs : List Value} {x : DataW H × List MemPlace} (hu : P.underlying t = some (.slice el)) (h : DataW.trod enc P w 0 (fun _ => true) held (fuel + 1) t cs = some x) :
    cs = [.slice none 0 0] ∨ ∃ a len cap, cs = [.slice (some a) len cap] ∧ len ≤ cap ∧ cap ≤ maxLen ∧
      ∀ i, i < cap → ∃ csi, w.cells? 0 (a.add (i * P.cellsOf el)) (P.cellsOf el) = some csi ∧ ∃ y, DataW.trod enc P w 0 (fun _ => true) held fuel el csi = some y := by
  rcases cs with _ | ⟨c, _ | ⟨c2, r⟩⟩
  · simp [DataW.trod, hu] at h
  · cases c with
    | slice a len cap =>
      cases a with
      | none =>
        left
        simp only [DataW.trod, hu] at h
        split at h <;> simp_all
      | some a =>
        right
        refine ⟨a, len, cap, rfl, ?_⟩
        simp only [DataW.trod, hu] at h
        split at h
        · rename_i hc
          refine ⟨hc.2.1, hc.2.2, fun i hi => ?_⟩
          cases h1 : (List.range len).mapM fun i => (w.cells? 0 (a.add (i * P.cellsOf el)) (P.cellsOf el)).bind (DataW.trod enc P w 0 (fun _ => true) held fuel el) with
          | none => rw [h1] at h; simp at h
          | some elems =>
            rw [h1] at h
            simp only [Option.bind_some, if_true] at h
            cases h2 : (List.range (cap - len)).mapM fun j => (w.cells? 0 (a.add ((len + j) * P.cellsOf el)) (P.cellsOf el)).bind (DataW.trod enc P w 0 (fun _ => true) held fuel el) with
            | none => rw [h2] at h; simp at h
            | some rest =>
              have fin : ∀ y, (w.cells? 0 (a.add (i * P.cellsOf el)) (P.cellsOf el)).bind (DataW.trod enc P w 0 (fun _ => true) held fuel el) = some y →
                  ∃ csi, w.cells? 0 (a.add (i * P.cellsOf el)) (P.cellsOf el) = some csi ∧ ∃ y, DataW.trod enc P w 0 (fun _ => true) held fuel el csi = some y := by
                intro y hy
                cases hcs : w.cells? 0 (a.add (i * P.cellsOf el)) (P.cellsOf el) with
                | none => rw [hcs] at hy; cases hy
                | some csi => rw [hcs] at hy; exact ⟨csi, rfl, y, hy⟩
              by_cases hil : i < len
              · obtain ⟨y, hy⟩ := mapM_at h1 (i := i) (a := i) (by simp [hil])
                exact fin y hy
              · obtain ⟨y, hy⟩ := mapM_at h2 (i := i - len) (a := i - len) (by rw [List.getElem?_range (by omega)])
                rw [show len + (i - len) = i by omega] at hy
                exact fin y hy
        · cases h
    | _ => simp [DataW.trod, hu] at h
  · simp [DataW.trod, hu] at h
theorem mapM_pairs {β : Type} (g : Nat → Nat → Option β) : ∀ (l : List Field), (l.map fun f => (f.offset, f.type)).mapM (fun p => g p.1 p.2) = l.mapM fun f => g f.offset f.type
  | [] => rfl
  | f :: l => by simp only [List.map_cons, List.mapM_cons, mapM_pairs g l]
theorem trod_rep (hE : TysOk P E) : ∀ (fuel n t : Nat) (ks : List LK) (cs : List Value) (x : DataW H × List MemPlace), lkOk E n t ks = true → (∀ i, look E.ty t = some i → i.size = ks.length) → DataW.trod enc P w 0 (fun _ => true) held fuel t cs = some x →
    ∃ ls, ls.map kindOf = ks ∧ RepC (oldOf w) ls cs := by
  intro fuel
  induction fuel with
  | zero => intro n t ks cs x _ _ h; simp [DataW.trod] at h
  | succ fuel ih =>
    intro n t ks cs x hk hsize h
    cases n with
    | zero => simp [lkOk] at hk
    | succ n =>
      simp only [lkOk] at hk
      split at hk
      · rename_i hl
        obtain ⟨inf, z, d, k1, k2, k3, _, _, _, _, _, _, _, rfl, _⟩ := (hE.look hl).info
        split at hk
        · have := of_decide_eq_true hk
          subst this
          obtain ⟨v, rfl, hv⟩ := trod_int k2 h
          exact one_leaf (l := .int _ v) rfl (.int _ _ hv)
        · cases hk
      · rename_i hl
        obtain ⟨inf, z, d, k1, k2, k3, _, _, _, _, _, _, _, rfl, _⟩ := (hE.look hl).info
        split at hk
        · obtain ⟨v, rfl⟩ := trod_bool k2 h
          exact one_leaf (l := .bool v) rfl (.bool _)
        · cases hk
      · rename_i hl
        obtain ⟨inf, z, d, k1, k2, k3, _, _, _, _, _, _, _, rfl, _⟩ := (hE.look hl).info
        split at hk
        · obtain ⟨v, rfl, hv⟩ := trod_str k2 h
          exact one_leaf (l := .str (strOf v)) rfl (.str _ hv)
        · cases hk
      · rename_i el _ _ _ _ hl
        obtain ⟨inf, z, d, k1, k2, k3, _, _, _, _, _, _, _, rfl, _⟩ := (hE.look hl).info
        split at hk
        · rename_i e
          simp only [Bool.and_eq_true] at hk
          obtain ⟨hk1, hk2⟩ := hk
          cases hs : sizeT E el with
          | none => simp [hs] at hk2
          | some s =>
            simp only [hs, Bool.and_eq_true] at hk2
            have he1 := Nat.eq_of_beq_eq_true hk2.1
            have hpos : 0 < s := by simpa [Nat.blt_eq] using hk2.2
            have hco := cellsOf_look hE hs
            rw [he1] at hco hpos
            rcases trod_sl k2 h with rfl | ⟨a, len, cap, rfl, h1, h2, h3⟩
            · exact one_leaf (l := .sl e []) rfl (.nil e)
            · rw [hco] at h3
              obtain ⟨l, l1, l2⟩ := slice_rep (e := e) hpos h1 h2 (fun i hi => by
                obtain ⟨csi, c1, y, c2⟩ := h3 i (by omega)
                refine ⟨csi, c1, ih n el (kinds e) csi y hk1 (fun j hj => ?_) c2⟩
                obtain ⟨j', hj', hjs⟩ := sizeT_look hs
                rw [hj] at hj'; cases hj'
                rw [hjs, he1]; rfl) (fun hc => by
                obtain ⟨csi, c1, _⟩ := h3 0 hc
                exact ⟨csi, c1⟩)
              exact one_leaf l1 l2
        · cases hk
      · rename_i fs sz0 _ _ _ hl
        have hsz := hsize _ hl
        obtain ⟨inf, z, d, k1, k2, k3, _, _, _, _, _, _, _, ⟨fields, rfl, hf, _⟩, _⟩ := (hE.look hl).info
        have hco : P.cellsOf t = ks.length := by simp only at hsz k3; simp [Program.cellsOf, k1, k3, hsz]
        simp only [DataW.trod, k2] at h
        split at h
        · rename_i hlen
          cases hm : fields.toList.mapM fun f => DataW.trod enc P w 0 (fun _ => true) held fuel f.type ((cs.drop f.offset).take (P.cellsOf f.type)) with
          | none => rw [hm] at h; simp at h
          | some ys =>
            have hp := mapM_pairs (fun o ft => DataW.trod enc P w 0 (fun _ => true) held fuel ft ((cs.drop o).take (P.cellsOf ft))) fields.toList
            rw [hm, hf] at hp
            have := fields_rep hE (w := w) (f := lkOk E n) (g := DataW.trod enc P w 0 (fun _ => true) held fuel) (fun ft ks' cs' x' hs' hk' hx' => ih n ft ks' cs' x' hk' (fun j hj => by
              obtain ⟨j', hj', hjs⟩ := sizeT_look hs'
              rw [hj] at hj'; cases hj'
              exact hjs) hx') fs 0 ks cs ys hk (Nat.zero_le _) (by omega) hp
            simpa using this
        · cases h
      · cases hk
end Go.Cat

namespace Go.Cat
open Go
variable {P : Program} {E : Env} {H : Type} {enc : TypeId × Value → H} {w : World} {held : Bool}
theorem arg_rep (hE : TysOk P E) {n t : Nat} {i : TyI} {e : EN} {v : Value} {d : DataW H} {ps : List MemPlace} (hl : look E.ty t = some i) (hk : lkOk E n t (kinds e) = true) (hsize : i.size = (kinds e).length)
    (hagg : isAggE e = true ↔ ∃ cs, v = .agg cs) (h : DataW.Trod enc P w 0 (fun _ => true) held t v d ps) : ∃ x : T e, RepT (oldOf w) e x v := by
  obtain ⟨fuel, hf⟩ := h
  obtain ⟨ls, h1, h2⟩ := trod_rep hE fuel n t (kinds e) _ _ hk (fun j hj => by rw [hl] at hj; cases hj; exact hsize) hf
  obtain ⟨x, hx⟩ := ofCells_some e h1
  exact ⟨x, by rw [ofCells_cells e ls x hx]; exact h2, hagg⟩
end Go.Cat

namespace Go.Cat
open Go Go.ChangeShapes Go.RowKit
variable {P : Program} {E : Env} {H : Type} {enc : TypeId × Value → H} {w : World} {held : Bool}
theorem cell_not_agg {r : Reach} {b t : Nat} {cs : Array Value} : ¬ Cell.okWide P w r b t (.agg cs) := by
  intro h
  unfold Cell.okWide at h
  split at h <;> try contradiction
  unfold Cell.ok at h
  split at h <;> contradiction
theorem okWide_agg {r : Reach} {b t : Nat} {d : TypeDesc} {v : Value} (hd : P.underlying t = some d) (h : Value.okWide P w r b t v) : isAggD d = true ↔ ∃ cs, v = .agg cs := by
  unfold Value.okWide at h
  rw [hd] at h
  constructor
  · intro ha
    cases d <;> first | (obtain ⟨cs, hc, _⟩ := h; exact ⟨cs, hc⟩) | cases ha
  · rintro ⟨cs, rfl⟩
    cases d <;> first | rfl | exact absurd h cell_not_agg
def argsOk (E : Env) : List Nat → List EN → Bool
  | [], [] => true
  | t :: ts, e :: es => (match look E.ty t with
      | some i => lkOk E 12 t (kinds e) && Nat.beq i.size (kinds e).length && (i.agg == isAggE e)
      | none => false) && argsOk E ts es
  | _, _ => false
theorem args_rep (hE : TysOk P E) : ∀ {ts : List Nat} {es : List EN} {vs : List Value} {ds : List (DataW H)} {p : List MemPlace}, argsOk E ts es = true →
    DataW.TrodAll enc P w 0 (fun _ => true) held ts vs ds p → (∀ (j : Nat) t v, ts[j]? = some t → vs[j]? = some v → ∃ b, Value.okWide P w .any b t v) → ∃ x : TT es, RepTT (oldOf w) es x vs
  | [], [], vs, ds, p, _, h, _ => by
    obtain ⟨rfl, _, _⟩ := trodAll_nil h
    exact ⟨(), rfl⟩
  | t :: ts, e :: es, vs, ds, p, ha, h, hv => by
    obtain ⟨v, vs', d, ds', p', q, rfl, rfl, rfl, h1, h2⟩ := trodAll_cons h
    simp only [argsOk, Bool.and_eq_true] at ha
    obtain ⟨ha1, ha2⟩ := ha
    cases hl : look E.ty t with
    | none => simp [hl] at ha1
    | some i =>
      simp only [hl, Bool.and_eq_true, beq_iff_eq] at ha1
      obtain ⟨⟨k1, k2⟩, k3⟩ := ha1
      obtain ⟨inf, z, dd, m1, m2, m3, m4, m5, m6, m7, m8, m9, m10⟩ := (hE.look hl).info
      obtain ⟨b, hb⟩ := hv 0 t v rfl rfl
      have hagg : isAggE e = true ↔ ∃ cs, v = .agg cs := by rw [← k3, ← m9]; exact okWide_agg m2 hb
      obtain ⟨x, hx⟩ := arg_rep hE hl k1 (Nat.eq_of_beq_eq_true k2) hagg h1
      obtain ⟨xs, hxs⟩ := args_rep hE ha2 h2 (fun j t v ht hj => hv (j + 1) t v (by simpa using ht) (by simpa using hj))
      exact ⟨(x, xs), v, vs', rfl, hx, hxs⟩
  | [], _ :: _, _, _, _, ha, _, _ => by simp [argsOk] at ha
  | _ :: _, [], _, _, _, ha, _, _ => by simp [argsOk] at ha
theorem args_back (hl : laidOutB P = true) {W' : World} (hb : Below w.heap.size w W') : ∀ {ts : List Nat} {vs : List Value} {ds : List (DataW H)} {p : List MemPlace}, (ts.all fun t => P.readableRec t && decide (t < P.types.size)) = true →
    DataW.TrodAll enc P w 0 (fun _ => true) true ts vs ds p → DataW.TrodAll enc P W' 0 (fun b => decide (b < w.heap.size)) true ts vs ds p
  | [], vs, ds, p, _, h => by
    obtain ⟨rfl, rfl, rfl⟩ := trodAll_nil h
    exact trodAll_mk0
  | t :: ts, vs, ds, p, ha, h => by
    obtain ⟨v, vs', d, ds', p', q, rfl, rfl, rfl, h1, h2⟩ := trodAll_cons h
    simp only [List.all_cons, Bool.and_eq_true, decide_eq_true_eq] at ha
    refine trodAll_cons_mk (Below.trod hl ha.1.1 ha.1.2 h1 hb ?_) (args_back hl hb (by simpa using ha.2) h2)
    obtain ⟨m, hm⟩ := h1
    exact DataW.trod_lt m _ _ _ hm
end Go.Cat

namespace Go.Cat
open Go
variable {P : Program} {E : Env}
def zeroEq : Value → SV → Bool
  | .int k n, .lit (.int k' n') => decide (k = k') && decide (n = n')
  | .bool b, .lit (.bool b') => b == b'
  | .string a, .lit (.string b) => Nat.beq a.size 0 && Nat.beq b.size 0
  | .slice none 0 0, .lit (.slice none 0 0) => true
  | .pointer none, .lit (.pointer none) => true
  | .nilFunc, .lit .nilFunc => true
  | _, _ => false
theorem bytes_zero {a : ByteArray} (h : Nat.beq a.size 0 = true) : a = ByteArray.empty := by
  have h := Nat.eq_of_beq_eq_true h
  cases a with
  | mk d =>
    have : d.size = 0 := h
    have : d = #[] := Array.eq_empty_of_size_eq_zero this
    subst this; rfl
theorem zeroEq_ok {v : Value} {s : SV} (h : zeroEq v s = true) : SV.lit v = s := by
  unfold zeroEq at h
  split at h
  · simp_all
  · simp_all
  · rename_i a b
    simp only [Bool.and_eq_true] at h
    rw [bytes_zero h.1, bytes_zero h.2]
  all_goals first | rfl | cases h
def listAll2 {α β : Type} (f : α → β → Bool) : List α → List β → Bool
  | [], [] => true
  | a :: as, b :: bs => f a b && listAll2 f as bs
  | _, _ => false
theorem listAll2_map {α β : Type} {f : α → β → Bool} {g : α → β} (h : ∀ a b, f a b = true → g a = b) : ∀ {as : List α} {bs : List β}, listAll2 f as bs = true → as.map g = bs
  | [], [], _ => rfl
  | a :: as, b :: bs, hh => by
    simp only [listAll2, Bool.and_eq_true] at hh
    rw [List.map_cons, h a b hh.1, listAll2_map h hh.2]
  | [], _ :: _, hh => by cases hh
  | _ :: _, [], hh => by cases hh
def zeroRep : Leaf → Value → Bool
  | .int k n, .int k' n' => decide (k = k') && decide (n = n') && rngB k n
  | .bool b, .bool b' => b == b'
  | .str s, .string b => s.isEmpty && Nat.beq b.size 0
  | .sl _ xs, .slice none 0 0 => xs.isEmpty
  | _, _ => false
theorem zeroRep_ok {ro : Snap} {l : Leaf} {v : Value} (h : zeroRep l v = true) : Rep ro l v := by
  unfold zeroRep at h
  split at h
  · simp only [Bool.and_eq_true, decide_eq_true_eq] at h
    obtain ⟨⟨rfl, rfl⟩, h⟩ := h
    exact .int _ _ h
  · simp only [beq_iff_eq] at h
    subst h; exact .bool _
  · rename_i s b
    simp only [Bool.and_eq_true, List.isEmpty_iff] at h
    obtain ⟨rfl, h⟩ := h
    have := bytes_zero h
    subst this
    exact .str ByteArray.empty (Nat.zero_le _)
  · simp only [List.isEmpty_iff] at h
    subst h
    exact .nil _
  · cases h
theorem zeroRep_all {ro : Snap} : ∀ {ls : List Leaf} {vs : List Value}, listAll2 zeroRep ls vs = true → RepC ro ls vs
  | [], [], _ => .nil _
  | l :: ls, v :: vs, h => by
    simp only [listAll2, Bool.and_eq_true] at h
    exact .cons (zeroRep_ok h.1) (zeroRep_all h.2)
  | [], _ :: _, h => by cases h
  | _ :: _, [], h => by cases h
def fieldEq (f : Field) (p : Nat × Nat) : Bool := Nat.beq f.offset p.1 && Nat.beq f.type p.2
theorem fieldEq_ok {f : Field} {p : Nat × Nat} (h : fieldEq f p = true) : (f.offset, f.type) = p := by
  simp only [fieldEq, Bool.and_eq_true] at h
  rw [Nat.eq_of_beq_eq_true h.1, Nat.eq_of_beq_eq_true h.2]
def descOk (P : Program) (t : Nat) (i : TyI) : TypeDesc → Bool
  | .struct fields => match i.d with
    | .st fs => listAll2 fieldEq fields.toList fs && (fields.toList.all fun f => match P.info? f.type with | some fi => !Nat.beq fi.size 0 | none => false) &&
        (!i.eq || (!P.stoodInHeld t && !P.eqGuardType P.depth t && fields.toList.all fun f => f.name != "_"))
    | .other | .sc => true
    | _ => false
  | .array n e => match i.d with
    | .arr n' e' => Nat.beq n n' && Nat.beq e e'
    | .other | .sc => true
    | _ => false
  | .slice e => match i.d with
    | .sl e' => Nat.beq e e'
    | .other | .sc => true
    | _ => false
  | .int k => match i.d with
    | .int k' => decide (k = k')
    | .other | .sc => true
    | _ => false
  | .string => match i.d with | .str | .other | .sc => true | _ => false
  | .bool => match i.d with | .bool | .other | .sc => true | _ => false
  | _ => match i.d with | .other | .sc => true | _ => false
theorem descOk_ok {t : Nat} {i : TyI} {d : TypeDesc} (h : descOk P t i d = true) : (match i.d with
      | .st fs => ∃ fields, d = .struct fields ∧ fields.toList.map (fun f => (f.offset, f.type)) = fs ∧ (∀ f ∈ fields.toList, ∃ fi, P.info? f.type = some fi ∧ fi.size ≠ 0) ∧
          (i.eq = true → P.stoodInHeld t = false ∧ P.eqGuardType P.depth t = false ∧ ∀ f ∈ fields.toList, (f.name != "_") = true)
      | .arr n e => d = .array n e
      | .sl e => d = .slice e
      | .int k => d = .int k
      | .str => d = .string
      | .bool => d = .bool
      | _ => True) := by
  unfold descOk at h
  split at h
  · rename_i fields
    split at h
    · rename_i fs hd
      simp only [Bool.and_eq_true] at h
      simp only [hd]
      obtain ⟨⟨h1, h2⟩, h3⟩ := h
      refine ⟨fields, rfl, listAll2_map (g := fun f : Field => (f.offset, f.type)) (fun _ _ => fieldEq_ok) h1, fun f hf => ?_, fun he => ?_⟩
      · have := List.all_eq_true.1 h2 f hf
        split at this
        · rename_i fi hi
          exact ⟨fi, hi, fun h0 => by rw [h0] at this; cases this⟩
        · cases this
      · rw [he] at h3
        simp only [Bool.not_true, Bool.false_or, Bool.and_eq_true, Bool.not_eq_true'] at h3
        exact ⟨h3.1.1, h3.1.2, fun f hf => List.all_eq_true.1 h3.2 f hf⟩
    · rename_i hd; simp only [hd]
    · rename_i hd; simp only [hd]
    · cases h
  · split at h
    · rename_i hd
      simp only [Bool.and_eq_true] at h
      simp only [hd]
      rw [Nat.eq_of_beq_eq_true h.1, Nat.eq_of_beq_eq_true h.2]
    · rename_i hd; simp only [hd]
    · rename_i hd; simp only [hd]
    · cases h
  · split at h
    · rename_i hd
      simp only [hd]
      rw [Nat.eq_of_beq_eq_true h]
    · rename_i hd; simp only [hd]
    · rename_i hd; simp only [hd]
    · cases h
  · split at h
    · rename_i hd
      simp only [decide_eq_true_eq] at h
      simp only [hd, h]
    · rename_i hd; simp only [hd]
    · rename_i hd; simp only [hd]
    · cases h
  · split at h <;> first | (cases h; done) | (rename_i hd; simp only [hd])
  · split at h <;> first | (cases h; done) | (rename_i hd; simp only [hd])
  · split at h <;> first | (cases h; done) | (rename_i hd; simp only [hd])
def tyOkB (P : Program) (t : Nat) (i : TyI) : Bool :=
  match P.info? t, P.underlying t with
  | some inf, some d => match inf.zero with
    | some z => Nat.beq inf.size i.size && Nat.beq z.cells.size i.size && listAll2 zeroEq z.cells.toList i.zero && z.cells.toList.all litOk && Nat.ble inf.bytes 131072 && (isAggD d == i.agg) &&
        (i.agg || Nat.beq i.size 1) && Nat.blt 0 i.size && descOk P t i d && (match i.en with
          | none => true
          | some e => Nat.beq (sz e) i.size && (isAggE e == i.agg) && listAll2 zeroRep (cells e (zeroT e)) z.cells.toList)
    | none => false
  | _, _ => false
theorem tyOkB_ok {t : Nat} {i : TyI} (h : tyOkB P t i = true) : TyOk P t i := by
  unfold tyOkB at h
  split at h
  · rename_i inf d h1 h2
    split at h
    · rename_i z hz
      simp only [Bool.and_eq_true, beq_iff_eq] at h
      obtain ⟨⟨⟨⟨⟨⟨⟨⟨⟨k1, k2⟩, k3⟩, k4⟩, k5⟩, k6⟩, k7⟩, k8⟩, k9⟩, k10⟩ := h
      have k8 : 0 < i.size := Nat.le_of_ble_eq_true k8
      refine ⟨inf, z, d, h1, h2, Nat.eq_of_beq_eq_true k1, hz, Nat.eq_of_beq_eq_true k2, listAll2_map (g := SV.lit) (fun _ _ => zeroEq_ok) k3, fun v hv => List.all_eq_true.1 k4 v hv, Nat.le_of_ble_eq_true k5, k6, ⟨fun ha => ?_, k8⟩, descOk_ok k9, fun e he => ?_⟩
      · rw [ha] at k7
        exact Nat.eq_of_beq_eq_true (by simpa using k7)
      · rw [he] at k10
        simp only [Bool.and_eq_true, beq_iff_eq] at k10
        exact ⟨Nat.eq_of_beq_eq_true k10.1.1, k8, k10.1.2, zeroRep_all k10.2⟩
    · cases h
  · cases h
def tysOkB (P : Program) (l : List (Nat × TyI)) : Bool := l.all fun p => tyOkB P p.1 p.2
theorem tysOk_of {E : Env} (h : tysOkB P E.ty = true) : TysOk P E := ⟨fun t i hm => tyOkB_ok (List.all_eq_true.1 h (t, i) hm)⟩
def inlB (P : Program) (l : List (Nat × Func)) : Prop := ∀ p ∈ l, P.funcs[p.1]? = some p.2 ∧ (p.2.name == "runtime.NumGoroutine") = false
theorem inlB_nil : inlB P [] := fun _ h => nomatch h
theorem inlB_cons {f : Nat} {fn : Func} {l : List (Nat × Func)} (h : P.funcs[f]? = some fn) (hn : (fn.name == "runtime.NumGoroutine") = false) (t : inlB P l) : inlB P ((f, fn) :: l) := by
  intro p hp
  rcases List.mem_cons.1 hp with rfl | hp
  · exact ⟨h, hn⟩
  · exact t p hp
theorem inlOk_of {E : Env} (h : inlB P E.inl) : InlOk P E := ⟨fun f fn hl => h (f, fn) (look_mem hl)⟩
theorem enters_of {f : Nat} {fn : Func} (h : P.funcs[f]? = some fn) (hn : (fn.name == "runtime.NumGoroutine") = false) (hb : fn.body.isNone = false) : Enters P f := ⟨fn, h, hn, hb⟩
def specsOk (P : Program) (l : List (Nat × VSpec)) : Prop := ∀ p ∈ l, SpecOk P p.1 p.2
theorem specsOk_nil : specsOk P [] := fun _ h => nomatch h
theorem specsOk_cons {f : Nat} {s : VSpec} {l : List (Nat × VSpec)} (h : SpecOk P f s) (t : specsOk P l) : specsOk P ((f, s) :: l) := by
  intro p hp
  rcases List.mem_cons.1 hp with rfl | hp
  · exact h
  · exact t p hp
theorem specSound_of {E : Env} (h : specsOk P E.specs) : SpecSound P E := ⟨fun n s nid as objs v u rs hl hr => by
  have h1 := h (n, s) (look_mem hl)
  refine ⟨h1.enters, fun w0 β ro D w vs hH hf hv => ?_⟩
  cases ho : s.own with
  | none => exact callSpec_none h1 ho hr hH hv
  | some ets => exact callSpec_own h1 ho hr hH hf hv⟩
end Go.Cat

namespace Go.Cat
open Go
def nth {α : Type} [Inhabited α] (xs : List α) (i : Nat) : α := (xs[i]?).getD default
section loops
variable {L R : Type} {step : L → Option (L ⊕ R)}
theorem loopO_inl {l l' : L} (h : step l = some (.inl l')) : loopO step l = loopO step l' := by
  cases hr : loopO step l' with
  | some r =>
    obtain ⟨n, hn⟩ := loopO_iff.1 hr
    exact loopO_iff.2 ⟨n + 1, by simp [iter, h, hn]⟩
  | none =>
    cases hq : loopO step l with
    | none => rfl
    | some r =>
      obtain ⟨n, hn⟩ := loopO_iff.1 hq
      cases n with
      | zero => simp [iter] at hn
      | succ n =>
        simp only [iter, h] at hn
        rw [loopO_iff.2 ⟨n, hn⟩] at hr
        cases hr
theorem loopO_exit {l : L} {t : Option R} (h : step l = t.map .inr) : loopO step l = t := by
  cases t with
  | some r => exact loopO_iff.2 ⟨1, by simp [iter, h]⟩
  | none =>
    cases hq : loopO step l with
    | none => rfl
    | some r =>
      obtain ⟨n, hn⟩ := loopO_iff.1 hq
      cases n with
      | zero => simp [iter] at hn
      | succ n => simp [iter, h] at hn
theorem loopO_for (f : Nat → L) (n : Nat) (t : Option R) (hs : ∀ k, k < n → step (f k) = some (.inl (f (k + 1)))) (he : step (f n) = t.map .inr) : loopO step (f 0) = t := by
  have gen : ∀ m k, k + m = n → loopO step (f k) = t := by
    intro m
    induction m with
    | zero => intro k hk; have : k = n := by omega
              subst this; exact loopO_exit he
    | succ m ih => intro k hk; rw [loopO_inl (hs k (by omega))]; exact ih (k + 1) (by omega)
  exact gen n 0 (by omega)
theorem loopO_all {α : Type} (xs : List α) (q : α → Bool) (f : Nat → L) (bad good : Option R)
    (hs : ∀ k (h : k < xs.length), step (f k) = if q xs[k] = true then some (.inl (f (k + 1))) else bad.map .inr) (he : step (f xs.length) = good.map .inr) :
    loopO step (f 0) = if xs.all q = true then good else bad := by
  have gen : ∀ m k, k + m = xs.length → loopO step (f k) = if (xs.drop k).all q = true then good else bad := by
    intro m
    induction m with
    | zero =>
      intro k hk
      have : k = xs.length := by omega
      subst this
      rw [loopO_exit he]; simp
    | succ m ih =>
      intro k hk
      have hlt : k < xs.length := by omega
      have h1 := hs k hlt
      rw [List.drop_eq_getElem_cons hlt, List.all_cons]
      cases hq : q xs[k] with
      | true =>
        simp only [hq, if_true] at h1
        rw [loopO_inl h1, ih (k + 1) (by omega)]
        simp
      | false =>
        simp only [hq, Bool.false_eq_true, if_false] at h1
        rw [loopO_exit h1]
        simp
  simpa using gen xs.length 0 (by omega)
theorem loopO_allN (a n : Nat) (q : Nat → Bool) (f : Nat → L) (bad good : Option R) (han : a ≤ n)
    (hs : ∀ k, a ≤ k → k < n → step (f k) = if q k = true then some (.inl (f (k + 1))) else bad.map .inr) (he : step (f n) = good.map .inr) :
    loopO step (f a) = if (List.range' a (n - a)).all q = true then good else bad := by
  have gen : ∀ m k, k + m = n → a ≤ k → loopO step (f k) = if (List.range' k m).all q = true then good else bad := by
    intro m
    induction m with
    | zero =>
      intro k hk _
      have : k = n := by omega
      subst this
      rw [loopO_exit he]; rfl
    | succ m ih =>
      intro k hk hak
      have h1 := hs k hak (by omega)
      rw [List.range'_succ, List.all_cons]
      cases hq : q k with
      | true =>
        simp only [hq, if_true] at h1
        rw [loopO_inl h1, ih (k + 1) (by omega) (by omega), Bool.true_and]
      | false =>
        simp only [hq, Bool.false_eq_true, if_false] at h1
        rw [loopO_exit h1, Bool.false_and]
        rfl
  exact gen (n - a) a (by omega) (Nat.le_refl _)
end loops
theorem okL_len {e : EN} {xs : List (T e)} (h : OkL (.sl e xs)) : xs.length ≤ maxLen := by cases h; assumption
theorem okL_elem {e : EN} {xs : List (T e)} (h : OkL (.sl e xs)) {x : T e} (hx : x ∈ xs) : OkT e x := by
  cases h with
  | sl _ _ h1 h2 =>
    intro l hl
    obtain ⟨i, hi⟩ := List.mem_iff_getElem?.1 hx
    obtain ⟨j, hj⟩ := List.mem_iff_getElem?.1 hl
    exact h2 i x j l hi hj
theorem okL_int {k : IntKind} {n : Int} (h : OkL (.int k n)) : k.min ≤ n ∧ n ≤ k.max := by
  cases h with
  | int _ _ h => simpa [rngB] using h
theorem min_u8 : IntKind.min .u8 = 0 := by decide
theorem max_u8 : IntKind.max .u8 = 255 := by decide
theorem min_u32 : IntKind.min .u32 = 0 := by decide
theorem max_u32 : IntKind.max .u32 = 4294967295 := by decide
theorem okL_u8 {n : Int} (h : OkL (.int .u8 n)) : 0 ≤ n ∧ n ≤ 255 := by have := okL_int h; rwa [min_u8, max_u8] at this
theorem okL_u32 {n : Int} (h : OkL (.int .u32 n)) : 0 ≤ n ∧ n ≤ 4294967295 := by have := okL_int h; rwa [min_u32, max_u32] at this
theorem nth_lt {α : Type} [Inhabited α] {xs : List α} {k : Nat} (h : k < xs.length) : nth xs k = xs[k] := by
  simp [nth, h]
theorem wrap_i64 {n : Int} (h1 : -9223372036854775808 ≤ n) (h2 : n ≤ 9223372036854775807) : IntKind.wrap .i64 n = n := by
  simp [IntKind.wrap, IntKind.signed, IntKind.bits]
  split <;> omega
theorem wrap_succ {k : Nat} (h : k < maxLen) : IntKind.wrap .i64 ((k : Int) + 1) = ((k + 1 : Nat) : Int) := by
  have : maxLen = 9223372036854775807 := rfl
  rw [wrap_i64 (by omega) (by omega)]
  rfl
theorem wrap_u64 {n : Int} (h1 : 0 ≤ n) (h2 : n ≤ 18446744073709551615) : IntKind.wrap .u64 n = n := by
  simp [IntKind.wrap, IntKind.signed, IntKind.bits]
  omega
theorem wrap_u32 {n : Int} (h1 : 0 ≤ n) (h2 : n ≤ 4294967295) : IntKind.wrap .u32 n = n := by
  simp [IntKind.wrap, IntKind.signed, IntKind.bits]
  omega
end Go.Cat

namespace Go.Cat
open Go
def b1 (b : Bool) : Option (Bool × Unit) := some (b, ())
def e1 (n : Int) : Option (Int × Unit) := some (n, ())
def N_place_within (x : List Bound × Unit) : Option (Bool × Unit) := b1 (x.1.all fun b => !(decide (b.a < b.b)) && !(decide (b.a > b.c)))
def mayConf (c : Config) : Bool :=
  decide (1 ≤ c.pairs) && decide (c.pairs ≤ 3) && decide (1 ≤ c.tracks) && decide (c.tracks ≤ 16) && decide (c.pairs + 2 ≤ c.area) && decide (c.area ≤ 32) && decide (1 ≤ c.most) && decide (c.most ≤ c.pairs) &&
    decide (1 ≤ c.window) && decide (c.window ≤ 4) && decide (4 ≤ c.quiet) && decide (c.quiet ≤ 64)
def N_place_Check (x : Config × Unit) : Option (Int × Unit) := e1 (if mayConf x.1 = true then 0 else 8)
def many (c : Config) : Int := if c.tracks > 8 then 2 else 1
def N_place_pages (x : Config × Unit) : Option (Int × Unit) := if mayConf x.1 = true then e1 (many x.1) else none
def N_place_part_size (x : Part × Unit) : Option (Int × Unit) := e1 (IntKind.wrap .i64 (IntKind.wrap .i64 (x.1.owners * x.1.many) * x.1.own))
def sizeC (c : Config) : Int := 2 + 2 * c.area + c.pairs * many c + 4 * c.pairs * c.tracks
def N_place_Sectors (x : Config × Unit) : Option (Int × (Int × Unit)) := if mayConf x.1 = true then some (sizeC x.1, (0, ())) else some (0, (8, ()))
def N_disk_sized (x : List (List Int) × Unit) : Option (Bool × Unit) := b1 (x.1.all fun b => b.length == 32)
def N_disk_none (_ : Unit) : Option (List Int × Unit) := some (List.replicate 32 0, ())
def N_bytes_Equal (x : List Int × (List Int × Unit)) : Option (Bool × Unit) := b1 (x.1 == x.2.1)
def maySector (s : Sector) : Bool := s.bytes.length == 32 && (!s.bad || s.bytes.all fun b => b == 0)
def mayPend (n : Nat) (p : Pend) : Bool := decide (0 ≤ p.at_) && decide (p.at_ < (n : Int)) && p.bytes.length == 32
def mayDisk (d : Disk) : Bool :=
  decide (1 ≤ d.sectors.length) && decide (d.sectors.length ≤ 1024) && decide (d.cache.length ≤ 64) && d.sectors.all maySector && d.cache.all (mayPend d.sectors.length)
def N_disk_Check (x : Disk × Unit) : Option (Int × Unit) := e1 (if mayDisk x.1 = true then 0 else 8)
def mayVol (c : Config) (d : Disk) : Bool := mayConf c && ((d.sectors.length : Int) == sizeC c) && mayDisk d
def N_track_Check (x : Config × (Disk × Unit)) : Option (Int × Unit) := e1 (if mayVol x.1 x.2.1 = true then 0 else 8)
def smallDisk (m : Int) (d : Disk) : Bool :=
  decide ((d.sectors.length : Int) ≤ m) && decide (d.cache.length ≤ 100) && d.sectors.all (fun s => decide (s.bytes.length ≤ 100)) && d.cache.all (fun p => decide (p.bytes.length ≤ 100))
def N_ref05_Great (x : Disk × (Int × Unit)) : Option (Bool × Unit) := if 0 ≤ x.2.1 ∧ x.2.1 ≤ 1000 then b1 (!smallDisk x.2.1 x.1) else none
def fitDisk (d : Disk) : Bool := decide (d.sectors.length ≤ 1000000) && decide (d.cache.length ≤ 1000000) && d.sectors.all (fun s => decide (s.bytes.length ≤ 1000000)) && d.cache.all (fun p => decide (p.bytes.length ≤ 1000000))
def N_ref05_Twin (x : Disk × Unit) : Option (Disk × Unit) := if fitDisk x.1 = true then some (x.1, ()) else none
def N_ref05_Same (x : Disk × (Disk × Unit)) : Option (Bool × Unit) := if x.1 = x.2.1 then b1 true else none
def fated (secs : List Sector) (p : Pend) (f : Int) : List Sector :=
  if f % 3 = 1 then secs.set p.at_.toNat ⟨p.bytes, false⟩ else if f % 3 = 2 then secs.set p.at_.toNat ⟨List.replicate 32 0, true⟩ else secs
def behindN (d : Disk) (l : List Int) : Nat → List Sector
  | 0 => d.sectors
  | k + 1 => fated (behindN d l k) (nth d.cache k) (nth l k)
def behind (d : Disk) (l : List Int) : Disk := ⟨behindN d l (min d.cache.length l.length), []⟩
def N_disk_Crash (x : Disk × (List Int × Unit)) : Option (Disk × (Int × Unit)) := if mayDisk x.1 = true then some (behind x.1 x.2.1, (0, ())) else some (⟨[], []⟩, (8, ()))
def N_slices_Clone_byte_byte (x : List Int × Unit) : Option (List Int × Unit) := if x.1.length ≤ big then some x else none
def mayRec (r : Rec) : Bool :=
  decide (0 ≤ r.pair) && decide (r.pair ≤ 2) && decide (1 ≤ r.born) && decide (1 ≤ r.epoch) && (decide (r.lead = 0) || decide (r.lead = 1)) && (decide (r.from_ = 0) || decide (r.from_ = 1)) && decide (1 ≤ r.phase) && decide (r.phase ≤ 3) &&
    (decide (r.phase = 1) || decide (r.from_ = r.lead)) && (!r.quick || (decide (r.phase = 1) && !decide (r.from_ = r.lead)))
def N_rec_site (x : List Int × Unit) : Option (Bool × Unit) := b1 (x.1.all fun n => n == 0 || n == 1)
def N_rec_Check (x : Rec × Unit) : Option (Int × Unit) := e1 (if mayRec x.1 = true then 0 else 110)
def mayRow (t : List Rec) (i : Nat) : Bool := mayRec (nth t i) && (i == 0 || decide ((nth t (i - 1)).pair < (nth t i).pair))
def mayTable (t : List Rec) : Bool := (List.range' 0 t.length).all (mayRow t)
def N_rec_sizes (_ : Unit) : Option (List Int × Unit) := some ([1, 1, 4, 4, 1, 1, 1, 1], ())
def be (n : Int) (s : Nat) : List Int := (List.range s).map fun i => (n / 256 ^ (s - 1 - i)) % 256
def rows (l ss : List Int) : Nat → List Int
  | 0 => []
  | k + 1 => rows l ss k ++ be (nth l k) (nth ss k).toNat
def offs (ss : List Int) : Nat → Nat
  | 0 => 0
  | k + 1 => offs ss k + (nth ss k).toNat
def rowOf (l ss : List Int) : List Int := rows l ss l.length
def fitsAt (l ss : List Int) (k : Nat) : Bool := decide (1 ≤ nth ss k) && decide (nth ss k ≤ 8) && decide (0 ≤ nth l k) && decide (nth l k < 256 ^ (nth ss k).toNat)
def fitsRow (l ss : List Int) : Bool := l.length == ss.length && decide (ss.length ≤ 16) && (List.range' 0 l.length).all (fitsAt l ss)
def N_num_Write (x : List Int × (List Int × Unit)) : Option (List Int × (Int × Unit)) := if fitsRow x.1 x.2.1 = true then some (rowOf x.1 x.2.1, (0, ())) else none
def flagsOf (r : Rec) : Int := (if r.quick = true then 2 else 0) + (if r.alone = true then 1 else 0)
def noteOf (r : Rec) : List Int := rowOf [1, r.pair, r.born, r.epoch, r.lead, r.phase, r.from_, flagsOf r] [1, 1, 4, 4, 1, 1, 1, 1]
def N_rec_Note (x : Rec × Unit) : Option (List Int × (Int × Unit)) := if mayRec x.1 = true then some (noteOf x.1, (0, ())) else some ([], (110, ()))
def N_rec_Notes (x : List Rec × Unit) : Option (List (List Int) × (Int × Unit)) := if x.1.length ≤ 1000000 then (if mayTable x.1 = true then some (x.1.map noteOf, (0, ())) else some ([], (110, ()))) else none
def mayMeta (c : Config) (m : Meta) : Bool :=
  mayConf c && decide (0 ≤ m.super.area) && decide (m.super.area ≤ 1) && decide (0 ≤ m.count) && decide (m.count ≤ c.area) && decide (0 ≤ m.turn) && decide (m.turn ≤ 65535) && mayTable m.table
def N_meta_Check (x : Config × (Meta × Unit)) : Option (Int × Unit) := if x.2.1.table.length ≤ 1000000 then e1 (if mayMeta x.1 x.2.1 = true then 0 else 8) else none
def N_ref12_Twin (x : Meta × Unit) : Option (Meta × Unit) := if x.1.table.length ≤ 1000000 then some x else none
def N_ref12_Same (x : Meta × (Meta × Unit)) : Option (Bool × Unit) := if x.1 = x.2.1 then b1 true else none
def N_ref11_Same (x : List Rec × (List Rec × Unit)) : Option (Bool × Unit) := if x.1 = x.2.1 then b1 true else none
def fitAll (l : List (List Int)) : Bool := decide (l.length ≤ 1000000) && l.all fun b => decide (b.length ≤ 1000000)
def place (q : Queue) (k : Nat) : Nat := (q.head.toNat + k) % q.items.length
def mayQueue (q : Queue) : Bool :=
  decide (1 ≤ q.items.length) && decide (q.items.length ≤ 64) && decide (0 ≤ q.head) && decide (q.head < (q.items.length : Int)) && decide (0 ≤ q.many) && decide (q.many ≤ (q.items.length : Int)) &&
    (List.range' q.many.toNat (q.items.length - q.many.toNat)).all fun k => (nth q.items (place q k)).length == 0
def queueList (q : Queue) : List (List Int) := (List.range q.many.toNat).map fun k => nth q.items (place q k)
def N_ring_Check (x : Queue × Unit) : Option (Int × Unit) := e1 (if mayQueue x.1 = true then 0 else 8)
def N_ring_round_byte_at (x : Round × (Int × Unit)) : Option (Int × Unit) := if x.1.all.length = 0 then none else e1 (Int.tmod (IntKind.wrap .i64 (x.1.from_ + x.2.1)) x.1.all.length)
def N_ref04_List (x : Queue × Unit) : Option (List (List Int) × (Int × Unit)) := if fitAll x.1.items = true then (if mayQueue x.1 = true then some (queueList x.1, (0, ())) else some ([], (8, ()))) else none
def N_ring_List (x : Queue × Unit) : Option (List (List Int) × (Int × Unit)) := N_ref04_List x
def N_ref04_TwinAll (x : List (List Int) × Unit) : Option (List (List Int) × Unit) := if fitAll x.1 = true then some x else none
def N_ref04_SameAll (x : List (List Int) × (List (List Int) × Unit)) : Option (Bool × Unit) := if x.1 = x.2.1 then b1 true else none
def N_ref04_Same (x : Queue × (Queue × Unit)) : Option (Bool × Unit) := if x.1 = x.2.1 then b1 true else none
def mayTexts (l : List (List Int)) : Bool := l.all fun b => decide (1 ≤ b.length) && decide (b.length ≤ 64)
def mayEnd (c : Config) (e : End) : Bool :=
  mayConf c && mayQueue e.out && !decide (e.me = 0) && (e.out.items.length == 64) && decide (e.done ≤ e.sent) && (IntKind.wrap .u32 (e.sent - e.done) == IntKind.wrap .u32 e.out.many) && mayTexts (queueList e.out) && decide (0 ≤ e.quiet) && decide (e.quiet < c.quiet) &&
    !(decide (e.you = 0) && e.up) && !(e.dead && !decide (e.you = 0)) && (e.up || (decide (e.sent = 0) && decide (e.done = 0) && decide (e.got = 0)))
def N_sess_Check (x : Config × (End × Unit)) : Option (Int × Unit) := if fitAll x.2.1.out.items = true then e1 (if mayEnd x.1 x.2.1 = true then 0 else 8) else none
def N_ref17_Twin (x : End × Unit) : Option (End × Unit) := if fitAll x.1.out.items = true then some x else none
def N_ref17_Same (x : End × (End × Unit)) : Option (Bool × Unit) := if x.1 = x.2.1 then b1 true else none
def mayN (n : Int) : Bool := decide (1 ≤ n) && decide (n ≤ 16)
def allBytes (n : Int) : List Int := if n < 8 then [2 ^ n.toNat - 1] else if n = 8 then [255] else [255, 2 ^ (n - 8).toNat - 1]
def N_bits_All (x : Int × Unit) : Option (List Int × (Int × Unit)) := if mayN x.1 = true then some (allBytes x.1, (0, ())) else some ([], (2, ()))
def bitsOk (n : Int) (s : List Int) : Bool := mayN n && s.length == (allBytes n).length && (List.range' 0 s.length).all fun i => ibits .andNot .u8 (nth s i) (nth (allBytes n) i) == 0
def N_bits_Check (x : Int × (List Int × Unit)) : Option (Int × Unit) := e1 (if mayN x.1 = true then (if bitsOk x.1 x.2.1 = true then 0 else 8) else 2)
def markB (n : Nat) : Bool := n == 1 || n == 2
def rec0 : Rec := ⟨0, 0, 0, 0, 0, 0, false, false⟩
def z (n : Int) : Bool := n == 0
def zl (l : List Int) : Bool := l.length == 0
def mayKind (m : Msg) : Bool :=
  if m.kind = 2 ∨ m.kind = 3 then decide (2 ≤ m.op) && decide (m.op ≤ 8) && markB m.marks.length && z m.track && z m.n && z m.code && zl m.bytes
  else if m.kind = 4 then decide (1 ≤ m.op) && decide (m.op ≤ 8) && decide (1 ≤ m.code) && decide (m.code ≤ 999) && z m.track && z m.n && zl m.marks && zl m.bytes
  else if m.kind = 5 then (m.bytes.length == 28) && z m.op && z m.code && zl m.marks
  else if m.kind = 6 then z m.op && z m.track && z m.code && zl m.marks && zl m.bytes
  else if m.kind = 7 then z m.op && z m.track && z m.n && z m.code && zl m.marks && zl m.bytes
  else if m.kind = 8 then z m.op && z m.n && z m.code && zl m.marks && zl m.bytes
  else false
def mayMsg (m : Msg) : Bool :=
  decide (0 ≤ m.pair) && decide (m.pair ≤ 2) &&
    if m.kind = 1 then z m.op && z m.born && z m.epoch && z m.track && z m.n && z m.code && zl m.bytes && (if m.has = true then mayRec m.rec_ && (m.rec_.pair == m.pair) && markB m.marks.length else decide (m.rec_ = rec0) && zl m.marks)
    else !m.has && decide (m.rec_ = rec0) && !z m.born && !z m.epoch && decide (0 ≤ m.track) && decide (m.track ≤ 15) && mayKind m
def N_msg_marks (x : List Int × Unit) : Option (Bool × Unit) := b1 (markB x.1.length)
def N_msg_of (x : Msg × Unit) : Option (Plain × Unit) := some (⟨x.1.kind, x.1.op, x.1.pair, x.1.track, x.1.has, x.1.rec_, x.1.born, x.1.epoch, x.1.n, x.1.code⟩, ())
def N_msg_Same (x : Msg × (Msg × Unit)) : Option (Bool × Unit) := b1 (decide (x.1 = x.2.1))
def N_msg_Check (x : Msg × Unit) : Option (Int × Unit) := e1 (if mayMsg x.1 = true then 0 else 200)
def usedOf (m : Msg) : Msg × Bool :=
  let o : Msg := ⟨m.kind, m.pair, false, rec0, 0, m.born, m.epoch, 0, 0, 0, [], []⟩
  let may := decide (0 < m.born) && decide (0 < m.epoch)
  if m.kind = 1 then (if m.has = true then (⟨m.kind, m.pair, true, m.rec_, 0, 0, 0, 0, 0, 0, m.marks, []⟩, mayRec m.rec_ && (m.rec_.pair == m.pair) && markB m.marks.length) else (⟨m.kind, m.pair, false, rec0, 0, 0, 0, 0, 0, 0, [], []⟩, true))
  else if m.kind = 2 ∨ m.kind = 3 then ({ o with op := m.op, marks := m.marks }, may && decide (2 ≤ m.op) && decide (m.op ≤ 8) && markB m.marks.length)
  else if m.kind = 4 then ({ o with op := m.op, code := m.code }, may && decide (1 ≤ m.op) && decide (m.op ≤ 8) && decide (1 ≤ m.code) && decide (m.code ≤ 999))
  else if m.kind = 5 then ({ o with track := m.track, n := m.n, bytes := m.bytes }, may && (m.bytes.length == 28))
  else if m.kind = 6 then ({ o with n := m.n }, may)
  else if m.kind = 7 then (o, may)
  else if m.kind = 8 then ({ o with track := m.track }, may)
  else (o, false)
def N_msg_used (x : Msg × Unit) : Option (Msg × (Bool × Unit)) := some ((usedOf x.1).1, ((usedOf x.1).2, ()))
def fitMsg (m : Msg) : Bool := decide (m.marks.length ≤ 1000000) && decide (m.bytes.length ≤ 1000000)
def N_ref20_Twin (x : Msg × Unit) : Option (Msg × Unit) := if fitMsg x.1 = true then some x else none
def N_ref20_Same (x : Msg × (Msg × Unit)) : Option (Bool × Unit) := if x.1 = x.2.1 then b1 true else none
def thereB (c : Config) (t : Int) : Bool := decide (0 ≤ t) && decide (t < c.tracks)
def pairB (c : Config) (p : Int) : Bool := decide (0 ≤ p) && decide (p < c.pairs)
def N_act_limits_pair (x : Config × (Int × Unit)) : Option (Bool × Unit) := b1 (pairB x.1 x.2.1)
def mayMsgC (c : Config) (m : Msg) : Bool := mayMsg m && pairB c m.pair
def N_act_limits_message (x : Config × (Msg × Unit)) : Option (Bool × Unit) := b1 (mayMsgC x.1 x.2.1)
def maySide (c : Config) (x : Side) : Bool :=
  bitsOk c.tracks x.marks && bitsOk c.tracks x.work && bitsOk c.tracks x.need && decide ((x.out.length : Int) ≤ c.window) && decide (x.waits.length ≤ 64) && x.out.all (fun s => thereB c s.track) && x.waits.all (fun s => thereB c s.track) &&
    (decide (x.first = -1) || thereB c x.first) && thereB c x.next && (decide (x.op = 0) || (decide (2 ≤ x.op) && decide (x.op ≤ 8)))
def N_act_limits_side (x : Config × (Side × Unit)) : Option (Bool × Unit) := b1 (maySide x.1 x.2.1)
def mayAct (c : Config) (n : Int) (a : Act) : Bool :=
  if a.kind = 1 then decide (0 ≤ a.at_) && decide (a.at_ < n) && (a.bytes.length == 32)
  else if a.kind = 3 then mayMsgC c a.msg
  else if a.kind = 5 then pairB c a.pair
  else decide (1 ≤ a.kind) && decide (a.kind ≤ 6)
def N_act_limits_act (x : Config × (Act × (Int × Unit))) : Option (Bool × Unit) := b1 (mayAct x.1 x.2.2.1 x.2.1)
def mayMail (c : Config) (m : Mail) : Bool := if m.kind = 0 then mayMsgC c m.msg else decide (m.kind ≤ 3)
def N_act_limits_mail (x : Config × (Mail × Unit)) : Option (Bool × Unit) := b1 (mayMail x.1 x.2.1)
def mayAsk (a : Ask) : Bool := decide (1 ≤ a.kind) && decide (a.kind ≤ 3)
def mayLists (c : Config) (s : Site) : Bool := s.plan.all (mayAct c s.disk.sectors.length) && s.mail.all (mayMail c) && s.asks.all mayAsk
def maySite (c : Config) (s : Site) : Bool :=
  mayVol c s.disk && decide (0 ≤ s.id) && decide (s.id ≤ 1) && mayMeta c s.met && mayEnd c s.end_ && ((s.sides.length : Int) == c.pairs) && decide (s.born ≤ 64) && s.met.table.all (fun r => pairB c r.pair) && s.sides.all (maySide c) && mayLists c s
def smallSide (x : Side) : Bool := decide (x.marks.length ≤ 100) && decide (x.work.length ≤ 100) && decide (x.need.length ≤ 100) && decide (x.out.length ≤ 100) && decide (x.waits.length ≤ 100)
def smallAct (a : Act) : Bool := decide (a.bytes.length ≤ 100) && decide (a.msg.bytes.length ≤ 100) && decide (a.msg.marks.length ≤ 100) && decide (a.reply.bytes.length ≤ 100)
def smallMail (m : Mail) : Bool := decide (m.msg.bytes.length ≤ 100) && decide (m.msg.marks.length ≤ 100)
def smallWords (s : Site) : Bool := s.asks.all (fun a => decide (a.bytes.length ≤ 100)) && s.replies.all (fun a => decide (a.bytes.length ≤ 100))
def smallLens (s : Site) : Bool :=
  decide (s.met.table.length ≤ 100) && decide (s.sides.length ≤ 10) && decide (s.plan.length ≤ 200) && decide (s.mail.length ≤ 200) && decide (s.asks.length ≤ 200) && decide (s.replies.length ≤ 2000) && decide (s.syncs.length ≤ 2000) && decide (s.end_.out.items.length ≤ 100)
def smallSite (s : Site) : Bool :=
  smallDisk 300 s.disk && smallLens s && s.sides.all smallSide && s.plan.all smallAct && s.mail.all smallMail && s.end_.out.items.all (fun b => decide (b.length ≤ 100)) && smallWords s
def fitSide (x : Side) : Bool := decide (x.marks.length ≤ 1000000) && decide (x.work.length ≤ 1000000) && decide (x.need.length ≤ 1000000) && decide (x.out.length ≤ 1000000) && decide (x.waits.length ≤ 1000000)
def fitAct (a : Act) : Bool := decide (a.bytes.length ≤ 1000000) && decide (a.msg.bytes.length ≤ 1000000) && decide (a.msg.marks.length ≤ 1000000) && decide (a.reply.bytes.length ≤ 1000000)
def fitMail (m : Mail) : Bool := decide (m.msg.bytes.length ≤ 1000000) && decide (m.msg.marks.length ≤ 1000000)
def fitWords (s : Site) : Bool := s.asks.all (fun a => decide (a.bytes.length ≤ 1000000)) && s.replies.all (fun a => decide (a.bytes.length ≤ 1000000))
def fitLens (s : Site) : Bool :=
  decide (s.met.table.length ≤ 1000000) && decide (s.sides.length ≤ 1000000) && decide (s.plan.length ≤ 1000000) && decide (s.mail.length ≤ 1000000) && decide (s.asks.length ≤ 1000000) && decide (s.replies.length ≤ 1000000) && decide (s.syncs.length ≤ 1000000)
def fitSite (s : Site) : Bool :=
  fitDisk s.disk && fitLens s && s.sides.all fitSide && s.plan.all fitAct && s.mail.all fitMail && fitAll s.end_.out.items && fitWords s
def N_ref21_greatWords (x : Site × Unit) : Option (Bool × Unit) := b1 (!smallWords x.1)
def N_ref21_Great (x : Site × Unit) : Option (Bool × Unit) := b1 (!smallSite x.1)
def N_act_Check (x : Config × (Site × Unit)) : Option (Int × Unit) := if fitSite x.2.1 = true then e1 (if maySite x.1 x.2.1 = true then 0 else 8) else none
def N_ref21_bytes (x : List Int × Unit) : Option (List Int × Unit) := if x.1.length ≤ 1000000 then some x else none
def N_ref21_TwinSide (x : Side × Unit) : Option (Side × Unit) := if fitSide x.1 = true then some x else none
def N_ref21_Twin (x : Site × Unit) : Option (Site × Unit) := if fitSite x.1 = true then some x else none
def N_ref21_SameSide (x : Side × (Side × Unit)) : Option (Bool × Unit) := if x.1 = x.2.1 then b1 true else none
def N_ref21_SameReply (x : Reply × (Reply × Unit)) : Option (Bool × Unit) := if x.1 = x.2.1 then b1 true else none
def N_ref21_SameReplies (x : List Reply × (List Reply × Unit)) : Option (Bool × Unit) := if x.1 = x.2.1 then b1 true else none
def N_ref21_samePlan (x : List Act × (List Act × Unit)) : Option (Bool × Unit) := if x.1 = x.2.1 then b1 true else none
def N_ref21_sameCome (x : Site × (Site × Unit)) : Option (Bool × Unit) := if x.1 = x.2.1 then b1 true else none
def N_ref21_Same (x : Site × (Site × Unit)) : Option (Bool × Unit) := if x.1 = x.2.1 then b1 true else none
end Go.Cat
