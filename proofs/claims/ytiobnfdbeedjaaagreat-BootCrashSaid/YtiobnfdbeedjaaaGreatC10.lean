/-
  ring.List: a range over a function.
  Contracts of functions (written by mkfull.py, my own).
  Contracts of functions (written by mkfull.py, my own).
  Contracts of functions (written by mkfull.py, my own).
  Contracts of functions (written by mkfull.py, my own).
  Contracts of functions (written by mkfull.py, my own).
  Contracts of functions (written by mkfull.py, my own).
-/
import Derived.Test.YtiobnfdbeedjaaaGreatC9
import Derived.Test.YtiobnfdbeedjaaaGreatC5
set_option linter.unusedVariables false
set_option linter.unusedSimpArgs false
set_option maxHeartbeats 0
namespace Go.Cat
open Go Go.Proofs.Tryz Go.RowKit

def codeL : Code → Code | .seq a _ => a | c => c
def codeR : Code → Code | .seq _ b => b | c => c
def codeB : Code → Code | .block _ b => b | c => c
def codeT : Code → Code | .cond _ a _ => a | c => c
def rangeB : Code → Code | .rangeFunc _ _ _ b => b | c => c
def regOps : Code → Array Oper | .region _ o _ => o | _ => #[]
def bodyOf (f : Func) : Code := f.body.getD .skip

noncomputable def rgB : Code := bodyOf f85
noncomputable def rg0 : Code := codeL rgB
noncomputable def rgX : Code := codeL (codeR rgB)
noncomputable def rg1 : Code := codeL rgX
noncomputable def rg2 : Code := codeL (codeR rgX)
noncomputable def rg3 : Code := codeT (codeR (codeR rgX))
noncomputable def rgY : Code := codeL (codeR (codeR rgB))
noncomputable def rg4 : Code := codeL rgY
noncomputable def rgO : Array Oper := regOps (codeB (rangeB (codeB (codeR rgY))))
noncomputable def rg7 : Code := codeR (codeR (codeR rgB))

theorem rg_body : f85.body = some (rg0.seq ((rg1.seq (rg2.seq (.cond (.tmp 9) rg3 .skip))).seq ((rg4.seq (.block 0 (.rangeFunc (.tmp 13) #[14]
    (.region 5 #[{ dst := some 5, op := .assign (.tmp 14), type := 48, pos := "ring.go:98", after := #[], guard := none }] false) (.block 1 (.region 6 rgO true))))).seq rg7))) := by kernel_rfl

noncomputable def envR : Env := { ty := tys, specs := [(139, s139), (142, s142)], inl := [(140, f140), (141, f141)], hints := hnts }
noncomputable def envR1 (r : TT [(.int .i64)]) : Env := { envR with specs := [(139, { params := [(.st .Queue)], results := [(.int .i64)], own := none, fn := fun _ => some r }), (142, s142)] }
noncomputable def rgS0 (q : Queue) : St := { tmps := [datSV (.st .Queue) q] ++ List.replicate 20 (.lit (.tuple #[])), m := { objs := fun _ => none, next := 0, wl := [] } }
noncomputable def preK (E : Env) (q : Queue) : Tr St :=
  codeK E (callK E 8) 85 rg0 (rgS0 q) fun e S => match e with
    | .normal => codeK E (callK E 8) 85 rg1 S fun e S => match e with
      | .normal => codeK E (callK E 8) 85 rg2 S fun e S => match e with
        | .normal => .ret S
        | _ => .fail
      | _ => .fail
    | _ => .fail
def St0 : St := { tmps := [], m := { objs := fun _ => none, next := 0, wl := [] } }
noncomputable def stA (q : Queue) (r : TT [(.int .i64)]) : St := (preK (envR1 r) q).den.getD St0
theorem T_pre (q : Queue) : (preK envR q).den = Option.bind (N_ring_Check (q, ())) fun r => some (stA q r) := by kernel_rfl
theorem T_bad (q : Queue) : (codeK envR (callK envR 8) 85 rg3 (stA q (8, ())) fun e S => match e with | .ret => finK envR f85 [(.sl (.sl (.int .u8))), (.int .i64)] S | _ => .fail).den = some ([], (8, ())) := by kernel_rfl
theorem T_c8 (q : Queue) : tmpAt (stA q (8, ())).tmps 9 = .leaf (.bool true) := by kernel_rfl
theorem T_c0 (q : Queue) : tmpAt (stA q (0, ())).tmps 9 = .leaf (.bool false) := by kernel_rfl
noncomputable def midK (q : Queue) : Tr St := codeK envR (callK envR 8) 85 rg4 (stA q (0, ())) fun e S => match e with | .normal => .ret S | _ => .fail
noncomputable def stB (q : Queue) : St := (midK q).den.getD St0
theorem T_mid (q : Queue) : (midK q).den = some (stB q) := by kernel_rfl
noncomputable def idB (q : Queue) : Nat := match tmpAt (stB q).tmps 13 with | .fn _ _ [.bptr id _] => id | _ => 0
theorem T_fn (q : Queue) : tmpAt (stB q).tmps 13 = .fn 164 [] [.bptr (idB q) 0] := by kernel_rfl
theorem T_box (q : Queue) : (stB q).m.objs (idB q) = some (.blk [.leaf (.sl (.sl (.int .u8)) q.items), .leaf (.int .i64 q.head), .leaf (.int .i64 q.many)]) := by kernel_rfl
noncomputable def stC (q : Queue) : St := { stB q with m := { (stB q).m with objs := putAll (stB q).m.objs (freezeAll [idB q]) } }
def rgSl : List (Nat × SigV) := [(2, .cls [.own 48 (.sl (.int .u8))])]
def rgY0 (l : List (List Int)) : SigT rgSl := ((l, ()), ())
noncomputable def rgJ (q : Queue) : List Nat := match (sigOf (stC q).tmps (stC q).tmps rgSl).run (stC q).m.objs [] with | some ((_, js), _) => js | _ => []
noncomputable def rgR (q : Queue) : List Nat := match (sigOf (stC q).tmps (stC q).tmps rgSl).run (stC q).m.objs [] with | some ((_, _), rs) => rs | _ => []
theorem T_sig (q : Queue) : (sigOf (stC q).tmps (stC q).tmps rgSl).run (stC q).m.objs [] = some ((rgY0 [], rgJ q), rgR q) := by kernel_rfl
noncomputable def rgH (q : Queue) (l : List (List Int)) : St := loopHead (stC q).tmps (stC q).m (rgJ q) rgSl (rgY0 l)
theorem T_body (q : Queue) (l : List (List Int)) (x : List Int) : (regionK envR (callK envR 8) rgO true { tmps := setT (setT (rgH q l).tmps (some 14) (.leaf (.sl (.int .u8) x))) (some 5) (.leaf (.sl (.int .u8) x)), m := (rgH q l).m } fun S' =>
      (sigOf (stC q).tmps S'.tmps rgSl).k S'.m.objs [] fun q1 _ => match q1 with
        | (y, js') => match onlyWrote (stC q).m.next (rgJ q) (js' ++ S'.m.wl) && Nat.beq S'.tmps.length (stC q).tmps.length with
          | true => .ret y
          | false => .fail).den = Option.bind (N_ring_text (x, ())) fun r => (if decide (l.length + 1 ≤ big) = true then some (rgY0 (l ++ [r.1])) else none) := by kernel_rfl
theorem T_end (q : Queue) (l : List (List Int)) : (codeK envR (callK envR 8) 85 rg7 (rgH q l) fun e S => match e with | .ret => finK envR f85 [(.sl (.sl (.int .u8))), (.int .i64)] S | _ => .fail).den = some (l, (0, ())) := by kernel_rfl
theorem T_keep (q : Queue) (y : SigT rgSl) (t : Nat) : tmpAt (loopHead (stC q).tmps (stC q).m (rgJ q) rgSl y).tmps t = .any ∨ tmpAt (loopHead (stC q).tmps (stC q).m (rgJ q) rgSl y).tmps t = tmpAt (stC q).tmps t := by
  have h2 : ∃ id, tmpAt (stC q).tmps 2 = .bptr id 0 := ⟨_, (show tmpAt (stC q).tmps 2 = .bptr (match tmpAt (stC q).tmps 2 with | .bptr id _ => id | _ => 0) 0 by kernel_rfl)⟩
  obtain ⟨id, h2⟩ := h2
  obtain ⟨⟨l, u⟩, u'⟩ := y
  have e : (loopHead (stC q).tmps (stC q).m (rgJ q) rgSl ((l, u), u')).tmps = ((stC q).tmps.map fun _ => SV.any).set 2 (.bptr id 0) := by
    simp only [loopHead, rgSl, headSig, h2]
  rw [e]
  simp only [tmpAt, List.getElem?_set, List.getElem?_map]
  split
  · rename_i ht
    subst ht
    split
    · right; simpa [tmpAt] using h2.symm
    · left; rfl
  · left
    cases (stC q).tmps[t]? <;> rfl
theorem T_fnC (q : Queue) : tmpAt (stC q).tmps 13 = .fn 164 [] [.bptr (idB q) 0] := by kernel_rfl
theorem T_nextH (q : Queue) (l : List (List Int)) : Nat.ble (stC q).m.next (rgH q l).m.next = true := by kernel_rfl
theorem T_len (q : Queue) : (stC q).tmps.length = 21 := by kernel_rfl
theorem T_next (q : Queue) : Nat.ble 1 (stC q).m.next = true := by kernel_rfl

theorem ring_env : TysOk Go.Proofs.Tryz.prog envR ∧ SpecSound Go.Proofs.Tryz.prog envR ∧ CallDen (CallR Go.Proofs.Tryz.prog) (callK envR 8) := by
  have hE : TysOk Go.Proofs.Tryz.prog envR := tysOk_of (E := envR) tys_ok
  have hS : SpecSound Go.Proofs.Tryz.prog envR := specSound_of (E := envR) (specsOk_cons C_ring_Check rfl (specsOk_cons C_ring_text rfl specsOk_nil))
  have hI : InlOk Go.Proofs.Tryz.prog envR := inlOk_of (E := envR) (inlB_cons func140 nm_140 (inlB_cons func141 nm_141 inlB_nil))
  exact ⟨hE, hS, callK_den hE hS mixed_ok hI 8⟩

theorem ring_init {ro : Snap} {w : World} {q : Queue} {vs : List Value} (hH0 : HSat ⟨w, ro, []⟩ (fun _ => none) ro (fun _ => False) (fun _ => none) w) (hargs : RepTT ro [(.st .Queue)] (q, ()) vs) :
    Sat ⟨w, ro, []⟩ (fun _ => none) ro (fun _ => False) (rgS0 q) { tmps := vs.toArray ++ Array.replicate (f85.ntmps - vs.toArray.size) undef, defers := [] } w := by
  have hn : f85.ntmps = 21 := by kernel_rfl
  rw [hn]
  exact init_sat (m := { objs := fun _ => none, next := 0, wl := [] }) hH0 (repTT_L hargs) 21

attribute [local irreducible] stB idB
theorem stC_eq (q : Queue) : stC q = { stB q with m := { (stB q).m with objs := putAll (stB q).m.objs (freezeAll [idB q]) } } := by unfold stC; rfl
theorem stC_sat {q : Queue} {w0 : Pt} {β : Pl} {ro : Snap} {D : Nat → Prop} {a : Go.Act} {w : World} (h : Sat w0 β ro D { stB q with m := { (stB q).m with objs := putAll (stB q).m.objs (freezeAll [idB q]) } } a w) : Sat w0 β ro D (stC q) a w := by rw [stC_eq]; exact h
theorem stC_next (q : Queue) : (stC q).m.next = (stB q).m.next := by rw [stC_eq]
theorem stC_lt {q : Queue} {D : Nat → Prop} (h : ∀ id, D id → id < (stB q).m.next) : ∀ id, D id → id < (stC q).m.next := fun id hi => by rw [stC_next]; exact h id hi
attribute [local irreducible] stA stC rgJ rgR rgS0 codeK callK regionK finK rg0 rg1 rg2 rg3 rg4 rg7 rgO envR envR1 f85

theorem ring_list_items (q : Queue) (hq : mayQueue q = true) : (queueList q).length = q.many.toNat ∧ q.many.toNat ≤ 64 ∧ (q.many = (q.many.toNat : Int)) ∧ 0 < q.items.length ∧
    (∀ k, k < q.many.toNat → Int.tmod (RowKit.wrap64 (q.head + (k : Int))) (q.items.length : Int) = ((place q k : Nat) : Int) ∧ place q k < q.items.length) := by
  obtain ⟨h1, h2, h3, h4, h5, h6, _⟩ := (queue_iff q).1 hq
  refine ⟨by simp [queueList], by omega, (Int.toNat_of_nonneg h5).symm, by omega, fun k hk => ?_⟩
  obtain ⟨p1, p2⟩ := place_mod q k h2 h3 h4 (by omega)
  refine ⟨?_, p2⟩
  rw [wrap_i64 (by omega) (by omega)] at p1
  have : RowKit.wrap64 (q.head + (k : Int)) = q.head + k := by unfold RowKit.wrap64; omega
  rw [this]; exact p1

theorem ring_bad {q : Queue} {r : List (List Int) × (Int × Unit)} (h : N_ring_List (q, ()) = some r) (hq : ¬ mayQueue q = true) : r = ([], (8, ())) := by
  unfold N_ring_List N_ref04_List at h
  simp only at h
  rw [if_neg hq] at h
  split at h
  · exact (Option.some.inj h).symm
  · cases h
theorem ring_good {q : Queue} {r : List (List Int) × (Int × Unit)} (h : N_ring_List (q, ()) = some r) (hq : mayQueue q = true) : r = (queueList q, (0, ())) ∧ fitAll q.items = true := by
  unfold N_ring_List N_ref04_List at h
  simp only at h
  rw [if_pos hq] at h
  split at h
  · rename_i hf; exact ⟨(Option.some.inj h).symm, hf⟩
  · cases h
theorem ring_mem {q : Queue} (hq : mayQueue q = true) {k : Nat} (hk : k < q.many.toNat) : ∃ x, q.items[place q k]? = some x ∧ nth q.items (place q k) = x ∧ x ∈ queueList q ∧ x ∈ q.items := by
  obtain ⟨_, _, _, _, h5⟩ := ring_list_items q hq
  have hlt := (h5 k hk).2
  refine ⟨q.items[place q k], List.getElem?_eq_getElem hlt, by simp [nth, hlt], ?_, List.getElem_mem hlt⟩
  unfold queueList
  rw [List.mem_map]
  exact ⟨k, List.mem_range.2 hk, by simp [nth, hlt]⟩
theorem ring_small {q : Queue} (hq : mayQueue q = true) (hf : fitAll q.items = true) {x : List Int} (hx : x ∈ queueList q) : x.length ≤ 1000000 := by
  unfold queueList at hx
  rw [List.mem_map] at hx
  obtain ⟨k, hk, rfl⟩ := hx
  obtain ⟨x, h1, h2, h3, h4⟩ := ring_mem hq (List.mem_range.1 hk)
  rw [h2]
  unfold fitAll at hf
  rw [Bool.and_eq_true] at hf
  exact of_decide_eq_true (List.all_eq_true.1 hf.2 x h4)

theorem ring_seq {ro : Snap} {w : World} {q : Queue} (hq : mayQueue q = true) {g : Nat} {v0 : Value} (hle : ro.le w) (hv : Rep ro (.sl (.sl (.int .u8)) q.items) v0)
    (h0 : ∀ W, ro.le W → W.cell? ⟨g, 0, none⟩ = some v0) (h1 : ∀ W, ro.le W → W.cell? ⟨g, 1, none⟩ = some (.int .i64 q.head)) (h2 : ∀ W, ro.le W → W.cell? ⟨g, 2, none⟩ = some (.int .i64 q.many)) :
    SeqStopsK Fence.wide (3 - 1) Go.Proofs.Tryz.prog 164 #[.pointer (some ⟨g, 0, none⟩)] (fun y : ItemV ro (fun x => Leaf.sl (.int .u8) x) (queueList q) => #[y.v]) (fun W W' => ro.le W → ro.le W') (fun ys => ys.map (·.x) = queueList q) (fun _ => True) (queueList q).length w := by
  obtain ⟨r1, r2, r3, r4, r5⟩ := ring_list_items q hq
  generalize hit : q.items = its at hv
  cases hv with
  | nil => rw [hit] at r4; cases r4
  | sl _ _ a cap us q1 q2 q3 q4 q5 =>
  have hsp : a.spot = none := by
    rcases q1 with h | h
    · exact h
    · rw [hit] at r4; omega
  have hat : ∀ (k : Nat), k < q.many.toNat → ro.cell? ⟨a.block, a.off + place q k, none⟩ = some (us (place q k) 0) ∧ Rep ro (.sl (.int .u8) (nth q.items (place q k))) (us (place q k) 0) := fun k hk => by
    obtain ⟨x, m1, m2, m3, m4⟩ := ring_mem hq hk
    rw [hit] at m1
    have e1 := q4 (place q k) x 0 (.sl (.int .u8) x) m1 rfl
    have e2 := q5 (place q k) x 0 (.sl (.int .u8) x) m1 rfl
    rw [m2]
    exact ⟨by rw [show place q k * sz (EN.sl (.int .u8)) + 0 = place q k from by show place q k * 1 + 0 = _; omega] at e1; exact e1, e2⟩
  let ys : List (ItemV ro (fun x => Leaf.sl (.int .u8) x) (queueList q)) := List.ofFn (n := q.many.toNat) fun k => { v := us (place q k.1) 0, x := nth q.items (place q k.1), rep := (hat k.1 k.2).2, mem := by obtain ⟨x, m1, m2, m3, m4⟩ := ring_mem hq k.2; rw [m2]; exact m3 }
  have hlen : ys.length = q.many.toNat := by simp [ys]
  have hmap : ys.map (·.x) = queueList q := by
    refine List.ext_getElem (by simp [ys, queueList]) fun i i1 i2 => ?_
    simp [ys, queueList]
  intro l J Jx W hB hJ hJx hY hJ0
  have hGW : ro.le W := fun b o hb => by
    have hb' := hle b o hb
    rw [hB.block b (Array.getElem?_eq_some_iff.1 hb').1]; exact hb'
  have hq0 : (a : Addr) = ⟨a.block, a.off, none⟩ := by cases a; simp only at hsp; subst hsp; rfl
  refine CallsIn.mono (ring_used1_in (fun y : ItemV ro (fun x => Leaf.sl (.int .u8) x) (queueList q) => y.v) ys (3 - 1) l g a.block a.off its.length cap q.head (by rw [← hit]; exact r4) (by omega) (place q)
    (fun k hk => by rw [← hit]; exact r5 k (by omega)) ro.le (fun W o hW b ob hb => ?_) (fun W hW => hW) (fun W hW => by rw [← hq0]; exact h0 W hW) h1 (fun W hW => by rw [hlen, ← r3]; exact h2 W hW)
    (fun W hW j hj => ?_) J Jx W hJ (fun pre x W1 hpre hl => ?_) hGW hJ0) ?_
  · have hb' := hW b ob hb
    rw [Below.heap_alloc W o b (Array.getElem?_eq_some_iff.1 hb').1]; exact hb'
  · have := (hat j (by omega)).1
    rw [Snap.cell_le hW this]
    simp [ys]
  · exact hY pre x W1 hpre (by rw [r1]; omega)
  · rintro e W' ⟨hv, h⟩
    refine ⟨hv, ?_⟩
    rcases h with ⟨xs, rfl, h⟩ | ⟨pre, h1, h2⟩
    · exact .inl ⟨ys, hmap, h⟩
    · exact .inr ⟨pre, trivial, h2⟩

theorem C_ring_List : SpecOk Go.Proofs.Tryz.prog 85 s85 := by
  refine ⟨en_85, fun ro w x vs r hle hargs hr => ?_⟩
  obtain ⟨q, ⟨⟩⟩ := x
  obtain ⟨hE, hS, hcall⟩ := ring_env
  have hr' : N_ring_List (q, ()) = some r := hr
  suffices h : CallsIn Fence.wide 3 Go.Proofs.Tryz.prog 85 vs.toArray w (SpecPost ro w [(.sl (.sl (.int .u8))), (.int .i64)] r) from callsIn_wide.1 h
  refine callsIn_of_wp_marks func85 rg_body trivial ?_
  have hH0 : HSat ⟨w, ro, []⟩ (fun _ => none) ro (fun _ => False) (fun _ => none) w :=
    ⟨Base.refl w, fun _ _ => rfl, fun _ _ => rfl, hle, by simp, by simp, by simp, by simp, by simp, by simp⟩
  have hs0 : Sat ⟨w, ro, []⟩ (fun _ => none) ro (fun _ => False) (rgS0 q) { tmps := vs.toArray ++ Array.replicate (f85.ntmps - vs.toArray.size) undef, defers := [] } w :=
    ring_init hH0 hargs
  generalize ha0 : ({ tmps := vs.toArray ++ Array.replicate (f85.ntmps - vs.toArray.size) undef, defers := [] } : Go.Act) = act0 at hs0 ⊢
  -- what Check says
  obtain ⟨c, hc, hcn⟩ : ∃ c : Int, N_ring_Check (q, ()) = some (c, ()) ∧ c = (if mayQueue q = true then 0 else 8) := ⟨_, rfl, rfl⟩
  have hpre : (preK envR q).den = some (stA q (c, ())) := by rw [T_pre, hc]; rfl
  unfold preK at hpre
  obtain ⟨e1, S1, a1, f1, c1⟩ := codeK_good hE callGood hS mixed_ok loop_good hcall 85 rg0 _ _ _ hpre
  cases e1 with
  | exit i => simp [Tr.den] at a1
  | goto i => simp [Tr.den] at a1
  | ret => simp [Tr.den] at a1
  | normal =>
  simp only at a1
  obtain ⟨e2, S2, a2, f2, c2⟩ := codeK_good hE callGood hS mixed_ok loop_good hcall 85 rg1 _ _ _ a1
  cases e2 with
  | exit i => simp [Tr.den] at a2
  | goto i => simp [Tr.den] at a2
  | ret => simp [Tr.den] at a2
  | normal =>
  simp only at a2
  obtain ⟨e3, S3, a3, f3, c3⟩ := codeK_good hE callGood hS mixed_ok loop_good hcall 85 rg2 _ _ _ a2
  cases e3 with
  | exit i => simp [Tr.den] at a3
  | goto i => simp [Tr.den] at a3
  | ret => simp [Tr.den] at a3
  | normal =>
  simp only [Tr.den] at a3
  have h3 : S3 = stA q (c, ()) := Option.some.inj a3
  subst h3
  have hlt1 : ∀ id, (False ∨ ((rgS0 q).m.next ≤ id ∧ id < S1.m.next)) → id < S1.m.next := then_lt (fun _ h => h.elim) f1.1
  have hlt2 := then_lt hlt1 f2.1
  have hlt3 := then_lt hlt2 f3.1
  refine wpIn_seq (wpIn_wide.2 (c1 _ _ ro _ _ w _ (fun _ h => h.elim) hs0 fun b1 w1 β1 ro1 x1 y1 z1 => ?_))
  refine wpIn_seq (wpIn_seq (wpIn_wide.2 (c2 _ _ ro1 _ _ w1 _ hlt1 z1 fun b2 w2 β2 ro2 x2 y2 z2 => ?_)))
  refine wpIn_seq (wpIn_wide.2 (c3 _ _ ro2 _ _ w2 _ hlt2 z2 fun b3 w3 β3 ro3 x3 y3 z3 => ?_))
  by_cases hq : mayQueue q = true
  · -- the queue is well formed
    rw [if_pos hq] at hcn
    subst hcn
    refine wpIn_cond_false ?_ (wpIn_skip ?_)
    · have := z3.t 9
      rw [T_c0] at this
      cases this with | leaf h => generalize hv : b3.tmps.getD 9 undef = v at h; cases h; exact hv
    have hmid := T_mid q
    unfold midK at hmid
    obtain ⟨e4, S4, a4, f4, c4⟩ := codeK_good hE callGood hS mixed_ok loop_good hcall 85 rg4 _ _ _ hmid
    cases e4 with
    | exit i => simp [Tr.den] at a4
    | goto i => simp [Tr.den] at a4
    | ret => simp [Tr.den] at a4
    | normal =>
    simp only [Tr.den] at a4
    have h4 : S4 = stB q := Option.some.inj a4
    subst h4
    have hlt4 := then_lt hlt3 f4.1
    refine wpIn_seq (wpIn_seq (wpIn_wide.2 (c4 _ _ ro3 _ _ w3 _ hlt3 z3 fun b4 w4 β4 ro4 x4 y4 z4 => ?_)))
    refine wpIn_block ?_
    obtain ⟨hrr, hf⟩ := ring_good hr' hq
    subst hrr
    obtain ⟨hd, g, cur, hb, hg, hcur, hcell, z5⟩ := frozen_at z4 (T_box q)
    have z5 := stC_sat z5
    have hlt4 := stC_lt hlt4
    obtain ⟨v0, us0, hu0, p0, hcur⟩ := hcur.of_cons
    obtain ⟨v1, us1, hu1, p1, hcur⟩ := hcur.of_cons
    obtain ⟨v2, us2, hu2, p2, hcur⟩ := hcur.of_cons
    have hu3 := hcur.of_nil
    subst hu3 hu2 hu1
    have p0' : Rep (ro4.plus β4 w4 [idB q]) (.sl (.sl (.int .u8)) q.items) v0 := by cases p0 with | leaf h => exact h.mono (Snap.ext_plus z4.h.snap _ _)
    have p1' : v1 = .int .i64 q.head := by cases p1 with | leaf h => cases h; rfl
    have p2' : v2 = .int .i64 q.many := by cases p2 with | leaf h => cases h; rfl
    have hg13 : b4.eval (.tmp 13) = .func (.func 164) #[] #[.pointer (some ⟨g, 0, none⟩)] := by
      have := z5.t 13
      rw [T_fnC] at this
      show b4.tmps.getD 13 undef = _
      generalize b4.tmps.getD 13 undef = v at this
      cases this with
      | @fn _ _ _ us vs k1 k2 k3 k4 =>
        obtain rfl : us = [] := List.eq_nil_of_length_eq_zero k1
        match vs, k2, k4 with
        | [p], _, k4 =>
          have := k4 0 _ p rfl rfl
          cases this with
          | bptr e1 e2 =>
            rw [hb] at e1; cases e1
            rw [hg] at e2; cases e2
            rfl
    have hle5 := z5.h.snap
    refine range_wp hE callGood hS mixed_ok hcall z5 hlt4 rfl (T_sig q) (T_keep q) (fun x => Leaf.sl (.int .u8) x) (queueList q) rgY0 rfl (p := 14) (q := 5) (by rw [T_len]; decide) (fun pre x hpre hx => ?_) hg13 (Go.Proofs.enters_of func164 (by kernel_rfl) rfl) (by decide)
      (ring_seq hq hle5 p0' (fun W hW => hcell W hW 0 v0 (by rw [hu0]; rfl)) (fun W hW => hcell W hW 1 _ (by rw [hu0, p1']; rfl)) (fun W hW => hcell W hW 2 _ (by rw [hu0, p2']; rfl))) ?_
    · have := T_body q pre x
      have hx1 := ring_small hq hf hx
      have hx2 : pre.length + 1 ≤ big := by
        obtain ⟨l1, l2, _⟩ := ring_list_items q hq
        rw [l1] at hpre
        have := big_eq
        omega
      rw [show N_ring_text (x, ()) = some (x, ()) from if_pos hx1, Option.bind_some, if_pos (decide_eq_true hx2)] at this
      exact this
    · intro d W β6 ro6 hd6 x6 y6 hW hrd hs6
      obtain ⟨e5, S5, a5, f5, c5⟩ := codeK_good hE callGood hS mixed_ok loop_good hcall 85 rg7 _ _ _ (T_end q (queueList q))
      cases e5 with
      | exit i => simp [Tr.den] at a5
      | goto i => simp [Tr.den] at a5
      | normal => simp [Tr.den] at a5
      | ret =>
      simp only at a5
      show rg7.wpIn Fence.wide 3 _ _ _ W
      refine wpIn_wide.2 (c5 _ _ ro6 _ _ W _ (then_lt hlt4 (Nat.le_of_ble_eq_true (T_nextH q _))) hs6 fun b7 w7 β7 ro7 x7 y7 z7 => ?_)
      exact fin_mark hE a5 z7 rfl hd6 (y7 _ _ hrd) hle
  · rw [if_neg hq] at hcn
    subst hcn
    refine wpIn_cond_true ?_ ?_
    · have := z3.t 9
      rw [T_c8] at this
      cases this with | leaf h => generalize hv : b3.tmps.getD 9 undef = v at h; cases h; exact hv
    obtain ⟨e4, S4, a4, f4, c4⟩ := codeK_good hE callGood hS mixed_ok loop_good hcall 85 rg3 _ _ _ (T_bad q)
    cases e4 with
    | exit i => simp [Tr.den] at a4
    | goto i => simp [Tr.den] at a4
    | normal => simp [Tr.den] at a4
    | ret =>
    simp only at a4
    refine wpIn_wide.2 (c4 _ _ ro3 _ _ w3 _ hlt3 z3 fun b4 w4 β4 ro4 x4 y4 z4 => ?_)
    obtain rfl := ring_bad hr' hq
    exact fin_plain hE a4 z4 rfl hle
end Go.Cat

set_option maxHeartbeats 0
namespace Go.Cat
open Go Go.Proofs.Tryz
noncomputable def env44 : Env := { ty := tys, specs := [(41, s41), (85, s85)], inl := [(44, f44), (86, f86), (87, f87), (88, f88), (143, f143)], hints := hnts }
theorem T_sess_Check (x : TT [(.st .Config), (.st .End)]) : (fnTree env44 44 [(.st .Config), (.st .End)] [(.int .i64)] none x).den = D_sess_Check x.1 x.2.1 := by kernel_rfl
theorem C_sess_Check : SpecOk Go.Proofs.Tryz.prog 44 s44 :=
  (fnTree_spec (E := env44) (tysOk_of tys_ok) (specSound_of (specsOk_cons C_place_Check rfl (specsOk_cons C_ring_List rfl specsOk_nil))) mixed_ok (inlOk_of (inlB_cons func44 nm_44 (inlB_cons func86 nm_86 (inlB_cons func87 nm_87 (inlB_cons func88 nm_88 (inlB_cons func143 nm_143 inlB_nil)))))) en_44 [(.st .Config), (.st .End)] [(.int .i64)]).weaken (fun x r hx hn => (T_sess_Check x).trans (Q_sess_Check x r hx hn))
noncomputable def env47 : Env := { ty := tys, specs := [], inl := [(47, f47)], hints := hnts }
theorem T_act_limits_pair (x : TT [(.st .Config), (.int .i64)]) : (fnTree env47 47 [(.st .Config), (.int .i64)] [.bool] none x).den = D_act_limits_pair x.1 x.2.1 := by kernel_rfl
theorem C_act_limits_pair : SpecOk Go.Proofs.Tryz.prog 47 s47 :=
  (fnTree_spec (E := env47) (tysOk_of tys_ok) (specSound_of specsOk_nil) mixed_ok (inlOk_of (inlB_cons func47 nm_47 inlB_nil)) en_47 [(.st .Config), (.int .i64)] [.bool]).weaken (fun x r hx hn => (T_act_limits_pair x).trans (Q_act_limits_pair x r hx hn))
noncomputable def env144 : Env := { ty := tys, specs := [], inl := [(144, f144), (165, f165), (166, f166), (177, f177), (183, f183), (184, f184)], hints := hnts }
theorem T_bits_All (x : TT [(.int .i64)]) : (fnTree env144 144 [(.int .i64)] [(.sl (.int .u8)), (.int .i64)] none x).den = D_bits_All x.1 := by kernel_rfl
theorem C_bits_All : SpecOk Go.Proofs.Tryz.prog 144 s144 :=
  (fnTree_spec (E := env144) (tysOk_of tys_ok) (specSound_of specsOk_nil) mixed_ok (inlOk_of (inlB_cons func144 nm_144 (inlB_cons func165 nm_165 (inlB_cons func166 nm_166 (inlB_cons func177 nm_177 (inlB_cons func183 nm_183 (inlB_cons func184 nm_184 inlB_nil))))))) en_144 [(.int .i64)] [(.sl (.int .u8)), (.int .i64)]).weaken (fun x r hx hn => (T_bits_All x).trans (Q_bits_All x r hx hn))
noncomputable def env91 : Env := { ty := tys, specs := [(144, s144)], inl := [(91, f91)], hints := hnts }
theorem T_bits_Check (x : TT [(.int .i64), (.sl (.int .u8))]) : (fnTree env91 91 [(.int .i64), (.sl (.int .u8))] [(.int .i64)] none x).den = D_bits_Check x.1 x.2.1 := by kernel_rfl
theorem C_bits_Check : SpecOk Go.Proofs.Tryz.prog 91 s91 :=
  (fnTree_spec (E := env91) (tysOk_of tys_ok) (specSound_of (specsOk_cons C_bits_All rfl specsOk_nil)) mixed_ok (inlOk_of (inlB_cons func91 nm_91 inlB_nil)) en_91 [(.int .i64), (.sl (.int .u8))] [(.int .i64)]).weaken (fun x r hx hn => (T_bits_Check x).trans (Q_bits_Check x r hx hn))
end Go.Cat

set_option maxHeartbeats 0
namespace Go.Cat
open Go Go.Proofs.Tryz
noncomputable def env50 : Env := { ty := tys, specs := [(91, s91)], inl := [(50, f50), (92, f92), (93, f93), (94, f94), (95, f95), (96, f96), (145, f145), (146, f146)], hints := hnts }
theorem T_act_limits_side (x : TT [(.st .Config), (.st .Side)]) : (fnTree env50 50 [(.st .Config), (.st .Side)] [.bool] none x).den = D_act_limits_side x.1 x.2.1 := by kernel_rfl
theorem C_act_limits_side : SpecOk Go.Proofs.Tryz.prog 50 s50 :=
  (fnTree_spec (E := env50) (tysOk_of tys_ok) (specSound_of (specsOk_cons C_bits_Check rfl specsOk_nil)) mixed_ok (inlOk_of (inlB_cons func50 nm_50 (inlB_cons func92 nm_92 (inlB_cons func93 nm_93 (inlB_cons func94 nm_94 (inlB_cons func95 nm_95 (inlB_cons func96 nm_96 (inlB_cons func145 nm_145 (inlB_cons func146 nm_146 inlB_nil))))))))) en_50 [(.st .Config), (.st .Side)] [.bool]).weaken (fun x r hx hn => (T_act_limits_side x).trans (Q_act_limits_side x r hx hn))
noncomputable def env178 : Env := { ty := tys, specs := [], inl := [(178, f178)], hints := hnts }
theorem T_msg_marks (x : TT [(.sl (.int .u8))]) : (fnTree env178 178 [(.sl (.int .u8))] [.bool] none x).den = D_msg_marks x.1 := by kernel_rfl
theorem C_msg_marks : SpecOk Go.Proofs.Tryz.prog 178 s178 :=
  (fnTree_spec (E := env178) (tysOk_of tys_ok) (specSound_of specsOk_nil) mixed_ok (inlOk_of (inlB_cons func178 nm_178 inlB_nil)) en_178 [(.sl (.int .u8))] [.bool]).weaken (fun x r hx hn => (T_msg_marks x).trans (Q_msg_marks x r hx hn))
noncomputable def env167 : Env := { ty := tys, specs := [(160, s160), (178, s178)], inl := [(167, f167)], hints := hnts }
theorem T_msg_used (x : TT [(.st .Msg)]) : (fnTree env167 167 [(.st .Msg)] [(.st .Msg), .bool] none x).den = D_msg_used x.1 := by kernel_rfl
theorem C_msg_used : SpecOk Go.Proofs.Tryz.prog 167 s167 :=
  (fnTree_spec (E := env167) (tysOk_of tys_ok) (specSound_of (specsOk_cons C_rec_Check rfl (specsOk_cons C_msg_marks rfl specsOk_nil))) mixed_ok (inlOk_of (inlB_cons func167 nm_167 inlB_nil)) en_167 [(.st .Msg)] [(.st .Msg), .bool]).weaken (fun x r hx hn => (T_msg_used x).trans (Q_msg_used x r hx hn))
noncomputable def env179 : Env := { ty := tys, specs := [], inl := [(179, f179)], hints := hnts }
theorem T_msg_of (x : TT [(.st .Msg)]) : (fnTree env179 179 [(.st .Msg)] [(.st .Plain)] none x).den = D_msg_of x.1 := by kernel_rfl
theorem C_msg_of : SpecOk Go.Proofs.Tryz.prog 179 s179 :=
  (fnTree_spec (E := env179) (tysOk_of tys_ok) (specSound_of specsOk_nil) mixed_ok (inlOk_of (inlB_cons func179 nm_179 inlB_nil)) en_179 [(.st .Msg)] [(.st .Plain)]).weaken (fun x r hx hn => (T_msg_of x).trans (Q_msg_of x r hx hn))
end Go.Cat

set_option maxHeartbeats 0
namespace Go.Cat
open Go Go.Proofs.Tryz
noncomputable def env168 : Env := { ty := tys, specs := [(102, s102), (179, s179)], inl := [(168, f168)], hints := hnts }
theorem T_msg_Same (x : TT [(.st .Msg), (.st .Msg)]) : (fnTree env168 168 [(.st .Msg), (.st .Msg)] [.bool] none x).den = D_msg_Same x.1 x.2.1 := by kernel_rfl
theorem C_msg_Same : SpecOk Go.Proofs.Tryz.prog 168 s168 :=
  (fnTree_spec (E := env168) (tysOk_of tys_ok) (specSound_of (specsOk_cons C_bytes_Equal rfl (specsOk_cons C_msg_of rfl specsOk_nil))) mixed_ok (inlOk_of (inlB_cons func168 nm_168 inlB_nil)) en_168 [(.st .Msg), (.st .Msg)] [.bool]).weaken (fun x r hx hn => (T_msg_Same x).trans (Q_msg_Same x r hx hn))
noncomputable def env147 : Env := { ty := tys, specs := [(167, s167), (168, s168)], inl := [(147, f147)], hints := hnts }
theorem T_msg_Check (x : TT [(.st .Msg)]) : (fnTree env147 147 [(.st .Msg)] [(.int .i64)] none x).den = D_msg_Check x.1 := by kernel_rfl
theorem C_msg_Check : SpecOk Go.Proofs.Tryz.prog 147 s147 :=
  (fnTree_spec (E := env147) (tysOk_of tys_ok) (specSound_of (specsOk_cons C_msg_used rfl (specsOk_cons C_msg_Same rfl specsOk_nil))) mixed_ok (inlOk_of (inlB_cons func147 nm_147 inlB_nil)) en_147 [(.st .Msg)] [(.int .i64)]).weaken (fun x r hx hn => (T_msg_Check x).trans (Q_msg_Check x r hx hn))
noncomputable def env98 : Env := { ty := tys, specs := [(47, s47), (147, s147)], inl := [(98, f98)], hints := hnts }
theorem T_act_limits_message (x : TT [(.st .Config), (.st .Msg)]) : (fnTree env98 98 [(.st .Config), (.st .Msg)] [.bool] none x).den = D_act_limits_message x.1 x.2.1 := by kernel_rfl
theorem C_act_limits_message : SpecOk Go.Proofs.Tryz.prog 98 s98 :=
  (fnTree_spec (E := env98) (tysOk_of tys_ok) (specSound_of (specsOk_cons C_act_limits_pair rfl (specsOk_cons C_msg_Check rfl specsOk_nil))) mixed_ok (inlOk_of (inlB_cons func98 nm_98 inlB_nil)) en_98 [(.st .Config), (.st .Msg)] [.bool]).weaken (fun x r hx hn => (T_act_limits_message x).trans (Q_act_limits_message x r hx hn))
noncomputable def env53 : Env := { ty := tys, specs := [(47, s47), (98, s98)], inl := [(53, f53)], hints := hnts }
theorem T_act_limits_act (x : TT [(.st .Config), (.st .Act), (.int .i64)]) : (fnTree env53 53 [(.st .Config), (.st .Act), (.int .i64)] [.bool] none x).den = D_act_limits_act x.1 x.2.1 x.2.2.1 := by kernel_rfl
theorem C_act_limits_act : SpecOk Go.Proofs.Tryz.prog 53 s53 :=
  (fnTree_spec (E := env53) (tysOk_of tys_ok) (specSound_of (specsOk_cons C_act_limits_pair rfl (specsOk_cons C_act_limits_message rfl specsOk_nil))) mixed_ok (inlOk_of (inlB_cons func53 nm_53 inlB_nil)) en_53 [(.st .Config), (.st .Act), (.int .i64)] [.bool]).weaken (fun x r hx hn => (T_act_limits_act x).trans (Q_act_limits_act x r hx hn))
noncomputable def env56 : Env := { ty := tys, specs := [(98, s98)], inl := [(56, f56)], hints := hnts }
theorem T_act_limits_mail (x : TT [(.st .Config), (.st .Mail)]) : (fnTree env56 56 [(.st .Config), (.st .Mail)] [.bool] none x).den = D_act_limits_mail x.1 x.2.1 := by kernel_rfl
theorem C_act_limits_mail : SpecOk Go.Proofs.Tryz.prog 56 s56 :=
  (fnTree_spec (E := env56) (tysOk_of tys_ok) (specSound_of (specsOk_cons C_act_limits_message rfl specsOk_nil)) mixed_ok (inlOk_of (inlB_cons func56 nm_56 inlB_nil)) en_56 [(.st .Config), (.st .Mail)] [.bool]).weaken (fun x r hx hn => (T_act_limits_mail x).trans (Q_act_limits_mail x r hx hn))
noncomputable def env24 : Env := { ty := tys, specs := [(41, s41), (42, s42), (43, s43), (44, s44), (47, s47), (50, s50), (53, s53), (56, s56)], inl := [(24, f24), (45, f45), (46, f46), (48, f48), (49, f49), (51, f51), (52, f52), (54, f54), (55, f55), (57, f57), (58, f58), (89, f89), (90, f90), (97, f97), (99, f99), (100, f100)], hints := hnts }
theorem T_act_Check (x : TT [(.st .Config), (.st .Site)]) : (fnTree env24 24 [(.st .Config), (.st .Site)] [(.int .i64)] none x).den = D_act_Check x.1 x.2.1 := by kernel_rfl
theorem C_act_Check : SpecOk Go.Proofs.Tryz.prog 24 s24 :=
  (fnTree_spec (E := env24) (tysOk_of tys_ok) (specSound_of (specsOk_cons C_place_Check rfl (specsOk_cons C_track_Check rfl (specsOk_cons C_meta_Check rfl (specsOk_cons C_sess_Check rfl (specsOk_cons C_act_limits_pair rfl (specsOk_cons C_act_limits_side rfl (specsOk_cons C_act_limits_act rfl (specsOk_cons C_act_limits_mail rfl specsOk_nil))))))))) mixed_ok (inlOk_of (inlB_cons func24 nm_24 (inlB_cons func45 nm_45 (inlB_cons func46 nm_46 (inlB_cons func48 nm_48 (inlB_cons func49 nm_49 (inlB_cons func51 nm_51 (inlB_cons func52 nm_52 (inlB_cons func54 nm_54 (inlB_cons func55 nm_55 (inlB_cons func57 nm_57 (inlB_cons func58 nm_58 (inlB_cons func89 nm_89 (inlB_cons func90 nm_90 (inlB_cons func97 nm_97 (inlB_cons func99 nm_99 (inlB_cons func100 nm_100 inlB_nil))))))))))))))))) en_24 [(.st .Config), (.st .Site)] [(.int .i64)]).weaken (fun x r hx hn => (T_act_Check x).trans (Q_act_Check x r hx hn))
noncomputable def env62 : Env := { ty := tys, specs := [], inl := [(62, f62)], hints := hnts }
theorem C_slices_Clone_byte_byte : SpecOk Go.Proofs.Tryz.prog 62 s62 :=
  nil_split (E := env62) (f := 62) (e := (.int .u8)) (results := [(.sl (.int .u8))]) (g := fun xs => if xs.length ≤ big then some (xs, ()) else none) (tysOk_of tys_ok) (specSound_of specsOk_nil) mixed_ok (inlOk_of (inlB_cons func62 nm_62 inlB_nil)) en_62
    (fun r h => (show (treeOf env62 62 [.lit (.slice none 0 0)] [(.sl (.int .u8))]).den = some ([], ()) by kernel_rfl).trans h)
    (fun xs r h => (show (treeOf env62 62 [.nn (.int .u8) xs] [(.sl (.int .u8))]).den = (if decide (0 + xs.length ≤ big) = true then some (xs, ()) else none) by kernel_rfl).trans (by rw [Nat.zero_add]; simp only [decide_eq_true_eq]; exact h))
noncomputable def env25 : Env := { ty := tys, specs := [(59, s59), (61, s61), (62, s62)], inl := [(25, f25), (60, f60)], hints := hnts }
theorem T_disk_Crash (x : TT [(.st .Disk), (.sl (.int .u8))]) : (fnTree env25 25 [(.st .Disk), (.sl (.int .u8))] [(.st .Disk), (.int .i64)] none x).den = D_disk_Crash x.1 x.2.1 := by kernel_rfl
theorem C_disk_Crash : SpecOk Go.Proofs.Tryz.prog 25 s25 :=
  (fnTree_spec (E := env25) (tysOk_of tys_ok) (specSound_of (specsOk_cons C_disk_Check rfl (specsOk_cons C_disk_none rfl (specsOk_cons C_slices_Clone_byte_byte rfl specsOk_nil)))) mixed_ok (inlOk_of (inlB_cons func25 nm_25 (inlB_cons func60 nm_60 inlB_nil))) en_25 [(.st .Disk), (.sl (.int .u8))] [(.st .Disk), (.int .i64)]).weaken (fun x r hx hn => (T_disk_Crash x).trans (Q_disk_Crash x r hx hn))
noncomputable def env8 : Env := { ty := tys, specs := [(24, s24), (25, s25)], inl := [(8, f8)], hints := hnts }
theorem T_boot_Crash (x : TT [(.st .Config), (.st .Site), (.sl (.int .u8))]) : (fnTree env8 8 [(.st .Config), (.st .Site), (.sl (.int .u8))] [(.st .Disk), (.int .i64)] none x).den = D_boot_Crash x.1 x.2.1 x.2.2.1 := by kernel_rfl
theorem C_boot_Crash : SpecOk Go.Proofs.Tryz.prog 8 s8 :=
  (fnTree_spec (E := env8) (tysOk_of tys_ok) (specSound_of (specsOk_cons C_act_Check rfl (specsOk_cons C_disk_Crash rfl specsOk_nil))) mixed_ok (inlOk_of (inlB_cons func8 nm_8 inlB_nil)) en_8 [(.st .Config), (.st .Site), (.sl (.int .u8))] [(.st .Disk), (.int .i64)]).weaken (fun x r hx hn => (T_boot_Crash x).trans (Q_boot_Crash x r hx hn))
end Go.Cat

set_option maxHeartbeats 0
namespace Go.Cat
open Go Go.Proofs.Tryz
noncomputable def env149 : Env := { ty := tys, specs := [], inl := [(149, f149)], hints := hnts }
theorem T_ref07_in (x : TT [(.int .i64), (.int .i64), (.int .i64)]) : (fnTree env149 149 [(.int .i64), (.int .i64), (.int .i64)] [.bool] none x).den = D_ref07_in x.1 x.2.1 x.2.2.1 := by kernel_rfl
theorem C_ref07_in : SpecOk Go.Proofs.Tryz.prog 149 s149 :=
  (fnTree_spec (E := env149) (tysOk_of tys_ok) (specSound_of specsOk_nil) mixed_ok (inlOk_of (inlB_cons func149 nm_149 inlB_nil)) en_149 [(.int .i64), (.int .i64), (.int .i64)] [.bool]).weaken (fun x r hx hn => (T_ref07_in x).trans (Q_ref07_in x r hx hn))
noncomputable def env103 : Env := { ty := tys, specs := [(149, s149)], inl := [(103, f103)], hints := hnts }
theorem T_ref07_May (x : TT [(.st .Config)]) : (fnTree env103 103 [(.st .Config)] [.bool] none x).den = D_ref07_May x.1 := by kernel_rfl
theorem C_ref07_May : SpecOk Go.Proofs.Tryz.prog 103 s103 :=
  (fnTree_spec (E := env103) (tysOk_of tys_ok) (specSound_of (specsOk_cons C_ref07_in rfl specsOk_nil)) mixed_ok (inlOk_of (inlB_cons func103 nm_103 inlB_nil)) en_103 [(.st .Config)] [.bool]).weaken (fun x r hx hn => (T_ref07_May x).trans (Q_ref07_May x r hx hn))
noncomputable def env169 : Env := { ty := tys, specs := [], inl := [(169, f169)], hints := hnts }
theorem T_ref07_Many (x : TT [(.st .Config)]) : (fnTree env169 169 [(.st .Config)] [(.int .i64)] none x).den = D_ref07_Many x.1 := by kernel_rfl
theorem C_ref07_Many : SpecOk Go.Proofs.Tryz.prog 169 s169 :=
  (fnTree_spec (E := env169) (tysOk_of tys_ok) (specSound_of specsOk_nil) mixed_ok (inlOk_of (inlB_cons func169 nm_169 inlB_nil)) en_169 [(.st .Config)] [(.int .i64)]).weaken (fun x r hx hn => (T_ref07_Many x).trans (Q_ref07_Many x r hx hn))
noncomputable def env150 : Env := { ty := tys, specs := [(169, s169)], inl := [(150, f150)], hints := hnts }
theorem T_ref07_first (x : TT [(.st .Config)]) : (fnTree env150 150 [(.st .Config)] [(.int .i64), (.int .i64), (.int .i64), (.int .i64)] none x).den = D_ref07_first x.1 := by kernel_rfl
theorem C_ref07_first : SpecOk Go.Proofs.Tryz.prog 150 s150 :=
  (fnTree_spec (E := env150) (tysOk_of tys_ok) (specSound_of (specsOk_cons C_ref07_Many rfl specsOk_nil)) mixed_ok (inlOk_of (inlB_cons func150 nm_150 inlB_nil)) en_150 [(.st .Config)] [(.int .i64), (.int .i64), (.int .i64), (.int .i64)]).weaken (fun x r hx hn => (T_ref07_first x).trans (Q_ref07_first x r hx hn))
noncomputable def env104 : Env := { ty := tys, specs := [(150, s150)], inl := [(104, f104)], hints := hnts }
theorem T_ref07_Size (x : TT [(.st .Config)]) : (fnTree env104 104 [(.st .Config)] [(.int .i64)] none x).den = D_ref07_Size x.1 := by kernel_rfl
theorem C_ref07_Size : SpecOk Go.Proofs.Tryz.prog 104 s104 :=
  (fnTree_spec (E := env104) (tysOk_of tys_ok) (specSound_of (specsOk_cons C_ref07_first rfl specsOk_nil)) mixed_ok (inlOk_of (inlB_cons func104 nm_104 inlB_nil)) en_104 [(.st .Config)] [(.int .i64)]).weaken (fun x r hx hn => (T_ref07_Size x).trans (Q_ref07_Size x r hx hn))
noncomputable def env151 : Env := { ty := tys, specs := [], inl := [(151, f151)], hints := hnts }
theorem T_ref05_blank (x : TT [(.sl (.int .u8))]) : (fnTree env151 151 [(.sl (.int .u8))] [.bool] none x).den = D_ref05_blank x.1 := by kernel_rfl
theorem C_ref05_blank : SpecOk Go.Proofs.Tryz.prog 151 s151 :=
  (fnTree_spec (E := env151) (tysOk_of tys_ok) (specSound_of specsOk_nil) mixed_ok (inlOk_of (inlB_cons func151 nm_151 inlB_nil)) en_151 [(.sl (.int .u8))] [.bool]).weaken (fun x r hx hn => (T_ref05_blank x).trans (Q_ref05_blank x r hx hn))
noncomputable def env105 : Env := { ty := tys, specs := [(151, s151)], inl := [(105, f105)], hints := hnts }
theorem T_ref05_May (x : TT [(.st .Disk)]) : (fnTree env105 105 [(.st .Disk)] [.bool] none x).den = D_ref05_May x.1 := by kernel_rfl
theorem C_ref05_May : SpecOk Go.Proofs.Tryz.prog 105 s105 :=
  (fnTree_spec (E := env105) (tysOk_of tys_ok) (specSound_of (specsOk_cons C_ref05_blank rfl specsOk_nil)) mixed_ok (inlOk_of (inlB_cons func105 nm_105 inlB_nil)) en_105 [(.st .Disk)] [.bool]).weaken (fun x r hx hn => (T_ref05_May x).trans (Q_ref05_May x r hx hn))
noncomputable def env63 : Env := { ty := tys, specs := [(103, s103), (104, s104), (105, s105)], inl := [(63, f63)], hints := hnts }
theorem T_ref08_May (x : TT [(.st .Config), (.st .Disk)]) : (fnTree env63 63 [(.st .Config), (.st .Disk)] [.bool] none x).den = D_ref08_May x.1 x.2.1 := by kernel_rfl
theorem C_ref08_May : SpecOk Go.Proofs.Tryz.prog 63 s63 :=
  (fnTree_spec (E := env63) (tysOk_of tys_ok) (specSound_of (specsOk_cons C_ref07_May rfl (specsOk_cons C_ref07_Size rfl (specsOk_cons C_ref05_May rfl specsOk_nil)))) mixed_ok (inlOk_of (inlB_cons func63 nm_63 inlB_nil)) en_63 [(.st .Config), (.st .Disk)] [.bool]).weaken (fun x r hx hn => (T_ref08_May x).trans (Q_ref08_May x r hx hn))
noncomputable def env152 : Env := { ty := tys, specs := [], inl := [(152, f152)], hints := hnts }
theorem T_ref11_May (x : TT [(.st .Rec)]) : (fnTree env152 152 [(.st .Rec)] [.bool] none x).den = D_ref11_May x.1 := by kernel_rfl
theorem C_ref11_May : SpecOk Go.Proofs.Tryz.prog 152 s152 :=
  (fnTree_spec (E := env152) (tysOk_of tys_ok) (specSound_of specsOk_nil) mixed_ok (inlOk_of (inlB_cons func152 nm_152 inlB_nil)) en_152 [(.st .Rec)] [.bool]).weaken (fun x r hx hn => (T_ref11_May x).trans (Q_ref11_May x r hx hn))
noncomputable def env106 : Env := { ty := tys, specs := [(152, s152)], inl := [(106, f106)], hints := hnts }
theorem T_ref11_MayAll (x : TT [(.sl (.st .Rec))]) : (fnTree env106 106 [(.sl (.st .Rec))] [.bool] none x).den = D_ref11_MayAll x.1 := by kernel_rfl
theorem C_ref11_MayAll : SpecOk Go.Proofs.Tryz.prog 106 s106 :=
  (fnTree_spec (E := env106) (tysOk_of tys_ok) (specSound_of (specsOk_cons C_ref11_May rfl specsOk_nil)) mixed_ok (inlOk_of (inlB_cons func106 nm_106 inlB_nil)) en_106 [(.sl (.st .Rec))] [.bool]).weaken (fun x r hx hn => (T_ref11_MayAll x).trans (Q_ref11_MayAll x r hx hn))
noncomputable def env64 : Env := { ty := tys, specs := [(103, s103), (106, s106)], inl := [(64, f64)], hints := hnts }
theorem T_ref12_May (x : TT [(.st .Config), (.st .Meta)]) : (fnTree env64 64 [(.st .Config), (.st .Meta)] [.bool] none x).den = D_ref12_May x.1 x.2.1 := by kernel_rfl
theorem C_ref12_May : SpecOk Go.Proofs.Tryz.prog 64 s64 :=
  (fnTree_spec (E := env64) (tysOk_of tys_ok) (specSound_of (specsOk_cons C_ref07_May rfl (specsOk_cons C_ref11_MayAll rfl specsOk_nil))) mixed_ok (inlOk_of (inlB_cons func64 nm_64 inlB_nil)) en_64 [(.st .Config), (.st .Meta)] [.bool]).weaken (fun x r hx hn => (T_ref12_May x).trans (Q_ref12_May x r hx hn))
noncomputable def env107 : Env := { ty := tys, specs := [], inl := [(107, f107)], hints := hnts }
theorem T_ref04_May (x : TT [(.st .Queue)]) : (fnTree env107 107 [(.st .Queue)] [.bool] none x).den = D_ref04_May x.1 := by kernel_rfl
theorem C_ref04_May : SpecOk Go.Proofs.Tryz.prog 107 s107 :=
  (fnTree_spec (E := env107) (tysOk_of tys_ok) (specSound_of specsOk_nil) mixed_ok (inlOk_of (inlB_cons func107 nm_107 inlB_nil)) en_107 [(.st .Queue)] [.bool]).weaken (fun x r hx hn => (T_ref04_May x).trans (Q_ref04_May x r hx hn))
noncomputable def env108 : Env := { ty := tys, specs := [(107, s107)], inl := [(108, f108)], hints := hnts }
theorem T_ref04_List (x : TT [(.st .Queue)]) : (fnTree env108 108 [(.st .Queue)] [(.sl (.sl (.int .u8))), (.int .i64)] none x).den = D_ref04_List x.1 := by kernel_rfl
theorem C_ref04_List : SpecOk Go.Proofs.Tryz.prog 108 s108 :=
  (fnTree_spec (E := env108) (tysOk_of tys_ok) (specSound_of (specsOk_cons C_ref04_May rfl specsOk_nil)) mixed_ok (inlOk_of (inlB_cons func108 nm_108 inlB_nil)) en_108 [(.st .Queue)] [(.sl (.sl (.int .u8))), (.int .i64)]).weaken (fun x r hx hn => (T_ref04_List x).trans (Q_ref04_List x r hx hn))
noncomputable def env65 : Env := { ty := tys, specs := [(103, s103), (107, s107), (108, s108)], inl := [(65, f65)], hints := hnts }
theorem T_ref17_May (x : TT [(.st .Config), (.st .End)]) : (fnTree env65 65 [(.st .Config), (.st .End)] [.bool] none x).den = D_ref17_May x.1 x.2.1 := by kernel_rfl
theorem C_ref17_May : SpecOk Go.Proofs.Tryz.prog 65 s65 :=
  (fnTree_spec (E := env65) (tysOk_of tys_ok) (specSound_of (specsOk_cons C_ref07_May rfl (specsOk_cons C_ref04_May rfl (specsOk_cons C_ref04_List rfl specsOk_nil)))) mixed_ok (inlOk_of (inlB_cons func65 nm_65 inlB_nil)) en_65 [(.st .Config), (.st .End)] [.bool]).weaken (fun x r hx hn => (T_ref17_May x).trans (Q_ref17_May x r hx hn))
noncomputable def env66 : Env := { ty := tys, specs := [], inl := [(66, f66)], hints := hnts }
theorem T_ref21_pair (x : TT [(.st .Config), (.int .i64)]) : (fnTree env66 66 [(.st .Config), (.int .i64)] [.bool] none x).den = D_ref21_pair x.1 x.2.1 := by kernel_rfl
theorem C_ref21_pair : SpecOk Go.Proofs.Tryz.prog 66 s66 :=
  (fnTree_spec (E := env66) (tysOk_of tys_ok) (specSound_of specsOk_nil) mixed_ok (inlOk_of (inlB_cons func66 nm_66 inlB_nil)) en_66 [(.st .Config), (.int .i64)] [.bool]).weaken (fun x r hx hn => (T_ref21_pair x).trans (Q_ref21_pair x r hx hn))
noncomputable def env154 : Env := { ty := tys, specs := [], inl := [(154, f154), (170, f170)], hints := hnts }
theorem T_ref03_In (x : TT [(.sl (.int .u8)), (.int .i64)]) : (fnTree env154 154 [(.sl (.int .u8)), (.int .i64)] [.bool] none x).den = D_ref03_In x.1 x.2.1 := by kernel_rfl
theorem C_ref03_In : SpecOk Go.Proofs.Tryz.prog 154 s154 :=
  (fnTree_spec (E := env154) (tysOk_of tys_ok) (specSound_of specsOk_nil) mixed_ok (inlOk_of (inlB_cons func154 nm_154 (inlB_cons func170 nm_170 inlB_nil))) en_154 [(.sl (.int .u8)), (.int .i64)] [.bool]).weaken (fun x r hx hn => (T_ref03_In x).trans (Q_ref03_In x r hx hn))
noncomputable def env109 : Env := { ty := tys, specs := [(154, s154)], inl := [(109, f109), (153, f153)], hints := hnts }
theorem T_ref03_May (x : TT [(.int .i64), (.sl (.int .u8))]) : (fnTree env109 109 [(.int .i64), (.sl (.int .u8))] [.bool] none x).den = D_ref03_May x.1 x.2.1 := by kernel_rfl
theorem C_ref03_May : SpecOk Go.Proofs.Tryz.prog 109 s109 :=
  (fnTree_spec (E := env109) (tysOk_of tys_ok) (specSound_of (specsOk_cons C_ref03_In rfl specsOk_nil)) mixed_ok (inlOk_of (inlB_cons func109 nm_109 (inlB_cons func153 nm_153 inlB_nil))) en_109 [(.int .i64), (.sl (.int .u8))] [.bool]).weaken (fun x r hx hn => (T_ref03_May x).trans (Q_ref03_May x r hx hn))
noncomputable def env110 : Env := { ty := tys, specs := [], inl := [(110, f110)], hints := hnts }
theorem T_ref21_there (x : TT [(.st .Config), (.int .i64)]) : (fnTree env110 110 [(.st .Config), (.int .i64)] [.bool] none x).den = D_ref21_there x.1 x.2.1 := by kernel_rfl
theorem C_ref21_there : SpecOk Go.Proofs.Tryz.prog 110 s110 :=
  (fnTree_spec (E := env110) (tysOk_of tys_ok) (specSound_of specsOk_nil) mixed_ok (inlOk_of (inlB_cons func110 nm_110 inlB_nil)) en_110 [(.st .Config), (.int .i64)] [.bool]).weaken (fun x r hx hn => (T_ref21_there x).trans (Q_ref21_there x r hx hn))
noncomputable def env67 : Env := { ty := tys, specs := [(109, s109), (110, s110)], inl := [(67, f67)], hints := hnts }
theorem T_ref21_maySide (x : TT [(.st .Config), (.st .Side)]) : (fnTree env67 67 [(.st .Config), (.st .Side)] [.bool] none x).den = D_ref21_maySide x.1 x.2.1 := by kernel_rfl
theorem C_ref21_maySide : SpecOk Go.Proofs.Tryz.prog 67 s67 :=
  (fnTree_spec (E := env67) (tysOk_of tys_ok) (specSound_of (specsOk_cons C_ref03_May rfl (specsOk_cons C_ref21_there rfl specsOk_nil))) mixed_ok (inlOk_of (inlB_cons func67 nm_67 inlB_nil)) en_67 [(.st .Config), (.st .Side)] [.bool]).weaken (fun x r hx hn => (T_ref21_maySide x).trans (Q_ref21_maySide x r hx hn))
end Go.Cat

set_option maxHeartbeats 0
namespace Go.Cat
open Go Go.Proofs.Tryz
noncomputable def env155 : Env := { ty := tys, specs := [(152, s152)], inl := [(155, f155), (171, f171), (172, f172)], hints := hnts }
theorem T_ref20_May (x : TT [(.st .Msg)]) : (fnTree env155 155 [(.st .Msg)] [.bool] none x).den = D_ref20_May x.1 := by kernel_rfl
theorem C_ref20_May : SpecOk Go.Proofs.Tryz.prog 155 s155 :=
  (fnTree_spec (E := env155) (tysOk_of tys_ok) (specSound_of (specsOk_cons C_ref11_May rfl specsOk_nil)) mixed_ok (inlOk_of (inlB_cons func155 nm_155 (inlB_cons func171 nm_171 (inlB_cons func172 nm_172 inlB_nil)))) en_155 [(.st .Msg)] [.bool]).weaken (fun x r hx hn => (T_ref20_May x).trans (Q_ref20_May x r hx hn))
noncomputable def env112 : Env := { ty := tys, specs := [(66, s66), (155, s155)], inl := [(112, f112)], hints := hnts }
theorem T_ref21_mayMsg (x : TT [(.st .Config), (.st .Msg)]) : (fnTree env112 112 [(.st .Config), (.st .Msg)] [.bool] none x).den = D_ref21_mayMsg x.1 x.2.1 := by kernel_rfl
theorem C_ref21_mayMsg : SpecOk Go.Proofs.Tryz.prog 112 s112 :=
  (fnTree_spec (E := env112) (tysOk_of tys_ok) (specSound_of (specsOk_cons C_ref21_pair rfl (specsOk_cons C_ref20_May rfl specsOk_nil))) mixed_ok (inlOk_of (inlB_cons func112 nm_112 inlB_nil)) en_112 [(.st .Config), (.st .Msg)] [.bool]).weaken (fun x r hx hn => (T_ref21_mayMsg x).trans (Q_ref21_mayMsg x r hx hn))
noncomputable def env111 : Env := { ty := tys, specs := [(66, s66), (112, s112)], inl := [(111, f111)], hints := hnts }
theorem T_ref21_mayAct (x : TT [(.st .Config), (.st .Site), (.st .Act)]) : (fnTree env111 111 [(.st .Config), (.st .Site), (.st .Act)] [.bool] none x).den = D_ref21_mayAct x.1 x.2.1 x.2.2.1 := by kernel_rfl
theorem C_ref21_mayAct : SpecOk Go.Proofs.Tryz.prog 111 s111 :=
  (fnTree_spec (E := env111) (tysOk_of tys_ok) (specSound_of (specsOk_cons C_ref21_pair rfl (specsOk_cons C_ref21_mayMsg rfl specsOk_nil))) mixed_ok (inlOk_of (inlB_cons func111 nm_111 inlB_nil)) en_111 [(.st .Config), (.st .Site), (.st .Act)] [.bool]).weaken (fun x r hx hn => (T_ref21_mayAct x).trans (Q_ref21_mayAct x r hx hn))
noncomputable def env68 : Env := { ty := tys, specs := [(111, s111), (112, s112)], inl := [(68, f68)], hints := hnts }
theorem T_ref21_mayLists (x : TT [(.st .Config), (.st .Site)]) : (fnTree env68 68 [(.st .Config), (.st .Site)] [.bool] none x).den = D_ref21_mayLists x.1 x.2.1 := by kernel_rfl
theorem C_ref21_mayLists : SpecOk Go.Proofs.Tryz.prog 68 s68 :=
  (fnTree_spec (E := env68) (tysOk_of tys_ok) (specSound_of (specsOk_cons C_ref21_mayAct rfl (specsOk_cons C_ref21_mayMsg rfl specsOk_nil))) mixed_ok (inlOk_of (inlB_cons func68 nm_68 inlB_nil)) en_68 [(.st .Config), (.st .Site)] [.bool]).weaken (fun x r hx hn => (T_ref21_mayLists x).trans (Q_ref21_mayLists x r hx hn))
noncomputable def env26 : Env := { ty := tys, specs := [(63, s63), (64, s64), (65, s65), (66, s66), (67, s67), (68, s68)], inl := [(26, f26)], hints := hnts }
theorem T_ref21_May (x : TT [(.st .Config), (.st .Site)]) : (fnTree env26 26 [(.st .Config), (.st .Site)] [.bool] none x).den = D_ref21_May x.1 x.2.1 := by kernel_rfl
theorem C_ref21_May : SpecOk Go.Proofs.Tryz.prog 26 s26 :=
  (fnTree_spec (E := env26) (tysOk_of tys_ok) (specSound_of (specsOk_cons C_ref08_May rfl (specsOk_cons C_ref12_May rfl (specsOk_cons C_ref17_May rfl (specsOk_cons C_ref21_pair rfl (specsOk_cons C_ref21_maySide rfl (specsOk_cons C_ref21_mayLists rfl specsOk_nil))))))) mixed_ok (inlOk_of (inlB_cons func26 nm_26 inlB_nil)) en_26 [(.st .Config), (.st .Site)] [.bool]).weaken (fun x r hx hn => (T_ref21_May x).trans (Q_ref21_May x r hx hn))
noncomputable def env27 : Env := { ty := tys, specs := [], inl := [(18, f18), (27, f27)], hints := hnts }
theorem T_ref05_Behind (x : TT [(.st .Disk), (.sl (.int .u8))]) : (fnTree env27 27 [(.st .Disk), (.sl (.int .u8))] [(.st .Disk)] none x).den = D_ref05_Behind x.1 x.2.1 := by kernel_rfl
theorem C_ref05_Behind : SpecOk Go.Proofs.Tryz.prog 27 s27 :=
  (fnTree_spec (E := env27) (tysOk_of tys_ok) (specSound_of specsOk_nil) mixed_ok (inlOk_of (inlB_cons func18 nm_18 (inlB_cons func27 nm_27 inlB_nil))) en_27 [(.st .Disk), (.sl (.int .u8))] [(.st .Disk)]).weaken (fun x r hx hn => (T_ref05_Behind x).trans (Q_ref05_Behind x r hx hn))
noncomputable def env9 : Env := { ty := tys, specs := [(26, s26), (27, s27)], inl := [(9, f9)], hints := hnts }
theorem T_ref26_Crash (x : TT [(.st .Config), (.st .Site), (.sl (.int .u8))]) : (fnTree env9 9 [(.st .Config), (.st .Site), (.sl (.int .u8))] [(.st .Disk), (.int .i64)] none x).den = D_ref26_Crash x.1 x.2.1 x.2.2.1 := by kernel_rfl
theorem C_ref26_Crash : SpecOk Go.Proofs.Tryz.prog 9 s9 :=
  (fnTree_spec (E := env9) (tysOk_of tys_ok) (specSound_of (specsOk_cons C_ref21_May rfl (specsOk_cons C_ref05_Behind rfl specsOk_nil))) mixed_ok (inlOk_of (inlB_cons func9 nm_9 inlB_nil)) en_9 [(.st .Config), (.st .Site), (.sl (.int .u8))] [(.st .Disk), (.int .i64)]).weaken (fun x r hx hn => (T_ref26_Crash x).trans (Q_ref26_Crash x r hx hn))
noncomputable def env10 : Env := { ty := tys, specs := [], inl := [(10, f10)], hints := hnts }
theorem T_ref05_Same (x : TT [(.st .Disk), (.st .Disk)]) : (fnTree env10 10 [(.st .Disk), (.st .Disk)] [.bool] none x).den = D_ref05_Same x.1 x.2.1 := by kernel_rfl
theorem C_ref05_Same : SpecOk Go.Proofs.Tryz.prog 10 s10 :=
  (fnTree_spec (E := env10) (tysOk_of tys_ok) (specSound_of specsOk_nil) mixed_ok (inlOk_of (inlB_cons func10 nm_10 inlB_nil)) en_10 [(.st .Disk), (.st .Disk)] [.bool]).weaken (fun x r hx hn => (T_ref05_Same x).trans (Q_ref05_Same x r hx hn))
end Go.Cat

set_option maxHeartbeats 0
namespace Go.Cat
open Go Go.Proofs.Tryz
noncomputable def env28 : Env := { ty := tys, specs := [], inl := [(28, f28)], hints := hnts }
theorem T_ref21_SameSide (x : TT [(.st .Side), (.st .Side)]) : (fnTree env28 28 [(.st .Side), (.st .Side)] [.bool] none x).den = D_ref21_SameSide x.1 x.2.1 := by kernel_rfl
theorem C_ref21_SameSide : SpecOk Go.Proofs.Tryz.prog 28 s28 :=
  (fnTree_spec (E := env28) (tysOk_of tys_ok) (specSound_of specsOk_nil) mixed_ok (inlOk_of (inlB_cons func28 nm_28 inlB_nil)) en_28 [(.st .Side), (.st .Side)] [.bool]).weaken (fun x r hx hn => (T_ref21_SameSide x).trans (Q_ref21_SameSide x r hx hn))
noncomputable def env69 : Env := { ty := tys, specs := [], inl := [(69, f69)], hints := hnts }
theorem T_ref11_Same (x : TT [(.sl (.st .Rec)), (.sl (.st .Rec))]) : (fnTree env69 69 [(.sl (.st .Rec)), (.sl (.st .Rec))] [.bool] none x).den = D_ref11_Same x.1 x.2.1 := by kernel_rfl
theorem C_ref11_Same : SpecOk Go.Proofs.Tryz.prog 69 s69 :=
  (fnTree_spec (E := env69) (tysOk_of tys_ok) (specSound_of specsOk_nil) mixed_ok (inlOk_of (inlB_cons func69 nm_69 inlB_nil)) en_69 [(.sl (.st .Rec)), (.sl (.st .Rec))] [.bool]).weaken (fun x r hx hn => (T_ref11_Same x).trans (Q_ref11_Same x r hx hn))
noncomputable def env29 : Env := { ty := tys, specs := [(69, s69)], inl := [(29, f29)], hints := hnts }
theorem T_ref12_Same (x : TT [(.st .Meta), (.st .Meta)]) : (fnTree env29 29 [(.st .Meta), (.st .Meta)] [.bool] none x).den = D_ref12_Same x.1 x.2.1 := by kernel_rfl
theorem C_ref12_Same : SpecOk Go.Proofs.Tryz.prog 29 s29 :=
  (fnTree_spec (E := env29) (tysOk_of tys_ok) (specSound_of (specsOk_cons C_ref11_Same rfl specsOk_nil)) mixed_ok (inlOk_of (inlB_cons func29 nm_29 inlB_nil)) en_29 [(.st .Meta), (.st .Meta)] [.bool]).weaken (fun x r hx hn => (T_ref12_Same x).trans (Q_ref12_Same x r hx hn))
noncomputable def env113 : Env := { ty := tys, specs := [], inl := [(113, f113)], hints := hnts }
theorem T_ref04_SameAll (x : TT [(.sl (.sl (.int .u8))), (.sl (.sl (.int .u8)))]) : (fnTree env113 113 [(.sl (.sl (.int .u8))), (.sl (.sl (.int .u8)))] [.bool] none x).den = D_ref04_SameAll x.1 x.2.1 := by kernel_rfl
theorem C_ref04_SameAll : SpecOk Go.Proofs.Tryz.prog 113 s113 :=
  (fnTree_spec (E := env113) (tysOk_of tys_ok) (specSound_of specsOk_nil) mixed_ok (inlOk_of (inlB_cons func113 nm_113 inlB_nil)) en_113 [(.sl (.sl (.int .u8))), (.sl (.sl (.int .u8)))] [.bool]).weaken (fun x r hx hn => (T_ref04_SameAll x).trans (Q_ref04_SameAll x r hx hn))
noncomputable def env70 : Env := { ty := tys, specs := [(113, s113)], inl := [(70, f70)], hints := hnts }
theorem T_ref04_Same (x : TT [(.st .Queue), (.st .Queue)]) : (fnTree env70 70 [(.st .Queue), (.st .Queue)] [.bool] none x).den = D_ref04_Same x.1 x.2.1 := by kernel_rfl
theorem C_ref04_Same : SpecOk Go.Proofs.Tryz.prog 70 s70 :=
  (fnTree_spec (E := env70) (tysOk_of tys_ok) (specSound_of (specsOk_cons C_ref04_SameAll rfl specsOk_nil)) mixed_ok (inlOk_of (inlB_cons func70 nm_70 inlB_nil)) en_70 [(.st .Queue), (.st .Queue)] [.bool]).weaken (fun x r hx hn => (T_ref04_Same x).trans (Q_ref04_Same x r hx hn))
noncomputable def env30 : Env := { ty := tys, specs := [(70, s70)], inl := [(30, f30)], hints := hnts }
theorem T_ref17_Same (x : TT [(.st .End), (.st .End)]) : (fnTree env30 30 [(.st .End), (.st .End)] [.bool] none x).den = D_ref17_Same x.1 x.2.1 := by kernel_rfl
theorem C_ref17_Same : SpecOk Go.Proofs.Tryz.prog 30 s30 :=
  (fnTree_spec (E := env30) (tysOk_of tys_ok) (specSound_of (specsOk_cons C_ref04_Same rfl specsOk_nil)) mixed_ok (inlOk_of (inlB_cons func30 nm_30 inlB_nil)) en_30 [(.st .End), (.st .End)] [.bool]).weaken (fun x r hx hn => (T_ref17_Same x).trans (Q_ref17_Same x r hx hn))
noncomputable def env71 : Env := { ty := tys, specs := [], inl := [(71, f71)], hints := hnts }
theorem T_ref20_Same (x : TT [(.st .Msg), (.st .Msg)]) : (fnTree env71 71 [(.st .Msg), (.st .Msg)] [.bool] none x).den = D_ref20_Same x.1 x.2.1 := by kernel_rfl
theorem C_ref20_Same : SpecOk Go.Proofs.Tryz.prog 71 s71 :=
  (fnTree_spec (E := env71) (tysOk_of tys_ok) (specSound_of specsOk_nil) mixed_ok (inlOk_of (inlB_cons func71 nm_71 inlB_nil)) en_71 [(.st .Msg), (.st .Msg)] [.bool]).weaken (fun x r hx hn => (T_ref20_Same x).trans (Q_ref20_Same x r hx hn))
noncomputable def env72 : Env := { ty := tys, specs := [], inl := [(72, f72)], hints := hnts }
theorem T_ref21_SameReply (x : TT [(.st .Reply), (.st .Reply)]) : (fnTree env72 72 [(.st .Reply), (.st .Reply)] [.bool] none x).den = D_ref21_SameReply x.1 x.2.1 := by kernel_rfl
theorem C_ref21_SameReply : SpecOk Go.Proofs.Tryz.prog 72 s72 :=
  (fnTree_spec (E := env72) (tysOk_of tys_ok) (specSound_of specsOk_nil) mixed_ok (inlOk_of (inlB_cons func72 nm_72 inlB_nil)) en_72 [(.st .Reply), (.st .Reply)] [.bool]).weaken (fun x r hx hn => (T_ref21_SameReply x).trans (Q_ref21_SameReply x r hx hn))
noncomputable def env31 : Env := { ty := tys, specs := [(71, s71), (72, s72)], inl := [(31, f31)], hints := hnts }
theorem T_ref21_samePlan (x : TT [(.sl (.st .Act)), (.sl (.st .Act))]) : (fnTree env31 31 [(.sl (.st .Act)), (.sl (.st .Act))] [.bool] none x).den = D_ref21_samePlan x.1 x.2.1 := by kernel_rfl
theorem C_ref21_samePlan : SpecOk Go.Proofs.Tryz.prog 31 s31 :=
  (fnTree_spec (E := env31) (tysOk_of tys_ok) (specSound_of (specsOk_cons C_ref20_Same rfl (specsOk_cons C_ref21_SameReply rfl specsOk_nil))) mixed_ok (inlOk_of (inlB_cons func31 nm_31 inlB_nil)) en_31 [(.sl (.st .Act)), (.sl (.st .Act))] [.bool]).weaken (fun x r hx hn => (T_ref21_samePlan x).trans (Q_ref21_samePlan x r hx hn))
noncomputable def env32 : Env := { ty := tys, specs := [(71, s71)], inl := [(32, f32)], hints := hnts }
theorem T_ref21_sameCome (x : TT [(.st .Site), (.st .Site)]) : (fnTree env32 32 [(.st .Site), (.st .Site)] [.bool] none x).den = D_ref21_sameCome x.1 x.2.1 := by kernel_rfl
theorem C_ref21_sameCome : SpecOk Go.Proofs.Tryz.prog 32 s32 :=
  (fnTree_spec (E := env32) (tysOk_of tys_ok) (specSound_of (specsOk_cons C_ref20_Same rfl specsOk_nil)) mixed_ok (inlOk_of (inlB_cons func32 nm_32 inlB_nil)) en_32 [(.st .Site), (.st .Site)] [.bool]).weaken (fun x r hx hn => (T_ref21_sameCome x).trans (Q_ref21_sameCome x r hx hn))
noncomputable def env33 : Env := { ty := tys, specs := [(72, s72)], inl := [(33, f33)], hints := hnts }
theorem T_ref21_SameReplies (x : TT [(.sl (.st .Reply)), (.sl (.st .Reply))]) : (fnTree env33 33 [(.sl (.st .Reply)), (.sl (.st .Reply))] [.bool] none x).den = D_ref21_SameReplies x.1 x.2.1 := by kernel_rfl
theorem C_ref21_SameReplies : SpecOk Go.Proofs.Tryz.prog 33 s33 :=
  (fnTree_spec (E := env33) (tysOk_of tys_ok) (specSound_of (specsOk_cons C_ref21_SameReply rfl specsOk_nil)) mixed_ok (inlOk_of (inlB_cons func33 nm_33 inlB_nil)) en_33 [(.sl (.st .Reply)), (.sl (.st .Reply))] [.bool]).weaken (fun x r hx hn => (T_ref21_SameReplies x).trans (Q_ref21_SameReplies x r hx hn))
noncomputable def env11 : Env := { ty := tys, specs := [(10, s10), (28, s28), (29, s29), (30, s30), (31, s31), (32, s32), (33, s33)], inl := [(11, f11)], hints := hnts }
theorem T_ref21_Same (x : TT [(.st .Site), (.st .Site)]) : (fnTree env11 11 [(.st .Site), (.st .Site)] [.bool] none x).den = D_ref21_Same x.1 x.2.1 := by kernel_rfl
theorem C_ref21_Same : SpecOk Go.Proofs.Tryz.prog 11 s11 :=
  (fnTree_spec (E := env11) (tysOk_of tys_ok) (specSound_of (specsOk_cons C_ref05_Same rfl (specsOk_cons C_ref21_SameSide rfl (specsOk_cons C_ref12_Same rfl (specsOk_cons C_ref17_Same rfl (specsOk_cons C_ref21_samePlan rfl (specsOk_cons C_ref21_sameCome rfl (specsOk_cons C_ref21_SameReplies rfl specsOk_nil)))))))) mixed_ok (inlOk_of (inlB_cons func11 nm_11 inlB_nil)) en_11 [(.st .Site), (.st .Site)] [.bool]).weaken (fun x r hx hn => (T_ref21_Same x).trans (Q_ref21_Same x r hx hn))
noncomputable def env3 : Env := { ty := tys, specs := [(6, s6), (7, s7), (8, s8), (9, s9), (10, s10), (11, s11)], inl := [(3, f3)], hints := hnts }
theorem T_law26_BootCrash (x : TT [(.st .Config), (.st .Site), (.sl (.int .u8))]) : (fnTree env3 3 [(.st .Config), (.st .Site), (.sl (.int .u8))] [.bool] none x).den = D_law26_BootCrash x.1 x.2.1 x.2.2.1 := by kernel_rfl
theorem C_law26_BootCrash : SpecOk Go.Proofs.Tryz.prog 3 ⟨[(.st .Config), (.st .Site), (.sl (.int .u8))], [.bool], none, fun x => (fnTree env3 3 [(.st .Config), (.st .Site), (.sl (.int .u8))] [.bool] none x).den⟩ :=
  fnTree_spec (E := env3) (tysOk_of tys_ok) (specSound_of (specsOk_cons C_ref21_Great rfl (specsOk_cons C_ref21_Twin rfl (specsOk_cons C_boot_Crash rfl (specsOk_cons C_ref26_Crash rfl (specsOk_cons C_ref05_Same rfl (specsOk_cons C_ref21_Same rfl specsOk_nil))))))) mixed_ok (inlOk_of (inlB_cons func3 nm_3 inlB_nil)) en_3 [(.st .Config), (.st .Site), (.sl (.int .u8))] [.bool]
end Go.Cat

namespace Go.Cat
open Go Go.Proofs.Tryz
theorem law_law26_BootCrash (x : TT [(.st .Config), (.st .Site), (.sl (.int .u8))]) (_ : OkTT [(.st .Config), (.st .Site), (.sl (.int .u8))] x) : (fnTree env3 3 [(.st .Config), (.st .Site), (.sl (.int .u8))] [.bool] none x).den = some (true, ()) :=
  (T_law26_BootCrash x).trans (P_law26_BootCrash _ _ _)
end Go.Cat
