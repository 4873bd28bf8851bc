/-
  CatOps1: objects that are laid and turned; what is told of types; loads, stores, new variables.
  CatOps2: loads, stores, new variables, fields and elements.
  CatOps3: stores; addresses of fields and elements; parts of values.
  CatOps4: addresses of fields and elements; parts of values; lengths; parts of slices.
  CatOps5: lengths, elements of strings, parts of slices; numbers.
  CatOps6: numbers, tests, conversions of numbers; choices.
  CatOps7: append, make, copy, clear.
-/
import Derived.Test.YtiobnfdbeedjaaaGreatC1
import Derived.Laws.StructEq
import Derived.Maps.AppendAt
set_option linter.unusedVariables false
set_option linter.unusedSimpArgs false
namespace Go.Cat
open Go

variable {P : Program} {w0 : Pt} {β : Pl} {ro : Snap} {D : Nat → Prop} {objs : Heap} {w : World}

theorem HSat.ro_none (h : HSat w0 β ro D objs w) {g : Nat} (hg : w.heap.size ≤ g) : ro g = none := by
  cases hr : ro g with
  | none => rfl
  | some o =>
    have := h.snap g o hr
    rw [Array.getElem?_eq_none hg] at this
    cases this

/-- One object is laid or turned. -/
theorem HSat.upd (h : HSat w0 β ro D objs w) (n : Nat) (hd : Hd) (o : SO) {w' : World} (blk : Option Nat) {D' : Nat → Prop}
    {objs' : Heap} (hobjs : ∀ id x, objs' id = some x → (id = n ∧ x = o) ∨ (id ≠ n ∧ objs id = some x))
    {β' : Pl} (hβ : β.ext β') (hn : β' n = some hd) (hβ' : ∀ id hh, β' id = some hh → β id = some hh ∨ (id = n ∧ hh = hd))
    (hb : Base w w') (hsame : ∀ k, k < w.heap.size → some k ≠ blk → w'.heap[k]? = w.heap[k]?)
    (hro : ∀ g, blk = some g → ro g = none ∧ w0.heap.size ≤ g)
    (hfree : ∀ g id x hh, (blk = some g ∨ hd.blk = some g) → id ≠ n → objs' id = some x → β id = some hh → hh.blk ≠ some g)
    (hat : ObjAt β' ro w' hd o) (hro' : ∀ g, hd.blk = some g → ro g = none ∧ g < w'.heap.size ∧ w0.heap.size ≤ g)
    (hD : ∀ id, D id → D' id) (hDn : D' n) : HSat w0 β' ro D' objs' w' := by
  have hsize := hb.size
  refine ⟨h.base.trans hb, h.low, fun k hk => ?_, ?_, ?_, ?_, ?_, ?_, ?_, ?_⟩
  · rw [hsame k (Nat.lt_of_lt_of_le hk h.base.size) (fun e => by have := (hro k e.symm).2; omega)]
    exact h.old k hk
  · intro b x hx
    have h1 := h.snap b x hx
    have hlt : b < w.heap.size := (Array.getElem?_eq_some_iff.1 h1).1
    rw [hsame b hlt (fun e => by rw [(hro b e.symm).1] at hx; cases hx)]
    exact h1
  · intro id hh hbd
    rcases hβ' id hh hbd with h1 | ⟨rfl, _⟩
    · exact hD _ (h.dom _ _ h1)
    · exact hDn
  · intro id hh g hbd hg
    rcases hβ' id hh hbd with h1 | ⟨_, rfl⟩
    · exact Nat.lt_of_lt_of_le (h.lt _ _ _ h1 hg) hsize
    · exact (hro' g hg).2.1
  · intro id x hx
    rcases hobjs id x hx with ⟨rfl, rfl⟩ | ⟨hne, hx'⟩
    · exact ⟨hd, hn, hat⟩
    · obtain ⟨hh, h1, h2⟩ := h.obj id x hx'
      refine ⟨hh, hβ _ _ h1, h2.mono hβ ro.ext_refl fun g hg => hsame g (h.lt _ _ _ h1 hg) fun e => ?_⟩
      exact hfree g id x hh (.inl e.symm) hne hx h1 hg
  · intro id x hh g hx hbd hg
    rcases hobjs id x hx with ⟨rfl, rfl⟩ | ⟨hne, hx'⟩
    · rw [hn] at hbd; cases hbd; exact (hro' g hg).1
    · rcases hβ' id hh hbd with h1 | ⟨he, _⟩
      · exact h.apart id x hh g hx' h1 hg
      · exact absurd he hne
  · intro id x hh g hx hbd hg
    rcases hobjs id x hx with ⟨rfl, rfl⟩ | ⟨hne, hx'⟩
    · rw [hn] at hbd; cases hbd; exact (hro' g hg).2.2
    · rcases hβ' id hh hbd with h1 | ⟨he, _⟩
      · exact h.above id x hh g hx' h1 hg
      · exact absurd he hne
  · intro id id' x x' hh hh' g hx hx' hbd hbd' hg hg'
    rcases hobjs id x hx with ⟨rfl, rfl⟩ | ⟨hne, hy⟩
    · rw [hn] at hbd; cases hbd
      rcases hobjs id' x' hx' with ⟨rfl, _⟩ | ⟨hne', hy'⟩
      · rfl
      · rcases hβ' id' hh' hbd' with h1 | ⟨he, _⟩
        · exact absurd hg' (hfree g id' x' hh' (.inr hg) hne' hx' h1)
        · exact absurd he hne'
    · rcases hβ' id hh hbd with h1 | ⟨he, _⟩
      · rcases hobjs id' x' hx' with ⟨rfl, _⟩ | ⟨hne', hy'⟩
        · rw [hn] at hbd'; cases hbd'
          exact absurd hg (hfree g id x hh (.inr hg') hne hx h1)
        · rcases hβ' id' hh' hbd' with h2 | ⟨he, _⟩
          · exact h.inj id id' x x' hh hh' g hy hy' h1 h2 hg hg'
          · exact absurd he hne'
      · exact absurd he hne

/-- β with one place more. -/
def Pl.add (β : Pl) (n : Nat) (h : Hd) : Pl := fun i => if i = n then some h else β i

theorem Pl.ext_add {β : Pl} {n : Nat} (hn : β n = none) (h : Hd) : β.ext (β.add n h) := by
  intro id hh hb
  unfold Pl.add
  split
  · rename_i he; subst he; rw [hn] at hb; cases hb
  · exact hb

theorem Pl.add_same (β : Pl) (n : Nat) (h : Hd) : β.add n h n = some h := by simp [Pl.add]
theorem Pl.add_or {β : Pl} {n : Nat} {h : Hd} {id : Nat} {hh : Hd} (hb : β.add n h id = some hh) : β id = some hh ∨ (id = n ∧ hh = h) := by
  unfold Pl.add at hb
  split at hb
  · rename_i he; cases hb; exact .inr ⟨he, rfl⟩
  · exact .inl hb

theorem HSat.none_of_D (h : HSat w0 β ro D objs w) {n : Nat} (hn : ¬ D n) : β n = none := by
  cases hb : β n with
  | none => rfl
  | some hh => exact absurd (h.dom _ _ hb) hn

theorem base_alloc (w : World) (o : Obj) : Base w (w.alloc o) := ⟨rfl, rfl, rfl, by simp⟩
theorem base_setRow (w : World) (g : Nat) (cs : Array Value) : Base w (w.setRow g cs) := ⟨rfl, rfl, rfl, by simp⟩

/-- A new object in a new block. -/
theorem HSat.fresh (h : HSat w0 β ro D objs w) {n : Nat} (hn : ¬ D n) (hd : Hd) (o : SO) {w' : World} {D' : Nat → Prop} (hb : Base w w')
    (hsame : ∀ k, k < w.heap.size → w'.heap[k]? = w.heap[k]?) (hblk : ∀ g, hd.blk = some g → w.heap.size ≤ g ∧ g < w'.heap.size)
    (hat : ObjAt (β.add n hd) ro w' hd o) (hD : ∀ id, D id → D' id) (hDn : D' n) : HSat w0 (β.add n hd) ro D' (putH objs n (some o)) w' := by
  refine h.upd n hd o none ?_ (Pl.ext_add (h.none_of_D hn) hd) (Pl.add_same _ _ _) (fun id hh hb => Pl.add_or hb) hb (fun k hk _ => hsame k hk) (by simp) ?_ hat
    (fun g hg => ⟨h.ro_none (hblk g hg).1, (hblk g hg).2, Nat.le_trans h.base.size (hblk g hg).1⟩) hD hDn
  · intro id x hx
    by_cases he : id = n
    · subst he; rw [putH_same] at hx; cases hx; exact .inl ⟨rfl, rfl⟩
    · rw [putH_other _ _ he] at hx; exact .inr ⟨he, hx⟩
  · intro g id x hh hor _ _ hb' hg
    rcases hor with h1 | h1
    · cases h1
    · have := h.lt _ _ _ hb' hg
      have := (hblk g h1).1
      omega

/-- An object is turned where it lies. -/
theorem HSat.turn (h : HSat w0 β ro D objs w) {n : Nat} {hd : Hd} {o o' : SO} (ho : objs n = some o) (hbn : β n = some hd) {w' : World} {g : Nat} (hg : hd.blk = some g)
    (hb : Base w w') (hsame : ∀ k, k < w.heap.size → k ≠ g → w'.heap[k]? = w.heap[k]?) (hat : ObjAt β ro w' hd o') {D' : Nat → Prop} (hD : ∀ id, D id → D' id) :
    HSat w0 β ro D' (putH objs n (some o')) w' := by
  have hgr := h.apart n o hd g ho hbn hg
  have hab := h.above n o hd g ho hbn hg
  refine h.upd n hd o' (some g) ?_ β.ext_refl hbn (fun id hh hb => .inl hb) hb (fun k hk hne => hsame k hk (fun e => hne (by rw [e]))) ?_ ?_ hat ?_ hD (hD _ (h.dom _ _ hbn))
  · intro id x hx
    by_cases he : id = n
    · subst he; rw [putH_same] at hx; cases hx; exact .inl ⟨rfl, rfl⟩
    · rw [putH_other _ _ he] at hx; exact .inr ⟨he, hx⟩
  · intro g' hg'; cases hg'; exact ⟨hgr, hab⟩
  · intro g' id x hh hor hne hx hb' hg'
    have hge : g' = g := by
      rcases hor with h1 | h1
      · exact (Option.some.inj h1).symm
      · rw [hg] at h1; exact (Option.some.inj h1).symm
    subst hge
    rw [putH_other _ _ hne] at hx
    exact hne (h.inj id n x o hh hd g' hx ho hb' hbn hg' hg)
  · intro g' hg'
    rw [hg] at hg'; cases hg'
    exact ⟨hgr, Nat.lt_of_lt_of_le (h.lt _ _ _ hbn hg) hb.size, hab⟩

/- ---------------------------------------------------------------- types -/

def isAggD : TypeDesc → Bool
  | .struct _ | .array _ _ => true
  | _ => false

structure TyOk (P : Program) (t : TypeId) (i : TyI) : Prop where
  info : ∃ inf z d, P.info? t = some inf ∧ P.underlying t = some d ∧ inf.size = i.size ∧ inf.zero = some z ∧ z.cells.size = i.size ∧ z.cells.toList.map SV.lit = i.zero ∧
    (∀ v ∈ z.cells.toList, litOk v = true) ∧ inf.bytes ≤ 131072 ∧ isAggD d = i.agg ∧ ((i.agg = false → i.size = 1) ∧ 0 < i.size) ∧
    (match i.d with
      | .st fs => ∃ fields, d = .struct fields ∧ fields.toList.map (fun f => (f.offset, f.type)) = fs ∧ (∀ f ∈ fields.toList, ∃ fi, P.info? f.type = some fi ∧ fi.size ≠ 0) ∧
          (i.eq = true → P.stoodInHeld t = false ∧ P.eqGuardType P.depth t = false ∧ ∀ f ∈ fields.toList, (f.name != "_") = true)
      | .arr n e => d = .array n e
      | .sl e => d = .slice e
      | .int k => d = .int k
      | .str => d = .string
      | .bool => d = .bool
      | _ => True) ∧
    ∀ e, i.en = some e → sz e = i.size ∧ 0 < i.size ∧ isAggE e = i.agg ∧ RepC (fun _ => none) (cells e (zeroT e)) z.cells.toList



theorem look_mem {α : Type} : ∀ {l : List (Nat × α)} {n : Nat} {a : α}, look l n = some a → (n, a) ∈ l
  | [], _, _, h => by cases h
  | (i, b) :: r, n, a, h => by
    unfold look at h
    cases hb : Nat.beq i n with
    | true => simp only [hb] at h; cases h; rw [Nat.eq_of_beq_eq_true hb]; exact List.mem_cons_self
    | false => simp only [hb] at h; exact List.mem_cons_of_mem _ (look_mem h)

/-- What an environment tells is so. -/
structure TysOk (P : Program) (E : Env) : Prop where
  ty : ∀ t i, (t, i) ∈ E.ty → TyOk P t i

theorem TysOk.look {E : Env} (h : TysOk P E) {t : Nat} {i : TyI} (hl : look E.ty t = some i) : TyOk P t i := h.ty _ _ (look_mem hl)

theorem sizeT_look {E : Env} {t s : Nat} (h : sizeT E t = some s) : ∃ i, look E.ty t = some i ∧ i.size = s := by
  unfold sizeT at h
  cases hl : look E.ty t with
  | none => simp [hl] at h
  | some i => simp [hl] at h; exact ⟨i, rfl, h⟩

end Go.Cat

namespace Go.Cat
open Go

variable {P : Program} {w0 : Pt} {β : Pl} {ro : Snap} {D : Nat → Prop} {objs : Heap} {w : World}

theorem addr_add {a : Addr} (hs : a.spot = none) (j : Nat) : a.add j = ⟨a.block, a.off + j, none⟩ := by
  unfold Addr.add
  split
  · rename_i h; subst h; cases a; simp_all
  · cases a; simp_all

theorem run_und {t : TypeId} {d : TypeDesc} (h : P.underlying t = some d) : (underlying t).run P w = .ok d w := by
  simp [underlying, h]

theorem run_isAgg {t : TypeId} {d : TypeDesc} (h : P.underlying t = some d) : (isAgg t).run P w = .ok (isAggD d) w := by
  simp only [isAgg, Sem.run_bind, run_und h, Result.andThen_ok]
  cases d <;> rfl

theorem run_sizeOf {t : TypeId} {inf : TypeInfo} (h : P.info? t = some inf) : (sizeOf t).run P w = .ok inf.size w := by
  simp [sizeOf, typeInfo, h]

theorem run_zero {t : TypeId} {inf : TypeInfo} {z : Value} (h : P.info? t = some inf) (hz : inf.zero = some z) : (zeroValue t).run P w = .ok z w := by
  simp [zeroValue, typeInfo, h, hz]

theorem run_loadVar {t : TypeId} {i : TyI} (ht : TyOk P t i) {a : Addr} (hs : a.spot = none) (us : List Value) (hl : us.length = i.size)
    (hc : ∀ (j : Nat) (v : Value), us[j]? = some v → w.cell? ⟨a.block, a.off + j, none⟩ = some v) :
    (loadVar t a).run P w = .ok (if i.agg = true then .agg us.toArray else us.headD undef) w := by
  obtain ⟨inf, z, d, h1, h2, h3, _, _, _, _, _, h8, ⟨h9, _⟩, _⟩ := ht.info
  unfold loadVar
  simp only [Sem.run_bind, run_isAgg h2, Result.andThen_ok, Sem.run_ite]
  rw [h8]
  by_cases ha : i.agg = true
  · simp only [ha, if_true, run_sizeOf h1, Result.andThen_ok, h3, ← hl]
    rw [run_loadCells_list w a us (fun j v hj => by rw [addr_add hs]; exact hc j v hj)]
    rfl
  · have hf : i.agg = false := by simpa using ha
    have h1' := h9 hf
    cases us with
    | nil => simp at hl; omega
    | cons u r =>
      have := hc 0 u rfl
      simp only [Nat.add_zero] at this
      have hcell : w.cell? a = some u := by
        rw [← this]; cases a; simp_all
      simp [hf, run_load, hcell]

/-- Loaded cells are what the symbolic cells say. -/
theorem loadCs_sound {t : TypeId} {i : TyI} (ht : TyOk P t i) {cs : List SV} {off : Nat} {rs : List Nat} {v : SV} {u : List (Nat × Option SO)} {rs' : List Nat}
    (h : (loadCs i cs off).run objs rs = some ((v, u), rs')) {us : List Value} (hr : RepL β ro cs us) {b o : Nat}
    (hc : ∀ (j : Nat) (x : Value), us[j]? = some x → w.cell? ⟨b, o + j, none⟩ = some x) :
    u = [] ∧ ∃ x, (loadVar t ⟨b, o + off, none⟩).run P w = .ok x w ∧ RepS β ro v x := by
  unfold loadCs at h
  simp only at h
  have hr' : RepL β ro (takeN cs off i.size) ((us.drop off).take i.size) := (hr.drop off).take i.size
  cases hb : Nat.beq (takeN cs off i.size).length i.size with
  | false => simp [hb, OT.run] at h
  | true =>
    simp only [hb] at h
    have hlen := Nat.eq_of_beq_eq_true hb
    have hl : ((us.drop off).take i.size).length = i.size := by rw [hr'.1, hlen]
    have hload := run_loadVar (P := P) (w := w) ht (a := ⟨b, o + off, none⟩) rfl ((us.drop off).take i.size) hl (fun j x hj => by
      rw [List.getElem?_take] at hj
      split at hj
      · rw [List.getElem?_drop] at hj
        have := hc (off + j) x hj
        simpa [Nat.add_assoc] using this
      · cases hj)
    cases ha : i.agg with
    | true =>
      simp only [aggOr, ha, ret, OT.run] at h
      cases h
      refine ⟨rfl, _, hload, ?_⟩
      simp only [ha, if_true]
      exact .agg hr'.1 hr'.2
    | false =>
      simp only [aggOr, ha] at h
      cases hk : takeN cs off i.size with
      | nil => simp [hk, OT.run] at h
      | cons c r =>
        cases r with
        | cons d r => simp [hk, OT.run] at h
        | nil =>
          simp only [hk, ret, OT.run] at h
          cases h
          rw [hk] at hr'
          obtain ⟨y, ys, h1, h2, h3⟩ := hr'.of_cons
          refine ⟨rfl, _, hload, ?_⟩
          simp only [ha, h1]
          exact h2

/-- The values of a row's element. -/
theorem row_elem (hs : HSat w0 β ro D objs w) {id et : Nat} {e : EN} {xs : List (T e)} {h : Hd} (ho : objs id = some (.row et e xs)) (hb : β id = some h) {g : Nat} (hg : h.blk = some g)
    {idx : Nat} (hi : idx < h.len) : ∃ (x : T e) (us : List Value), xs[idx]? = some x ∧ rd xs idx = x ∧ RepC ro (cells e x) us ∧
      ∀ (j : Nat) (u : Value), us[j]? = some u → w.cell? ⟨g, idx * h.esz + j, none⟩ = some u := by
  obtain ⟨h', hb', h1, h2, h3⟩ := hs.obj id _ ho
  rw [hb] at hb'; cases hb'
  simp only [hg] at h3
  obtain ⟨cur, k1, k2, k3, k4, k5⟩ := h3
  have hx : xs[idx]? = some xs[idx] := by rw [List.getElem?_eq_getElem]
  have hlt : idx < xs.length := by omega
  refine ⟨xs[idx], (List.range (sz e)).map (fun j => (cur[idx * sz e + j]?).getD default), by simp [hlt], by simp [rd, hlt], ⟨by simp [cells_length], fun j l v hl hv => ?_⟩, fun j u hu => ?_⟩
  · obtain ⟨u, hu, hr⟩ := k5 idx xs[idx] j l (by simp [hlt]) hl
    simp only [List.getElem?_map] at hv
    have hj : j < sz e := by rw [← cells_length e xs[idx]]; exact (List.getElem?_eq_some_iff.1 hl).1
    simp [hj, hu] at hv
    rw [← hv]; exact hr
  · simp only [List.getElem?_map] at hu
    by_cases hj : j < sz e
    · simp [hj] at hu
      have hl : j < (cells e xs[idx]).length := by rw [cells_length]; exact hj
      obtain ⟨y, hy, _⟩ := k5 idx xs[idx] j _ (by simp [hlt]) (List.getElem?_eq_getElem hl)
      rw [hy] at hu
      simp at hu
      rw [cell_of_row w g _ cur et (0, 0) k1, h1, hy, hu]
    · simp [hj] at hu

theorem loadT_sound (hs : HSat w0 β ro D objs w) {t : TypeId} {i : TyI} (ht : TyOk P t i) {p : SV} {pv : Value} (hp : RepS β ro p pv) {rs rs' : List Nat} {v : SV} {u : List (Nat × Option SO)}
    (h : (loadT i p).run objs rs = some ((v, u), rs')) : u = [] ∧ ∃ x, (Instr.loadAt t pv).run P w = .ok x w ∧ RepS β ro v x := by
  have sure : ∀ a, (Instr.loadAt t (.pointer (some a))).run P w = (loadVar t a).run P w := by
    intro a; simp [Instr.loadAt, Instr.sureAddr]
  unfold loadT at h
  cases hp with
  | bptr hb hg =>
    rename_i id off hd g
    simp only [OT.run] at h
    cases ho : objs id with
    | none => simp [ho, OT.run] at h
    | some o =>
      cases o with
      | row et e xs => simp [ho, OT.run] at h
      | blk cs =>
        simp only [ho] at h
        obtain ⟨h', hb', g', cur, et, k1, k2, k3⟩ := hs.obj id _ ho
        rw [hb] at hb'; cases hb'
        rw [hg] at k1; cases k1
        rw [sure]
        have := loadCs_sound (w := w) (b := g) (o := 0) ht h k3 (fun j x hj => by
          rw [Nat.zero_add, cell_of_row w g j cur et (0, 0) k2]
          simpa using hj)
        simpa using this
  | rptr us hc hr hsp =>
    rename_i ls a
    simp only at h
    rw [sure]
    have hRC : RepC ro ls ((List.range ls.length).map us) := by
      refine ⟨by simp, fun j l v hl hv => ?_⟩
      have hj : j < ls.length := (List.getElem?_eq_some_iff.1 hl).1
      simp [hj] at hv
      rw [← hv]; exact hr j l hl
    have := loadCs_sound (β := β) (w := w) (b := a.block) (o := a.off) ht h hRC.toL (fun j x hj => by
      have hj' : j < ls.length := by
        have := (List.getElem?_eq_some_iff.1 hj).1
        simpa using this
      simp [hj'] at hj
      rw [← hj]
      exact Snap.cell_le hs.snap (hc j _ (List.getElem?_eq_getElem hj')))
    have ha : (⟨a.block, a.off + 0, none⟩ : Addr) = a := by cases a; simp_all
    rw [ha] at this
    exact this
  | optr hb hg hi =>
    rename_i id idx off hd g
    simp only [OT.run] at h
    cases ho : objs id with
    | none => simp [ho, OT.run] at h
    | some o =>
      cases o with
      | blk cs => simp [ho, OT.run] at h
      | row et e xs =>
        simp only [ho] at h
        obtain ⟨x, us, h1, h2, h3, h4⟩ := row_elem hs ho hb hg hi
        rw [sure]
        rw [h2] at h
        exact loadCs_sound (w := w) (b := g) (o := idx * hd.esz) ht h h3.toL h4
  | leaf h' => simp [OT.run] at h
  | lit h' => simp [OT.run] at h
  | own hb => simp [OT.run] at h
  | win hb _ _ _ _ _ => simp [OT.run] at h
  | fn _ _ _ _ => simp [OT.run] at h
  | iface _ => simp [OT.run] at h
  | agg _ _ => simp [OT.run] at h
  | tup _ _ => simp [OT.run] at h
  | nn _ => simp [OT.run] at h
  | any v => simp [OT.run] at h

/- ---------------------------------------------------------------- new variables -/

theorem run_box (t : TypeId) (x : Value) : (Instr.box t x).run P w = .ok (.pointer (some ⟨w.heap.size, 0, none⟩)) (w.alloc (.cells x.cells t)) := by
  simp [Instr.box, newVar, newRow]

theorem blk_goes (hs : HSat w0 β ro D objs w) {n : Nat} (hn : ¬ D n) {cs : List SV} {us : Array Value} (hr : RepL β ro cs us.toList) (t : TypeId) {D' : Nat → Prop} (hD : ∀ id, D id → D' id) (hDn : D' n) :
    Goes w0 β ro D' (putAll objs [(n, some (.blk cs))]) (.bptr n 0) (.ok (.pointer (some ⟨w.heap.size, 0, none⟩)) (w.alloc (.cells us t))) := by
  have hext := Pl.ext_add (h := (⟨some w.heap.size, 0, 0, 0⟩ : Hd)) (hs.none_of_D hn)
  refine ⟨_, _, β.add n ⟨some w.heap.size, 0, 0, 0⟩, ro, rfl, .bptr (Pl.add_same _ _ _) rfl, hext, ro.ext_refl, ?_⟩
  refine hs.fresh hn ⟨some w.heap.size, 0, 0, 0⟩ _ (base_alloc w _) (fun k hk => heap_alloc_old w _ k hk) (fun g hg => ?_) ?_ hD hDn
  · cases hg; exact ⟨Nat.le_refl _, by simp⟩
  · exact ⟨w.heap.size, us, t, rfl, heap_alloc_new w _, hr.mono hext ro.ext_refl⟩

theorem lits_rep {vs : List Value} (h : ∀ v ∈ vs, litOk v = true) : RepL β ro (vs.map .lit) vs := by
  refine ⟨by simp, fun i c u hc hu => ?_⟩
  rw [List.getElem?_map, hu] at hc
  cases hc
  exact .lit (.inl (h u (List.mem_of_getElem? hu)))

theorem alloc_goes (hs : HSat w0 β ro D objs w) {n : Nat} (hn : ¬ D n) {t : TypeId} {i : TyI} (ht : TyOk P t i) {D' : Nat → Prop} (hD : ∀ id, D id → D' id) (hDn : D' n) :
    Goes w0 β ro D' (putAll objs [(n, some (.blk i.zero))]) (.bptr n 0) ((Instr.alloc t true (.tuple #[])).run P w) := by
  obtain ⟨inf, z, d, h1, h2, h3, h4, h5, h6, h7, _⟩ := ht.info
  have hr : (Instr.alloc t true (.tuple #[])).run P w = .ok (.pointer (some ⟨w.heap.size, 0, none⟩)) (w.alloc (.cells z.cells t)) := by
    simp [Instr.alloc, run_zero h1 h4, newVar, newRow]
  rw [hr, ← h6]
  exact blk_goes hs hn (lits_rep h7) t hD hDn

theorem box_goes (hs : HSat w0 β ro D objs w) {n : Nat} (hn : ¬ D n) {t : TypeId} {x : SV} {xv : Value} (hx : RepS β ro x xv) (hne : x ≠ .any) {D' : Nat → Prop} (hD : ∀ id, D id → D' id) (hDn : D' n) :
    Goes w0 β ro D' (putAll objs [(n, some (.blk x.cells))]) (.bptr n 0) ((Instr.box t xv).run P w) := by
  rw [run_box]
  exact blk_goes hs hn (cells_rep hx hne).1 t hD hDn

end Go.Cat

namespace Go.Cat
open Go

variable {P : Program} {w0 : Pt} {β : Pl} {ro : Snap} {D : Nat → Prop} {objs : Heap} {w : World}

theorem layN_length {α : Type} : ∀ (xs l : List α) (off : Nat), (layN l off xs).length = l.length
  | [], _, _ => rfl
  | x :: xs, l, off => by simp only [layN]; rw [layN_length xs]; simp

theorem layN_eq {α : Type} : ∀ (xs l : List α) (off : Nat), off + xs.length ≤ l.length → layN l off xs = l.take off ++ xs ++ l.drop (off + xs.length)
  | [], l, off, _ => by simp [layN]
  | x :: xs, l, off, h => by
    simp only [layN]
    simp only [List.length_cons] at h
    rw [layN_eq xs (l.set off x) (off + 1) (by simp; omega)]
    apply List.ext_getElem?
    intro j
    simp only [List.getElem?_append, List.length_append, List.length_take, List.length_set, List.getElem?_take, List.getElem?_drop, List.getElem?_set, List.length_cons]
    by_cases h1 : j < off
    · have e1 : min off l.length = off := by omega
      have e2 : min (off + 1) l.length = off + 1 := by omega
      simp [h1, e1, e2, show j < off + 1 by omega, show ¬ off = j by omega, show j < off + 1 + xs.length by omega, show j < off + (xs.length + 1) by omega]
    · have e1 : min off l.length = off := by omega
      have e2 : min (off + 1) l.length = off + 1 := by omega
      by_cases h2 : j = off
      · subst h2
        simp [e1, e2, show j < j + 1 + xs.length by omega, show j < j + (xs.length + 1) by omega, show j < l.length by omega]
      · by_cases h3 : j < off + 1 + xs.length
        · simp [e1, e2, h1, h3, show ¬ j < off + 1 by omega, show j < off + (xs.length + 1) by omega]
          rw [show j - off = (j - (off + 1)) + 1 by omega]
          simp
        · simp only [e1, e2, h3, show ¬ j < off + (xs.length + 1) by omega, if_false]
          rw [show off + 1 + xs.length + (j - (off + 1 + xs.length)) = j by omega, show off + (xs.length + 1) + (j - (off + (xs.length + 1))) = j by omega]
          simp [show ¬ off = j by omega]

theorem layN_get {α : Type} (xs l : List α) (off j : Nat) (h : off + xs.length ≤ l.length) :
    (layN l off xs)[j]? = if off ≤ j ∧ j < off + xs.length then xs[j - off]? else l[j]? := by
  rw [layN_eq xs l off h]
  simp only [List.getElem?_append, List.length_append, List.length_take, List.getElem?_take, List.getElem?_drop]
  have e1 : min off l.length = off := by omega
  rw [e1]
  by_cases h1 : j < off
  · simp [h1, show j < off + xs.length by omega, show ¬ off ≤ j by omega]
  · by_cases h2 : j < off + xs.length
    · simp [h1, h2, show off ≤ j by omega]
    · simp only [h1, h2, if_false, and_false]
      rw [show off + xs.length + (j - (off + xs.length)) = j by omega]

theorem cellSV_one {c : SV} (h : cellSV c = true) {u : Value} (hr : RepS β ro c u) : u.oneCell' = true := by
  cases hr with
  | leaf h' => exact h'.oneCell
  | lit h' => cases u <;> simp_all [cellSV, Value.oneCell']
  | own hb => unfold Hd.val; split <;> rfl
  | win _ _ _ _ _ _ => rfl
  | rptr _ _ _ _ => rfl
  | optr _ _ _ => rfl
  | bptr _ _ => rfl
  | fn _ _ _ _ => rfl
  | iface _ => rfl
  | agg _ _ => simp [cellSV] at h
  | tup _ _ => simp [cellSV] at h
  | nn _ => rfl
  | any v => simp [cellSV] at h

theorem cells_one {cs : List SV} {us : List Value} (h : cs.all cellSV = true) (hr : RepL β ro cs us) : ∀ u ∈ us, u.oneCell' = true := by
  intro u hu
  obtain ⟨i, hi, rfl⟩ := List.getElem_of_mem hu
  have hi' : i < cs.length := by rw [← hr.1]; exact hi
  exact cellSV_one (List.all_eq_true.1 h _ (List.getElem_mem hi')) (hr.2 i cs[i] _ (List.getElem?_eq_getElem hi') (List.getElem?_eq_getElem hi))

theorem run_storeVar {t : TypeId} {i : TyI} (ht : TyOk P t i) {x : Value} (hx : x.cells.size = i.size) (h1 : ∀ u ∈ x.cells.toList, u.oneCell' = true) {g o : Nat} {cur : Array Value} {et : TypeId}
    (hg : w.heap[g]? = some (.cells cur et (0, 0))) (hfit : o + i.size ≤ cur.size) :
    (Instr.storeAt t (.pointer (some ⟨g, o, none⟩)) x).run P w = .ok () (w.setRow g (cur.toList.take o ++ x.cells.toList ++ cur.toList.drop (o + i.size)).toArray) := by
  obtain ⟨inf, z, d, k1, k2, k3, _⟩ := ht.info
  have hs := run_storeCells_at P g o et x.cells.toList 0 cur w hg (by simpa [hx] using hfit) h1
  simp only [Nat.add_zero, Array.length_toList, hx] at hs
  simp [Instr.storeAt, Instr.sureAddr, storeVar, run_sizeOf k1, k3, hx, hs]

/-- The value that a store leaves in its slot. -/
theorem undef_rep : RepS β ro (.lit (.tuple #[])) undef := .lit (.inr rfl)

theorem storeT_sound (hs : HSat w0 β ro D objs w) {t : TypeId} {i : TyI} (ht : TyOk P t i) {p v : SV} {pv xv : Value} (hp : RepS β ro p pv) (hv : RepS β ro v xv) {rs rs' : List Nat} {a : SV} {u : List (Nat × Option SO)}
    (h : (storeT i p v).run objs rs = some ((a, u), rs')) {D' : Nat → Prop} (hD : ∀ id, D id → D' id) :
    a = .lit (.tuple #[]) ∧ ∃ w' ro', (Instr.storeAt t pv xv).run P w = .ok () w' ∧ ro.ext ro' ∧ HSat w0 β ro' D' (putAll objs u) w' := by
  unfold storeT at h
  cases hc : Nat.beq v.cells.length i.size && v.cells.all cellSV with
  | false => simp [hc, OT.run] at h
  | true =>
    simp only [hc] at h
    simp only [Bool.and_eq_true] at hc
    have hlen := Nat.eq_of_beq_eq_true hc.1
    have hne : v ≠ .any := by rintro rfl; simp [SV.cells, cellSV] at hc
    have hL := (cells_rep hv hne).1
    have hsz : xv.cells.size = i.size := by rw [← hlen, ← hL.1]; simp
    have hone := cells_one hc.2 hL
    cases hp with
    | bptr hb hg =>
      rename_i id off hd g
      simp only [OT.run] at h
      cases ho : objs id with
      | none => simp [ho, OT.run] at h
      | some o =>
        cases o with
        | row et e xs => simp [ho, OT.run] at h
        | blk cs =>
          simp only [ho] at h
          cases hle : Nat.ble (off + i.size) cs.length with
          | false => simp [hle, OT.run] at h
          | true =>
            simp only [hle, OT.run] at h
            cases h
            have hfit := Nat.le_of_ble_eq_true hle
            obtain ⟨h', hb', g', cur, et, k1, k2, k3⟩ := hs.obj id _ ho
            rw [hb] at hb'; cases hb'
            rw [hg] at k1; cases k1
            have hcs : cur.size = cs.length := by rw [← k3.1]; simp
            refine ⟨rfl, _, ro, run_storeVar ht hsz hone k2 (by omega), ro.ext_refl, ?_⟩
            refine hs.turn ho hb hg (base_setRow w _ _) (fun k _ hk => setRow_other w g k _ hk) ?_ hD
            refine ⟨g, _, et, hg, setRow_heap w g cur _ et _ k2, ?_⟩
            rw [layN_eq v.cells cs off (by omega), hlen]
            exact ((k3.take off).append hL).append (k3.drop (off + i.size))
    | optr hb hg hi =>
      rename_i id idx off hd g
      simp only [OT.run] at h
      cases ho : objs id with
      | none => simp [ho, OT.run] at h
      | some o =>
        cases o with
        | blk cs => simp [ho, OT.run] at h
        | row et e xs =>
          simp only [ho] at h
          obtain ⟨ls, is, rs1, h1, h2⟩ := toLeaves_run h
          obtain ⟨a1, a2⟩ := leavesOf_rep hs h1 hL
          cases han : is.any (Nat.beq id) || !Nat.ble (off + i.size) (sz e) with
          | true => simp [han, OT.run] at h2
          | false =>
            simp only [han] at h2
            simp only [Bool.or_eq_false_iff, Bool.not_eq_false'] at han
            have hid : id ∉ is := by
              intro hm
              have := List.any_eq_false.1 han.1 id hm
              simp at this
            have hle0 := Nat.le_of_ble_eq_true han.2
            cases hof : ofCells e (layN (cells e (rd xs idx)) off ls) with
            | none => simp [hof, onSome, OT.run] at h2
            | some y =>
              simp only [hof, onSome, OT.run] at h2
              cases h2
              have hfz := hs.freeze is a1
              have hx := Snap.ext_plus hs.snap β is
              obtain ⟨h', hb', k1, k2, k3⟩ := hs.obj id _ ho
              rw [hb] at hb'; cases hb'
              simp only [hg] at k3
              obtain ⟨cur, m1, m2, m3, m4, m5⟩ := k3
              have hlx : idx < xs.length := by omega
              have hrd : rd xs idx = xs[idx] := by simp [rd, hlx]
              have hRC := a2 is (fun _ h => h)
              have hll : ls.length = i.size := by rw [← hRC.1]; simpa using hsz
              have hle : off + ls.length ≤ sz e := by omega
              rw [putAll_append]
              have hoid : putAll objs (freezeAll is) id = some (.row et e xs) := by rw [putAll_freeze, if_neg hid]; exact ho
              have hcl := ofCells_cells _ _ _ hof
              have hcx : (cells e (rd xs idx)).length = sz e := cells_length _ _
              have hbound : (idx + 1) * sz e ≤ cur.size := by rw [m4]; exact Nat.mul_le_mul_right _ (by omega)
              have hfit : idx * hd.esz + off + i.size ≤ cur.size := by
                rw [k1, Nat.add_mul, Nat.one_mul] at *
                omega
              refine ⟨rfl, _, _, run_storeVar ht hsz hone m1 hfit, hx, ?_⟩
              refine hfz.turn hoid hb hg (base_setRow w _ _) (fun k _ hk => setRow_other w g k _ hk) ?_ hD
              refine ⟨k1, by simpa using k2, ?_⟩
              simp only [hg]
              refine ⟨_, setRow_heap w g cur _ et _ m1, m2, m3, ?_, ?_⟩
              · simp only [List.size_toArray, List.length_append, List.length_take, List.length_drop, Array.length_toList, hsz]
                omega
              · intro n x j l hn hj
                have hj' : j < sz e := by rw [← cells_length e x]; exact (List.getElem?_eq_some_iff.1 hj).1
                have hnx : n < xs.length := by
                  have := (List.getElem?_eq_some_iff.1 hn).1
                  simpa using this
                have hnb : (n + 1) * sz e ≤ cur.size := by rw [m4]; exact Nat.mul_le_mul_right _ (by omega)
                rw [Nat.add_mul, Nat.one_mul] at hnb
                have key : (cur.toList.take (idx * hd.esz + off) ++ xv.cells.toList ++ cur.toList.drop (idx * hd.esz + off + i.size)).toArray[n * sz e + j]? =
                    if idx * sz e + off ≤ n * sz e + j ∧ n * sz e + j < idx * sz e + off + i.size then xv.cells[n * sz e + j - (idx * sz e + off)]? else cur[n * sz e + j]? := by
                  rw [k1] at hfit ⊢
                  have := layN_get xv.cells.toList cur.toList (idx * sz e + off) (n * sz e + j) (by simpa [hsz] using hfit)
                  rw [layN_eq _ _ _ (by simpa [hsz] using hfit)] at this
                  simp only [Array.length_toList, hsz] at this
                  simpa using this
                rw [key]
                by_cases hni : n = idx
                · subst hni
                  rw [List.getElem?_set_self hnx] at hn
                  cases hn
                  rw [hcl, layN_get ls _ off j (by omega), hll] at hj
                  by_cases hin : off ≤ j ∧ j < off + i.size
                  · rw [if_pos hin] at hj
                    rw [if_pos (by omega), show n * sz e + j - (n * sz e + off) = j - off by omega]
                    have hlt : j - off < xv.cells.size := by omega
                    refine ⟨xv.cells[j - off], by simp [hlt], hRC.2 (j - off) l _ hj (by simp [hlt])⟩
                  · rw [if_neg hin] at hj
                    rw [if_neg (by omega)]
                    rw [hrd] at hj
                    obtain ⟨u, hu, hr⟩ := m5 n xs[n] j l (by simp [hnx]) hj
                    exact ⟨u, hu, hr.mono hx⟩
                · rw [List.getElem?_set_ne (Ne.symm hni)] at hn
                  have hout : ¬ (idx * sz e + off ≤ n * sz e + j ∧ n * sz e + j < idx * sz e + off + i.size) := by
                    rcases Nat.lt_or_gt_of_ne hni with hlt | hgt
                    · have : (n + 1) * sz e ≤ idx * sz e := Nat.mul_le_mul_right _ hlt
                      rw [Nat.add_mul, Nat.one_mul] at this
                      omega
                    · have : (idx + 1) * sz e ≤ n * sz e := Nat.mul_le_mul_right _ hgt
                      rw [Nat.add_mul, Nat.one_mul] at this
                      omega
                  rw [if_neg hout]
                  obtain ⟨u, hu, hr⟩ := m5 n x j l hn hj
                  exact ⟨u, hu, hr.mono hx⟩
    | leaf h' => simp [OT.run] at h
    | lit h' => simp [OT.run] at h
    | own hb => simp [OT.run] at h
    | win hb _ _ _ _ _ => simp [OT.run] at h
    | rptr _ _ _ _ => simp [OT.run] at h
    | fn _ _ _ _ => simp [OT.run] at h
    | iface _ => simp [OT.run] at h
    | agg _ _ => simp [OT.run] at h
    | tup _ _ => simp [OT.run] at h
    | nn _ => simp [OT.run] at h
    | any v => simp [OT.run] at h

end Go.Cat

namespace Go.Cat
open Go

variable {P : Program} {E : Env} {w0 : Pt} {β : Pl} {ro : Snap} {D : Nat → Prop} {objs : Heap} {w : World}

/-- An operation that turns nothing. -/
def Tells (P : Program) (β : Pl) (ro : Snap) (v : SV) (u : List (Nat × Option SO)) (s : Sem Value) (w : World) : Prop :=
  u = [] ∧ ∃ x, s.run P w = .ok x w ∧ RepS β ro v x

theorem fieldAddrT_sound (hE : TysOk P E) {t f : Nat} {p : SV} {pv : Value} (hp : RepS β ro p pv) {rs rs' : List Nat} {v : SV} {u : List (Nat × Option SO)}
    (h : (fieldAddrT E t p f).run objs rs = some ((v, u), rs')) : Tells P β ro v u (Instr.fieldAt t pv f) w := by
  unfold fieldAddrT at h
  split at h
  · rename_i i fs _ _ _ _ hl
    obtain ⟨inf, z, d, h1, h2, _, _, _, _, _, _, _, _, ⟨fields, rfl, hf, hsz, _⟩, _⟩ := (hE.look hl).info
    split at h
    · rename_i off ft hoff
      rw [← hf, List.getElem?_map] at hoff
      cases hq : fields.toList[f]? with
      | none => simp [hq] at hoff
      | some fl =>
        simp [hq] at hoff
        obtain ⟨rfl, rfl⟩ := hoff
        obtain ⟨fi, hfi, hn0⟩ := hsz fl (List.mem_of_getElem? hq)
        have hq' : fields[f]? = some fl := by simpa using hq
        have run : ∀ a : Addr, (Instr.fieldAt t (.pointer (some a)) f).run P w = .ok (.pointer (some (a.add fl.offset))) w := by
          intro a
          simp [Instr.fieldAt, run_und h2, hq', Instr.sureAddr, fieldPlace, run_sizeOf hfi, hn0]
        split at h
        · simp only [ret, OT.run] at h; cases h
          cases hp with
          | bptr hb hg => rw [Tells, run, addr_add rfl]; exact ⟨rfl, _, rfl, .bptr hb hg⟩
        · simp only [ret, OT.run] at h; cases h
          cases hp with
          | rptr us hc hr hsp =>
            rw [Tells, run, addr_add hsp]
            refine ⟨rfl, _, rfl, .rptr (fun j => us (fl.offset + j)) (fun j l hj => ?_) (fun j l hj => hr _ _ (by simpa using hj)) rfl⟩
            have := hc (fl.offset + j) l (by simpa using hj)
            simpa [Nat.add_assoc] using this
        · simp only [ret, OT.run] at h; cases h
          cases hp with
          | optr hb hg hi => rw [Tells, run, addr_add rfl]; exact ⟨rfl, _, rfl, by simpa [Nat.add_assoc] using RepS.optr (off := _ + fl.offset) hb hg hi⟩
        · simp [OT.run] at h
    · simp [OT.run] at h
  · simp [OT.run] at h

theorem run_part {t : TypeId} {i : TyI} (ht : TyOk P t i) {us : List Value} {off : Nat} (hfit : off + i.size ≤ us.length) :
    (part t us.toArray off).run P w = .ok (if i.agg = true then .agg ((us.drop off).take i.size).toArray else ((us.drop off).take i.size).headD undef) w := by
  obtain ⟨inf, z, d, h1, h2, h3, _, _, _, _, _, h8, ⟨h9, h9'⟩, _⟩ := ht.info
  unfold part
  simp only [Sem.run_bind, run_isAgg h2, Result.andThen_ok, Sem.run_ite, h8]
  by_cases ha : i.agg = true
  · simp only [ha, if_true, run_sizeOf h1, Result.andThen_ok, h3, Sem.run_pure]
    congr 2
    apply Array.ext'
    simp
  · have hf : i.agg = false := by simpa using ha
    have h1' := h9 hf
    have hlt : off < us.length := by omega
    simp [hf, hlt, h1', List.head?_take, List.head?_drop]

theorem loadCs_part {t : TypeId} {i : TyI} (ht : TyOk P t i) {cs : List SV} {off : Nat} {rs rs' : List Nat} {v : SV} {u : List (Nat × Option SO)}
    (h : (loadCs i cs off).run objs rs = some ((v, u), rs')) {us : List Value} (hr : RepL β ro cs us) : Tells P β ro v u (part t us.toArray off) w := by
  unfold loadCs at h
  simp only at h
  have hr' : RepL β ro (takeN cs off i.size) ((us.drop off).take i.size) := (hr.drop off).take i.size
  cases hb : Nat.beq (takeN cs off i.size).length i.size with
  | false => simp [hb, OT.run] at h
  | true =>
    simp only [hb] at h
    have hlen := Nat.eq_of_beq_eq_true hb
    obtain ⟨inf, z, d, h1, h2, h3, _, _, _, _, _, h8, ⟨h9, h9'⟩, _⟩ := ht.info
    cases ha : i.agg with
    | true =>
      simp only [aggOr, ha, ret, OT.run] at h
      cases h
      have hfit : off + i.size ≤ us.length := by
        rw [hr.1]
        simp only [takeN, List.length_take, List.length_drop] at hlen
        omega
      rw [Tells, run_part ht hfit, if_pos ha]
      exact ⟨rfl, _, rfl, .agg hr'.1 hr'.2⟩
    | false =>
      have h0 := h9 ha
      have hfit : off + i.size ≤ us.length := by
        rw [hr.1]
        simp only [takeN, List.length_take, List.length_drop] at hlen
        omega
      rw [Tells, run_part ht hfit]
      simp only [aggOr, ha] at h
      cases hk : takeN cs off i.size with
      | nil => simp [hk, OT.run] at h
      | cons c r =>
        cases r with
        | cons d r => simp [hk, OT.run] at h
        | nil =>
          simp only [hk, ret, OT.run] at h
          cases h
          rw [hk] at hr'
          obtain ⟨y, ys, k1, k2, k3⟩ := hr'.of_cons
          rw [if_neg (by simp [ha]), k1]
          exact ⟨rfl, _, rfl, k2⟩

theorem fieldT_sound (hE : TysOk P E) {t f : Nat} {x : SV} {xv : Value} (hx : RepS β ro x xv) {rs rs' : List Nat} {v : SV} {u : List (Nat × Option SO)}
    (h : (fieldT E t x f).run objs rs = some ((v, u), rs')) : Tells P β ro v u (Instr.field t xv f) w := by
  unfold fieldT at h
  split at h
  · rename_i i fs _ _ _ _ hl
    obtain ⟨inf, z, d, h1, h2, _, _, _, _, _, _, _, _, ⟨fields, rfl, hf, hsz, _⟩, _⟩ := (hE.look hl).info
    split at h
    · rename_i off ft hoff
      rw [← hf, List.getElem?_map] at hoff
      cases hq : fields.toList[f]? with
      | none => simp [hq] at hoff
      | some fl =>
        simp [hq] at hoff
        obtain ⟨rfl, rfl⟩ := hoff
        have hq' : fields[f]? = some fl := by simpa using hq
        split at h
        · rename_i ti cs hl'
          cases hx with
          | agg hx1 hx2 =>
            rename_i us
            obtain ⟨a1, y, a2, a3⟩ := loadCs_part (P := P) (w := w) (hE.look hl') h ⟨hx1, hx2⟩
            exact ⟨a1, y, by simp [Instr.field, run_und h2, hq', asAgg, a2], a3⟩
        · simp [OT.run] at h
    · simp [OT.run] at h
  · simp [OT.run] at h

theorem elemIs_spec (hE : TysOk P E) {t : Nat} {e : EN} (h : elemIs E t e = true) : ∃ el inf, P.underlying t = some (.slice el) ∧ P.info? el = some inf ∧ inf.size = sz e := by
  unfold elemIs at h
  split at h
  · rename_i i el _ _ _ _ hl
    obtain ⟨inf, z, d, h1, h2, _, _, _, _, _, _, _, _, rfl, _⟩ := (hE.look hl).info
    split at h
    · rename_i s hs
      obtain ⟨j, hj, rfl⟩ := sizeT_look hs
      obtain ⟨inf', z', d', k1, k2, k3, _⟩ := (hE.look hj).info
      exact ⟨el, inf', h2, k1, k3.trans (Nat.eq_of_beq_eq_true h)⟩
    · cases h
  · cases h

theorem run_indexAt_sl {t el : TypeId} {inf : TypeInfo} (ht : P.underlying t = some (.slice el)) (hi : P.info? el = some inf) {k : IntKind} {n : Int} {a : Addr} {len cap : Nat} (h0 : 0 ≤ n) (h1 : n < len) :
    (Instr.indexAt t (.slice (some a) len cap) (.int k n)).run P w = .ok (.pointer (some (a.add (n.toNat * inf.size)))) w := by
  simp [Instr.indexAt, asIntOf, run_und ht, h0, h1, run_sizeOf hi]

theorem run_indexAt_arr {t el : TypeId} {len : Nat} {inf : TypeInfo} (ht : P.underlying t = some (.array len el)) (hi : P.info? el = some inf) {k : IntKind} {n : Int} {a : Addr} (h0 : 0 ≤ n) (h1 : n < len) :
    (Instr.indexAt t (.pointer (some a)) (.int k n)).run P w = .ok (.pointer (some (a.add (n.toNat * inf.size)))) w := by
  simp [Instr.indexAt, asIntOf, run_und ht, h0, h1, run_sizeOf hi, Instr.sureAddr]

theorem indexAddrT_sound (hE : TysOk P E) (hs : HSat w0 β ro D objs w) {t : Nat} {x i : SV} {xv iv : Value} (hx : RepS β ro x xv) (hi : RepS β ro i iv) {rs rs' : List Nat} {v : SV} {u : List (Nat × Option SO)}
    (h : (indexAddrT E t x i).run objs rs = some ((v, u), rs')) : Tells P β ro v u (Instr.indexAt t xv iv) w := by
  unfold indexAddrT at h
  cases hI : asI i with
  | none => simp [hI, OT.run] at h
  | some p =>
    obtain ⟨k, n, l⟩ := p
    obtain ⟨rfl, _⟩ := asI_rep hI hi
    simp only [hI] at h
    split at h
    · rename_i e xs
      cases he : elemIs E t e with
      | false => simp [he, OT.run] at h
      | true =>
        obtain ⟨el, inf, t1, t2, t3⟩ := elemIs_spec hE he
        simp only [he, ret, OT.run] at h
        split at h
        · rename_i hg
          cases h
          obtain ⟨hg1, hg2⟩ := of_decide_eq_true hg
          cases hx with
          | leaf hl =>
            cases hl with
            | nil e => simp at hg2; omega
            | sl e xs a cap us hsp hc hm hcell hrep =>
              rw [Tells, run_indexAt_sl t1 t2 hg1 hg2, addr_add (hsp.resolve_right (by omega))]
              have hlt : n.toNat < xs.length := by omega
              have hrd : rd xs n.toNat = xs[n.toNat] := by simp [rd, hlt]
              rw [hrd]
              refine ⟨rfl, _, rfl, .rptr (us n.toNat) (fun j l hj => ?_) (fun j l hj => hrep _ _ _ _ (List.getElem?_eq_getElem hlt) hj) rfl⟩
              have := hcell n.toNat _ j l (List.getElem?_eq_getElem hlt) hj
              simpa [t3, Nat.add_assoc] using this
        · cases h
    · rename_i id
      simp only [OT.run] at h
      cases ho : objs id with
      | none => simp [ho, OT.run] at h
      | some o =>
        cases o with
        | blk cs => simp [ho, OT.run] at h
        | row et e xs =>
          simp only [ho] at h
          cases he : elemIs E t e with
          | false => simp [he, OT.run] at h
          | true =>
            obtain ⟨el, inf, t1, t2, t3⟩ := elemIs_spec hE he
            simp only [he, ret, OT.run] at h
            split at h
            · rename_i hg
              cases h
              obtain ⟨hg1, hg2⟩ := of_decide_eq_true hg
              cases hx with
              | own hb =>
                rename_i hd
                obtain ⟨h', hb', k1, k2, k3⟩ := hs.obj id _ ho
                rw [hb] at hb'; cases hb'
                cases hblk : hd.blk with
                | none => simp only [hblk] at k3; omega
                | some g =>
                  simp only [Hd.val, hblk]
                  rw [Tells, run_indexAt_sl t1 t2 hg1 (by omega), addr_add rfl]
                  refine ⟨rfl, _, rfl, ?_⟩
                  have := RepS.optr (ro := ro) (off := 0) hb hblk (idx := n.toNat) (by omega)
                  simpa [k1, t3] using this
            · cases h
    · rename_i id lo len
      simp only [OT.run] at h
      cases ho : objs id with
      | none => simp [ho, OT.run] at h
      | some o =>
        cases o with
        | blk cs => simp [ho, OT.run] at h
        | row et e xs =>
          simp only [ho] at h
          cases he : elemIs E t e with
          | false => simp [he, OT.run] at h
          | true =>
            obtain ⟨el, inf, t1, t2, t3⟩ := elemIs_spec hE he
            simp only [he, ret, OT.run] at h
            split at h
            · rename_i hg
              cases h
              obtain ⟨hg1, hg2⟩ := of_decide_eq_true hg
              cases hx with
              | win hb hl hc hm hn hsm =>
                rename_i hd a cap
                obtain ⟨h', hb', k1, k2, k3⟩ := hs.obj id _ ho
                rw [hb] at hb'; cases hb'
                cases hblk : hd.blk with
                | none => simp only [hblk] at k3; omega
                | some g =>
                  obtain ⟨a', rfl, m1, m2, m3⟩ := hsm g hblk
                  have ha := m3.resolve_left (by omega)
                  subst ha
                  rw [Tells, run_indexAt_sl t1 t2 hg1 (by omega), addr_add rfl]
                  refine ⟨rfl, _, rfl, ?_⟩
                  have := RepS.optr (ro := ro) (off := 0) hb hblk (idx := lo + n.toNat) (by omega)
                  simpa [k1, t3, Nat.add_mul] using this
            · cases h
    · rename_i id off
      split at h
      · rename_i len el _ _ _ _ hl
        obtain ⟨inf, z, d, h1, h2, _, _, _, _, _, _, _, _, rfl, _⟩ := (hE.look hl).info
        split at h
        · rename_i s hg hsz
          simp only [ret, OT.run] at h; cases h
          obtain ⟨hg1, hg2⟩ := of_decide_eq_true hg
          obtain ⟨j, hj, rfl⟩ := sizeT_look hsz
          obtain ⟨inf', z', d', q1, q2, q3, _⟩ := (hE.look hj).info
          cases hx with
          | bptr hb hgg =>
            rw [Tells, run_indexAt_arr h2 q1 hg1 hg2, addr_add rfl, q3]
            exact ⟨rfl, _, rfl, .bptr hb hgg⟩
        · simp [OT.run] at h
      · simp [OT.run] at h
    · simp [OT.run] at h

end Go.Cat

namespace Go.Cat
open Go

variable {P : Program} {E : Env} {w0 : Pt} {β : Pl} {ro : Snap} {D : Nat → Prop} {objs : Heap} {w : World}

theorem rng_len {n : Nat} (h : n ≤ maxLen) : rngB .i64 (n : Int) = true := by
  simp only [maxLen] at h
  simp only [rngB, IntKind.min, IntKind.max, IntKind.signed, IntKind.bits, Bool.and_eq_true, decide_eq_true_eq]
  constructor <;> omega

theorem ofConst1_rep (v : Value) : RepS β ro (ofConst1 v) v := by
  unfold ofConst1
  cases h : litOk v with
  | true => exact .lit (.inl h)
  | false => exact .any v

theorem ret_inv {v v' : SV} {u : List (Nat × Option SO)} {rs rs' : List Nat} (h : (ret v).run objs rs = some ((v', u), rs')) : v' = v ∧ u = [] := by
  simp only [ret, OT.run] at h
  cases h
  exact ⟨rfl, rfl⟩

theorem win_len {id lo len : Nat} {v : Value} (hs : RepS β ro (.win id lo len) v) : ∃ a cap, v = .slice a len cap ∧ len ≤ cap ∧ cap ≤ maxLen := by
  cases hs with
  | win hb hl hc hm hn hsm => exact ⟨_, _, rfl, hc, hm⟩

/-- A row that lives: its value is a slice of its length. -/
theorem own_len (hs : HSat w0 β ro D objs w) {id et : Nat} {e : EN} {xs : List (T e)} (ho : objs id = some (.row et e xs)) {v : Value} (hv : RepS β ro (.own id) v) :
    ∃ a cap, v = .slice a xs.length cap ∧ xs.length ≤ cap ∧ cap ≤ maxLen := by
  cases hv with
  | own hb =>
    rename_i hd
    obtain ⟨h', hb', k1, k2, k3⟩ := hs.obj id _ ho
    rw [hb] at hb'; cases hb'
    cases hblk : hd.blk with
    | none =>
      simp only [hblk] at k3
      exact ⟨none, 0, by simp [Hd.val, hblk, k2, k3], by omega, Nat.zero_le _⟩
    | some g =>
      simp only [hblk] at k3
      obtain ⟨cur, m1, m2, m3, _⟩ := k3
      exact ⟨some ⟨g, 0, none⟩, hd.cap, by simp [Hd.val, hblk, k2], by omega, m3⟩

theorem leafSl_len {e : EN} {xs : List (T e)} {v : Value} (hv : RepS β ro (.leaf (.sl e xs)) v) : ∃ a cap, v = .slice a xs.length cap ∧ xs.length ≤ cap ∧ cap ≤ maxLen := by
  cases hv with
  | leaf h =>
    cases h with
    | nil e => exact ⟨none, 0, rfl, Nat.le_refl _, Nat.zero_le _⟩
    | sl e xs a cap us hsp hc hm _ _ => exact ⟨some a, cap, rfl, hc, hm⟩

theorem strOf_length (b : ByteArray) : (strOf b).length = b.size := by simp [strOf]

theorem lenT_sound (hE : TysOk P E) (hs : HSat w0 β ro D objs w) {ts : Array TypeId} {ty : TypeId} {x : SV} {xv : Value} (hx : RepS β ro x xv) {rs rs' : List Nat} {v : SV} {u : List (Nat × Option SO)}
    (h : (lenT E ts.toList x).run objs rs = some ((v, u), rs')) : Tells P β ro v u (Builtin.len_ ts ty #[xv]) w := by
  unfold lenT at h
  split at h
  · rename_i t hts
    have ht0 : ts[0]? = some t := by
      have : ts = #[t] := by cases ts; simp_all
      rw [this]; rfl
    split at h
    · rename_i i el _ _ _ _ hl
      obtain ⟨inf, z, d, h1, h2, _, _, _, _, _, _, _, _, rfl, _⟩ := (hE.look hl).info
      have run : ∀ a n c, (Builtin.len_ ts ty #[.slice a n c]).run P w = .ok (.int .i64 n) w := by
        intro a n c; simp [Builtin.len_, ht0, run_und h2, goInt]
      split at h
      · obtain ⟨rfl, rfl⟩ := ret_inv h
        obtain ⟨a, cap, rfl, hc, hm⟩ := leafSl_len hx
        exact ⟨rfl, _, run _ _ _, .leaf (.int _ _ (rng_len (by omega)))⟩
      · obtain ⟨rfl, rfl⟩ := ret_inv h
        cases hx with
        | lit _ => exact ⟨rfl, _, run _ _ _, .lit (.inl rfl)⟩
      · rename_i id
        simp only [OT.run] at h
        cases ho : objs id with
        | none => simp [ho, OT.run] at h
        | some o =>
          cases o with
          | blk cs => simp [ho, OT.run] at h
          | row et e xs =>
            simp only [ho] at h
            obtain ⟨rfl, rfl⟩ := ret_inv h
            obtain ⟨a, cap, rfl, hc, hm⟩ := own_len hs ho hx
            exact ⟨rfl, _, run _ _ _, .leaf (.int _ _ (rng_len (by omega)))⟩
      · obtain ⟨rfl, rfl⟩ := ret_inv h
        obtain ⟨a, cap, rfl, hc, hm⟩ := win_len hx
        exact ⟨rfl, _, run _ _ _, .leaf (.int _ _ (rng_len (by omega)))⟩
      · simp [OT.run] at h
    · rename_i i _ _ _ _ hl
      obtain ⟨inf, z, d, h1, h2, _, _, _, _, _, _, _, _, rfl, _⟩ := (hE.look hl).info
      have run : ∀ b : ByteArray, (Builtin.len_ ts ty #[.string b]).run P w = .ok (.int .i64 b.size) w := by
        intro b; simp [Builtin.len_, ht0, run_und h2, goInt]
      split at h
      · obtain ⟨rfl, rfl⟩ := ret_inv h
        cases hx with
        | leaf h' =>
          cases h' with
          | str b hb =>
            rw [strOf_length]
            exact ⟨rfl, _, run _, .leaf (.int _ _ (rng_len hb))⟩
      · obtain ⟨rfl, rfl⟩ := ret_inv h
        cases hx with
        | lit _ => exact ⟨rfl, _, run _, ofConst1_rep _⟩
      · simp [OT.run] at h
    · rename_i i n el _ _ _ _ hl
      obtain ⟨inf, z, d, h1, h2, _, _, _, _, _, _, _, _, rfl, _⟩ := (hE.look hl).info
      obtain ⟨rfl, rfl⟩ := ret_inv h
      exact ⟨rfl, _, by simp [Builtin.len_, ht0, run_und h2, goInt], ofConst1_rep _⟩
    · simp [OT.run] at h
  · simp [OT.run] at h

theorem rng_u8 (b : UInt8) : rngB .u8 (b.toNat : Int) = true := by
  have := b.toNat_lt
  simp only [rngB, IntKind.min, IntKind.max, IntKind.signed, IntKind.bits, Bool.and_eq_true, decide_eq_true_eq]
  constructor
  · simp
  · simp; omega

theorem indexT_sound (hE : TysOk P E) {t : Nat} {x i : SV} {xv iv : Value} (hx : RepS β ro x xv) (hi : RepS β ro i iv) {rs rs' : List Nat} {v : SV} {u : List (Nat × Option SO)}
    (h : (indexT E t x i).run objs rs = some ((v, u), rs')) : Tells P β ro v u (Instr.index t xv iv) w := by
  unfold indexT at h
  cases hI : asI i with
  | none => simp [hI, OT.run] at h
  | some p =>
    obtain ⟨k, n, l⟩ := p
    obtain ⟨rfl, _⟩ := asI_rep hI hi
    simp only [hI] at h
    split at h
    · rename_i j _ _ _ _ hl
      obtain ⟨inf, z, d, h1, h2, _, _, _, _, _, _, _, _, rfl, _⟩ := (hE.look hl).info
      cases hS : asS x with
      | none => simp [hS, OT.run] at h
      | some s =>
        obtain ⟨b, rfl, rfl, hb⟩ := asS_rep hS hx
        simp only [hS, OT.run] at h
        split at h
        · rename_i hg
          obtain ⟨rfl, rfl⟩ := ret_inv h
          obtain ⟨hg1, hg2⟩ := of_decide_eq_true hg
          rw [strOf_length] at hg2
          have hlt : n.toNat < b.size := by omega
          have hrd : rd (e := .int .u8) (strOf b) n.toNat = ((b[n.toNat]).toNat : Int) := by
            have hlt' : n.toNat < b.data.size := hlt
            have : b.data[n.toNat]? = some b[n.toNat] := by rw [Array.getElem?_eq_getElem hlt']; rfl
            simp [rd, strOf, this]
          rw [hrd]
          refine ⟨rfl, .int .u8 ((b[n.toNat]).toNat : Int), ?_, .leaf (.int _ _ (rng_u8 _))⟩
          simp [Instr.index, asIntOf, run_und h2, hg1, hlt]
        · cases h
    · rename_i j len el _ _ _ _ hl
      obtain ⟨inf, z, d, h1, h2, _, _, _, _, _, _, _, _, rfl, _⟩ := (hE.look hl).info
      split at h
      · rename_i cs
        split at h
        · rename_i ti hg hl'
          obtain ⟨hg1, hg2⟩ := of_decide_eq_true hg
          obtain ⟨inf', z', d', q1, q2, q3, _⟩ := (hE.look hl').info
          cases hx with
          | agg hx1 hx2 =>
            rename_i us
            obtain ⟨a1, y, a2, a3⟩ := loadCs_part (P := P) (w := w) (hE.look hl') h ⟨hx1, hx2⟩
            exact ⟨a1, y, by simp [Instr.index, asIntOf, run_und h2, hg1, hg2, run_sizeOf q1, q3, a2], a3⟩
        · simp [OT.run] at h
      · simp [OT.run] at h
    · simp [OT.run] at h

/- ---------------------------------------------------------------- parts of slices -/

/-- An option of a value. -/
def RepO (β : Pl) (ro : Snap) : Option SV → Option Value → Prop
  | none, none => True
  | some x, some v => RepS β ro x v
  | _, _ => False

theorem partT_run {n : Nat} {lo hi mx : Option SV} {f : Nat → Nat → Nat → OT Ans} {rs : List Nat} {r : Ans × List Nat} (h : (partT n lo hi mx f).run objs rs = some r) :
    ∃ l hh m : Nat, optI 0 lo = some (l : Int) ∧ optI n hi = some (hh : Int) ∧ optI n mx = some (m : Int) ∧ l ≤ hh ∧ hh ≤ m ∧ m ≤ n ∧ ¬ (hi = none ∧ mx.isSome) ∧ (f l hh m).run objs rs = some r := by
  unfold partT at h
  split at h
  · rename_i l hh m h1 h2 h3 h4
    simp only [OT.run] at h
    split at h
    · rename_i hg
      obtain ⟨g1, g2, g3, g4⟩ := of_decide_eq_true hg
      have e1 : l = (l.toNat : Int) := by omega
      have e2 : hh = (hh.toNat : Int) := by omega
      have e3 : m = (m.toNat : Int) := by omega
      refine ⟨l.toNat, hh.toNat, m.toNat, by rw [← e1]; exact h1, by rw [← e2]; exact h2, by rw [← e3]; exact h3, by omega, by omega, by omega, ?_, h⟩
      rintro ⟨rfl, hm⟩
      simp [hm] at h4
    · cases h
  · simp [OT.run] at h

theorem optI_rep {d : Int} {o : Option SV} {n : Int} (h : optI d o = some n) {v : Option Value} (hv : RepO β ro o v) :
    (o = none ∧ v = none ∧ n = d) ∨ ∃ k, v = some (.int k n) := by
  cases o with
  | none =>
    cases v with
    | none => simp [optI] at h; exact .inl ⟨rfl, rfl, h.symm⟩
    | some v => exact hv.elim
  | some x =>
    cases v with
    | none => exact hv.elim
    | some v =>
      simp only [optI] at h
      cases hI : asI x with
      | none => simp [hI] at h
      | some p =>
        obtain ⟨k, m, l⟩ := p
        simp [hI] at h
        subst h
        obtain ⟨rfl, _⟩ := asI_rep hI hv
        exact .inr ⟨k, rfl⟩

theorem run_bounds {len cap l h m : Nat} {lo hi mx : Option SV} {lov hiv mxv : Option Value} (h1 : RepO β ro lo lov) (h2 : RepO β ro hi hiv) (h3 : RepO β ro mx mxv)
    (e1 : optI 0 lo = some (l : Int)) (e2 : optI len hi = some (h : Int)) (e3 : optI len mx = some (m : Int)) (hlh : l ≤ h) (hhm : h ≤ m) (hm : m ≤ len) (hc : len ≤ cap) (hno : ¬ (hi = none ∧ mx.isSome)) :
    ∃ M, (Instr.sliceBounds true len cap lov hiv mxv).run P w = .ok (l, h, M) w ∧ m ≤ M ∧ M ≤ cap := by
  have sb : ∀ (k : IntKind) (n y : Nat) (code : BoundsCode), n ≤ y → (Instr.sliceBound (.int k n) y code).run P w = .ok n w := by
    intro k n y code hn
    simp [Instr.sliceBound, asIntOf, hn]
  rcases optI_rep e3 h3 with ⟨rfl, rfl, r3⟩ | ⟨k3, rfl⟩
  · refine ⟨cap, ?_, by omega, Nat.le_refl _⟩
    rcases optI_rep e2 h2 with ⟨rfl, rfl, r2⟩ | ⟨k2, rfl⟩
    · have : h = len := by omega
      subst this
      rcases optI_rep e1 h1 with ⟨rfl, rfl, r1⟩ | ⟨k1, rfl⟩
      · have : l = 0 := by omega
        subst this
        simp [Instr.sliceBounds]
      · simp [Instr.sliceBounds, sb _ _ _ _ hlh]
    · rcases optI_rep e1 h1 with ⟨rfl, rfl, r1⟩ | ⟨k1, rfl⟩
      · have : l = 0 := by omega
        subst this
        simp [Instr.sliceBounds, sb k2 h cap _ (by omega)]
      · simp [Instr.sliceBounds, sb k2 h cap _ (by omega), sb k1 l h _ hlh]
  · refine ⟨m, ?_, Nat.le_refl _, by omega⟩
    rcases optI_rep e2 h2 with ⟨rfl, rfl, r2⟩ | ⟨k2, rfl⟩
    · cases mx with
      | none => exact h3.elim
      | some x => exact absurd ⟨rfl, rfl⟩ hno
    · rcases optI_rep e1 h1 with ⟨rfl, rfl, r1⟩ | ⟨k1, rfl⟩
      · have : l = 0 := by omega
        subst this
        simp [Instr.sliceBounds, sb k3 m cap _ (by omega), sb k2 h m _ hhm]
      · simp [Instr.sliceBounds, sb k3 m cap _ (by omega), sb k2 h m _ hhm, sb k1 l h _ hlh]

theorem run_sliceAt_sl {t el : TypeId} {inf : TypeInfo} (ht : P.underlying t = some (.slice el)) (hi : P.info? el = some inf) {a : Option Addr} {len cap l h M : Nat} {lov hiv mxv : Option Value}
    (hb : (Instr.sliceBounds true len cap lov hiv mxv).run P w = .ok (l, h, M) w) :
    (Instr.sliceAt t (.slice a len cap) lov hiv mxv).run P w = .ok (.slice (if M = l then a else a.map (·.add (l * inf.size))) (h - l) (M - l)) w := by
  simp [Instr.sliceAt, run_und ht, Instr.slice, hb, run_sizeOf hi]

theorem sliceT_sound (hE : TysOk P E) (hs : HSat w0 β ro D objs w) {t : Nat} {x : SV} {xv : Value} (hx : RepS β ro x xv) {lo hi mx : Option SV} {lov hiv mxv : Option Value}
    (h1 : RepO β ro lo lov) (h2 : RepO β ro hi hiv) (h3 : RepO β ro mx mxv) {rs rs' : List Nat} {v : SV} {u : List (Nat × Option SO)}
    (hnb : ∀ id, x ≠ .bptr id 0) (h : (sliceT E t x lo hi mx).run objs rs = some ((v, u), rs')) : Tells P β ro v u (Instr.sliceAt t xv lov hiv mxv) w := by
  unfold sliceT at h
  split at h
  · rename_i e xs
    cases he : elemIs E t e with
    | false => simp [he, OT.run] at h
    | true =>
      simp only [he] at h
      obtain ⟨el, inf, t1, t2, t3⟩ := elemIs_spec hE he
      obtain ⟨l, hh, m, e1, e2, e3, q1, q2, q3, q4, q5⟩ := partT_run h
      obtain ⟨rfl, rfl⟩ := ret_inv q5
      cases hx with
      | leaf hl =>
        cases hl with
        | nil e =>
          have hl0 : l = 0 := by simp at q3; omega
          have hh0 : hh = 0 := by simp at q3; omega
          subst hl0 hh0
          obtain ⟨M, hb, _, hM⟩ := run_bounds (P := P) (w := w) (cap := 0) h1 h2 h3 e1 e2 e3 q1 q2 q3 (Nat.le_refl _) q4
          have hM0 : M = 0 := by omega
          subst hM0
          refine ⟨rfl, _, run_sliceAt_sl t1 t2 hb, ?_⟩
          simp only [if_true, Nat.sub_zero, List.take_zero, List.drop_zero]
          exact .leaf (.nil e)
        | sl e xs a cap us hsp hc hm hcell hrep =>
          obtain ⟨M, hb, hM1, hM2⟩ := run_bounds (P := P) (w := w) (cap := cap) h1 h2 h3 e1 e2 e3 q1 q2 q3 hc q4
          refine ⟨rfl, _, run_sliceAt_sl t1 t2 hb, .leaf ?_⟩
          have hlen : ((xs.take hh).drop l).length = hh - l := by simp; omega
          have hget : ∀ (i : Nat) (y : T e), ((xs.take hh).drop l)[i]? = some y → i < hh - l ∧ xs[l + i]? = some y := by
            intro i y hy
            have hi := (List.getElem?_eq_some_iff.1 hy).1
            rw [hlen] at hi
            rw [List.getElem?_drop, List.getElem?_take] at hy
            exact ⟨hi, by simpa [show l + i < hh by omega] using hy⟩
          by_cases hMl : M = l
          · rw [if_pos hMl]
            have := Rep.sl (ro := ro) e ((xs.take hh).drop l) a (M - l) (fun _ _ => default) (.inr (by omega)) (by omega) (by omega) (fun i y j lf hy _ => by have := (hget i y hy).1; omega) (fun i y j lf hy _ => by have := (hget i y hy).1; omega)
            rw [hlen] at this
            exact this
          · rw [if_neg hMl]
            simp only [Option.map_some, addr_add (hsp.resolve_right (by omega))]
            have := Rep.sl (ro := ro) e ((xs.take hh).drop l) ⟨a.block, a.off + l * inf.size, none⟩ (M - l) (fun i j => us (l + i) j) (.inl rfl) (by omega) (by omega)
              (fun i y j lf hy hj => by
                have := hcell (l + i) y j lf (hget i y hy).2 hj
                rw [← this, t3, Nat.add_mul]
                simp [Nat.add_assoc])
              (fun i y j lf hy hj => hrep (l + i) y j lf (hget i y hy).2 hj)
            rw [hlen] at this
            exact this
  · rename_i id
    simp only [OT.run] at h
    cases ho : objs id with
    | none => simp [ho, OT.run] at h
    | some o =>
      cases o with
      | blk cs => simp [ho, OT.run] at h
      | row et e xs =>
        simp only [ho] at h
        cases he : elemIs E t e with
        | false => simp [he, OT.run] at h
        | true =>
          simp only [he] at h
          obtain ⟨el, inf, t1, t2, t3⟩ := elemIs_spec hE he
          obtain ⟨l, hh, m, e1, e2, e3, q1, q2, q3, q4, q5⟩ := partT_run h
          obtain ⟨rfl, rfl⟩ := ret_inv q5
          cases hx with
          | own hb =>
            rename_i hd
            obtain ⟨h', hb', k1, k2, k3⟩ := hs.obj id _ ho
            rw [hb] at hb'; cases hb'
            cases hblk : hd.blk with
            | none =>
              simp only [hblk] at k3
              simp only [Hd.val, hblk]
              have hl0 : l = 0 := by omega
              have hh0 : hh = 0 := by omega
              subst hl0 hh0
              obtain ⟨M, hbd, _, hM⟩ := run_bounds (P := P) (w := w) (cap := 0) (len := 0) h1 h2 h3 e1 (by rw [k2, k3] at e2; exact e2) (by rw [k2, k3] at e3; exact e3) q1 q2 (by omega) (Nat.le_refl _) q4
              have hM0 : M = 0 := by omega
              subst hM0
              refine ⟨rfl, _, run_sliceAt_sl t1 t2 hbd, ?_⟩
              simp only [if_true, Nat.sub_zero]
              exact .win hb (by omega) (Nat.le_refl _) (Nat.zero_le _) (fun _ => ⟨rfl, rfl⟩) (fun g hg => by rw [hblk] at hg; cases hg)
            | some g =>
              simp only [hblk] at k3
              obtain ⟨cur, m1, m2, m3, _⟩ := k3
              simp only [Hd.val, hblk]
              obtain ⟨M, hbd, hM1, hM2⟩ := run_bounds (P := P) (w := w) (cap := hd.cap) (len := hd.len) h1 h2 h3 e1 (by rw [k2] at e2; exact e2) (by rw [k2] at e3; exact e3) q1 q2 (by omega) m2 q4
              refine ⟨rfl, _, run_sliceAt_sl t1 t2 hbd, ?_⟩
              refine .win hb (by omega) (by omega) (by omega) (fun hn => by rw [hblk] at hn; cases hn) (fun g' hg' => ?_)
              rw [hblk] at hg'; cases hg'
              by_cases hMl : M = l
              · exact ⟨_, by rw [if_pos hMl], by omega, rfl, .inl (by omega)⟩
              · refine ⟨⟨g, l * hd.esz, none⟩, ?_, by omega, rfl, .inr rfl⟩
                rw [if_neg hMl]
                simp [addr_add, t3, k1]
  · rename_i id o len
    simp only [OT.run] at h
    cases ho : objs id with
    | none => simp [ho, OT.run] at h
    | some ob =>
      cases ob with
      | blk cs => simp [ho, OT.run] at h
      | row et e xs =>
        simp only [ho] at h
        cases he : elemIs E t e with
        | false => simp [he, OT.run] at h
        | true =>
          simp only [he] at h
          obtain ⟨el, inf, t1, t2, t3⟩ := elemIs_spec hE he
          obtain ⟨l, hh, m, e1, e2, e3, q1, q2, q3, q4, q5⟩ := partT_run h
          obtain ⟨rfl, rfl⟩ := ret_inv q5
          cases hx with
          | win hb hl hc hm hn hsm =>
            rename_i hd a cap
            obtain ⟨h', hb', k1, k2, k3⟩ := hs.obj id _ ho
            rw [hb] at hb'; cases hb'
            obtain ⟨M, hbd, hM1, hM2⟩ := run_bounds (P := P) (w := w) (cap := cap) (len := len) h1 h2 h3 e1 e2 e3 q1 q2 q3 hc q4
            refine ⟨rfl, _, run_sliceAt_sl t1 t2 hbd, ?_⟩
            refine .win hb (by omega) (by omega) (by omega) (fun hnn => ?_) (fun g' hg' => ?_)
            · obtain ⟨rfl, rfl⟩ := hn hnn
              have : M = l := by omega
              simp [this]
            · obtain ⟨a', rfl, r1, r2, r3⟩ := hsm g' hg'
              by_cases hMl : M = l
              · exact ⟨a', by rw [if_pos hMl], by omega, r2, .inl (by omega)⟩
              · have ha := r3.resolve_left (by omega)
                subst ha
                refine ⟨⟨g', (o + l) * hd.esz, none⟩, ?_, by omega, rfl, .inr rfl⟩
                rw [if_neg hMl]
                simp [addr_add, t3, k1, Nat.add_mul]
  · split at h
    · rename_i i el _ _ _ _ hl
      obtain ⟨inf, z, d, t1, t2, _, _, _, _, _, _, _, _, rfl, _⟩ := (hE.look hl).info
      split at h
      · rename_i s hsz
        obtain ⟨j, hj, _⟩ := sizeT_look hsz
        obtain ⟨inf', z', d', r1, _⟩ := (hE.look hj).info
        obtain ⟨l, hh, m, e1, e2, e3, q1, q2, q3, q4, q5⟩ := partT_run h
        obtain ⟨rfl, rfl⟩ := ret_inv q5
        have hl0 : l = 0 := by omega
        have hh0 : hh = 0 := by omega
        subst hl0 hh0
        cases hx with
        | lit _ =>
          obtain ⟨M, hbd, _, hM⟩ := run_bounds (P := P) (w := w) (cap := 0) (len := 0) h1 h2 h3 e1 e2 e3 q1 q2 q3 (Nat.le_refl _) q4
          have hM0 : M = 0 := by omega
          subst hM0
          exact ⟨rfl, _, run_sliceAt_sl t2 r1 hbd, .lit (.inl rfl)⟩
      · simp [OT.run] at h
    · simp [OT.run] at h
  · rename_i id
    exact absurd rfl (hnb id)
  · simp [OT.run] at h

end Go.Cat

namespace Go.Cat
open Go

variable {P : Program} {E : Env} {w0 : Pt} {β : Pl} {ro : Snap} {D : Nat → Prop} {objs : Heap} {w : World}

theorem wrap_rng (k : IntKind) (n : Int) : rngB k (k.wrap n) = true := by
  cases k <;> simp [rngB, IntKind.wrap, IntKind.min, IntKind.max, IntKind.signed, IntKind.bits] <;> (try split) <;> omega

theorem mkI_rep {k : IntKind} {n : Int} (l : Bool) (h : rngB k n = true) : RepS β ro (mkI k n l) (.int k n) := by
  cases l with
  | true => exact .lit (.inl h)
  | false => exact .leaf (.int k n h)

theorem mkB_rep (b l : Bool) : RepS β ro (mkB b l) (.bool b) := by
  cases l with
  | true => exact .lit (.inl rfl)
  | false => exact .leaf (.bool b)

theorem min_le (k : IntKind) : k.min ≤ 0 := by cases k <;> simp [IntKind.min, IntKind.signed, IntKind.bits]
theorem max_ge (k : IntKind) : 0 ≤ k.max := by cases k <;> simp [IntKind.max, IntKind.signed, IntKind.bits]

theorem rng_between {k : IntKind} {x y : Int} (h : rngB k x = true) (h1 : 0 ≤ x → 0 ≤ y ∧ y ≤ x) (h2 : x < 0 → x ≤ y ∧ y ≤ 0) : rngB k y = true := by
  simp only [rngB, Bool.and_eq_true, decide_eq_true_eq] at h ⊢
  have hm := min_le k
  have hx := max_ge k
  by_cases h0 : 0 ≤ x
  · have := h1 h0; constructor <;> omega
  · have := h2 (by omega); constructor <;> omega

theorem tmod_rng {k : IntKind} {x y : Int} (h : rngB k x = true) : rngB k (x.tmod y) = true := by
  refine rng_between h (fun h0 => ⟨Int.tmod_nonneg y h0, ?_⟩) (fun h0 => ?_)
  · have h1 : (x.tmod y).natAbs = x.natAbs % y.natAbs := by simp
    have h2 := Nat.mod_le x.natAbs y.natAbs
    have h3 := Int.tmod_nonneg y h0
    omega
  · have h1 : (x.tmod y).natAbs = x.natAbs % y.natAbs := by simp
    have h2 := Nat.mod_le x.natAbs y.natAbs
    have h3 : 0 ≤ (-x).tmod y := Int.tmod_nonneg y (by omega)
    rw [Int.neg_tmod] at h3
    omega

theorem shr_rng {k : IntKind} {x y : Int} (h : rngB k x = true) : rngB k (shrI k x y) = true := by
  unfold shrI
  have hp : (0 : Int) < 2 ^ (min y.toNat k.bits) := Int.pow_pos (by decide)
  rw [Int.fdiv_eq_ediv_of_nonneg _ (Int.le_of_lt hp)]
  generalize (2 : Int) ^ (min y.toNat k.bits) = p at hp
  refine rng_between h (fun h0 => ⟨Int.ediv_nonneg h0 (by omega), Int.ediv_le_self p h0⟩) (fun h0 => ⟨?_, ?_⟩)
  · refine (Int.le_ediv_iff_mul_le hp).2 ?_
    have := Int.mul_nonneg (show 0 ≤ -x by omega) (show 0 ≤ p - 1 by omega)
    simp only [Int.mul_sub, Int.neg_mul, Int.mul_one] at this
    omega
  · have := Int.ediv_neg_of_neg_of_pos h0 hp
    omega

theorem run_eqGuard {op : BinOp} {t : TypeId} {x y : Operand} {a b : Value} (h1 : ∀ cs, a ≠ .agg cs) (h2 : a ≠ .nilIface) : (eqGuard op t x y a b).run P w = .ok () w := by
  unfold eqGuard
  cases a <;> simp at h1 h2 <;> (split <;> first | rfl | (cases b <;> rfl))

/-- What a binary operation runs to: the guard on '==' lets it by. -/
def BinTells (P : Program) (β : Pl) (ro : Snap) (v : SV) (u : List (Nat × Option SO)) (op : BinOp) (t : TypeId) (x y : Operand) (a b : Value) (w : World) : Prop :=
  u = [] ∧ ∃ z, (do eqGuard op t x y a b; Go.binOp op t a b : Sem Value).run P w = .ok z w ∧ RepS β ro v z

theorem intOp_sound {op : BinOp} {k : IntKind} {a b : Int} {l : Bool} (ha : rngB k a = true) {rs rs' : List Nat} {v : SV} {u : List (Nat × Option SO)}
    (h : (intOp op k a b l).run objs rs = some ((v, u), rs')) (t : TypeId) (x y : Operand) : BinTells P β ro v u op t x y (.int k a) (.int k b) w := by
  have g : ∀ s : Sem Value, (do eqGuard op t x y (.int k a) (.int k b); s : Sem Value).run P w = s.run P w := by
    intro s
    rw [Sem.run_bind, run_eqGuard (by simp) (by simp)]
    rfl
  unfold BinTells
  rw [g]
  unfold intOp at h
  cases op <;> simp only [OT.run] at h
  case add => obtain ⟨rfl, rfl⟩ := ret_inv h; exact ⟨rfl, .int k (k.wrap (a + b)), by simp [Go.binOp, Op.intArith], mkI_rep l (wrap_rng _ _)⟩
  case sub => obtain ⟨rfl, rfl⟩ := ret_inv h; exact ⟨rfl, .int k (k.wrap (a - b)), by simp [Go.binOp, Op.intArith], mkI_rep l (wrap_rng _ _)⟩
  case mul => obtain ⟨rfl, rfl⟩ := ret_inv h; exact ⟨rfl, .int k (k.wrap (a * b)), by simp [Go.binOp, Op.intArith], mkI_rep l (wrap_rng _ _)⟩
  case quo =>
    split at h
    · rename_i hb
      obtain ⟨rfl, rfl⟩ := ret_inv h
      have hb' : b ≠ 0 := by simpa using hb
      exact ⟨rfl, .int k (k.wrap (a.tdiv b)), by simp [Go.binOp, Op.intDiv, hb'], mkI_rep l (wrap_rng _ _)⟩
    · cases h
  case rem =>
    split at h
    · rename_i hb
      obtain ⟨rfl, rfl⟩ := ret_inv h
      have hb' : b ≠ 0 := by simpa using hb
      exact ⟨rfl, .int k (a.tmod b), by simp [Go.binOp, Op.intDiv, hb'], mkI_rep l (tmod_rng ha)⟩
    · cases h
  case and => obtain ⟨rfl, rfl⟩ := ret_inv h; exact ⟨rfl, .int k (ibits .and k a b), by simp [Go.binOp, Op.intBits, ibits], mkI_rep l (wrap_rng _ _)⟩
  case or => obtain ⟨rfl, rfl⟩ := ret_inv h; exact ⟨rfl, .int k (ibits .or k a b), by simp [Go.binOp, Op.intBits, ibits], mkI_rep l (wrap_rng _ _)⟩
  case xor => obtain ⟨rfl, rfl⟩ := ret_inv h; exact ⟨rfl, .int k (ibits .xor k a b), by simp [Go.binOp, Op.intBits, ibits], mkI_rep l (wrap_rng _ _)⟩
  case andNot => obtain ⟨rfl, rfl⟩ := ret_inv h; exact ⟨rfl, .int k (ibits .andNot k a b), by simp [Go.binOp, Op.intBits, ibits], mkI_rep l (wrap_rng _ _)⟩
  case eql => obtain ⟨rfl, rfl⟩ := ret_inv h; exact ⟨rfl, .bool (a == b), by simp [Go.binOp, Op.intCmp], mkB_rep _ l⟩
  case neq => obtain ⟨rfl, rfl⟩ := ret_inv h; exact ⟨rfl, .bool (a != b), by simp [Go.binOp, Op.intCmp], mkB_rep _ l⟩
  case lss => obtain ⟨rfl, rfl⟩ := ret_inv h; exact ⟨rfl, .bool (decide (a < b)), by simp [Go.binOp, Op.intCmp], mkB_rep _ l⟩
  case leq => obtain ⟨rfl, rfl⟩ := ret_inv h; exact ⟨rfl, .bool (decide (a ≤ b)), by simp [Go.binOp, Op.intCmp], mkB_rep _ l⟩
  case gtr => obtain ⟨rfl, rfl⟩ := ret_inv h; exact ⟨rfl, .bool (decide (a > b)), by simp [Go.binOp, Op.intCmp], mkB_rep _ l⟩
  case geq => obtain ⟨rfl, rfl⟩ := ret_inv h; exact ⟨rfl, .bool (decide (a ≥ b)), by simp [Go.binOp, Op.intCmp], mkB_rep _ l⟩
  all_goals cases h

theorem strOf_inj {a b : ByteArray} (h : strOf a = strOf b) : a = b := by
  have : a.data.toList = b.data.toList := by
    unfold strOf at h
    exact (List.map_inj_right (fun x y hxy => by
      have : x.toNat = y.toNat := by exact_mod_cast hxy
      exact UInt8.toNat_inj.1 this)).1 h
  cases a; cases b
  simp_all

theorem strOf_beq (a b : ByteArray) : (strOf a == strOf b) = (a.toList == b.toList) := by
  rw [ByteArray.toList_eq, ByteArray.toList_eq]
  by_cases h : a = b
  · subst h; simp
  · have h1 : ¬ strOf a = strOf b := fun hh => h (strOf_inj hh)
    have h2 : ¬ a.data.toList = b.data.toList := fun hh => h1 (by unfold strOf; rw [hh])
    rw [beq_eq_false_iff_ne.2 h1, beq_eq_false_iff_ne.2 h2]

/-- Cells as a value. -/
def vOf (agg : Bool) (us : List Value) : Value := if agg = true then .agg us.toArray else us.headD undef

theorem one_rep {x : SV} {us : List Value} (h : RepL β ro [x] us) : ∃ u, us = [u] ∧ RepS β ro x u := by
  obtain ⟨u, us', rfl, h1, h2⟩ := h.of_cons
  rw [h2.of_nil]
  exact ⟨u, rfl, h1⟩

theorem fieldsOf_eq {t : TypeId} {fields : Array Field} (h : P.underlying t = some (.struct fields)) : P.fieldsOf t = fields := by
  simp [Program.fieldsOf, h]

theorem eqTy_sound (hE : TysOk P E) : ∀ (n t : Nat) (xs ys : List SV) (r : Bool), eqTy E n t xs ys = some r → ∀ (us vs : List Value), RepL β ro xs us → RepL β ro ys vs →
    ∀ i, look E.ty t = some i → ∀ d, n ≤ d → (Op.equalIn d t (vOf i.agg us) (vOf i.agg vs)).run P w = .ok r w := by
  intro n
  induction n with
  | zero => intro t xs ys r h; simp [eqTy] at h
  | succ n ih =>
    intro t xs ys r h us vs hx hy i hl d hd
    obtain ⟨d, rfl⟩ : ∃ d', d = d' + 1 := ⟨d - 1, by omega⟩
    unfold eqTy at h
    rw [hl] at h
    obtain ⟨inf, z, ds, h1, h2, _, _, _, _, _, _, h8, _, hm, _⟩ := (hE.look hl).info
    obtain ⟨di, size, zero, en, eq⟩ := i
    cases di with
    | int k0 =>
      simp only at h hm
      subst hm
      split at h
      · rename_i x y
        obtain ⟨u, rfl, hu⟩ := one_rep hx
        obtain ⟨v, rfl, hv⟩ := one_rep hy
        cases ha : asI x with
        | none => simp [ha] at h
        | some p =>
          obtain ⟨k, a, la⟩ := p
          cases hb : asI y with
          | none => simp [ha, hb] at h
          | some q =>
            obtain ⟨k', b, lb⟩ := q
            simp only [ha, hb] at h
            split at h
            · rename_i hk; subst hk; cases h
              obtain ⟨rfl, _⟩ := asI_rep ha hu
              obtain ⟨rfl, _⟩ := asI_rep hb hv
              simp only [vOf, TyI.agg, Bool.false_eq_true, if_false, List.headD_cons]
              exact run_equalIn_int w d t k k0 a b h2
            · cases h
      · cases h
    | bool =>
      simp only at h hm
      subst hm
      split at h
      · rename_i x y
        obtain ⟨u, rfl, hu⟩ := one_rep hx
        obtain ⟨v, rfl, hv⟩ := one_rep hy
        cases ha : asB x with
        | none => simp [ha] at h
        | some p =>
          cases hb : asB y with
          | none => simp [ha, hb] at h
          | some q =>
            simp only [ha, hb] at h
            cases h
            rw [asB_rep ha hu, asB_rep hb hv]
            simp only [vOf, TyI.agg, Bool.false_eq_true, if_false, List.headD_cons]
            exact run_equalIn_bool' w d t _ _ h2
      · cases h
    | str =>
      simp only at h hm
      subst hm
      split at h
      · rename_i x y
        obtain ⟨u, rfl, hu⟩ := one_rep hx
        obtain ⟨v, rfl, hv⟩ := one_rep hy
        cases ha : asS x with
        | none => simp [ha] at h
        | some p =>
          cases hb : asS y with
          | none => simp [ha, hb] at h
          | some q =>
            simp only [ha, hb] at h
            cases h
            obtain ⟨b1, rfl, rfl, _⟩ := asS_rep ha hu
            obtain ⟨b2, rfl, rfl, _⟩ := asS_rep hb hv
            simp only [vOf, TyI.agg, Bool.false_eq_true, if_false, List.headD_cons]
            rw [strOf_beq]
            exact run_equalIn_string w d t _ _ h2
      · cases h
    | st fs =>
      cases eq with
      | false => simp at h
      | true =>
        simp only at h hm
        obtain ⟨fields, rfl, hf, hsz, hq⟩ := hm
        obtain ⟨q1, q2, q3⟩ := hq trivial
        simp only [vOf, TyI.agg, if_true]
        rw [run_equalIn_struct w d t _ _ (by rw [fieldsOf_eq h2]; exact h2) q1, fieldsOf_eq h2]
        clear h2 hsz
        subst hf
        obtain ⟨fl, hfl⟩ : ∃ fl, fl = fields.toList := ⟨_, rfl⟩
        rw [← hfl] at h q3 ⊢
        clear hfl hl hq
        induction fl generalizing r with
        | nil => simp only [List.map_nil, eqFs] at h; cases h; rfl
        | cons f fl ihf =>
          simp only [List.map_cons, eqFs] at h
          cases hs : sizeT E f.type with
          | none => simp [hs] at h
          | some m =>
            simp only [hs] at h
            cases hc : Nat.ble (f.offset + m) xs.length && Nat.ble (f.offset + m) ys.length with
            | false => simp [hc] at h
            | true =>
              simp only [hc] at h
              simp only [Bool.and_eq_true] at hc
              have hc1 := Nat.le_of_ble_eq_true hc.1
              have hc2 := Nat.le_of_ble_eq_true hc.2
              cases ha : eqTy E n f.type ((xs.drop f.offset).take m) ((ys.drop f.offset).take m) with
              | none => simp [ha] at h
              | some a =>
                cases hb : eqFs (eqTy E n) (sizeT E) xs ys (fl.map fun f => (f.offset, f.type)) with
                | none => simp [ha, hb] at h
                | some b =>
                  simp only [ha, hb] at h
                  cases h
                  obtain ⟨j, hj, rfl⟩ := sizeT_look hs
                  have hn : f.name ≠ "_" := by simpa using q3 f (by simp)
                  have e := ih f.type _ _ a ha _ _ ((hx.drop f.offset).take j.size) ((hy.drop f.offset).take j.size) j hj d (by omega)
                  have p1 := run_part (P := P) (w := w) (hE.look hj) (us := us) (off := f.offset) (by rw [hx.1]; omega)
                  have p2 := run_part (P := P) (w := w) (hE.look hj) (us := vs) (off := f.offset) (by rw [hy.1]; omega)
                  have rest := ihf b (fun g hg => q3 g (by simp [hg])) hb
                  simp only [Op.eqFields, Sem.run_bind, Sem.run_ite, p1, p2, Result.andThen_ok]
                  rw [if_pos hn]
                  unfold vOf at e
                  rw [e]
                  cases a with
                  | false => simp
                  | true => simpa using rest
    | _ => simp at h

theorem run_equalIn_slice_nil' (w : World) (d : Nat) (t e : TypeId) (a : Option Addr) (l c : Nat) (h : P.underlying t = some (.slice e)) : (Op.equalIn (d + 1) t (.slice a l c) (.slice none 0 0)).run P w = .ok a.isNone w := by
  cases a <;> simp [Op.equalIn, run_underlying h]
theorem run_equal_slice_nil' (w : World) (t e : TypeId) (a : Option Addr) (l c : Nat) (h : P.underlying t = some (.slice e)) : (Op.equal t (.slice a l c) (.slice none 0 0)).run P w = .ok a.isNone w := run_equalIn_slice_nil' w 9999 t e a l c h

theorem binT_sound (hE : TysOk P E) {op : BinOp} {t : TypeId} {x y : SV} {xv yv : Value} (hx : RepS β ro x xv) (hy : RepS β ro y yv) {rs rs' : List Nat} {v : SV} {u : List (Nat × Option SO)}
    (h : (binT E op t x y).run objs rs = some ((v, u), rs')) (xo yo : Operand) : BinTells P β ro v u op t xo yo xv yv w := by
  unfold binT at h
  split at h
  · rename_i k a la k' b lb ha hb
    obtain ⟨rfl, ra⟩ := asI_rep ha hx
    obtain ⟨rfl, rb⟩ := asI_rep hb hy
    split at h
    · simp only [OT.run] at h
      split at h
      · rename_i hg
        obtain ⟨rfl, rfl⟩ := ret_inv h
        have h0 : 0 ≤ b := of_decide_eq_true hg
        refine ⟨rfl, .int k (shlI k a b), ?_, mkI_rep _ (wrap_rng _ _)⟩
        rw [Sem.run_bind, run_eqGuard (by simp) (by simp)]
        simp [Go.binOp, Op.shift, shlI, show ¬ b < 0 by omega]
      · cases h
    · simp only [OT.run] at h
      split at h
      · rename_i hg
        obtain ⟨rfl, rfl⟩ := ret_inv h
        have h0 : 0 ≤ b := of_decide_eq_true hg
        refine ⟨rfl, .int k (shrI k a b), ?_, mkI_rep _ (shr_rng ra)⟩
        rw [Sem.run_bind, run_eqGuard (by simp) (by simp)]
        simp [Go.binOp, Op.shift, shrI, show ¬ b < 0 by omega]
      · cases h
    · split at h
      · rename_i hk; subst hk; exact intOp_sound ra h t xo yo
      · simp [OT.run] at h
  · split at h
    · rename_i a b ha hb
      obtain ⟨b1, rfl, rfl, _⟩ := asS_rep ha hx
      obtain ⟨b2, rfl, rfl, _⟩ := asS_rep hb hy
      split at h
      · obtain ⟨rfl, rfl⟩ := ret_inv h
        refine ⟨rfl, _, ?_, .leaf (.bool _)⟩
        rw [Sem.run_bind, run_eqGuard (by simp) (by simp), strOf_beq, Result.andThen_ok, binOp_string_eql]
        rfl
      · obtain ⟨rfl, rfl⟩ := ret_inv h
        refine ⟨rfl, _, ?_, .leaf (.bool _)⟩
        rw [Sem.run_bind, run_eqGuard (by simp) (by simp), bne, strOf_beq, Result.andThen_ok, binOp_string_neq]
        rfl
      · simp [OT.run] at h
    · split at h
      · rename_i a la b lb ha hb
        rw [asB_rep ha hx, asB_rep hb hy]
        split at h
        · rename_i i _ _ _ _ hl
          obtain ⟨inf, z, ds, h1, h2, _, _, _, _, _, _, h8, _, rfl, _⟩ := (hE.look hl).info
          obtain ⟨rfl, rfl⟩ := ret_inv h
          refine ⟨rfl, _, ?_, mkB_rep _ _⟩
          rw [Sem.run_bind, run_eqGuard (by simp) (by simp)]
          simp [Go.binOp, Op.equal, Op.maxDepth, run_equalIn_bool' w 9999 t a b h2]
        · rename_i i _ _ _ _ hl
          obtain ⟨inf, z, ds, h1, h2, _, _, _, _, _, _, h8, _, rfl, _⟩ := (hE.look hl).info
          obtain ⟨rfl, rfl⟩ := ret_inv h
          refine ⟨rfl, _, ?_, mkB_rep _ _⟩
          rw [Sem.run_bind, run_eqGuard (by simp) (by simp)]
          simp [Go.binOp, Op.equal, Op.maxDepth, run_equalIn_bool' w 9999 t a b h2]
        · simp [OT.run] at h
      · split at h
        · rename_i xs ys fs _ _ _ hl _ _ _
          have key : ∀ r, eqTy E 8 t xs ys = some r → ∃ us vs : List Value, xv = .agg us.toArray ∧ yv = .agg vs.toArray ∧ (Op.equalIn 10000 t (.agg us.toArray) (.agg vs.toArray)).run P w = .ok r w ∧ P.eqGuardType P.depth t = false := by
            intro r hr
            cases hx with
            | agg hx1 hx2 =>
              rename_i us
              cases hy with
              | agg hy1 hy2 =>
                rename_i vs
                have e := eqTy_sound (P := P) (w := w) hE 8 t xs ys r hr us vs ⟨hx1, hx2⟩ ⟨hy1, hy2⟩ _ hl 10000 (by omega)
                obtain ⟨inf, z, ds, h1, h2, _, _, _, _, _, _, h8, _, ⟨fields, rfl, hf, hsz, hq⟩, _⟩ := (hE.look hl).info
                exact ⟨us, vs, rfl, rfl, by simpa [vOf, TyI.agg] using e, (hq rfl).2.1⟩
          split at h
          · rename_i r hr
            obtain ⟨rfl, rfl⟩ := ret_inv h
            obtain ⟨us, vs, rfl, rfl, e1, e2⟩ := key r hr
            refine ⟨rfl, .bool r, ?_, .leaf (.bool _)⟩
            rw [Sem.run_bind, run_eqGuard_agg w _ _ _ _ _ _ e2, Result.andThen_ok, run_eql_struct, e1]
            rfl
          · rename_i r hr
            obtain ⟨rfl, rfl⟩ := ret_inv h
            obtain ⟨us, vs, rfl, rfl, e1, e2⟩ := key r hr
            refine ⟨rfl, .bool (!r), ?_, .leaf (.bool _)⟩
            rw [Sem.run_bind, run_eqGuard_agg w _ _ _ _ _ _ e2, Result.andThen_ok, run_neq_struct, e1]
            rfl
          · simp [OT.run] at h
        · rename_i hl _ _ _
          obtain ⟨inf, z, ds, h1, h2, _, _, _, _, _, _, h8, _, rfl, _⟩ := (hE.look hl).info
          cases hx with
          | nn hx' =>
            cases hy with
            | lit _ =>
              split at h
              · obtain ⟨rfl, rfl⟩ := ret_inv h
                refine ⟨rfl, .bool false, ?_, .lit (.inl rfl)⟩
                rw [Sem.run_bind, run_eqGuard (by simp) (by simp), Result.andThen_ok]
                simp [Go.binOp, run_equal_slice_nil' w t _ _ _ _ h2]
              · obtain ⟨rfl, rfl⟩ := ret_inv h
                refine ⟨rfl, .bool true, ?_, .lit (.inl rfl)⟩
                rw [Sem.run_bind, run_eqGuard (by simp) (by simp), Result.andThen_ok]
                simp [Go.binOp, run_equal_slice_nil' w t _ _ _ _ h2]
              · simp [OT.run] at h
        · rename_i hl _ _ _
          obtain ⟨inf, z, ds, h1, h2, _, _, _, _, _, _, h8, _, rfl, _⟩ := (hE.look hl).info
          cases hx with
          | lit _ =>
            cases hy with
            | lit _ =>
              split at h
              · obtain ⟨rfl, rfl⟩ := ret_inv h
                refine ⟨rfl, .bool true, ?_, .lit (.inl rfl)⟩
                rw [Sem.run_bind, run_eqGuard (by simp) (by simp), Result.andThen_ok]
                simp [Go.binOp, run_equal_slice_nil' w t _ _ _ _ h2]
              · obtain ⟨rfl, rfl⟩ := ret_inv h
                refine ⟨rfl, .bool false, ?_, .lit (.inl rfl)⟩
                rw [Sem.run_bind, run_eqGuard (by simp) (by simp), Result.andThen_ok]
                simp [Go.binOp, run_equal_slice_nil' w t _ _ _ _ h2]
              · simp [OT.run] at h
        · simp [OT.run] at h

theorem unT_sound {op : UnOp} {x : SV} {xv : Value} (hx : RepS β ro x xv) {rs rs' : List Nat} {v : SV} {u : List (Nat × Option SO)}
    (h : (unT op x).run objs rs = some ((v, u), rs')) : Tells P β ro v u (Op.unary op xv) w := by
  unfold unT at h
  split at h
  · rename_i k n l ha
    obtain ⟨rfl, _⟩ := asI_rep ha hx
    obtain ⟨rfl, rfl⟩ := ret_inv h
    exact ⟨rfl, .int k (k.wrap (0 - n)), by simp [Op.unary, Op.intArith], mkI_rep l (wrap_rng _ _)⟩
  · rename_i k n l ha
    obtain ⟨rfl, _⟩ := asI_rep ha hx
    obtain ⟨rfl, rfl⟩ := ret_inv h
    exact ⟨rfl, .int k (ibits .xor k (if k.signed then -1 else k.max) n), by simp [Op.unary, Op.intBits, ibits], mkI_rep l (wrap_rng _ _)⟩
  · rename_i b l hb
    rw [asB_rep hb hx]
    obtain ⟨rfl, rfl⟩ := ret_inv h
    exact ⟨rfl, .bool (!b), by simp [Op.unary], mkB_rep _ l⟩
  · simp [OT.run] at h

end Go.Cat

namespace Go.Cat
open Go

variable {P : Program} {E : Env} {w0 : Pt} {β : Pl} {ro : Snap} {D : Nat → Prop} {objs : Heap} {w : World}

theorem elemEN_spec (hE : TysOk P E) {t el : Nat} {e : EN} (h : elemEN E t = some (el, e)) :
    ∃ inf z, P.underlying t = some (.slice el) ∧ P.info? el = some inf ∧ inf.size = sz e ∧ inf.zero = some z ∧ z.cells.size = sz e ∧ inf.bytes ≤ 131072 ∧ 0 < sz e ∧
      RepC (fun _ => none) (cells e (zeroT e)) z.cells.toList := by
  unfold elemEN at h
  split at h
  · rename_i i el' _ _ _ _ hl
    obtain ⟨inf, z, d, h1, h2, _, _, _, _, _, _, _, _, rfl, _⟩ := (hE.look hl).info
    split at h
    · rename_i j e' _ _ _ _ hj
      cases h
      obtain ⟨inf', z', d', k1, k2, k3, k4, k5, k6, k7, k8, k9, k10, k11, k12⟩ := (hE.look hj).info
      obtain ⟨m1, m2, m3, m4⟩ := k12 _ rfl
      exact ⟨inf', z', h2, k1, k3.trans m1.symm, k4, k5.trans m1.symm, k8, by omega, m4⟩
    · cases h
  · cases h

/- ---------------------------------------------------------------- elements that are read -/

/-- A slice whose elements are readable. -/
def SrcAt (w : World) (ro : Snap) (e : EN) (ys : List (T e)) (v : Value) : Prop :=
  (v = .slice none 0 0 ∧ ys = []) ∨
  ∃ (a : Addr) (cap : Nat) (us : Nat → Nat → Value), v = .slice (some a) ys.length cap ∧ (a.spot = none ∨ ys = []) ∧ ys.length ≤ maxLen ∧
    ∀ (i : Nat) (y : T e) (j : Nat) (l : Leaf), ys[i]? = some y → (cells e y)[j]? = some l → w.cell? ⟨a.block, a.off + (i * sz e + j), none⟩ = some (us i j) ∧ Rep ro l (us i j)

theorem leaf_src (hs : HSat w0 β ro D objs w) {e : EN} {xs : List (T e)} {v : Value} (hv : RepS β ro (.leaf (.sl e xs)) v) : SrcAt w ro e xs v := by
  cases hv with
  | leaf h =>
    cases h with
    | nil e => exact .inl ⟨rfl, rfl⟩
    | sl e xs a cap us hsp hc hm hcell hrep => exact .inr ⟨a, cap, us, rfl, hsp.imp (fun h => h) (fun h => List.eq_nil_of_length_eq_zero (by omega)), by omega, fun i y j l hi hj => ⟨Snap.cell_le hs.snap (hcell i y j l hi hj), hrep i y j l hi hj⟩⟩

theorem win_src (hs : HSat w0 β ro D objs w) {id lo len et : Nat} {e : EN} {xs : List (T e)} (ho : objs id = some (.row et e xs)) {v : Value} (hv : RepS β ro (.win id lo len) v) :
    SrcAt w ro e ((xs.drop lo).take len) v := by
  cases hv with
  | win hb hl hc hm hn hsm =>
    rename_i h a cap
    obtain ⟨h', hb', h1, h2, h3⟩ := hs.obj id _ ho
    rw [hb] at hb'; cases hb'
    have hlen : ((xs.drop lo).take len).length = len := by simp; omega
    cases hblk : h.blk with
    | none =>
      obtain ⟨rfl, rfl⟩ := hn hblk
      have h0 : len = 0 := by omega
      subst h0
      exact .inl ⟨rfl, by simp⟩
    | some g =>
      simp only [hblk] at h3
      obtain ⟨cur, k1, k2, k3, k4, k5⟩ := h3
      obtain ⟨a', rfl, m1, m2, m3⟩ := hsm g hblk
      refine .inr ⟨a', cap, fun i j => (cur[(lo + i) * sz e + j]?).getD default, by rw [hlen], .inl m2, by omega, fun i y j l hi hj => ?_⟩
      have hi' : i < len := by
        have := (List.getElem?_eq_some_iff.1 hi).1
        omega
      have hx : xs[lo + i]? = some y := by
        rw [List.getElem?_take] at hi
        simpa [hi'] using hi
      obtain ⟨u, hu, hr⟩ := k5 _ _ _ _ hx hj
      have ha : a' = ⟨g, lo * h.esz, none⟩ := m3.resolve_left (by omega)
      subst ha
      simp only [hu, Option.getD_some]
      refine ⟨?_, hr⟩
      rw [show lo * h.esz + (i * sz e + j) = (lo + i) * sz e + j from by rw [h1, Nat.add_mul]; omega, cell_of_row w g _ cur et (0, 0) k1]
      exact hu

theorem own_src (hs : HSat w0 β ro D objs w) {id et : Nat} {e : EN} {xs : List (T e)} (ho : objs id = some (.row et e xs)) {v : Value} (hv : RepS β ro (.own id) v) : SrcAt w ro e xs v := by
  cases hv with
  | own hb =>
    rename_i h
    obtain ⟨h', hb', h1, h2, h3⟩ := hs.obj id _ ho
    rw [hb] at hb'; cases hb'
    cases hblk : h.blk with
    | none =>
      simp only [hblk] at h3
      exact .inl ⟨by simp [Hd.val, hblk], List.eq_nil_of_length_eq_zero (by omega)⟩
    | some g =>
      simp only [hblk] at h3
      obtain ⟨cur, k1, k2, k3, k4, k5⟩ := h3
      refine .inr ⟨⟨g, 0, none⟩, h.cap, fun i j => (cur[i * sz e + j]?).getD default, by simp [Hd.val, hblk, h2], .inl rfl, by omega, fun i y j l hi hj => ?_⟩
      obtain ⟨u, hu, hr⟩ := k5 i y j l hi hj
      simp only [hu, Option.getD_some]
      exact ⟨by rw [Nat.zero_add, cell_of_row w g _ cur et (0, 0) k1]; exact hu, hr⟩

theorem seqOf_run (hs : HSat w0 β ro D objs w) {x : SV} {xv : Value} (hx : RepS β ro x xv) {f : (e : EN) → List (T e) → OT Ans} {rs : List Nat} {r : Ans × List Nat}
    (h : (seqOf x f).run objs rs = some r) : ∃ e ys rs', (f e ys).run objs rs' = some r ∧ SrcAt w ro e ys xv := by
  unfold seqOf at h
  split at h
  · exact ⟨_, _, _, h, leaf_src hs hx⟩
  · cases hx with | nn hx' => exact ⟨_, _, _, h, leaf_src (β := β) hs (.leaf hx')⟩
  · rename_i id
    simp only [OT.run] at h
    cases ho : objs id with
    | none => simp [ho, OT.run] at h
    | some o =>
      cases o with
      | blk cs => simp [ho, OT.run] at h
      | row et e xs => simp only [ho] at h; exact ⟨_, _, _, h, own_src hs ho hx⟩
  · rename_i id lo len
    simp only [OT.run] at h
    cases ho : objs id with
    | none => simp [ho, OT.run] at h
    | some o =>
      cases o with
      | blk cs => simp [ho, OT.run] at h
      | row et e xs => simp only [ho] at h; exact ⟨_, _, _, h, win_src hs ho hx⟩
  · simp [OT.run] at h

/-- Elements' cells, one behind the other. -/
def flat (us : Nat → Nat → Value) (m s : Nat) : List Value := (List.range (m * s)).map fun k => us (k / s) (k % s)

theorem flat_length (us : Nat → Nat → Value) (m s : Nat) : (flat us m s).length = m * s := by simp [flat]

theorem flat_at {us : Nat → Nat → Value} {m s i j : Nat} (hi : i < m) (hj : j < s) : (flat us m s)[i * s + j]? = some (us i j) := by
  have hs : 0 < s := by omega
  have h1 : i * s + j < m * s := by
    have : (i + 1) * s ≤ m * s := Nat.mul_le_mul_right _ hi
    rw [Nat.add_mul, Nat.one_mul] at this
    omega
  have e1 : (i * s + j) / s = i := by rw [Nat.mul_comm, Nat.mul_add_div hs]; simp [Nat.div_eq_of_lt hj]
  have e2 : (i * s + j) % s = j := by rw [Nat.mul_comm, Nat.mul_add_mod]; exact Nat.mod_eq_of_lt hj
  simp [flat, h1, e1, e2]

theorem flat_inv {us : Nat → Nat → Value} {m s k : Nat} {v : Value} (h : (flat us m s)[k]? = some v) : ∃ i j, i < m ∧ j < s ∧ k = i * s + j ∧ v = us i j := by
  have hk : k < m * s := by
    have := (List.getElem?_eq_some_iff.1 h).1
    rwa [flat_length] at this
  have hs : 0 < s := by
    rcases Nat.eq_zero_or_pos s with h0 | h0
    · subst h0; simp at hk
    · exact h0
  refine ⟨k / s, k % s, (Nat.div_lt_iff_lt_mul hs).2 hk, Nat.mod_lt _ hs, by rw [Nat.mul_comm]; exact (Nat.div_add_mod k s).symm, ?_⟩
  simp [flat, hk] at h
  exact h.symm

/-- What is appended, as cells. -/
theorem src_news {e : EN} {ys : List (T e)} {a : Addr} {us : Nat → Nat → Value} (hsp : a.spot = none ∨ ys = [])
    (hc : ∀ (i : Nat) (y : T e) (j : Nat) (l : Leaf), ys[i]? = some y → (cells e y)[j]? = some l → w.cell? ⟨a.block, a.off + (i * sz e + j), none⟩ = some (us i j) ∧ Rep ro l (us i j)) :
    (∀ (j : Nat) (u : Value), (flat us ys.length (sz e))[j]? = some u → w.cell? (a.add j) = some u) ∧ ∀ u ∈ flat us ys.length (sz e), u.oneCell' = true := by
  have key : ∀ (k : Nat) (u : Value), (flat us ys.length (sz e))[k]? = some u → w.cell? (a.add k) = some u ∧ u.oneCell' = true := by
    intro k u hk
    obtain ⟨i, j, hi, hj, rfl, rfl⟩ := flat_inv hk
    have hl : j < (cells e ys[i]).length := by rw [cells_length]; exact hj
    obtain ⟨h1, h2⟩ := hc i ys[i] j _ (List.getElem?_eq_getElem hi) (List.getElem?_eq_getElem hl)
    exact ⟨by rw [addr_add (hsp.resolve_right (by rintro rfl; simp at hi))]; exact h1, h2.oneCell⟩
  refine ⟨fun j u hj => (key j u hj).1, fun u hu => ?_⟩
  obtain ⟨k, hk, rfl⟩ := List.getElem_of_mem hu
  exact (key k _ (List.getElem?_eq_getElem hk)).2

/-- An object's place after a slice of the function's own has grown. -/
theorem row_goes (hs : HSat w0 β ro D objs w) {nid el : Nat} {e : EN} {zs : List (T e)} (hn : ¬ D nid) {D' : Nat → Prop} (hD : ∀ id, D id → D' id) (hDn : D' nid)
    {w' : World} {v' : Value} {vals : List Value} (hown : w'.ownsRow 0 el (sz e) v' zs.length vals) {old : Option Nat} (hgrow : w.grownBy w' old)
    (hvals : ∀ (i : Nat) (z : T e) (j : Nat) (l : Leaf), zs[i]? = some z → (cells e z)[j]? = some l → ∃ u, vals[i * sz e + j]? = some u ∧ Rep ro l u)
    {objs1 : Heap} (hobjs : ∀ id x, objs1 id = some x → objs id = some x)
    (hold : ∀ g, old = some g → (ro g = none ∧ w0.heap.size ≤ g) ∧ ∀ id x hh, objs1 id = some x → β id = some hh → hh.blk ≠ some g)
    (hnew : ∀ g, v'.ownBlock = some g → old = some g ∨ w.heap.size ≤ g) :
    ∃ β' , RepS β' ro (.own nid) v' ∧ β.ext β' ∧ HSat w0 β' ro D' (putH objs1 nid (some (.row el e zs))) w' := by
  have hβn := hs.none_of_D hn
  obtain ⟨hlen, hcase⟩ := hown
  let hd : Hd := match v' with
    | .slice (some a) _ cap => ⟨some a.block, cap, zs.length, sz e⟩
    | _ => ⟨none, 0, 0, sz e⟩
  have hval : v' = hd.val ∧ ObjAt (β.add nid hd) ro w' hd (.row el e zs) ∧ (∀ g, hd.blk = some g → v'.ownBlock = some g ∧ g < w'.heap.size) := by
    rcases hcase with ⟨rfl, h0⟩ | ⟨g, cap, cur, rfl, _, hg, hc, hm, hcs, htake⟩
    · exact ⟨rfl, ⟨rfl, h0, rfl⟩, by simp [hd]⟩
    · refine ⟨rfl, ⟨rfl, rfl, ?_⟩, ?_⟩
      · refine ⟨cur, hg, hc, hm, hcs, fun i z j l hi hj => ?_⟩
        obtain ⟨u, hu, hr⟩ := hvals i z j l hi hj
        rw [← htake, List.getElem?_take] at hu
        split at hu
        · exact ⟨u, by simpa using hu, hr⟩
        · cases hu
      · intro g' hg'
        cases hg'
        exact ⟨rfl, (Array.getElem?_eq_some_iff.1 hg).1⟩
  obtain ⟨e1, e2, e3⟩ := hval
  refine ⟨β.add nid hd, by rw [e1]; exact .own (Pl.add_same _ _ _), Pl.ext_add hβn hd, ?_⟩
  refine hs.upd nid hd _ old ?_ (Pl.ext_add hβn hd) (Pl.add_same _ _ _) (fun id hh hb => Pl.add_or hb) ⟨hgrow.os, hgrow.tape, hgrow.output, hgrow.size⟩ (fun k hk hne => hgrow.block k hk hne)
    (fun g hg => (hold g hg).1) ?_ e2 ?_ hD hDn
  · intro id x hx
    by_cases he : id = nid
    · subst he; rw [putH_same] at hx; cases hx; exact .inl ⟨rfl, rfl⟩
    · rw [putH_other _ _ he] at hx; exact .inr ⟨he, hobjs id x hx⟩
  · intro g id x hh hor hne hx hb
    rw [putH_other _ _ hne] at hx
    rcases hor with h1 | h1
    · exact (hold g h1).2 id x hh hx hb
    · rcases hnew g (e3 g h1).1 with h2 | h2
      · exact (hold g h2).2 id x hh hx hb
      · intro hg
        have := hs.lt _ _ _ hb hg
        omega
  · intro g hg
    rcases hnew g (e3 g hg).1 with h2 | h2
    · exact ⟨(hold g h2).1.1, (e3 g hg).2, (hold g h2).1.2⟩
    · exact ⟨hs.ro_none h2, (e3 g hg).2, Nat.le_trans hs.base.size h2⟩

/-- The rows of the function's own, as the laws of append want them. -/
theorem own_ownsRow (hs : HSat w0 β ro D objs w) {id el : Nat} {e : EN} {xs : List (T e)} (ho : objs id = some (.row el e xs)) {v : Value} (hv : RepS β ro (.own id) v) :
    ∃ vals, w.ownsRow 0 el (sz e) v xs.length vals ∧
      (∀ (i : Nat) (x : T e) (j : Nat) (l : Leaf), xs[i]? = some x → (cells e x)[j]? = some l → ∃ u, vals[i * sz e + j]? = some u ∧ Rep ro l u) ∧
      ∀ g, v.ownBlock = some g → ∃ h, β id = some h ∧ h.blk = some g := by
  cases hv with
  | own hb =>
    rename_i h
    obtain ⟨h', hb', h1, h2, h3⟩ := hs.obj id _ ho
    rw [hb] at hb'; cases hb'
    cases hblk : h.blk with
    | none =>
      simp only [hblk] at h3
      have : xs = [] := List.eq_nil_of_length_eq_zero (by omega)
      subst this
      refine ⟨[], by simpa [Hd.val, hblk] using World.ownsRow_nil w 0 el (sz e), by simp, fun g hg => ?_⟩
      simp [Hd.val, hblk, Value.ownBlock] at hg
    | some g =>
      simp only [hblk] at h3
      obtain ⟨cur, k1, k2, k3, k4, k5⟩ := h3
      refine ⟨cur.toList.take (xs.length * sz e), ⟨?_, .inr ⟨g, h.cap, cur, by simp [Hd.val, hblk, h2], Nat.zero_le _, k1, by omega, k3, k4, rfl⟩⟩, fun i x j l hi hj => ?_, fun g' hg' => ?_⟩
      · have : xs.length * sz e ≤ cur.size := by rw [k4]; exact Nat.mul_le_mul_right _ (by omega)
        simp; omega
      · obtain ⟨u, hu, hr⟩ := k5 i x j l hi hj
        refine ⟨u, ?_, hr⟩
        have hix := (List.getElem?_eq_some_iff.1 hi).1
        have hjx : j < sz e := by rw [← cells_length e x]; exact (List.getElem?_eq_some_iff.1 hj).1
        have : (i + 1) * sz e ≤ xs.length * sz e := Nat.mul_le_mul_right _ hix
        rw [Nat.add_mul, Nat.one_mul] at this
        rw [List.getElem?_take, if_pos (by omega)]
        simpa using hu
      · simp [Hd.val, hblk, Value.ownBlock] at hg'
        subst hg'
        exact ⟨h, hb, hblk⟩

theorem big_le : big = 1073741824 := rfl

/-- Appending to a row of the function's own, or to nil. -/
theorem appendTo_sound (hs : HSat w0 β ro D objs w) {t ty el nid : Nat} {e : EN} {inf : TypeInfo} {z : Value} (ht : P.underlying t = some (.slice el)) (hi : P.info? el = some inf) (hz : inf.zero = some z)
    (hsize : inf.size = sz e) (hzs : z.cells.size = sz e) (hby : inf.bytes ≤ 131072) (hpos : 0 < sz e)
    {s : SV} {sv xv : Value} (hsv : RepS β ro s sv) {ys : List (T e)} (hsrc : SrcAt w ro e ys xv) (hn : ¬ D nid) {D' : Nat → Prop} (hD : ∀ id, D id → D' id) (hDn : D' nid)
    {rs rs' : List Nat} {v : SV} {u : List (Nat × Option SO)} (h : (appendTo nid el e s ys).run objs rs = some ((v, u), rs')) :
    Goes w0 β ro D' (putAll objs u) v ((Builtin.append_ #[t, t] ty #[sv, xv]).run P w) := by
  -- what is common: the slice s owns a row of zs
  have common : ∀ (zs : List (T e)) (vals : List Value) (objs1 : Heap), w.ownsRow 0 el (sz e) sv zs.length vals →
      (∀ (i : Nat) (x : T e) (j : Nat) (l : Leaf), zs[i]? = some x → (cells e x)[j]? = some l → ∃ u, vals[i * sz e + j]? = some u ∧ Rep ro l u) →
      zs.length + ys.length ≤ big → (∀ id x, objs1 id = some x → objs id = some x) →
      (∀ g, sv.ownBlock = some g → (ro g = none ∧ w0.heap.size ≤ g) ∧ ∀ id x hh, objs1 id = some x → β id = some hh → hh.blk ≠ some g) →
      Goes w0 β ro D' (putH objs1 nid (some (.row el e (zs ++ ys)))) (.own nid) ((Builtin.append_ #[t, t] ty #[sv, xv]).run P w) := by
    intro zs vals objs1 hown hvals hbig hobjs hold
    have hfin : ∀ (w' : World) (v' : Value) (vals' : List Value), w'.ownsRow 0 el (sz e) v' (zs ++ ys).length vals' → w.grownBy w' sv.ownBlock →
        (∀ (i : Nat) (x : T e) (j : Nat) (l : Leaf), (zs ++ ys)[i]? = some x → (cells e x)[j]? = some l → ∃ u, vals'[i * sz e + j]? = some u ∧ Rep ro l u) →
        (Builtin.append_ #[t, t] ty #[sv, xv]).run P w = .ok v' w' → (∀ g, v'.ownBlock = some g → sv.ownBlock = some g ∨ w.heap.size ≤ g) →
        Goes w0 β ro D' (putH objs1 nid (some (.row el e (zs ++ ys)))) (.own nid) ((Builtin.append_ #[t, t] ty #[sv, xv]).run P w) := by
      intro w' v' vals' a1 a2 a3 a4 a5
      obtain ⟨β', b1, b2, b3⟩ := row_goes hs hn hD hDn a1 a2 a3 hobjs hold a5
      exact ⟨v', w', β', ro, a4, b1, b2, ro.ext_refl, b3⟩
    rcases hsrc with ⟨rfl, rfl⟩ | ⟨a, cap, us, rfl, hsp, hml, hc⟩
    · refine hfin w sv vals (by simpa using hown) ⟨rfl, rfl, rfl, Nat.le_refl _, fun _ _ _ => rfl⟩ (by simpa using hvals) (run_append_owned_none w 0 t ty el inf (sz e) ht hi sv zs.length vals hown) (fun g hg => .inl hg)
    · obtain ⟨n1, n2⟩ := src_news (w := w) hsp hc
      have hb : (zs.length + ys.length) * inf.bytes ≤ 140737488355328 := by
        have := Nat.mul_le_mul hbig hby
        simp only [big_le] at this
        omega
      obtain ⟨v', w', r1, r2, r3, r4, r5⟩ := run_append_own_at (P := P) w 0 t ty el inf z (sz e) inf.bytes ht hi hz hsize rfl hzs hpos sv zs.length vals hown a ys.length cap (flat us ys.length (sz e))
        (flat_length _ _ _) n1 n2 (by simp only [big_le] at hbig; simp only [maxLen]; omega) hb (Nat.zero_le _)
      refine hfin w' v' (vals ++ flat us ys.length (sz e)) (by rw [List.length_append]; exact r2) r3 (fun i x j l hi' hj => ?_) r1 (fun g hg => ?_)
      · have hjx : j < sz e := by rw [← cells_length e x]; exact (List.getElem?_eq_some_iff.1 hj).1
        by_cases hlt : i < zs.length
        · rw [List.getElem?_append_left hlt] at hi'
          obtain ⟨u, hu, hr⟩ := hvals i x j l hi' hj
          exact ⟨u, by rw [List.getElem?_append_left (List.getElem?_eq_some_iff.1 hu).1]; exact hu, hr⟩
        · rw [List.getElem?_append_right (by omega)] at hi'
          have hiy := (List.getElem?_eq_some_iff.1 hi').1
          obtain ⟨_, hr⟩ := hc _ x j l hi' hj
          refine ⟨us (i - zs.length) j, ?_, hr⟩
          have hvl : vals.length = zs.length * sz e := hown.1
          rw [List.getElem?_append_right (by rw [hvl]; have := Nat.mul_le_mul_right (sz e) (show zs.length ≤ i by omega); omega), hvl]
          rw [show i * sz e + j - zs.length * sz e = (i - zs.length) * sz e + j from by
            have := Nat.mul_le_mul_right (sz e) (show zs.length ≤ i by omega)
            rw [Nat.sub_mul]; omega]
          exact flat_at hiy hjx
      · rcases r5 with r5 | r5
        · exact .inl (by rw [← r5]; exact hg)
        · rw [hg] at r5; cases r5; exact .inr (Nat.le_refl _)
  unfold appendTo at h
  split at h
  · rename_i id
    simp only [OT.run] at h
    cases ho : objs id with
    | none => simp [ho, OT.run] at h
    | some o =>
      cases o with
      | blk cs => simp [ho, OT.run] at h
      | row et' e' xs =>
        simp only [ho] at h
        split at h
        · rename_i hbeq
          have := Nat.eq_of_beq_eq_true hbeq
          subst this
          split at h
          · rename_i he
            subst he
            simp only [OT.run] at h
            split at h
            · rename_i hb
              cases h
              obtain ⟨vals, o1, o2, o3⟩ := own_ownsRow hs ho hsv
              refine common xs vals (putH objs id none) o1 o2 (of_decide_eq_true hb) (fun i x hx => ?_) (fun g hg => ?_)
              · by_cases hid : i = id
                · subst hid; rw [putH_same] at hx; cases hx
                · rwa [putH_other _ _ hid] at hx
              · obtain ⟨hh, p1, p2⟩ := o3 g hg
                refine ⟨⟨hs.apart id _ hh g ho p1 p2, hs.above id _ hh g ho p1 p2⟩, fun id' x hh' hx hb' hg' => ?_⟩
                by_cases hid : id' = id
                · subst hid; rw [putH_same] at hx; cases hx
                · rw [putH_other _ _ hid] at hx
                  exact hid (hs.inj _ _ _ _ _ _ _ hx ho hb' p1 hg' p2)
            · cases h
          · simp [OT.run] at h
        · simp [OT.run] at h
  · simp only [OT.run] at h
    split at h
    · rename_i hb
      cases h
      cases hsv with
      | lit _ =>
        have := common [] [] objs (World.ownsRow_nil w 0 el (sz e)) (by simp) (by simpa using of_decide_eq_true hb) (fun _ _ h => h) (by simp [Value.ownBlock])
        simpa [putAll] using this
    · cases h
  · simp [OT.run] at h

end Go.Cat
