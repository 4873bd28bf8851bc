/-
  My own text: a part of the proof.
  My own text: a part of the proof.
  My own text: a part of the proof.
  My own text: a part of the proof.
  My own text: a part of the proof.
  My own text: a part of the proof.
  My own text: a part of the proof.
  My own text: a part of the proof.
-/
import Derived.Test.YtiflikkmjeikdaaGreatC1
import Derived.Laws.StructEq
import Derived.ChangeKeysEq
import Derived.Maps.AppendAt
import Derived.Laws.IdiomCopy
import Derived.Laws.IdiomStrings
import Derived.Laws.BytesArg
set_option linter.unusedVariables false
set_option linter.unusedSimpArgs false
namespace Go.Cat
open Go
variable {P : Program} {w0 : Pt} {β : Pl} {ro : Snap} {D : Nat → Prop} {objs : Heap} {w : World}
theorem addr_add {a : Addr} (hs : a.spot = none) (j : Nat) : a.add j = ⟨a.block, a.off + j, none⟩ := by
  unfold Addr.add
  split
  · rename_i h; subst h; cases a; simp_all
  · cases a; simp_all
theorem run_und {t : TypeId} {d : TypeDesc} (h : P.underlying t = some d) : (underlying t).run P w = .ok d w := by
  simp [underlying, h]
theorem run_isAgg {t : TypeId} {d : TypeDesc} (h : P.underlying t = some d) : (isAgg t).run P w = .ok (isAggD d) w := by
  simp only [isAgg, Sem.run_bind, run_und h, Result.andThen_ok]
  cases d <;> rfl
theorem run_sizeOf {t : TypeId} {inf : TypeInfo} (h : P.info? t = some inf) : (sizeOf t).run P w = .ok inf.size w := by
  simp [sizeOf, typeInfo, h]
theorem run_zero {t : TypeId} {inf : TypeInfo} {z : Value} (h : P.info? t = some inf) (hz : inf.zero = some z) : (zeroValue t).run P w = .ok z w := by
  simp [zeroValue, typeInfo, h, hz]
theorem run_loadVar {t : TypeId} {i : TyI} (ht : TyOk P t i) {a : Addr} (hs : a.spot = none) (us : List Value) (hl : us.length = i.size)
    (hc : ∀ (j : Nat) (v : Value), us[j]? = some v → w.cell? ⟨a.block, a.off + j, none⟩ = some v) :
    (loadVar t a).run P w = .ok (if i.agg = true then .agg us.toArray else us.headD undef) w := by
  obtain ⟨inf, z, d, h1, h2, h3, _, _, _, _, _, h8, ⟨h9, _⟩, _⟩ := ht.info
  unfold loadVar
  simp only [Sem.run_bind, run_isAgg h2, Result.andThen_ok, Sem.run_ite]
  rw [h8]
  by_cases ha : i.agg = true
  · simp only [ha, if_true, run_sizeOf h1, Result.andThen_ok, h3, ← hl]
    rw [run_loadCells_list w a us (fun j v hj => by rw [addr_add hs]; exact hc j v hj)]
    rfl
  · have hf : i.agg = false := by simpa using ha
    have h1' := h9 hf
    cases us with
    | nil => simp at hl; omega
    | cons u r =>
      have := hc 0 u rfl
      simp only [Nat.add_zero] at this
      have hcell : w.cell? a = some u := by
        rw [← this]; cases a; simp_all
      simp [hf, run_load, hcell]
theorem loadCs_sound {t : TypeId} {i : TyI} (ht : TyOk P t i) {cs : List SV} {off : Nat} {rs : List Nat} {v : SV} {u : List (Nat × Option SO)} {rs' : List Nat}
    (h : (loadCs i cs off).run objs rs = some ((v, u), rs')) {us : List Value} (hr : RepL β ro cs us) {b o : Nat}
    (hc : ∀ (j : Nat) (x : Value), us[j]? = some x → w.cell? ⟨b, o + j, none⟩ = some x) :
    u = [] ∧ ∃ x, (loadVar t ⟨b, o + off, none⟩).run P w = .ok x w ∧ RepS β ro v x := by
  unfold loadCs at h
  simp only at h
  have hr' : RepL β ro (takeN cs off i.size) ((us.drop off).take i.size) := (hr.drop off).take i.size
  cases hb : Nat.beq (takeN cs off i.size).length i.size with
  | false => simp [hb, OT.run] at h
  | true =>
    simp only [hb] at h
    have hlen := Nat.eq_of_beq_eq_true hb
    have hl : ((us.drop off).take i.size).length = i.size := by rw [hr'.1, hlen]
    have hload := run_loadVar (P := P) (w := w) ht (a := ⟨b, o + off, none⟩) rfl ((us.drop off).take i.size) hl (fun j x hj => by
      rw [List.getElem?_take] at hj
      split at hj
      · rw [List.getElem?_drop] at hj
        have := hc (off + j) x hj
        simpa [Nat.add_assoc] using this
      · cases hj)
    cases ha : i.agg with
    | true =>
      simp only [aggOr, ha, ret, OT.run] at h
      cases h
      refine ⟨rfl, _, hload, ?_⟩
      simp only [ha, if_true]
      exact .agg hr'.1 hr'.2
    | false =>
      simp only [aggOr, ha] at h
      cases hk : takeN cs off i.size with
      | nil => simp [hk, OT.run] at h
      | cons c r =>
        cases r with
        | cons d r => simp [hk, OT.run] at h
        | nil =>
          simp only [hk, ret, OT.run] at h
          cases h
          rw [hk] at hr'
          obtain ⟨y, ys, h1, h2, h3⟩ := hr'.of_cons
          refine ⟨rfl, _, hload, ?_⟩
          simp only [ha, h1]
          exact h2
theorem row_elem (hs : HSat w0 β ro D objs w) {id et : Nat} {e : EN} {xs : List (T e)} {h : Hd} (ho : objs id = some (.row et e xs)) (hb : β id = some h) {g : Nat} (hg : h.blk = some g)
    {idx : Nat} (hi : idx < h.len) : ∃ (x : T e) (us : List Value), xs[idx]? = some x ∧ rd xs idx = x ∧ RepC ro (cells e x) us ∧
      ∀ (j : Nat) (u : Value), us[j]? = some u → w.cell? ⟨g, idx * h.esz + j, none⟩ = some u := by
  obtain ⟨h', hb', h1, h2, h3⟩ := hs.obj id _ ho
  rw [hb] at hb'; cases hb'
  simp only [hg] at h3
  obtain ⟨cur, k1, k2, k3, k4, k5⟩ := h3
  have hx : xs[idx]? = some xs[idx] := by rw [List.getElem?_eq_getElem]
  have hlt : idx < xs.length := by omega
  refine ⟨xs[idx], (List.range (sz e)).map (fun j => (cur[idx * sz e + j]?).getD default), by simp [hlt], by simp [rd, hlt], ⟨by simp [cells_length], fun j l v hl hv => ?_⟩, fun j u hu => ?_⟩
  · obtain ⟨u, hu, hr⟩ := k5 idx xs[idx] j l (by simp [hlt]) hl
    simp only [List.getElem?_map] at hv
    have hj : j < sz e := by rw [← cells_length e xs[idx]]; exact (List.getElem?_eq_some_iff.1 hl).1
    simp [hj, hu] at hv
    rw [← hv]; exact hr
  · simp only [List.getElem?_map] at hu
    by_cases hj : j < sz e
    · simp [hj] at hu
      have hl : j < (cells e xs[idx]).length := by rw [cells_length]; exact hj
      obtain ⟨y, hy, _⟩ := k5 idx xs[idx] j _ (by simp [hlt]) (List.getElem?_eq_getElem hl)
      rw [hy] at hu
      simp at hu
      rw [cell_of_row w g _ cur et (0, 0) k1, h1, hy, hu]
    · simp [hj] at hu
theorem loadT_sound (hs : HSat w0 β ro D objs w) {t : TypeId} {i : TyI} (ht : TyOk P t i) {p : SV} {pv : Value} (hp : RepS β ro p pv) {rs rs' : List Nat} {v : SV} {u : List (Nat × Option SO)}
    (h : (loadT i p).run objs rs = some ((v, u), rs')) : u = [] ∧ ∃ x, (Instr.loadAt t pv).run P w = .ok x w ∧ RepS β ro v x := by
  have sure : ∀ a, (Instr.loadAt t (.pointer (some a))).run P w = (loadVar t a).run P w := by
    intro a; simp [Instr.loadAt, Instr.sureAddr]
  unfold loadT at h
  cases hp with
  | bptr hb hg =>
    rename_i id off hd g
    simp only [OT.run] at h
    cases ho : objs id with
    | none => simp [ho, OT.run] at h
    | some o =>
      cases o with
      | row et e xs => simp [ho, OT.run] at h
      | blk cs =>
        simp only [ho] at h
        obtain ⟨h', hb', g', cur, et, k1, k2, k3⟩ := hs.obj id _ ho
        rw [hb] at hb'; cases hb'
        rw [hg] at k1; cases k1
        rw [sure]
        have := loadCs_sound (w := w) (b := g) (o := 0) ht h k3 (fun j x hj => by
          rw [Nat.zero_add, cell_of_row w g j cur et (0, 0) k2]
          simpa using hj)
        simpa using this
  | rptr us hc hr hsp =>
    rename_i ls a
    simp only at h
    rw [sure]
    have hRC : RepC ro ls ((List.range ls.length).map us) := by
      refine ⟨by simp, fun j l v hl hv => ?_⟩
      have hj : j < ls.length := (List.getElem?_eq_some_iff.1 hl).1
      simp [hj] at hv
      rw [← hv]; exact hr j l hl
    have := loadCs_sound (β := β) (w := w) (b := a.block) (o := a.off) ht h hRC.toL (fun j x hj => by
      have hj' : j < ls.length := by
        have := (List.getElem?_eq_some_iff.1 hj).1
        simpa using this
      simp [hj'] at hj
      rw [← hj]
      exact Snap.cell_le hs.snap (hc j _ (List.getElem?_eq_getElem hj')))
    have ha : (⟨a.block, a.off + 0, none⟩ : Addr) = a := by cases a; simp_all
    rw [ha] at this
    exact this
  | optr hb hg hi =>
    rename_i id idx off hd g
    simp only [OT.run] at h
    cases ho : objs id with
    | none => simp [ho, OT.run] at h
    | some o =>
      cases o with
      | blk cs => simp [ho, OT.run] at h
      | row et e xs =>
        simp only [ho] at h
        obtain ⟨x, us, h1, h2, h3, h4⟩ := row_elem hs ho hb hg hi
        rw [sure]
        rw [h2] at h
        exact loadCs_sound (w := w) (b := g) (o := idx * hd.esz) ht h h3.toL h4
  | leaf h' => simp [OT.run] at h
  | lit h' => simp [OT.run] at h
  | own hb => simp [OT.run] at h
  | win hb _ _ _ _ _ => simp [OT.run] at h
  | fn _ _ _ _ => simp [OT.run] at h
  | iface _ => simp [OT.run] at h
  | agg _ _ => simp [OT.run] at h
  | tup _ _ => simp [OT.run] at h
  | nn _ => simp [OT.run] at h
  | any v => simp [OT.run] at h
theorem run_box (t : TypeId) (x : Value) : (Instr.box t x).run P w = .ok (.pointer (some ⟨w.heap.size, 0, none⟩)) (w.alloc (.cells x.cells t)) := by
  simp [Instr.box, newVar, newRow]
theorem blk_goes (hs : HSat w0 β ro D objs w) {n : Nat} (hn : ¬ D n) {cs : List SV} {us : Array Value} (hr : RepL β ro cs us.toList) (t : TypeId) {D' : Nat → Prop} (hD : ∀ id, D id → D' id) (hDn : D' n) :
    Goes w0 β ro D' (putAll objs [(n, some (.blk cs))]) (.bptr n 0) (.ok (.pointer (some ⟨w.heap.size, 0, none⟩)) (w.alloc (.cells us t))) := by
  have hext := Pl.ext_add (h := (⟨some w.heap.size, 0, 0, 0⟩ : Hd)) (hs.none_of_D hn)
  refine ⟨_, _, β.add n ⟨some w.heap.size, 0, 0, 0⟩, ro, rfl, .bptr (Pl.add_same _ _ _) rfl, hext, ro.ext_refl, ?_⟩
  refine hs.fresh hn ⟨some w.heap.size, 0, 0, 0⟩ _ (base_alloc w _) (fun k hk => heap_alloc_old w _ k hk) (fun g hg => ?_) ?_ hD hDn
  · cases hg; exact ⟨Nat.le_refl _, by simp⟩
  · exact ⟨w.heap.size, us, t, rfl, heap_alloc_new w _, hr.mono hext ro.ext_refl⟩
theorem lits_rep {vs : List Value} (h : ∀ v ∈ vs, litOk v = true) : RepL β ro (vs.map .lit) vs := by
  refine ⟨by simp, fun i c u hc hu => ?_⟩
  rw [List.getElem?_map, hu] at hc
  cases hc
  exact .lit (.inl (h u (List.mem_of_getElem? hu)))
theorem alloc_goes (hs : HSat w0 β ro D objs w) {n : Nat} (hn : ¬ D n) {t : TypeId} {i : TyI} (ht : TyOk P t i) {D' : Nat → Prop} (hD : ∀ id, D id → D' id) (hDn : D' n) :
    Goes w0 β ro D' (putAll objs [(n, some (.blk i.zero))]) (.bptr n 0) ((Instr.alloc t true (.tuple #[])).run P w) := by
  obtain ⟨inf, z, d, h1, h2, h3, h4, h5, h6, h7, _⟩ := ht.info
  have hr : (Instr.alloc t true (.tuple #[])).run P w = .ok (.pointer (some ⟨w.heap.size, 0, none⟩)) (w.alloc (.cells z.cells t)) := by
    simp [Instr.alloc, run_zero h1 h4, newVar, newRow]
  rw [hr, ← h6]
  exact blk_goes hs hn (lits_rep h7) t hD hDn
theorem box_goes (hs : HSat w0 β ro D objs w) {n : Nat} (hn : ¬ D n) {t : TypeId} {x : SV} {xv : Value} (hx : RepS β ro x xv) (hne : x ≠ .any) {D' : Nat → Prop} (hD : ∀ id, D id → D' id) (hDn : D' n) :
    Goes w0 β ro D' (putAll objs [(n, some (.blk x.cells))]) (.bptr n 0) ((Instr.box t xv).run P w) := by
  rw [run_box]
  exact blk_goes hs hn (cells_rep hx hne).1 t hD hDn
end Go.Cat

namespace Go.Cat
open Go
variable {P : Program} {w0 : Pt} {β : Pl} {ro : Snap} {D : Nat → Prop} {objs : Heap} {w : World}
theorem layN_length {α : Type} : ∀ (xs l : List α) (off : Nat), (layN l off xs).length = l.length
  | [], _, _ => rfl
  | x :: xs, l, off => by simp only [layN]; rw [layN_length xs]; simp
theorem layN_eq {α : Type} : ∀ (xs l : List α) (off : Nat), off + xs.length ≤ l.length → layN l off xs = l.take off ++ xs ++ l.drop (off + xs.length)
  | [], l, off, _ => by simp [layN]
  | x :: xs, l, off, h => by
    simp only [layN]
    simp only [List.length_cons] at h
    rw [layN_eq xs (l.set off x) (off + 1) (by simp; omega)]
    apply List.ext_getElem?
    intro j
    simp only [List.getElem?_append, List.length_append, List.length_take, List.length_set, List.getElem?_take, List.getElem?_drop, List.getElem?_set, List.length_cons]
    by_cases h1 : j < off
    · have e1 : min off l.length = off := by omega
      have e2 : min (off + 1) l.length = off + 1 := by omega
      simp [h1, e1, e2, show j < off + 1 by omega, show ¬ off = j by omega, show j < off + 1 + xs.length by omega, show j < off + (xs.length + 1) by omega]
    · have e1 : min off l.length = off := by omega
      have e2 : min (off + 1) l.length = off + 1 := by omega
      by_cases h2 : j = off
      · subst h2
        simp [e1, e2, show j < j + 1 + xs.length by omega, show j < j + (xs.length + 1) by omega, show j < l.length by omega]
      · by_cases h3 : j < off + 1 + xs.length
        · simp [e1, e2, h1, h3, show ¬ j < off + 1 by omega, show j < off + (xs.length + 1) by omega]
          rw [show j - off = (j - (off + 1)) + 1 by omega]
          simp
        · simp only [e1, e2, h3, show ¬ j < off + (xs.length + 1) by omega, if_false]
          rw [show off + 1 + xs.length + (j - (off + 1 + xs.length)) = j by omega, show off + (xs.length + 1) + (j - (off + (xs.length + 1))) = j by omega]
          simp [show ¬ off = j by omega]
theorem layN_get {α : Type} (xs l : List α) (off j : Nat) (h : off + xs.length ≤ l.length) :
    (layN l off xs)[j]? = if off ≤ j ∧ j < off + xs.length then xs[j - off]? else l[j]? := by
  rw [layN_eq xs l off h]
  simp only [List.getElem?_append, List.length_append, List.length_take, List.getElem?_take, List.getElem?_drop]
  have e1 : min off l.length = off := by omega
  rw [e1]
  by_cases h1 : j < off
  · simp [h1, show j < off + xs.length by omega, show ¬ off ≤ j by omega]
  · by_cases h2 : j < off + xs.length
    · simp [h1, h2, show off ≤ j by omega]
    · simp only [h1, h2, if_false, and_false]
      rw [show off + xs.length + (j - (off + xs.length)) = j by omega]
theorem cellSV_one {c : SV} (h : cellSV c = true) {u : Value} (hr : RepS β ro c u) : u.oneCell' = true := by
  cases hr with
  | leaf h' => exact h'.oneCell
  | lit h' => cases u <;> simp_all [cellSV, Value.oneCell']
  | own hb => unfold Hd.val; split <;> rfl
  | win _ _ _ _ _ _ => rfl
  | rptr _ _ _ _ => rfl
  | optr _ _ _ => rfl
  | bptr _ _ => rfl
  | fn _ _ _ _ => rfl
  | iface _ => rfl
  | agg _ _ => simp [cellSV] at h
  | tup _ _ => simp [cellSV] at h
  | nn _ => rfl
  | any v => simp [cellSV] at h
theorem cells_one {cs : List SV} {us : List Value} (h : cs.all cellSV = true) (hr : RepL β ro cs us) : ∀ u ∈ us, u.oneCell' = true := by
  intro u hu
  obtain ⟨i, hi, rfl⟩ := List.getElem_of_mem hu
  have hi' : i < cs.length := by rw [← hr.1]; exact hi
  exact cellSV_one (List.all_eq_true.1 h _ (List.getElem_mem hi')) (hr.2 i cs[i] _ (List.getElem?_eq_getElem hi') (List.getElem?_eq_getElem hi))
theorem run_storeVar {t : TypeId} {i : TyI} (ht : TyOk P t i) {x : Value} (hx : x.cells.size = i.size) (h1 : ∀ u ∈ x.cells.toList, u.oneCell' = true) {g o : Nat} {cur : Array Value} {et : TypeId}
    (hg : w.heap[g]? = some (.cells cur et (0, 0))) (hfit : o + i.size ≤ cur.size) :
    (Instr.storeAt t (.pointer (some ⟨g, o, none⟩)) x).run P w = .ok () (w.setRow g (cur.toList.take o ++ x.cells.toList ++ cur.toList.drop (o + i.size)).toArray) := by
  obtain ⟨inf, z, d, k1, k2, k3, _⟩ := ht.info
  have hs := run_storeCells_at P g o et x.cells.toList 0 cur w hg (by simpa [hx] using hfit) h1
  simp only [Nat.add_zero, Array.length_toList, hx] at hs
  simp [Instr.storeAt, Instr.sureAddr, storeVar, run_sizeOf k1, k3, hx, hs]
theorem storeT_sound (hs : HSat w0 β ro D objs w) {t : TypeId} {i : TyI} (ht : TyOk P t i) {p v : SV} {pv xv : Value} (hp : RepS β ro p pv) (hv : RepS β ro v xv) {rs rs' : List Nat} {a : SV} {u : List (Nat × Option SO)}
    (h : (storeT i p v).run objs rs = some ((a, u), rs')) {D' : Nat → Prop} (hD : ∀ id, D id → D' id) :
    a = .lit (.tuple #[]) ∧ ∃ w' ro', (Instr.storeAt t pv xv).run P w = .ok () w' ∧ ro.ext ro' ∧ HSat w0 β ro' D' (putAll objs u) w' := by
  unfold storeT at h
  cases hc : Nat.beq v.cells.length i.size && v.cells.all cellSV with
  | false => simp [hc, OT.run] at h
  | true =>
    simp only [hc] at h
    simp only [Bool.and_eq_true] at hc
    have hlen := Nat.eq_of_beq_eq_true hc.1
    have hne : v ≠ .any := by rintro rfl; simp [SV.cells, cellSV] at hc
    have hL := (cells_rep hv hne).1
    have hsz : xv.cells.size = i.size := by rw [← hlen, ← hL.1]; simp
    have hone := cells_one hc.2 hL
    cases hp with
    | bptr hb hg =>
      rename_i id off hd g
      simp only [OT.run] at h
      cases ho : objs id with
      | none => simp [ho, OT.run] at h
      | some o =>
        cases o with
        | row et e xs => simp [ho, OT.run] at h
        | blk cs =>
          simp only [ho] at h
          cases hle : Nat.ble (off + i.size) cs.length with
          | false => simp [hle, OT.run] at h
          | true =>
            simp only [hle, OT.run] at h
            cases h
            have hfit := Nat.le_of_ble_eq_true hle
            obtain ⟨h', hb', g', cur, et, k1, k2, k3⟩ := hs.obj id _ ho
            rw [hb] at hb'; cases hb'
            rw [hg] at k1; cases k1
            have hcs : cur.size = cs.length := by rw [← k3.1]; simp
            refine ⟨rfl, _, ro, run_storeVar ht hsz hone k2 (by omega), ro.ext_refl, ?_⟩
            refine hs.turn ho hb hg (base_setRow w _ _) (fun k _ hk => setRow_other w g k _ hk) ?_ hD
            refine ⟨g, _, et, hg, setRow_heap w g cur _ et _ k2, ?_⟩
            rw [layN_eq v.cells cs off (by omega), hlen]
            exact ((k3.take off).append hL).append (k3.drop (off + i.size))
    | optr hb hg hi =>
      rename_i id idx off hd g
      simp only [OT.run] at h
      cases ho : objs id with
      | none => simp [ho, OT.run] at h
      | some o =>
        cases o with
        | blk cs => simp [ho, OT.run] at h
        | row et e xs =>
          simp only [ho] at h
          obtain ⟨ls, is, rs1, h1, h2⟩ := toLeaves_run h
          obtain ⟨a1, a2⟩ := leavesOf_rep hs h1 hL
          cases han : is.any (Nat.beq id) || !Nat.ble (off + i.size) (sz e) with
          | true => simp [han, OT.run] at h2
          | false =>
            simp only [han] at h2
            simp only [Bool.or_eq_false_iff, Bool.not_eq_false'] at han
            have hid : id ∉ is := by
              intro hm
              have := List.any_eq_false.1 han.1 id hm
              simp at this
            have hle0 := Nat.le_of_ble_eq_true han.2
            cases hof : ofCells e (layN (cells e (rd xs idx)) off ls) with
            | none => simp [hof, onSome, OT.run] at h2
            | some y =>
              simp only [hof, onSome, OT.run] at h2
              cases h2
              have hfz := hs.freeze is a1
              have hx := Snap.ext_plus hs.snap β is
              obtain ⟨h', hb', k1, k2, k3⟩ := hs.obj id _ ho
              rw [hb] at hb'; cases hb'
              simp only [hg] at k3
              obtain ⟨cur, m1, m2, m3, m4, m5⟩ := k3
              have hlx : idx < xs.length := by omega
              have hrd : rd xs idx = xs[idx] := by simp [rd, hlx]
              have hRC := a2 is (fun _ h => h)
              have hll : ls.length = i.size := by rw [← hRC.1]; simpa using hsz
              have hle : off + ls.length ≤ sz e := by omega
              rw [putAll_append]
              have hoid : putAll objs (freezeAll is) id = some (.row et e xs) := by rw [putAll_freeze, if_neg hid]; exact ho
              have hcl := ofCells_cells _ _ _ hof
              have hcx : (cells e (rd xs idx)).length = sz e := cells_length _ _
              have hbound : (idx + 1) * sz e ≤ cur.size := by rw [m4]; exact Nat.mul_le_mul_right _ (by omega)
              have hfit : idx * hd.esz + off + i.size ≤ cur.size := by
                rw [k1, Nat.add_mul, Nat.one_mul] at *
                omega
              refine ⟨rfl, _, _, run_storeVar ht hsz hone m1 hfit, hx, ?_⟩
              refine hfz.turn hoid hb hg (base_setRow w _ _) (fun k _ hk => setRow_other w g k _ hk) ?_ hD
              refine ⟨k1, by simpa using k2, ?_⟩
              simp only [hg]
              refine ⟨_, setRow_heap w g cur _ et _ m1, m2, m3, ?_, ?_⟩
              · simp only [List.size_toArray, List.length_append, List.length_take, List.length_drop, Array.length_toList, hsz]
                omega
              · intro n x j l hn hj
                have hj' : j < sz e := by rw [← cells_length e x]; exact (List.getElem?_eq_some_iff.1 hj).1
                have hnx : n < xs.length := by
                  have := (List.getElem?_eq_some_iff.1 hn).1
                  simpa using this
                have hnb : (n + 1) * sz e ≤ cur.size := by rw [m4]; exact Nat.mul_le_mul_right _ (by omega)
                rw [Nat.add_mul, Nat.one_mul] at hnb
                have key : (cur.toList.take (idx * hd.esz + off) ++ xv.cells.toList ++ cur.toList.drop (idx * hd.esz + off + i.size)).toArray[n * sz e + j]? =
                    if idx * sz e + off ≤ n * sz e + j ∧ n * sz e + j < idx * sz e + off + i.size then xv.cells[n * sz e + j - (idx * sz e + off)]? else cur[n * sz e + j]? := by
                  rw [k1] at hfit ⊢
                  have := layN_get xv.cells.toList cur.toList (idx * sz e + off) (n * sz e + j) (by simpa [hsz] using hfit)
                  rw [layN_eq _ _ _ (by simpa [hsz] using hfit)] at this
                  simp only [Array.length_toList, hsz] at this
                  simpa using this
                rw [key]
                by_cases hni : n = idx
                · subst hni
                  rw [List.getElem?_set_self hnx] at hn
                  cases hn
                  rw [hcl, layN_get ls _ off j (by omega), hll] at hj
                  by_cases hin : off ≤ j ∧ j < off + i.size
                  · rw [if_pos hin] at hj
                    rw [if_pos (by omega), show n * sz e + j - (n * sz e + off) = j - off by omega]
                    have hlt : j - off < xv.cells.size := by omega
                    refine ⟨xv.cells[j - off], by simp [hlt], hRC.2 (j - off) l _ hj (by simp [hlt])⟩
                  · rw [if_neg hin] at hj
                    rw [if_neg (by omega)]
                    rw [hrd] at hj
                    obtain ⟨u, hu, hr⟩ := m5 n xs[n] j l (by simp [hnx]) hj
                    exact ⟨u, hu, hr.mono hx⟩
                · rw [List.getElem?_set_ne (Ne.symm hni)] at hn
                  have hout : ¬ (idx * sz e + off ≤ n * sz e + j ∧ n * sz e + j < idx * sz e + off + i.size) := by
                    rcases Nat.lt_or_gt_of_ne hni with hlt | hgt
                    · have : (n + 1) * sz e ≤ idx * sz e := Nat.mul_le_mul_right _ hlt
                      rw [Nat.add_mul, Nat.one_mul] at this
                      omega
                    · have : (idx + 1) * sz e ≤ n * sz e := Nat.mul_le_mul_right _ hgt
                      rw [Nat.add_mul, Nat.one_mul] at this
                      omega
                  rw [if_neg hout]
                  obtain ⟨u, hu, hr⟩ := m5 n x j l hn hj
                  exact ⟨u, hu, hr.mono hx⟩
    | leaf h' => simp [OT.run] at h
    | lit h' => simp [OT.run] at h
    | own hb => simp [OT.run] at h
    | win hb _ _ _ _ _ => simp [OT.run] at h
    | rptr _ _ _ _ => simp [OT.run] at h
    | fn _ _ _ _ => simp [OT.run] at h
    | iface _ => simp [OT.run] at h
    | agg _ _ => simp [OT.run] at h
    | tup _ _ => simp [OT.run] at h
    | nn _ => simp [OT.run] at h
    | any v => simp [OT.run] at h
end Go.Cat

namespace Go.Cat
open Go
variable {P : Program} {E : Env} {w0 : Pt} {β : Pl} {ro : Snap} {D : Nat → Prop} {objs : Heap} {w : World}
def Tells (P : Program) (β : Pl) (ro : Snap) (v : SV) (u : List (Nat × Option SO)) (s : Sem Value) (w : World) : Prop :=
  u = [] ∧ ∃ x, s.run P w = .ok x w ∧ RepS β ro v x
theorem fieldAddrT_sound (hE : TysOk P E) {t f : Nat} {p : SV} {pv : Value} (hp : RepS β ro p pv) {rs rs' : List Nat} {v : SV} {u : List (Nat × Option SO)}
    (h : (fieldAddrT E t p f).run objs rs = some ((v, u), rs')) : Tells P β ro v u (Instr.fieldAt t pv f) w := by
  unfold fieldAddrT at h
  split at h
  · rename_i i fs _ _ _ _ hl
    obtain ⟨inf, z, d, h1, h2, _, _, _, _, _, _, _, _, ⟨fields, rfl, hf, hsz, _⟩, _⟩ := (hE.look hl).info
    split at h
    · rename_i off ft hoff
      rw [← hf, List.getElem?_map] at hoff
      cases hq : fields.toList[f]? with
      | none => simp [hq] at hoff
      | some fl =>
        simp [hq] at hoff
        obtain ⟨rfl, rfl⟩ := hoff
        obtain ⟨fi, hfi, hn0⟩ := hsz fl (List.mem_of_getElem? hq)
        have hq' : fields[f]? = some fl := by simpa using hq
        have run : ∀ a : Addr, (Instr.fieldAt t (.pointer (some a)) f).run P w = .ok (.pointer (some (a.add fl.offset))) w := by
          intro a
          simp [Instr.fieldAt, run_und h2, hq', Instr.sureAddr, fieldPlace, run_sizeOf hfi, hn0]
        split at h
        · simp only [ret, OT.run] at h; cases h
          cases hp with
          | bptr hb hg => rw [Tells, run, addr_add rfl]; exact ⟨rfl, _, rfl, .bptr hb hg⟩
        · simp only [ret, OT.run] at h; cases h
          cases hp with
          | rptr us hc hr hsp =>
            rw [Tells, run, addr_add hsp]
            refine ⟨rfl, _, rfl, .rptr (fun j => us (fl.offset + j)) (fun j l hj => ?_) (fun j l hj => hr _ _ (by simpa using hj)) rfl⟩
            have := hc (fl.offset + j) l (by simpa using hj)
            simpa [Nat.add_assoc] using this
        · simp only [ret, OT.run] at h; cases h
          cases hp with
          | optr hb hg hi => rw [Tells, run, addr_add rfl]; exact ⟨rfl, _, rfl, by simpa [Nat.add_assoc] using RepS.optr (off := _ + fl.offset) hb hg hi⟩
        · simp [OT.run] at h
    · simp [OT.run] at h
  · simp [OT.run] at h
theorem run_part {t : TypeId} {i : TyI} (ht : TyOk P t i) {us : List Value} {off : Nat} (hfit : off + i.size ≤ us.length) :
    (part t us.toArray off).run P w = .ok (if i.agg = true then .agg ((us.drop off).take i.size).toArray else ((us.drop off).take i.size).headD undef) w := by
  obtain ⟨inf, z, d, h1, h2, h3, _, _, _, _, _, h8, ⟨h9, h9'⟩, _⟩ := ht.info
  unfold part
  simp only [Sem.run_bind, run_isAgg h2, Result.andThen_ok, Sem.run_ite, h8]
  by_cases ha : i.agg = true
  · simp only [ha, if_true, run_sizeOf h1, Result.andThen_ok, h3, Sem.run_pure]
    congr 2
    apply Array.ext'
    simp
  · have hf : i.agg = false := by simpa using ha
    have h1' := h9 hf
    have hlt : off < us.length := by omega
    simp [hf, hlt, h1', List.head?_take, List.head?_drop]
theorem loadCs_part {t : TypeId} {i : TyI} (ht : TyOk P t i) {cs : List SV} {off : Nat} {rs rs' : List Nat} {v : SV} {u : List (Nat × Option SO)}
    (h : (loadCs i cs off).run objs rs = some ((v, u), rs')) {us : List Value} (hr : RepL β ro cs us) : Tells P β ro v u (part t us.toArray off) w := by
  unfold loadCs at h
  simp only at h
  have hr' : RepL β ro (takeN cs off i.size) ((us.drop off).take i.size) := (hr.drop off).take i.size
  cases hb : Nat.beq (takeN cs off i.size).length i.size with
  | false => simp [hb, OT.run] at h
  | true =>
    simp only [hb] at h
    have hlen := Nat.eq_of_beq_eq_true hb
    obtain ⟨inf, z, d, h1, h2, h3, _, _, _, _, _, h8, ⟨h9, h9'⟩, _⟩ := ht.info
    cases ha : i.agg with
    | true =>
      simp only [aggOr, ha, ret, OT.run] at h
      cases h
      have hfit : off + i.size ≤ us.length := by
        rw [hr.1]
        simp only [takeN, List.length_take, List.length_drop] at hlen
        omega
      rw [Tells, run_part ht hfit, if_pos ha]
      exact ⟨rfl, _, rfl, .agg hr'.1 hr'.2⟩
    | false =>
      have h0 := h9 ha
      have hfit : off + i.size ≤ us.length := by
        rw [hr.1]
        simp only [takeN, List.length_take, List.length_drop] at hlen
        omega
      rw [Tells, run_part ht hfit]
      simp only [aggOr, ha] at h
      cases hk : takeN cs off i.size with
      | nil => simp [hk, OT.run] at h
      | cons c r =>
        cases r with
        | cons d r => simp [hk, OT.run] at h
        | nil =>
          simp only [hk, ret, OT.run] at h
          cases h
          rw [hk] at hr'
          obtain ⟨y, ys, k1, k2, k3⟩ := hr'.of_cons
          rw [if_neg (by simp [ha]), k1]
          exact ⟨rfl, _, rfl, k2⟩
theorem fieldT_sound (hE : TysOk P E) {t f : Nat} {x : SV} {xv : Value} (hx : RepS β ro x xv) {rs rs' : List Nat} {v : SV} {u : List (Nat × Option SO)}
    (h : (fieldT E t x f).run objs rs = some ((v, u), rs')) : Tells P β ro v u (Instr.field t xv f) w := by
  unfold fieldT at h
  split at h
  · rename_i i fs _ _ _ _ hl
    obtain ⟨inf, z, d, h1, h2, _, _, _, _, _, _, _, _, ⟨fields, rfl, hf, hsz, _⟩, _⟩ := (hE.look hl).info
    split at h
    · rename_i off ft hoff
      rw [← hf, List.getElem?_map] at hoff
      cases hq : fields.toList[f]? with
      | none => simp [hq] at hoff
      | some fl =>
        simp [hq] at hoff
        obtain ⟨rfl, rfl⟩ := hoff
        have hq' : fields[f]? = some fl := by simpa using hq
        split at h
        · rename_i ti cs hl'
          cases hx with
          | agg hx1 hx2 =>
            rename_i us
            obtain ⟨a1, y, a2, a3⟩ := loadCs_part (P := P) (w := w) (hE.look hl') h ⟨hx1, hx2⟩
            exact ⟨a1, y, by simp [Instr.field, run_und h2, hq', asAgg, a2], a3⟩
        · simp [OT.run] at h
    · simp [OT.run] at h
  · simp [OT.run] at h
theorem elemIs_spec (hE : TysOk P E) {t : Nat} {e : EN} (h : elemIs E t e = true) : ∃ el inf, P.underlying t = some (.slice el) ∧ P.info? el = some inf ∧ inf.size = sz e := by
  unfold elemIs at h
  split at h
  · rename_i i el _ _ _ _ hl
    obtain ⟨inf, z, d, h1, h2, _, _, _, _, _, _, _, _, rfl, _⟩ := (hE.look hl).info
    split at h
    · rename_i s hs
      obtain ⟨j, hj, rfl⟩ := sizeT_look hs
      obtain ⟨inf', z', d', k1, k2, k3, _⟩ := (hE.look hj).info
      exact ⟨el, inf', h2, k1, k3.trans (Nat.eq_of_beq_eq_true h)⟩
    · cases h
  · cases h
theorem run_indexAt_sl {t el : TypeId} {inf : TypeInfo} (ht : P.underlying t = some (.slice el)) (hi : P.info? el = some inf) {k : IntKind} {n : Int} {a : Addr} {len cap : Nat} (h0 : 0 ≤ n) (h1 : n < len) :
    (Instr.indexAt t (.slice (some a) len cap) (.int k n)).run P w = .ok (.pointer (some (a.add (n.toNat * inf.size)))) w := by
  simp [Instr.indexAt, asIntOf, run_und ht, h0, h1, run_sizeOf hi]
theorem run_indexAt_arr {t el : TypeId} {len : Nat} {inf : TypeInfo} (ht : P.underlying t = some (.array len el)) (hi : P.info? el = some inf) {k : IntKind} {n : Int} {a : Addr} (h0 : 0 ≤ n) (h1 : n < len) :
    (Instr.indexAt t (.pointer (some a)) (.int k n)).run P w = .ok (.pointer (some (a.add (n.toNat * inf.size)))) w := by
  simp [Instr.indexAt, asIntOf, run_und ht, h0, h1, run_sizeOf hi, Instr.sureAddr]
theorem indexAddrT_sound (hE : TysOk P E) (hs : HSat w0 β ro D objs w) {t : Nat} {x i : SV} {xv iv : Value} (hx : RepS β ro x xv) (hi : RepS β ro i iv) {rs rs' : List Nat} {v : SV} {u : List (Nat × Option SO)}
    (h : (indexAddrT E t x i).run objs rs = some ((v, u), rs')) : Tells P β ro v u (Instr.indexAt t xv iv) w := by
  unfold indexAddrT at h
  cases hI : asI i with
  | none => simp [hI, OT.run] at h
  | some p =>
    obtain ⟨k, n, l⟩ := p
    obtain ⟨rfl, _⟩ := asI_rep hI hi
    simp only [hI] at h
    split at h
    · rename_i e xs
      cases he : elemIs E t e with
      | false => simp [he, OT.run] at h
      | true =>
        obtain ⟨el, inf, t1, t2, t3⟩ := elemIs_spec hE he
        simp only [he, ret, OT.run] at h
        split at h
        · rename_i hg
          cases h
          obtain ⟨hg1, hg2⟩ := of_decide_eq_true hg
          cases hx with
          | leaf hl =>
            cases hl with
            | nil e => simp at hg2; omega
            | sl e xs a cap us hsp hc hm hcell hrep =>
              rw [Tells, run_indexAt_sl t1 t2 hg1 hg2, addr_add (hsp.resolve_right (by omega))]
              have hlt : n.toNat < xs.length := by omega
              have hrd : rd xs n.toNat = xs[n.toNat] := by simp [rd, hlt]
              rw [hrd]
              refine ⟨rfl, _, rfl, .rptr (us n.toNat) (fun j l hj => ?_) (fun j l hj => hrep _ _ _ _ (List.getElem?_eq_getElem hlt) hj) rfl⟩
              have := hcell n.toNat _ j l (List.getElem?_eq_getElem hlt) hj
              simpa [t3, Nat.add_assoc] using this
        · cases h
    · rename_i id
      simp only [OT.run] at h
      cases ho : objs id with
      | none => simp [ho, OT.run] at h
      | some o =>
        cases o with
        | blk cs => simp [ho, OT.run] at h
        | row et e xs =>
          simp only [ho] at h
          cases he : elemIs E t e with
          | false => simp [he, OT.run] at h
          | true =>
            obtain ⟨el, inf, t1, t2, t3⟩ := elemIs_spec hE he
            simp only [he, ret, OT.run] at h
            split at h
            · rename_i hg
              cases h
              obtain ⟨hg1, hg2⟩ := of_decide_eq_true hg
              cases hx with
              | own hb =>
                rename_i hd
                obtain ⟨h', hb', k1, k2, k3⟩ := hs.obj id _ ho
                rw [hb] at hb'; cases hb'
                cases hblk : hd.blk with
                | none => simp only [hblk] at k3; omega
                | some g =>
                  simp only [Hd.val, hblk]
                  rw [Tells, run_indexAt_sl t1 t2 hg1 (by omega), addr_add rfl]
                  refine ⟨rfl, _, rfl, ?_⟩
                  have := RepS.optr (ro := ro) (off := 0) hb hblk (idx := n.toNat) (by omega)
                  simpa [k1, t3] using this
            · cases h
    · rename_i id lo len
      simp only [OT.run] at h
      cases ho : objs id with
      | none => simp [ho, OT.run] at h
      | some o =>
        cases o with
        | blk cs => simp [ho, OT.run] at h
        | row et e xs =>
          simp only [ho] at h
          cases he : elemIs E t e with
          | false => simp [he, OT.run] at h
          | true =>
            obtain ⟨el, inf, t1, t2, t3⟩ := elemIs_spec hE he
            simp only [he, ret, OT.run] at h
            split at h
            · rename_i hg
              cases h
              obtain ⟨hg1, hg2⟩ := of_decide_eq_true hg
              cases hx with
              | win hb hl hc hm hn hsm =>
                rename_i hd a cap
                obtain ⟨h', hb', k1, k2, k3⟩ := hs.obj id _ ho
                rw [hb] at hb'; cases hb'
                cases hblk : hd.blk with
                | none => simp only [hblk] at k3; omega
                | some g =>
                  obtain ⟨a', rfl, m1, m2, m3⟩ := hsm g hblk
                  have ha := m3.resolve_left (by omega)
                  subst ha
                  rw [Tells, run_indexAt_sl t1 t2 hg1 (by omega), addr_add rfl]
                  refine ⟨rfl, _, rfl, ?_⟩
                  have := RepS.optr (ro := ro) (off := 0) hb hblk (idx := lo + n.toNat) (by omega)
                  simpa [k1, t3, Nat.add_mul] using this
            · cases h
    · rename_i id off
      split at h
      · rename_i len el _ _ _ _ hl
        obtain ⟨inf, z, d, h1, h2, _, _, _, _, _, _, _, _, rfl, _⟩ := (hE.look hl).info
        split at h
        · rename_i s hg hsz
          simp only [ret, OT.run] at h; cases h
          obtain ⟨hg1, hg2⟩ := of_decide_eq_true hg
          obtain ⟨j, hj, rfl⟩ := sizeT_look hsz
          obtain ⟨inf', z', d', q1, q2, q3, _⟩ := (hE.look hj).info
          cases hx with
          | bptr hb hgg =>
            rw [Tells, run_indexAt_arr h2 q1 hg1 hg2, addr_add rfl, q3]
            exact ⟨rfl, _, rfl, .bptr hb hgg⟩
        · simp [OT.run] at h
      · simp [OT.run] at h
    · simp [OT.run] at h
theorem firstN_get {e : EN} (h1 : sz e = 1) (xs : List (T e)) : ∀ (n i j : Nat) (l : Leaf), (firstN e xs n i)[j]? = some l → j < n ∧ (cells e (rd xs (i + j)))[0]? = some l
  | 0, _, _, _, h => by simp [firstN] at h
  | n + 1, i, j, l, h => by
    have hl : (cells e (rd xs i)).length = 1 := (cells_length e _).trans h1
    simp only [firstN] at h
    cases j with
    | zero =>
      rw [List.getElem?_append_left (by omega)] at h
      exact ⟨by omega, h⟩
    | succ j =>
      rw [List.getElem?_append_right (by omega), hl, Nat.add_sub_cancel] at h
      obtain ⟨a, b⟩ := firstN_get h1 xs n (i + 1) j l h
      rw [show i + 1 + j = i + (j + 1) from by omega] at b
      exact ⟨by omega, b⟩
theorem arrayAtT_sound (hE : TysOk P E) {t : Nat} {x : SV} {xv : Value} (hx : RepS β ro x xv) {rs rs' : List Nat} {v : SV} {u : List (Nat × Option SO)}
    (h : (arrayAtT E t x).run objs rs = some ((v, u), rs')) : Tells P β ro v u (Instr.arrayAt t xv) w := by
  unfold arrayAtT at h
  split at h
  · rename_i n el _ _ _ _ hl
    obtain ⟨inf, z, d, h1, h2, _, _, _, _, _, _, _, _, rfl, _⟩ := (hE.look hl).info
    split at h
    · rename_i e xs
      split at h
      · rename_i hc
        simp only [Bool.and_eq_true] at hc
        have hs1 : sz e = 1 := Nat.eq_of_beq_eq_true hc.1
        have hn : 0 < n := by have := hc.2; simp [Nat.blt] at this; omega
        simp only [ret, OT.run] at h
        split at h
        · rename_i hg
          cases h
          have hg' := of_decide_eq_true hg
          cases hx with
          | leaf hl' =>
            cases hl' with
            | nil e => simp at hg'; omega
            | sl e xs a cap us hsp hcap hm hcell hrep =>
              have ha := hsp.resolve_right (by omega)
              have hnl : ¬ xs.length < n := by omega
              have hrun : (Instr.arrayAt t (.slice (some a) xs.length cap)).run P w = .ok (.pointer (some a)) w := by
                simp [Instr.arrayAt, run_und h2, hnl]
              rw [Tells, hrun]
              have key : ∀ (j : Nat) (l : Leaf), (firstN e xs n 0)[j]? = some l → ∃ y, xs[j]? = some y ∧ (cells e y)[0]? = some l := fun j l hj => by
                obtain ⟨p1, p2⟩ := firstN_get hs1 xs n 0 j l hj
                have hlt : j < xs.length := by omega
                refine ⟨xs[j], List.getElem?_eq_getElem hlt, ?_⟩
                rw [Nat.zero_add] at p2
                simpa [rd, hlt] using p2
              refine ⟨rfl, _, rfl, .rptr (fun j => us j 0) (fun j l hj => ?_) (fun j l hj => ?_) ha⟩
              · obtain ⟨y, k1, k2⟩ := key j l hj
                have := hcell j y 0 l k1 k2
                rw [hs1, Nat.mul_one, Nat.add_zero] at this
                exact this
              · obtain ⟨y, k1, k2⟩ := key j l hj
                exact hrep j y 0 l k1 k2
        · cases h
      · simp [OT.run] at h
    · simp [OT.run] at h
  · simp [OT.run] at h
end Go.Cat

namespace Go.Cat
open Go
variable {P : Program} {E : Env} {w0 : Pt} {β : Pl} {ro : Snap} {D : Nat → Prop} {objs : Heap} {w : World}
theorem rng_len {n : Nat} (h : n ≤ maxLen) : rngB .i64 (n : Int) = true := by
  simp only [maxLen] at h
  simp only [rngB, IntKind.min, IntKind.max, IntKind.signed, IntKind.bits, Bool.and_eq_true, decide_eq_true_eq]
  constructor <;> omega
theorem ofConst1_rep (v : Value) : RepS β ro (ofConst1 v) v := by
  unfold ofConst1
  cases h : litOk v with
  | true => exact .lit (.inl h)
  | false => exact .any v
theorem ret_inv {v v' : SV} {u : List (Nat × Option SO)} {rs rs' : List Nat} (h : (ret v).run objs rs = some ((v', u), rs')) : v' = v ∧ u = [] := by
  simp only [ret, OT.run] at h
  cases h
  exact ⟨rfl, rfl⟩
theorem win_len {id lo len : Nat} {v : Value} (hs : RepS β ro (.win id lo len) v) : ∃ a cap, v = .slice a len cap ∧ len ≤ cap ∧ cap ≤ maxLen := by
  cases hs with
  | win hb hl hc hm hn hsm => exact ⟨_, _, rfl, hc, hm⟩
theorem own_len (hs : HSat w0 β ro D objs w) {id et : Nat} {e : EN} {xs : List (T e)} (ho : objs id = some (.row et e xs)) {v : Value} (hv : RepS β ro (.own id) v) :
    ∃ a cap, v = .slice a xs.length cap ∧ xs.length ≤ cap ∧ cap ≤ maxLen := by
  cases hv with
  | own hb =>
    rename_i hd
    obtain ⟨h', hb', k1, k2, k3⟩ := hs.obj id _ ho
    rw [hb] at hb'; cases hb'
    cases hblk : hd.blk with
    | none =>
      simp only [hblk] at k3
      exact ⟨none, 0, by simp [Hd.val, hblk, k2, k3], by omega, Nat.zero_le _⟩
    | some g =>
      simp only [hblk] at k3
      obtain ⟨cur, m1, m2, m3, _⟩ := k3
      exact ⟨some ⟨g, 0, none⟩, hd.cap, by simp [Hd.val, hblk, k2], by omega, m3⟩
theorem leafSl_len {e : EN} {xs : List (T e)} {v : Value} (hv : RepS β ro (.leaf (.sl e xs)) v) : ∃ a cap, v = .slice a xs.length cap ∧ xs.length ≤ cap ∧ cap ≤ maxLen := by
  cases hv with
  | leaf h =>
    cases h with
    | nil e => exact ⟨none, 0, rfl, Nat.le_refl _, Nat.zero_le _⟩
    | sl e xs a cap us hsp hc hm _ _ => exact ⟨some a, cap, rfl, hc, hm⟩
theorem strOf_length (b : ByteArray) : (strOf b).length = b.size := by simp [strOf]
theorem lenT_sound (hE : TysOk P E) (hs : HSat w0 β ro D objs w) {ts : Array TypeId} {ty : TypeId} {x : SV} {xv : Value} (hx : RepS β ro x xv) {rs rs' : List Nat} {v : SV} {u : List (Nat × Option SO)}
    (h : (lenT E ts.toList x).run objs rs = some ((v, u), rs')) : Tells P β ro v u (Builtin.len_ ts ty #[xv]) w := by
  unfold lenT at h
  split at h
  · rename_i t hts
    have ht0 : ts[0]? = some t := by
      have : ts = #[t] := by cases ts; simp_all
      rw [this]; rfl
    split at h
    · rename_i i el _ _ _ _ hl
      obtain ⟨inf, z, d, h1, h2, _, _, _, _, _, _, _, _, rfl, _⟩ := (hE.look hl).info
      have run : ∀ a n c, (Builtin.len_ ts ty #[.slice a n c]).run P w = .ok (.int .i64 n) w := by
        intro a n c; simp [Builtin.len_, ht0, run_und h2, goInt]
      split at h
      · obtain ⟨rfl, rfl⟩ := ret_inv h
        obtain ⟨a, cap, rfl, hc, hm⟩ := leafSl_len hx
        exact ⟨rfl, _, run _ _ _, .leaf (.int _ _ (rng_len (by omega)))⟩
      · obtain ⟨rfl, rfl⟩ := ret_inv h
        cases hx with
        | lit _ => exact ⟨rfl, _, run _ _ _, .lit (.inl rfl)⟩
      · rename_i id
        simp only [OT.run] at h
        cases ho : objs id with
        | none => simp [ho, OT.run] at h
        | some o =>
          cases o with
          | blk cs => simp [ho, OT.run] at h
          | row et e xs =>
            simp only [ho] at h
            obtain ⟨rfl, rfl⟩ := ret_inv h
            obtain ⟨a, cap, rfl, hc, hm⟩ := own_len hs ho hx
            exact ⟨rfl, _, run _ _ _, .leaf (.int _ _ (rng_len (by omega)))⟩
      · obtain ⟨rfl, rfl⟩ := ret_inv h
        obtain ⟨a, cap, rfl, hc, hm⟩ := win_len hx
        exact ⟨rfl, _, run _ _ _, .leaf (.int _ _ (rng_len (by omega)))⟩
      · simp [OT.run] at h
    · rename_i i _ _ _ _ hl
      obtain ⟨inf, z, d, h1, h2, _, _, _, _, _, _, _, _, rfl, _⟩ := (hE.look hl).info
      have run : ∀ b : ByteArray, (Builtin.len_ ts ty #[.string b]).run P w = .ok (.int .i64 b.size) w := by
        intro b; simp [Builtin.len_, ht0, run_und h2, goInt]
      split at h
      · obtain ⟨rfl, rfl⟩ := ret_inv h
        cases hx with
        | leaf h' =>
          cases h' with
          | str b hb =>
            rw [strOf_length]
            exact ⟨rfl, _, run _, .leaf (.int _ _ (rng_len hb))⟩
      · obtain ⟨rfl, rfl⟩ := ret_inv h
        cases hx with
        | lit _ => exact ⟨rfl, _, run _, ofConst1_rep _⟩
      · simp [OT.run] at h
    · rename_i i n el _ _ _ _ hl
      obtain ⟨inf, z, d, h1, h2, _, _, _, _, _, _, _, _, rfl, _⟩ := (hE.look hl).info
      obtain ⟨rfl, rfl⟩ := ret_inv h
      exact ⟨rfl, _, by simp [Builtin.len_, ht0, run_und h2, goInt], ofConst1_rep _⟩
    · simp [OT.run] at h
  · simp [OT.run] at h
theorem rng_u8 (b : UInt8) : rngB .u8 (b.toNat : Int) = true := by
  have := b.toNat_lt
  simp only [rngB, IntKind.min, IntKind.max, IntKind.signed, IntKind.bits, Bool.and_eq_true, decide_eq_true_eq]
  constructor
  · simp
  · simp; omega
theorem indexT_sound (hE : TysOk P E) {t : Nat} {x i : SV} {xv iv : Value} (hx : RepS β ro x xv) (hi : RepS β ro i iv) {rs rs' : List Nat} {v : SV} {u : List (Nat × Option SO)}
    (h : (indexT E t x i).run objs rs = some ((v, u), rs')) : Tells P β ro v u (Instr.index t xv iv) w := by
  unfold indexT at h
  cases hI : asI i with
  | none => simp [hI, OT.run] at h
  | some p =>
    obtain ⟨k, n, l⟩ := p
    obtain ⟨rfl, _⟩ := asI_rep hI hi
    simp only [hI] at h
    split at h
    · rename_i j _ _ _ _ hl
      obtain ⟨inf, z, d, h1, h2, _, _, _, _, _, _, _, _, rfl, _⟩ := (hE.look hl).info
      cases hS : asS x with
      | none => simp [hS, OT.run] at h
      | some s =>
        obtain ⟨b, rfl, rfl, hb⟩ := asS_rep hS hx
        simp only [hS, OT.run] at h
        split at h
        · rename_i hg
          obtain ⟨rfl, rfl⟩ := ret_inv h
          obtain ⟨hg1, hg2⟩ := of_decide_eq_true hg
          rw [strOf_length] at hg2
          have hlt : n.toNat < b.size := by omega
          have hrd : rd (e := .int .u8) (strOf b) n.toNat = ((b[n.toNat]).toNat : Int) := by
            have hlt' : n.toNat < b.data.size := hlt
            have : b.data[n.toNat]? = some b[n.toNat] := by rw [Array.getElem?_eq_getElem hlt']; rfl
            simp [rd, strOf, this]
          rw [hrd]
          refine ⟨rfl, .int .u8 ((b[n.toNat]).toNat : Int), ?_, .leaf (.int _ _ (rng_u8 _))⟩
          simp [Instr.index, asIntOf, run_und h2, hg1, hlt]
        · cases h
    · rename_i j len el _ _ _ _ hl
      obtain ⟨inf, z, d, h1, h2, _, _, _, _, _, _, _, _, rfl, _⟩ := (hE.look hl).info
      split at h
      · rename_i cs
        split at h
        · rename_i ti hg hl'
          obtain ⟨hg1, hg2⟩ := of_decide_eq_true hg
          obtain ⟨inf', z', d', q1, q2, q3, _⟩ := (hE.look hl').info
          cases hx with
          | agg hx1 hx2 =>
            rename_i us
            obtain ⟨a1, y, a2, a3⟩ := loadCs_part (P := P) (w := w) (hE.look hl') h ⟨hx1, hx2⟩
            exact ⟨a1, y, by simp [Instr.index, asIntOf, run_und h2, hg1, hg2, run_sizeOf q1, q3, a2], a3⟩
        · simp [OT.run] at h
      · simp [OT.run] at h
    · simp [OT.run] at h
def RepO (β : Pl) (ro : Snap) : Option SV → Option Value → Prop
  | none, none => True
  | some x, some v => RepS β ro x v
  | _, _ => False
theorem partT_run {n : Nat} {lo hi mx : Option SV} {f : Nat → Nat → Nat → OT Ans} {rs : List Nat} {r : Ans × List Nat} (h : (partT n lo hi mx f).run objs rs = some r) :
    ∃ l hh m : Nat, optI 0 lo = some (l : Int) ∧ optI n hi = some (hh : Int) ∧ optI n mx = some (m : Int) ∧ l ≤ hh ∧ hh ≤ m ∧ m ≤ n ∧ ¬ (hi = none ∧ mx.isSome) ∧ (f l hh m).run objs rs = some r := by
  unfold partT at h
  split at h
  · rename_i l hh m h1 h2 h3 h4
    simp only [OT.run] at h
    split at h
    · rename_i hg
      obtain ⟨g1, g2, g3, g4⟩ := of_decide_eq_true hg
      have e1 : l = (l.toNat : Int) := by omega
      have e2 : hh = (hh.toNat : Int) := by omega
      have e3 : m = (m.toNat : Int) := by omega
      refine ⟨l.toNat, hh.toNat, m.toNat, by rw [← e1]; exact h1, by rw [← e2]; exact h2, by rw [← e3]; exact h3, by omega, by omega, by omega, ?_, h⟩
      rintro ⟨rfl, hm⟩
      simp [hm] at h4
    · cases h
  · simp [OT.run] at h
theorem optI_rep {d : Int} {o : Option SV} {n : Int} (h : optI d o = some n) {v : Option Value} (hv : RepO β ro o v) :
    (o = none ∧ v = none ∧ n = d) ∨ ∃ k, v = some (.int k n) := by
  cases o with
  | none =>
    cases v with
    | none => simp [optI] at h; exact .inl ⟨rfl, rfl, h.symm⟩
    | some v => exact hv.elim
  | some x =>
    cases v with
    | none => exact hv.elim
    | some v =>
      simp only [optI] at h
      cases hI : asI x with
      | none => simp [hI] at h
      | some p =>
        obtain ⟨k, m, l⟩ := p
        simp [hI] at h
        subst h
        obtain ⟨rfl, _⟩ := asI_rep hI hv
        exact .inr ⟨k, rfl⟩
theorem run_bounds {len cap l h m : Nat} {lo hi mx : Option SV} {lov hiv mxv : Option Value} (h1 : RepO β ro lo lov) (h2 : RepO β ro hi hiv) (h3 : RepO β ro mx mxv)
    (e1 : optI 0 lo = some (l : Int)) (e2 : optI len hi = some (h : Int)) (e3 : optI len mx = some (m : Int)) (hlh : l ≤ h) (hhm : h ≤ m) (hm : m ≤ len) (hc : len ≤ cap) (hno : ¬ (hi = none ∧ mx.isSome)) :
    ∃ M, (Instr.sliceBounds true len cap lov hiv mxv).run P w = .ok (l, h, M) w ∧ m ≤ M ∧ M ≤ cap := by
  have sb : ∀ (k : IntKind) (n y : Nat) (code : BoundsCode), n ≤ y → (Instr.sliceBound (.int k n) y code).run P w = .ok n w := by
    intro k n y code hn
    simp [Instr.sliceBound, asIntOf, hn]
  rcases optI_rep e3 h3 with ⟨rfl, rfl, r3⟩ | ⟨k3, rfl⟩
  · refine ⟨cap, ?_, by omega, Nat.le_refl _⟩
    rcases optI_rep e2 h2 with ⟨rfl, rfl, r2⟩ | ⟨k2, rfl⟩
    · have : h = len := by omega
      subst this
      rcases optI_rep e1 h1 with ⟨rfl, rfl, r1⟩ | ⟨k1, rfl⟩
      · have : l = 0 := by omega
        subst this
        simp [Instr.sliceBounds]
      · simp [Instr.sliceBounds, sb _ _ _ _ hlh]
    · rcases optI_rep e1 h1 with ⟨rfl, rfl, r1⟩ | ⟨k1, rfl⟩
      · have : l = 0 := by omega
        subst this
        simp [Instr.sliceBounds, sb k2 h cap _ (by omega)]
      · simp [Instr.sliceBounds, sb k2 h cap _ (by omega), sb k1 l h _ hlh]
  · refine ⟨m, ?_, Nat.le_refl _, by omega⟩
    rcases optI_rep e2 h2 with ⟨rfl, rfl, r2⟩ | ⟨k2, rfl⟩
    · cases mx with
      | none => exact h3.elim
      | some x => exact absurd ⟨rfl, rfl⟩ hno
    · rcases optI_rep e1 h1 with ⟨rfl, rfl, r1⟩ | ⟨k1, rfl⟩
      · have : l = 0 := by omega
        subst this
        simp [Instr.sliceBounds, sb k3 m cap _ (by omega), sb k2 h m _ hhm]
      · simp [Instr.sliceBounds, sb k3 m cap _ (by omega), sb k2 h m _ hhm, sb k1 l h _ hlh]
theorem run_sliceAt_sl {t el : TypeId} {inf : TypeInfo} (ht : P.underlying t = some (.slice el)) (hi : P.info? el = some inf) {a : Option Addr} {len cap l h M : Nat} {lov hiv mxv : Option Value}
    (hb : (Instr.sliceBounds true len cap lov hiv mxv).run P w = .ok (l, h, M) w) :
    (Instr.sliceAt t (.slice a len cap) lov hiv mxv).run P w = .ok (.slice (if M = l then a else a.map (·.add (l * inf.size))) (h - l) (M - l)) w := by
  simp [Instr.sliceAt, run_und ht, Instr.slice, hb, run_sizeOf hi]
theorem sliceT_sound (hE : TysOk P E) (hs : HSat w0 β ro D objs w) {t : Nat} {x : SV} {xv : Value} (hx : RepS β ro x xv) {lo hi mx : Option SV} {lov hiv mxv : Option Value}
    (h1 : RepO β ro lo lov) (h2 : RepO β ro hi hiv) (h3 : RepO β ro mx mxv) {rs rs' : List Nat} {v : SV} {u : List (Nat × Option SO)}
    (hnb : ∀ id, x ≠ .bptr id 0) (h : (sliceT E t x lo hi mx).run objs rs = some ((v, u), rs')) : Tells P β ro v u (Instr.sliceAt t xv lov hiv mxv) w := by
  unfold sliceT at h
  split at h
  · rename_i e xs
    cases he : elemIs E t e with
    | false => simp [he, OT.run] at h
    | true =>
      simp only [he] at h
      obtain ⟨el, inf, t1, t2, t3⟩ := elemIs_spec hE he
      obtain ⟨l, hh, m, e1, e2, e3, q1, q2, q3, q4, q5⟩ := partT_run h
      obtain ⟨rfl, rfl⟩ := ret_inv q5
      cases hx with
      | leaf hl =>
        cases hl with
        | nil e =>
          have hl0 : l = 0 := by simp at q3; omega
          have hh0 : hh = 0 := by simp at q3; omega
          subst hl0 hh0
          obtain ⟨M, hb, _, hM⟩ := run_bounds (P := P) (w := w) (cap := 0) h1 h2 h3 e1 e2 e3 q1 q2 q3 (Nat.le_refl _) q4
          have hM0 : M = 0 := by omega
          subst hM0
          refine ⟨rfl, _, run_sliceAt_sl t1 t2 hb, ?_⟩
          simp only [if_true, Nat.sub_zero, List.take_zero, List.drop_zero]
          exact .leaf (.nil e)
        | sl e xs a cap us hsp hc hm hcell hrep =>
          obtain ⟨M, hb, hM1, hM2⟩ := run_bounds (P := P) (w := w) (cap := cap) h1 h2 h3 e1 e2 e3 q1 q2 q3 hc q4
          refine ⟨rfl, _, run_sliceAt_sl t1 t2 hb, .leaf ?_⟩
          have hlen : ((xs.take hh).drop l).length = hh - l := by simp; omega
          have hget : ∀ (i : Nat) (y : T e), ((xs.take hh).drop l)[i]? = some y → i < hh - l ∧ xs[l + i]? = some y := by
            intro i y hy
            have hi := (List.getElem?_eq_some_iff.1 hy).1
            rw [hlen] at hi
            rw [List.getElem?_drop, List.getElem?_take] at hy
            exact ⟨hi, by simpa [show l + i < hh by omega] using hy⟩
          by_cases hMl : M = l
          · rw [if_pos hMl]
            have := Rep.sl (ro := ro) e ((xs.take hh).drop l) a (M - l) (fun _ _ => default) (.inr (by omega)) (by omega) (by omega) (fun i y j lf hy _ => by have := (hget i y hy).1; omega) (fun i y j lf hy _ => by have := (hget i y hy).1; omega)
            rw [hlen] at this
            exact this
          · rw [if_neg hMl]
            simp only [Option.map_some, addr_add (hsp.resolve_right (by omega))]
            have := Rep.sl (ro := ro) e ((xs.take hh).drop l) ⟨a.block, a.off + l * inf.size, none⟩ (M - l) (fun i j => us (l + i) j) (.inl rfl) (by omega) (by omega)
              (fun i y j lf hy hj => by
                have := hcell (l + i) y j lf (hget i y hy).2 hj
                rw [← this, t3, Nat.add_mul]
                simp [Nat.add_assoc])
              (fun i y j lf hy hj => hrep (l + i) y j lf (hget i y hy).2 hj)
            rw [hlen] at this
            exact this
  · rename_i id
    simp only [OT.run] at h
    cases ho : objs id with
    | none => simp [ho, OT.run] at h
    | some o =>
      cases o with
      | blk cs => simp [ho, OT.run] at h
      | row et e xs =>
        simp only [ho] at h
        cases he : elemIs E t e with
        | false => simp [he, OT.run] at h
        | true =>
          simp only [he] at h
          obtain ⟨el, inf, t1, t2, t3⟩ := elemIs_spec hE he
          obtain ⟨l, hh, m, e1, e2, e3, q1, q2, q3, q4, q5⟩ := partT_run h
          obtain ⟨rfl, rfl⟩ := ret_inv q5
          cases hx with
          | own hb =>
            rename_i hd
            obtain ⟨h', hb', k1, k2, k3⟩ := hs.obj id _ ho
            rw [hb] at hb'; cases hb'
            cases hblk : hd.blk with
            | none =>
              simp only [hblk] at k3
              simp only [Hd.val, hblk]
              have hl0 : l = 0 := by omega
              have hh0 : hh = 0 := by omega
              subst hl0 hh0
              obtain ⟨M, hbd, _, hM⟩ := run_bounds (P := P) (w := w) (cap := 0) (len := 0) h1 h2 h3 e1 (by rw [k2, k3] at e2; exact e2) (by rw [k2, k3] at e3; exact e3) q1 q2 (by omega) (Nat.le_refl _) q4
              have hM0 : M = 0 := by omega
              subst hM0
              refine ⟨rfl, _, run_sliceAt_sl t1 t2 hbd, ?_⟩
              simp only [if_true, Nat.sub_zero]
              exact .win hb (by omega) (Nat.le_refl _) (Nat.zero_le _) (fun _ => ⟨rfl, rfl⟩) (fun g hg => by rw [hblk] at hg; cases hg)
            | some g =>
              simp only [hblk] at k3
              obtain ⟨cur, m1, m2, m3, _⟩ := k3
              simp only [Hd.val, hblk]
              obtain ⟨M, hbd, hM1, hM2⟩ := run_bounds (P := P) (w := w) (cap := hd.cap) (len := hd.len) h1 h2 h3 e1 (by rw [k2] at e2; exact e2) (by rw [k2] at e3; exact e3) q1 q2 (by omega) m2 q4
              refine ⟨rfl, _, run_sliceAt_sl t1 t2 hbd, ?_⟩
              refine .win hb (by omega) (by omega) (by omega) (fun hn => by rw [hblk] at hn; cases hn) (fun g' hg' => ?_)
              rw [hblk] at hg'; cases hg'
              by_cases hMl : M = l
              · exact ⟨_, by rw [if_pos hMl], by omega, rfl, .inl (by omega)⟩
              · refine ⟨⟨g, l * hd.esz, none⟩, ?_, by omega, rfl, .inr rfl⟩
                rw [if_neg hMl]
                simp [addr_add, t3, k1]
  · rename_i id o len
    simp only [OT.run] at h
    cases ho : objs id with
    | none => simp [ho, OT.run] at h
    | some ob =>
      cases ob with
      | blk cs => simp [ho, OT.run] at h
      | row et e xs =>
        simp only [ho] at h
        cases he : elemIs E t e with
        | false => simp [he, OT.run] at h
        | true =>
          simp only [he] at h
          obtain ⟨el, inf, t1, t2, t3⟩ := elemIs_spec hE he
          obtain ⟨l, hh, m, e1, e2, e3, q1, q2, q3, q4, q5⟩ := partT_run h
          obtain ⟨rfl, rfl⟩ := ret_inv q5
          cases hx with
          | win hb hl hc hm hn hsm =>
            rename_i hd a cap
            obtain ⟨h', hb', k1, k2, k3⟩ := hs.obj id _ ho
            rw [hb] at hb'; cases hb'
            obtain ⟨M, hbd, hM1, hM2⟩ := run_bounds (P := P) (w := w) (cap := cap) (len := len) h1 h2 h3 e1 e2 e3 q1 q2 q3 hc q4
            refine ⟨rfl, _, run_sliceAt_sl t1 t2 hbd, ?_⟩
            refine .win hb (by omega) (by omega) (by omega) (fun hnn => ?_) (fun g' hg' => ?_)
            · obtain ⟨rfl, rfl⟩ := hn hnn
              have : M = l := by omega
              simp [this]
            · obtain ⟨a', rfl, r1, r2, r3⟩ := hsm g' hg'
              by_cases hMl : M = l
              · exact ⟨a', by rw [if_pos hMl], by omega, r2, .inl (by omega)⟩
              · have ha := r3.resolve_left (by omega)
                subst ha
                refine ⟨⟨g', (o + l) * hd.esz, none⟩, ?_, by omega, rfl, .inr rfl⟩
                rw [if_neg hMl]
                simp [addr_add, t3, k1, Nat.add_mul]
  · split at h
    · rename_i i el _ _ _ _ hl
      obtain ⟨inf, z, d, t1, t2, _, _, _, _, _, _, _, _, rfl, _⟩ := (hE.look hl).info
      split at h
      · rename_i s hsz
        obtain ⟨j, hj, _⟩ := sizeT_look hsz
        obtain ⟨inf', z', d', r1, _⟩ := (hE.look hj).info
        obtain ⟨l, hh, m, e1, e2, e3, q1, q2, q3, q4, q5⟩ := partT_run h
        obtain ⟨rfl, rfl⟩ := ret_inv q5
        have hl0 : l = 0 := by omega
        have hh0 : hh = 0 := by omega
        subst hl0 hh0
        cases hx with
        | lit _ =>
          obtain ⟨M, hbd, _, hM⟩ := run_bounds (P := P) (w := w) (cap := 0) (len := 0) h1 h2 h3 e1 e2 e3 q1 q2 q3 (Nat.le_refl _) q4
          have hM0 : M = 0 := by omega
          subst hM0
          exact ⟨rfl, _, run_sliceAt_sl t2 r1 hbd, .lit (.inl rfl)⟩
      · simp [OT.run] at h
    · simp [OT.run] at h
  · rename_i id
    exact absurd rfl (hnb id)
  · simp [OT.run] at h
end Go.Cat

namespace Go.Cat
open Go
variable {P : Program} {E : Env} {w0 : Pt} {β : Pl} {ro : Snap} {D : Nat → Prop} {objs : Heap} {w : World}
theorem wrap_rng (k : IntKind) (n : Int) : rngB k (k.wrap n) = true := by
  cases k <;> simp [rngB, IntKind.wrap, IntKind.min, IntKind.max, IntKind.signed, IntKind.bits] <;> (try split) <;> omega
theorem mkI_rep {k : IntKind} {n : Int} (l : Bool) (h : rngB k n = true) : RepS β ro (mkI k n l) (.int k n) := by
  cases l with
  | true => exact .lit (.inl h)
  | false => exact .leaf (.int k n h)
theorem mkB_rep (b l : Bool) : RepS β ro (mkB b l) (.bool b) := by
  cases l with
  | true => exact .lit (.inl rfl)
  | false => exact .leaf (.bool b)
theorem min_le (k : IntKind) : k.min ≤ 0 := by cases k <;> simp [IntKind.min, IntKind.signed, IntKind.bits]
theorem max_ge (k : IntKind) : 0 ≤ k.max := by cases k <;> simp [IntKind.max, IntKind.signed, IntKind.bits]
theorem rng_between {k : IntKind} {x y : Int} (h : rngB k x = true) (h1 : 0 ≤ x → 0 ≤ y ∧ y ≤ x) (h2 : x < 0 → x ≤ y ∧ y ≤ 0) : rngB k y = true := by
  simp only [rngB, Bool.and_eq_true, decide_eq_true_eq] at h ⊢
  have hm := min_le k
  have hx := max_ge k
  by_cases h0 : 0 ≤ x
  · have := h1 h0; constructor <;> omega
  · have := h2 (by omega); constructor <;> omega
theorem tmod_rng {k : IntKind} {x y : Int} (h : rngB k x = true) : rngB k (x.tmod y) = true := by
  refine rng_between h (fun h0 => ⟨Int.tmod_nonneg y h0, ?_⟩) (fun h0 => ?_)
  · have h1 : (x.tmod y).natAbs = x.natAbs % y.natAbs := by simp
    have h2 := Nat.mod_le x.natAbs y.natAbs
    have h3 := Int.tmod_nonneg y h0
    omega
  · have h1 : (x.tmod y).natAbs = x.natAbs % y.natAbs := by simp
    have h2 := Nat.mod_le x.natAbs y.natAbs
    have h3 : 0 ≤ (-x).tmod y := Int.tmod_nonneg y (by omega)
    rw [Int.neg_tmod] at h3
    omega
theorem shr_rng {k : IntKind} {x y : Int} (h : rngB k x = true) : rngB k (shrI k x y) = true := by
  unfold shrI
  have hp : (0 : Int) < 2 ^ (min y.toNat k.bits) := Int.pow_pos (by decide)
  rw [Int.fdiv_eq_ediv_of_nonneg _ (Int.le_of_lt hp)]
  generalize (2 : Int) ^ (min y.toNat k.bits) = p at hp
  refine rng_between h (fun h0 => ⟨Int.ediv_nonneg h0 (by omega), Int.ediv_le_self p h0⟩) (fun h0 => ⟨?_, ?_⟩)
  · refine (Int.le_ediv_iff_mul_le hp).2 ?_
    have := Int.mul_nonneg (show 0 ≤ -x by omega) (show 0 ≤ p - 1 by omega)
    simp only [Int.mul_sub, Int.neg_mul, Int.mul_one] at this
    omega
  · have := Int.ediv_neg_of_neg_of_pos h0 hp
    omega
theorem run_eqGuard {op : BinOp} {t : TypeId} {x y : Operand} {a b : Value} (h1 : ∀ cs, a ≠ .agg cs) (h2 : a ≠ .nilIface) : (eqGuard op t x y a b).run P w = .ok () w := by
  unfold eqGuard
  cases a <;> simp at h1 h2 <;> (split <;> first | rfl | (cases b <;> rfl))
def BinTells (P : Program) (β : Pl) (ro : Snap) (v : SV) (u : List (Nat × Option SO)) (op : BinOp) (t : TypeId) (x y : Operand) (a b : Value) (w : World) : Prop :=
  u = [] ∧ ∃ z, (do eqGuard op t x y a b; Go.binOp op t a b : Sem Value).run P w = .ok z w ∧ RepS β ro v z
theorem intOp_sound {op : BinOp} {k : IntKind} {a b : Int} {l : Bool} (ha : rngB k a = true) {rs rs' : List Nat} {v : SV} {u : List (Nat × Option SO)}
    (h : (intOp op k a b l).run objs rs = some ((v, u), rs')) (t : TypeId) (x y : Operand) : BinTells P β ro v u op t x y (.int k a) (.int k b) w := by
  have g : ∀ s : Sem Value, (do eqGuard op t x y (.int k a) (.int k b); s : Sem Value).run P w = s.run P w := by
    intro s
    rw [Sem.run_bind, run_eqGuard (by simp) (by simp)]
    rfl
  unfold BinTells
  rw [g]
  unfold intOp at h
  cases op <;> simp only [OT.run] at h
  case add => obtain ⟨rfl, rfl⟩ := ret_inv h; exact ⟨rfl, .int k (k.wrap (a + b)), by simp [Go.binOp, Op.intArith], mkI_rep l (wrap_rng _ _)⟩
  case sub => obtain ⟨rfl, rfl⟩ := ret_inv h; exact ⟨rfl, .int k (k.wrap (a - b)), by simp [Go.binOp, Op.intArith], mkI_rep l (wrap_rng _ _)⟩
  case mul => obtain ⟨rfl, rfl⟩ := ret_inv h; exact ⟨rfl, .int k (k.wrap (a * b)), by simp [Go.binOp, Op.intArith], mkI_rep l (wrap_rng _ _)⟩
  case quo =>
    split at h
    · rename_i hb
      obtain ⟨rfl, rfl⟩ := ret_inv h
      have hb' : b ≠ 0 := by simpa using hb
      exact ⟨rfl, .int k (k.wrap (a.tdiv b)), by simp [Go.binOp, Op.intDiv, hb'], mkI_rep l (wrap_rng _ _)⟩
    · cases h
  case rem =>
    split at h
    · rename_i hb
      obtain ⟨rfl, rfl⟩ := ret_inv h
      have hb' : b ≠ 0 := by simpa using hb
      exact ⟨rfl, .int k (a.tmod b), by simp [Go.binOp, Op.intDiv, hb'], mkI_rep l (tmod_rng ha)⟩
    · cases h
  case and => obtain ⟨rfl, rfl⟩ := ret_inv h; exact ⟨rfl, .int k (ibits .and k a b), by simp [Go.binOp, Op.intBits, ibits], mkI_rep l (wrap_rng _ _)⟩
  case or => obtain ⟨rfl, rfl⟩ := ret_inv h; exact ⟨rfl, .int k (ibits .or k a b), by simp [Go.binOp, Op.intBits, ibits], mkI_rep l (wrap_rng _ _)⟩
  case xor => obtain ⟨rfl, rfl⟩ := ret_inv h; exact ⟨rfl, .int k (ibits .xor k a b), by simp [Go.binOp, Op.intBits, ibits], mkI_rep l (wrap_rng _ _)⟩
  case andNot => obtain ⟨rfl, rfl⟩ := ret_inv h; exact ⟨rfl, .int k (ibits .andNot k a b), by simp [Go.binOp, Op.intBits, ibits], mkI_rep l (wrap_rng _ _)⟩
  case eql => obtain ⟨rfl, rfl⟩ := ret_inv h; exact ⟨rfl, .bool (a == b), by simp [Go.binOp, Op.intCmp], mkB_rep _ l⟩
  case neq => obtain ⟨rfl, rfl⟩ := ret_inv h; exact ⟨rfl, .bool (a != b), by simp [Go.binOp, Op.intCmp], mkB_rep _ l⟩
  case lss => obtain ⟨rfl, rfl⟩ := ret_inv h; exact ⟨rfl, .bool (decide (a < b)), by simp [Go.binOp, Op.intCmp], mkB_rep _ l⟩
  case leq => obtain ⟨rfl, rfl⟩ := ret_inv h; exact ⟨rfl, .bool (decide (a ≤ b)), by simp [Go.binOp, Op.intCmp], mkB_rep _ l⟩
  case gtr => obtain ⟨rfl, rfl⟩ := ret_inv h; exact ⟨rfl, .bool (decide (a > b)), by simp [Go.binOp, Op.intCmp], mkB_rep _ l⟩
  case geq => obtain ⟨rfl, rfl⟩ := ret_inv h; exact ⟨rfl, .bool (decide (a ≥ b)), by simp [Go.binOp, Op.intCmp], mkB_rep _ l⟩
  all_goals cases h
theorem strOf_inj {a b : ByteArray} (h : strOf a = strOf b) : a = b := by
  have : a.data.toList = b.data.toList := by
    unfold strOf at h
    exact (List.map_inj_right (fun x y hxy => by
      have : x.toNat = y.toNat := by exact_mod_cast hxy
      exact UInt8.toNat_inj.1 this)).1 h
  cases a; cases b
  simp_all
theorem strOf_beq (a b : ByteArray) : (strOf a == strOf b) = (a.toList == b.toList) := by
  rw [ByteArray.toList_eq, ByteArray.toList_eq]
  by_cases h : a = b
  · subst h; simp
  · have h1 : ¬ strOf a = strOf b := fun hh => h (strOf_inj hh)
    have h2 : ¬ a.data.toList = b.data.toList := fun hh => h1 (by unfold strOf; rw [hh])
    rw [beq_eq_false_iff_ne.2 h1, beq_eq_false_iff_ne.2 h2]
def vOf (agg : Bool) (us : List Value) : Value := if agg = true then .agg us.toArray else us.headD undef
theorem one_rep {x : SV} {us : List Value} (h : RepL β ro [x] us) : ∃ u, us = [u] ∧ RepS β ro x u := by
  obtain ⟨u, us', rfl, h1, h2⟩ := h.of_cons
  rw [h2.of_nil]
  exact ⟨u, rfl, h1⟩
theorem fieldsOf_eq {t : TypeId} {fields : Array Field} (h : P.underlying t = some (.struct fields)) : P.fieldsOf t = fields := by
  simp [Program.fieldsOf, h]
theorem eqTy_sound (hE : TysOk P E) : ∀ (n t : Nat) (xs ys : List SV) (r : Bool), eqTy E n t xs ys = some r → ∀ (us vs : List Value), RepL β ro xs us → RepL β ro ys vs →
    ∀ i, look E.ty t = some i → ∀ d, n ≤ d → (Op.equalIn d t (vOf i.agg us) (vOf i.agg vs)).run P w = .ok r w := by
  intro n
  induction n with
  | zero => intro t xs ys r h; simp [eqTy] at h
  | succ n ih =>
    intro t xs ys r h us vs hx hy i hl d hd
    obtain ⟨d, rfl⟩ : ∃ d', d = d' + 1 := ⟨d - 1, by omega⟩
    unfold eqTy at h
    rw [hl] at h
    obtain ⟨inf, z, ds, h1, h2, _, _, _, _, _, _, h8, _, hm, _⟩ := (hE.look hl).info
    obtain ⟨di, size, zero, en, eq⟩ := i
    cases di with
    | int k0 =>
      simp only at h hm
      subst hm
      split at h
      · rename_i x y
        obtain ⟨u, rfl, hu⟩ := one_rep hx
        obtain ⟨v, rfl, hv⟩ := one_rep hy
        cases ha : asI x with
        | none => simp [ha] at h
        | some p =>
          obtain ⟨k, a, la⟩ := p
          cases hb : asI y with
          | none => simp [ha, hb] at h
          | some q =>
            obtain ⟨k', b, lb⟩ := q
            simp only [ha, hb] at h
            split at h
            · rename_i hk; subst hk; cases h
              obtain ⟨rfl, _⟩ := asI_rep ha hu
              obtain ⟨rfl, _⟩ := asI_rep hb hv
              simp only [vOf, TyI.agg, Bool.false_eq_true, if_false, List.headD_cons]
              exact run_equalIn_int w d t k k0 a b h2
            · cases h
      · cases h
    | bool =>
      simp only at h hm
      subst hm
      split at h
      · rename_i x y
        obtain ⟨u, rfl, hu⟩ := one_rep hx
        obtain ⟨v, rfl, hv⟩ := one_rep hy
        cases ha : asB x with
        | none => simp [ha] at h
        | some p =>
          cases hb : asB y with
          | none => simp [ha, hb] at h
          | some q =>
            simp only [ha, hb] at h
            cases h
            rw [asB_rep ha hu, asB_rep hb hv]
            simp only [vOf, TyI.agg, Bool.false_eq_true, if_false, List.headD_cons]
            exact run_equalIn_bool' w d t _ _ h2
      · cases h
    | str =>
      simp only at h hm
      subst hm
      split at h
      · rename_i x y
        obtain ⟨u, rfl, hu⟩ := one_rep hx
        obtain ⟨v, rfl, hv⟩ := one_rep hy
        cases ha : asS x with
        | none => simp [ha] at h
        | some p =>
          cases hb : asS y with
          | none => simp [ha, hb] at h
          | some q =>
            simp only [ha, hb] at h
            cases h
            obtain ⟨b1, rfl, rfl, _⟩ := asS_rep ha hu
            obtain ⟨b2, rfl, rfl, _⟩ := asS_rep hb hv
            simp only [vOf, TyI.agg, Bool.false_eq_true, if_false, List.headD_cons]
            rw [strOf_beq]
            exact run_equalIn_string w d t _ _ h2
      · cases h
    | st fs =>
      cases eq with
      | false => simp at h
      | true =>
        simp only at h hm
        obtain ⟨fields, rfl, hf, hsz, hq⟩ := hm
        obtain ⟨q1, q2, q3⟩ := hq trivial
        simp only [vOf, TyI.agg, if_true]
        rw [run_equalIn_struct w d t _ _ (by rw [fieldsOf_eq h2]; exact h2) q1, fieldsOf_eq h2]
        clear h2 hsz
        subst hf
        obtain ⟨fl, hfl⟩ : ∃ fl, fl = fields.toList := ⟨_, rfl⟩
        rw [← hfl] at h q3 ⊢
        clear hfl hl hq
        induction fl generalizing r with
        | nil => simp only [List.map_nil, eqFs] at h; cases h; rfl
        | cons f fl ihf =>
          simp only [List.map_cons, eqFs] at h
          cases hs : sizeT E f.type with
          | none => simp [hs] at h
          | some m =>
            simp only [hs] at h
            cases hc : Nat.ble (f.offset + m) xs.length && Nat.ble (f.offset + m) ys.length with
            | false => simp [hc] at h
            | true =>
              simp only [hc] at h
              simp only [Bool.and_eq_true] at hc
              have hc1 := Nat.le_of_ble_eq_true hc.1
              have hc2 := Nat.le_of_ble_eq_true hc.2
              cases ha : eqTy E n f.type ((xs.drop f.offset).take m) ((ys.drop f.offset).take m) with
              | none => simp [ha] at h
              | some a =>
                cases hb : eqFs (eqTy E n) (sizeT E) xs ys (fl.map fun f => (f.offset, f.type)) with
                | none => simp [ha, hb] at h
                | some b =>
                  simp only [ha, hb] at h
                  cases h
                  obtain ⟨j, hj, rfl⟩ := sizeT_look hs
                  have hn : f.name ≠ "_" := by simpa using q3 f (by simp)
                  have e := ih f.type _ _ a ha _ _ ((hx.drop f.offset).take j.size) ((hy.drop f.offset).take j.size) j hj d (by omega)
                  have p1 := run_part (P := P) (w := w) (hE.look hj) (us := us) (off := f.offset) (by rw [hx.1]; omega)
                  have p2 := run_part (P := P) (w := w) (hE.look hj) (us := vs) (off := f.offset) (by rw [hy.1]; omega)
                  have rest := ihf b (fun g hg => q3 g (by simp [hg])) hb
                  simp only [Op.eqFields, Sem.run_bind, Sem.run_ite, p1, p2, Result.andThen_ok]
                  rw [if_pos hn]
                  unfold vOf at e
                  rw [e]
                  cases a with
                  | false => simp
                  | true => simpa using rest
    | _ => simp at h
theorem run_equalIn_slice_nil' (w : World) (d : Nat) (t e : TypeId) (a : Option Addr) (l c : Nat) (h : P.underlying t = some (.slice e)) : (Op.equalIn (d + 1) t (.slice a l c) (.slice none 0 0)).run P w = .ok a.isNone w := by
  cases a <;> simp [Op.equalIn, run_underlying h]
theorem run_equal_slice_nil' (w : World) (t e : TypeId) (a : Option Addr) (l c : Nat) (h : P.underlying t = some (.slice e)) : (Op.equal t (.slice a l c) (.slice none 0 0)).run P w = .ok a.isNone w := run_equalIn_slice_nil' w 9999 t e a l c h
theorem eqInts_sound (hE : TysOk P E) {e : Nat} {i : TyI} (hl : look E.ty e = some i) {k0 : IntKind} (hi : i.d = .int k0) {d : Nat} (hd : 1 ≤ d) {us vs : List Value} {n : Nat} (hu : us.length = n) (hv : vs.length = n) :
    ∀ (m k : Nat) (xs ys : List SV) (r : Bool), k + m = n → RepL β ro xs (us.drop k) → RepL β ro ys (vs.drop k) → eqInts xs ys = some r → (Op.eqItems d e (P.cellsOf e) us.toArray vs.toArray (List.range' k m)).run P w = .ok r w := by
  obtain ⟨inf, z, ds, h1, h2, h3, _, _, _, _, _, h8, ⟨h9, _⟩, hm, _⟩ := (hE.look hl).info
  obtain ⟨d, rfl⟩ : ∃ d', d = d' + 1 := ⟨d - 1, by omega⟩
  rw [hi] at hm
  simp only at hm
  subst hm
  have hag : i.agg = false := by rw [← h8]; rfl
  have hsz : i.size = 1 := h9 hag
  have hc : P.cellsOf e = 1 := by simp [Program.cellsOf, h1, h3, hsz]
  intro m
  induction m with
  | zero =>
    intro k xs ys r hk hx hy h
    have h1 : us.drop k = [] := List.drop_eq_nil_iff.2 (by omega)
    rw [h1] at hx
    have hxs : xs = [] := List.eq_nil_of_length_eq_zero (by simpa using hx.1.symm)
    subst hxs
    cases ys with
    | nil => simp only [eqInts] at h; cases h; simp [Op.eqItems]
    | cons y ys => simp [eqInts] at h
  | succ m ih =>
    intro k xs ys r hk hx hy h
    have hku : k < us.length := by omega
    have hkv : k < vs.length := by omega
    rw [List.drop_eq_getElem_cons hku] at hx
    rw [List.drop_eq_getElem_cons hkv] at hy
    match xs, ys, hx, hy, h with
    | [], _, hx, _, _ => exact absurd hx.1 (Nat.succ_ne_zero _)
    | _ :: _, [], _, hy, _ => exact absurd hy.1 (Nat.succ_ne_zero _)
    | x :: xs, y :: ys, hx, hy, h =>
      obtain ⟨u, us', e1, hx1, hx2⟩ := hx.of_cons
      obtain ⟨v, vs', e2, hy1, hy2⟩ := hy.of_cons
      cases e1
      cases e2
      simp only [eqInts] at h
      split at h
      · rename_i ki a la kj b lb r' ha hb hr
        split at h
        · rename_i hkk
          subst hkk
          cases h
          obtain ⟨q1, _⟩ := asI_rep ha hx1
          obtain ⟨q2, _⟩ := asI_rep hb hy1
          have p1 := run_part (P := P) (w := w) (hE.look hl) (us := us) (off := k) (by rw [hsz]; omega)
          have p2 := run_part (P := P) (w := w) (hE.look hl) (us := vs) (off := k) (by rw [hsz]; omega)
          rw [hag, hsz, List.drop_eq_getElem_cons hku] at p1
          rw [hag, hsz, List.drop_eq_getElem_cons hkv] at p2
          simp only [Bool.false_eq_true, if_false, List.take_succ_cons, List.headD_cons, q1] at p1
          simp only [Bool.false_eq_true, if_false, List.take_succ_cons, List.headD_cons, q2] at p2
          rw [List.range'_succ]
          have hrest := ih (k + 1) xs ys r' (by omega) hx2 hy2 hr
          rw [hc] at hrest
          simp only [Op.eqItems, hc, Nat.mul_one, Sem.run_bind, p1, p2, Result.andThen_ok, run_equalIn_int w d e ki k0 a b h2]
          cases hab : (a == b) with
          | false => simp
          | true => simpa using hrest
        · cases h
      · cases h
theorem eqGuard_arr {t el n : Nat} {k : IntKind} (h1 : P.underlying t = some (.array n el)) (h2 : P.underlying el = some (.int k)) : P.eqGuardType P.depth t = false := by
  unfold Program.depth
  simp only [Program.eqGuardType, h1, h2]
theorem binT_sound (hE : TysOk P E) {op : BinOp} {t : TypeId} {x y : SV} {xv yv : Value} (hx : RepS β ro x xv) (hy : RepS β ro y yv) {rs rs' : List Nat} {v : SV} {u : List (Nat × Option SO)}
    (h : (binT E op t x y).run objs rs = some ((v, u), rs')) (xo yo : Operand) : BinTells P β ro v u op t xo yo xv yv w := by
  unfold binT at h
  split at h
  · rename_i k a la k' b lb ha hb
    obtain ⟨rfl, ra⟩ := asI_rep ha hx
    obtain ⟨rfl, rb⟩ := asI_rep hb hy
    split at h
    · simp only [OT.run] at h
      split at h
      · rename_i hg
        obtain ⟨rfl, rfl⟩ := ret_inv h
        have h0 : 0 ≤ b := of_decide_eq_true hg
        refine ⟨rfl, .int k (shlI k a b), ?_, mkI_rep _ (wrap_rng _ _)⟩
        rw [Sem.run_bind, run_eqGuard (by simp) (by simp)]
        simp [Go.binOp, Op.shift, shlI, show ¬ b < 0 by omega]
      · cases h
    · simp only [OT.run] at h
      split at h
      · rename_i hg
        obtain ⟨rfl, rfl⟩ := ret_inv h
        have h0 : 0 ≤ b := of_decide_eq_true hg
        refine ⟨rfl, .int k (shrI k a b), ?_, mkI_rep _ (shr_rng ra)⟩
        rw [Sem.run_bind, run_eqGuard (by simp) (by simp)]
        simp [Go.binOp, Op.shift, shrI, show ¬ b < 0 by omega]
      · cases h
    · split at h
      · rename_i hk; subst hk; exact intOp_sound ra h t xo yo
      · simp [OT.run] at h
  · split at h
    · rename_i a b ha hb
      obtain ⟨b1, rfl, rfl, _⟩ := asS_rep ha hx
      obtain ⟨b2, rfl, rfl, _⟩ := asS_rep hb hy
      split at h
      · obtain ⟨rfl, rfl⟩ := ret_inv h
        refine ⟨rfl, _, ?_, .leaf (.bool _)⟩
        rw [Sem.run_bind, run_eqGuard (by simp) (by simp), strOf_beq, Result.andThen_ok, binOp_string_eql]
        rfl
      · obtain ⟨rfl, rfl⟩ := ret_inv h
        refine ⟨rfl, _, ?_, .leaf (.bool _)⟩
        rw [Sem.run_bind, run_eqGuard (by simp) (by simp), bne, strOf_beq, Result.andThen_ok, binOp_string_neq]
        rfl
      · simp [OT.run] at h
    · split at h
      · rename_i a la b lb ha hb
        rw [asB_rep ha hx, asB_rep hb hy]
        split at h
        · rename_i i _ _ _ _ hl
          obtain ⟨inf, z, ds, h1, h2, _, _, _, _, _, _, h8, _, rfl, _⟩ := (hE.look hl).info
          obtain ⟨rfl, rfl⟩ := ret_inv h
          refine ⟨rfl, _, ?_, mkB_rep _ _⟩
          rw [Sem.run_bind, run_eqGuard (by simp) (by simp)]
          simp [Go.binOp, Op.equal, Op.maxDepth, run_equalIn_bool' w 9999 t a b h2]
        · rename_i i _ _ _ _ hl
          obtain ⟨inf, z, ds, h1, h2, _, _, _, _, _, _, h8, _, rfl, _⟩ := (hE.look hl).info
          obtain ⟨rfl, rfl⟩ := ret_inv h
          refine ⟨rfl, _, ?_, mkB_rep _ _⟩
          rw [Sem.run_bind, run_eqGuard (by simp) (by simp)]
          simp [Go.binOp, Op.equal, Op.maxDepth, run_equalIn_bool' w 9999 t a b h2]
        · simp [OT.run] at h
      · split at h
        · rename_i xs ys fs _ _ _ hl _ _ _
          have key : ∀ r, eqTy E 8 t xs ys = some r → ∃ us vs : List Value, xv = .agg us.toArray ∧ yv = .agg vs.toArray ∧ (Op.equalIn 10000 t (.agg us.toArray) (.agg vs.toArray)).run P w = .ok r w ∧ P.eqGuardType P.depth t = false := by
            intro r hr
            cases hx with
            | agg hx1 hx2 =>
              rename_i us
              cases hy with
              | agg hy1 hy2 =>
                rename_i vs
                have e := eqTy_sound (P := P) (w := w) hE 8 t xs ys r hr us vs ⟨hx1, hx2⟩ ⟨hy1, hy2⟩ _ hl 10000 (by omega)
                obtain ⟨inf, z, ds, h1, h2, _, _, _, _, _, _, h8, _, ⟨fields, rfl, hf, hsz, hq⟩, _⟩ := (hE.look hl).info
                exact ⟨us, vs, rfl, rfl, by simpa [vOf, TyI.agg] using e, (hq rfl).2.1⟩
          split at h
          · rename_i r hr
            obtain ⟨rfl, rfl⟩ := ret_inv h
            obtain ⟨us, vs, rfl, rfl, e1, e2⟩ := key r hr
            refine ⟨rfl, .bool r, ?_, .leaf (.bool _)⟩
            rw [Sem.run_bind, run_eqGuard_agg w _ _ _ _ _ _ e2, Result.andThen_ok, run_eql_struct, e1]
            rfl
          · rename_i r hr
            obtain ⟨rfl, rfl⟩ := ret_inv h
            obtain ⟨us, vs, rfl, rfl, e1, e2⟩ := key r hr
            refine ⟨rfl, .bool (!r), ?_, .leaf (.bool _)⟩
            rw [Sem.run_bind, run_eqGuard_agg w _ _ _ _ _ _ e2, Result.andThen_ok, run_neq_struct, e1]
            rfl
          · simp [OT.run] at h
        · rename_i xs ys n el _ _ _ _ hl _ _ _
          obtain ⟨inf, z, ds, h1, h2, _, _, _, _, _, _, h8, _, hm, _⟩ := (hE.look hl).info
          simp only at hm
          subst hm
          split at h
          · rename_i k0 _ _ _ _ hel
            obtain ⟨inf', z', ds', g1, g2, _, _, _, _, _, _, g8, _, gm, _⟩ := (hE.look hel).info
            simp only at gm
            subst gm
            have hgd := eqGuard_arr h2 g2
            split at h
            · rename_i r hlen hr
              simp only [Bool.and_eq_true] at hlen
              have l1 := Nat.eq_of_beq_eq_true hlen.1
              have l2 := Nat.eq_of_beq_eq_true hlen.2
              cases hx with
              | agg hx1 hx2 =>
                rename_i us
                cases hy with
                | agg hy1 hy2 =>
                  rename_i vs
                  have e0 := eqInts_sound (P := P) (w := w) hE hel rfl (d := 9999) (by omega) (us := us) (vs := vs) (n := n) (hx1.trans l1) (hy1.trans l2) n 0 xs ys r (by omega) ⟨by simpa using hx1, by simpa using hx2⟩ ⟨by simpa using hy1, by simpa using hy2⟩ hr
                  have e1 : (Op.equalIn 10000 t (.agg us.toArray) (.agg vs.toArray)).run P w = .ok r w := by
                    rw [_root_.Go.run_equalIn_array w 9999 us.toArray vs.toArray h2 g1, List.range_eq_range']; exact e0
                  split at h
                  · obtain ⟨rfl, rfl⟩ := ret_inv h
                    refine ⟨rfl, .bool r, ?_, .leaf (.bool _)⟩
                    rw [Sem.run_bind, run_eqGuard_agg w _ _ _ _ _ _ hgd, Result.andThen_ok, run_eql_struct, e1]
                    rfl
                  · obtain ⟨rfl, rfl⟩ := ret_inv h
                    refine ⟨rfl, .bool (!r), ?_, .leaf (.bool _)⟩
                    rw [Sem.run_bind, run_eqGuard_agg w _ _ _ _ _ _ hgd, Result.andThen_ok, run_neq_struct, e1]
                    rfl
                  · simp [OT.run] at h
            · simp [OT.run] at h
          · simp [OT.run] at h
        · rename_i hl _ _ _
          obtain ⟨inf, z, ds, h1, h2, _, _, _, _, _, _, h8, _, rfl, _⟩ := (hE.look hl).info
          cases hx with
          | nn hx' =>
            cases hy with
            | lit _ =>
              split at h
              · obtain ⟨rfl, rfl⟩ := ret_inv h
                refine ⟨rfl, .bool false, ?_, .lit (.inl rfl)⟩
                rw [Sem.run_bind, run_eqGuard (by simp) (by simp), Result.andThen_ok]
                simp [Go.binOp, run_equal_slice_nil' w t _ _ _ _ h2]
              · obtain ⟨rfl, rfl⟩ := ret_inv h
                refine ⟨rfl, .bool true, ?_, .lit (.inl rfl)⟩
                rw [Sem.run_bind, run_eqGuard (by simp) (by simp), Result.andThen_ok]
                simp [Go.binOp, run_equal_slice_nil' w t _ _ _ _ h2]
              · simp [OT.run] at h
        · rename_i hl _ _ _
          obtain ⟨inf, z, ds, h1, h2, _, _, _, _, _, _, h8, _, rfl, _⟩ := (hE.look hl).info
          cases hx with
          | lit _ =>
            cases hy with
            | lit _ =>
              split at h
              · obtain ⟨rfl, rfl⟩ := ret_inv h
                refine ⟨rfl, .bool true, ?_, .lit (.inl rfl)⟩
                rw [Sem.run_bind, run_eqGuard (by simp) (by simp), Result.andThen_ok]
                simp [Go.binOp, run_equal_slice_nil' w t _ _ _ _ h2]
              · obtain ⟨rfl, rfl⟩ := ret_inv h
                refine ⟨rfl, .bool false, ?_, .lit (.inl rfl)⟩
                rw [Sem.run_bind, run_eqGuard (by simp) (by simp), Result.andThen_ok]
                simp [Go.binOp, run_equal_slice_nil' w t _ _ _ _ h2]
              · simp [OT.run] at h
        · simp [OT.run] at h
theorem unT_sound {op : UnOp} {x : SV} {xv : Value} (hx : RepS β ro x xv) {rs rs' : List Nat} {v : SV} {u : List (Nat × Option SO)}
    (h : (unT op x).run objs rs = some ((v, u), rs')) : Tells P β ro v u (Op.unary op xv) w := by
  unfold unT at h
  split at h
  · rename_i k n l ha
    obtain ⟨rfl, _⟩ := asI_rep ha hx
    obtain ⟨rfl, rfl⟩ := ret_inv h
    exact ⟨rfl, .int k (k.wrap (0 - n)), by simp [Op.unary, Op.intArith], mkI_rep l (wrap_rng _ _)⟩
  · rename_i k n l ha
    obtain ⟨rfl, _⟩ := asI_rep ha hx
    obtain ⟨rfl, rfl⟩ := ret_inv h
    exact ⟨rfl, .int k (ibits .xor k (if k.signed then -1 else k.max) n), by simp [Op.unary, Op.intBits, ibits], mkI_rep l (wrap_rng _ _)⟩
  · rename_i b l hb
    rw [asB_rep hb hx]
    obtain ⟨rfl, rfl⟩ := ret_inv h
    exact ⟨rfl, .bool (!b), by simp [Op.unary], mkB_rep _ l⟩
  · simp [OT.run] at h
end Go.Cat

namespace Go.Cat
open Go
variable {P : Program} {E : Env} {w0 : Pt} {β : Pl} {ro : Snap} {D : Nat → Prop} {objs : Heap} {w : World}
theorem elemEN_spec (hE : TysOk P E) {t el : Nat} {e : EN} (h : elemEN E t = some (el, e)) :
    ∃ inf z, P.underlying t = some (.slice el) ∧ P.info? el = some inf ∧ inf.size = sz e ∧ inf.zero = some z ∧ z.cells.size = sz e ∧ inf.bytes ≤ 131072 ∧ 0 < sz e ∧
      RepC (fun _ => none) (cells e (zeroT e)) z.cells.toList := by
  unfold elemEN at h
  split at h
  · rename_i i el' _ _ _ _ hl
    obtain ⟨inf, z, d, h1, h2, _, _, _, _, _, _, _, _, rfl, _⟩ := (hE.look hl).info
    split at h
    · rename_i j e' _ _ _ _ hj
      cases h
      obtain ⟨inf', z', d', k1, k2, k3, k4, k5, k6, k7, k8, k9, k10, k11, k12⟩ := (hE.look hj).info
      obtain ⟨m1, m2, m3, m4⟩ := k12 _ rfl
      exact ⟨inf', z', h2, k1, k3.trans m1.symm, k4, k5.trans m1.symm, k8, by omega, m4⟩
    · cases h
  · cases h
def SrcAt (w : World) (ro : Snap) (e : EN) (ys : List (T e)) (v : Value) : Prop :=
  (v = .slice none 0 0 ∧ ys = []) ∨
  ∃ (a : Addr) (cap : Nat) (us : Nat → Nat → Value), v = .slice (some a) ys.length cap ∧ (a.spot = none ∨ ys = []) ∧ ys.length ≤ maxLen ∧
    ∀ (i : Nat) (y : T e) (j : Nat) (l : Leaf), ys[i]? = some y → (cells e y)[j]? = some l → w.cell? ⟨a.block, a.off + (i * sz e + j), none⟩ = some (us i j) ∧ Rep ro l (us i j)
theorem leaf_src (hs : HSat w0 β ro D objs w) {e : EN} {xs : List (T e)} {v : Value} (hv : RepS β ro (.leaf (.sl e xs)) v) : SrcAt w ro e xs v := by
  cases hv with
  | leaf h =>
    cases h with
    | nil e => exact .inl ⟨rfl, rfl⟩
    | sl e xs a cap us hsp hc hm hcell hrep => exact .inr ⟨a, cap, us, rfl, hsp.imp (fun h => h) (fun h => List.eq_nil_of_length_eq_zero (by omega)), by omega, fun i y j l hi hj => ⟨Snap.cell_le hs.snap (hcell i y j l hi hj), hrep i y j l hi hj⟩⟩
theorem win_src (hs : HSat w0 β ro D objs w) {id lo len et : Nat} {e : EN} {xs : List (T e)} (ho : objs id = some (.row et e xs)) {v : Value} (hv : RepS β ro (.win id lo len) v) :
    SrcAt w ro e ((xs.drop lo).take len) v := by
  cases hv with
  | win hb hl hc hm hn hsm =>
    rename_i h a cap
    obtain ⟨h', hb', h1, h2, h3⟩ := hs.obj id _ ho
    rw [hb] at hb'; cases hb'
    have hlen : ((xs.drop lo).take len).length = len := by simp; omega
    cases hblk : h.blk with
    | none =>
      obtain ⟨rfl, rfl⟩ := hn hblk
      have h0 : len = 0 := by omega
      subst h0
      exact .inl ⟨rfl, by simp⟩
    | some g =>
      simp only [hblk] at h3
      obtain ⟨cur, k1, k2, k3, k4, k5⟩ := h3
      obtain ⟨a', rfl, m1, m2, m3⟩ := hsm g hblk
      refine .inr ⟨a', cap, fun i j => (cur[(lo + i) * sz e + j]?).getD default, by rw [hlen], .inl m2, by omega, fun i y j l hi hj => ?_⟩
      have hi' : i < len := by
        have := (List.getElem?_eq_some_iff.1 hi).1
        omega
      have hx : xs[lo + i]? = some y := by
        rw [List.getElem?_take] at hi
        simpa [hi'] using hi
      obtain ⟨u, hu, hr⟩ := k5 _ _ _ _ hx hj
      have ha : a' = ⟨g, lo * h.esz, none⟩ := m3.resolve_left (by omega)
      subst ha
      simp only [hu, Option.getD_some]
      refine ⟨?_, hr⟩
      rw [show lo * h.esz + (i * sz e + j) = (lo + i) * sz e + j from by rw [h1, Nat.add_mul]; omega, cell_of_row w g _ cur et (0, 0) k1]
      exact hu
theorem own_src (hs : HSat w0 β ro D objs w) {id et : Nat} {e : EN} {xs : List (T e)} (ho : objs id = some (.row et e xs)) {v : Value} (hv : RepS β ro (.own id) v) : SrcAt w ro e xs v := by
  cases hv with
  | own hb =>
    rename_i h
    obtain ⟨h', hb', h1, h2, h3⟩ := hs.obj id _ ho
    rw [hb] at hb'; cases hb'
    cases hblk : h.blk with
    | none =>
      simp only [hblk] at h3
      exact .inl ⟨by simp [Hd.val, hblk], List.eq_nil_of_length_eq_zero (by omega)⟩
    | some g =>
      simp only [hblk] at h3
      obtain ⟨cur, k1, k2, k3, k4, k5⟩ := h3
      refine .inr ⟨⟨g, 0, none⟩, h.cap, fun i j => (cur[i * sz e + j]?).getD default, by simp [Hd.val, hblk, h2], .inl rfl, by omega, fun i y j l hi hj => ?_⟩
      obtain ⟨u, hu, hr⟩ := k5 i y j l hi hj
      simp only [hu, Option.getD_some]
      exact ⟨by rw [Nat.zero_add, cell_of_row w g _ cur et (0, 0) k1]; exact hu, hr⟩
theorem seqOf_run (hs : HSat w0 β ro D objs w) {x : SV} {xv : Value} (hx : RepS β ro x xv) {f : (e : EN) → List (T e) → OT Ans} {rs : List Nat} {r : Ans × List Nat}
    (h : (seqOf x f).run objs rs = some r) : ∃ e ys rs', (f e ys).run objs rs' = some r ∧ SrcAt w ro e ys xv := by
  unfold seqOf at h
  split at h
  · exact ⟨_, _, _, h, leaf_src hs hx⟩
  · cases hx with | nn hx' => exact ⟨_, _, _, h, leaf_src (β := β) hs (.leaf hx')⟩
  · rename_i id
    simp only [OT.run] at h
    cases ho : objs id with
    | none => simp [ho, OT.run] at h
    | some o =>
      cases o with
      | blk cs => simp [ho, OT.run] at h
      | row et e xs => simp only [ho] at h; exact ⟨_, _, _, h, own_src hs ho hx⟩
  · rename_i id lo len
    simp only [OT.run] at h
    cases ho : objs id with
    | none => simp [ho, OT.run] at h
    | some o =>
      cases o with
      | blk cs => simp [ho, OT.run] at h
      | row et e xs => simp only [ho] at h; exact ⟨_, _, _, h, win_src hs ho hx⟩
  · simp [OT.run] at h
def flat (us : Nat → Nat → Value) (m s : Nat) : List Value := (List.range (m * s)).map fun k => us (k / s) (k % s)
theorem flat_length (us : Nat → Nat → Value) (m s : Nat) : (flat us m s).length = m * s := by simp [flat]
theorem flat_at {us : Nat → Nat → Value} {m s i j : Nat} (hi : i < m) (hj : j < s) : (flat us m s)[i * s + j]? = some (us i j) := by
  have hs : 0 < s := by omega
  have h1 : i * s + j < m * s := by
    have : (i + 1) * s ≤ m * s := Nat.mul_le_mul_right _ hi
    rw [Nat.add_mul, Nat.one_mul] at this
    omega
  have e1 : (i * s + j) / s = i := by rw [Nat.mul_comm, Nat.mul_add_div hs]; simp [Nat.div_eq_of_lt hj]
  have e2 : (i * s + j) % s = j := by rw [Nat.mul_comm, Nat.mul_add_mod]; exact Nat.mod_eq_of_lt hj
  simp [flat, h1, e1, e2]
theorem flat_inv {us : Nat → Nat → Value} {m s k : Nat} {v : Value} (h : (flat us m s)[k]? = some v) : ∃ i j, i < m ∧ j < s ∧ k = i * s + j ∧ v = us i j := by
  have hk : k < m * s := by
    have := (List.getElem?_eq_some_iff.1 h).1
    rwa [flat_length] at this
  have hs : 0 < s := by
    rcases Nat.eq_zero_or_pos s with h0 | h0
    · subst h0; simp at hk
    · exact h0
  refine ⟨k / s, k % s, (Nat.div_lt_iff_lt_mul hs).2 hk, Nat.mod_lt _ hs, by rw [Nat.mul_comm]; exact (Nat.div_add_mod k s).symm, ?_⟩
  simp [flat, hk] at h
  exact h.symm
theorem src_news {e : EN} {ys : List (T e)} {a : Addr} {us : Nat → Nat → Value} (hsp : a.spot = none ∨ ys = [])
    (hc : ∀ (i : Nat) (y : T e) (j : Nat) (l : Leaf), ys[i]? = some y → (cells e y)[j]? = some l → w.cell? ⟨a.block, a.off + (i * sz e + j), none⟩ = some (us i j) ∧ Rep ro l (us i j)) :
    (∀ (j : Nat) (u : Value), (flat us ys.length (sz e))[j]? = some u → w.cell? (a.add j) = some u) ∧ ∀ u ∈ flat us ys.length (sz e), u.oneCell' = true := by
  have key : ∀ (k : Nat) (u : Value), (flat us ys.length (sz e))[k]? = some u → w.cell? (a.add k) = some u ∧ u.oneCell' = true := by
    intro k u hk
    obtain ⟨i, j, hi, hj, rfl, rfl⟩ := flat_inv hk
    have hl : j < (cells e ys[i]).length := by rw [cells_length]; exact hj
    obtain ⟨h1, h2⟩ := hc i ys[i] j _ (List.getElem?_eq_getElem hi) (List.getElem?_eq_getElem hl)
    exact ⟨by rw [addr_add (hsp.resolve_right (by rintro rfl; simp at hi))]; exact h1, h2.oneCell⟩
  refine ⟨fun j u hj => (key j u hj).1, fun u hu => ?_⟩
  obtain ⟨k, hk, rfl⟩ := List.getElem_of_mem hu
  exact (key k _ (List.getElem?_eq_getElem hk)).2
theorem row_goes (hs : HSat w0 β ro D objs w) {nid el : Nat} {e : EN} {zs : List (T e)} (hn : ¬ D nid) {D' : Nat → Prop} (hD : ∀ id, D id → D' id) (hDn : D' nid)
    {w' : World} {v' : Value} {vals : List Value} (hown : w'.ownsRow 0 el (sz e) v' zs.length vals) {old : Option Nat} (hgrow : w.grownBy w' old)
    (hvals : ∀ (i : Nat) (z : T e) (j : Nat) (l : Leaf), zs[i]? = some z → (cells e z)[j]? = some l → ∃ u, vals[i * sz e + j]? = some u ∧ Rep ro l u)
    {objs1 : Heap} (hobjs : ∀ id x, objs1 id = some x → objs id = some x)
    (hold : ∀ g, old = some g → (ro g = none ∧ w0.heap.size ≤ g) ∧ ∀ id x hh, objs1 id = some x → β id = some hh → hh.blk ≠ some g)
    (hnew : ∀ g, v'.ownBlock = some g → old = some g ∨ w.heap.size ≤ g) :
    ∃ β' , RepS β' ro (.own nid) v' ∧ β.ext β' ∧ HSat w0 β' ro D' (putH objs1 nid (some (.row el e zs))) w' := by
  have hβn := hs.none_of_D hn
  obtain ⟨hlen, hcase⟩ := hown
  let hd : Hd := match v' with
    | .slice (some a) _ cap => ⟨some a.block, cap, zs.length, sz e⟩
    | _ => ⟨none, 0, 0, sz e⟩
  have hval : v' = hd.val ∧ ObjAt (β.add nid hd) ro w' hd (.row el e zs) ∧ (∀ g, hd.blk = some g → v'.ownBlock = some g ∧ g < w'.heap.size) := by
    rcases hcase with ⟨rfl, h0⟩ | ⟨g, cap, cur, rfl, _, hg, hc, hm, hcs, htake⟩
    · exact ⟨rfl, ⟨rfl, h0, rfl⟩, by simp [hd]⟩
    · refine ⟨rfl, ⟨rfl, rfl, ?_⟩, ?_⟩
      · refine ⟨cur, hg, hc, hm, hcs, fun i z j l hi hj => ?_⟩
        obtain ⟨u, hu, hr⟩ := hvals i z j l hi hj
        rw [← htake, List.getElem?_take] at hu
        split at hu
        · exact ⟨u, by simpa using hu, hr⟩
        · cases hu
      · intro g' hg'
        cases hg'
        exact ⟨rfl, (Array.getElem?_eq_some_iff.1 hg).1⟩
  obtain ⟨e1, e2, e3⟩ := hval
  refine ⟨β.add nid hd, by rw [e1]; exact .own (Pl.add_same _ _ _), Pl.ext_add hβn hd, ?_⟩
  refine hs.upd nid hd _ old ?_ (Pl.ext_add hβn hd) (Pl.add_same _ _ _) (fun id hh hb => Pl.add_or hb) ⟨hgrow.os, hgrow.tape, hgrow.output, hgrow.size⟩ (fun k hk hne => hgrow.block k hk hne)
    (fun g hg => (hold g hg).1) ?_ e2 ?_ hD hDn
  · intro id x hx
    by_cases he : id = nid
    · subst he; rw [putH_same] at hx; cases hx; exact .inl ⟨rfl, rfl⟩
    · rw [putH_other _ _ he] at hx; exact .inr ⟨he, hobjs id x hx⟩
  · intro g id x hh hor hne hx hb
    rw [putH_other _ _ hne] at hx
    rcases hor with h1 | h1
    · exact (hold g h1).2 id x hh hx hb
    · rcases hnew g (e3 g h1).1 with h2 | h2
      · exact (hold g h2).2 id x hh hx hb
      · intro hg
        have := hs.lt _ _ _ hb hg
        omega
  · intro g hg
    rcases hnew g (e3 g hg).1 with h2 | h2
    · exact ⟨(hold g h2).1.1, (e3 g hg).2, (hold g h2).1.2⟩
    · exact ⟨hs.ro_none h2, (e3 g hg).2, Nat.le_trans hs.base.size h2⟩
theorem own_ownsRow (hs : HSat w0 β ro D objs w) {id el : Nat} {e : EN} {xs : List (T e)} (ho : objs id = some (.row el e xs)) {v : Value} (hv : RepS β ro (.own id) v) :
    ∃ vals, w.ownsRow 0 el (sz e) v xs.length vals ∧
      (∀ (i : Nat) (x : T e) (j : Nat) (l : Leaf), xs[i]? = some x → (cells e x)[j]? = some l → ∃ u, vals[i * sz e + j]? = some u ∧ Rep ro l u) ∧
      ∀ g, v.ownBlock = some g → ∃ h, β id = some h ∧ h.blk = some g := by
  cases hv with
  | own hb =>
    rename_i h
    obtain ⟨h', hb', h1, h2, h3⟩ := hs.obj id _ ho
    rw [hb] at hb'; cases hb'
    cases hblk : h.blk with
    | none =>
      simp only [hblk] at h3
      have : xs = [] := List.eq_nil_of_length_eq_zero (by omega)
      subst this
      refine ⟨[], by simpa [Hd.val, hblk] using World.ownsRow_nil w 0 el (sz e), by simp, fun g hg => ?_⟩
      simp [Hd.val, hblk, Value.ownBlock] at hg
    | some g =>
      simp only [hblk] at h3
      obtain ⟨cur, k1, k2, k3, k4, k5⟩ := h3
      refine ⟨cur.toList.take (xs.length * sz e), ⟨?_, .inr ⟨g, h.cap, cur, by simp [Hd.val, hblk, h2], Nat.zero_le _, k1, by omega, k3, k4, rfl⟩⟩, fun i x j l hi hj => ?_, fun g' hg' => ?_⟩
      · have : xs.length * sz e ≤ cur.size := by rw [k4]; exact Nat.mul_le_mul_right _ (by omega)
        simp; omega
      · obtain ⟨u, hu, hr⟩ := k5 i x j l hi hj
        refine ⟨u, ?_, hr⟩
        have hix := (List.getElem?_eq_some_iff.1 hi).1
        have hjx : j < sz e := by rw [← cells_length e x]; exact (List.getElem?_eq_some_iff.1 hj).1
        have : (i + 1) * sz e ≤ xs.length * sz e := Nat.mul_le_mul_right _ hix
        rw [Nat.add_mul, Nat.one_mul] at this
        rw [List.getElem?_take, if_pos (by omega)]
        simpa using hu
      · simp [Hd.val, hblk, Value.ownBlock] at hg'
        subst hg'
        exact ⟨h, hb, hblk⟩
theorem big_le : big = 1073741824 := rfl
theorem appendTo_sound (hs : HSat w0 β ro D objs w) {t ty el nid : Nat} {e : EN} {inf : TypeInfo} {z : Value} (ht : P.underlying t = some (.slice el)) (hi : P.info? el = some inf) (hz : inf.zero = some z)
    (hsize : inf.size = sz e) (hzs : z.cells.size = sz e) (hby : inf.bytes ≤ 131072) (hpos : 0 < sz e)
    {s : SV} {sv xv : Value} (hsv : RepS β ro s sv) {ys : List (T e)} (hsrc : SrcAt w ro e ys xv) (hn : ¬ D nid) {D' : Nat → Prop} (hD : ∀ id, D id → D' id) (hDn : D' nid)
    {rs rs' : List Nat} {v : SV} {u : List (Nat × Option SO)} (h : (appendTo nid el e s ys).run objs rs = some ((v, u), rs')) :
    Goes w0 β ro D' (putAll objs u) v ((Builtin.append_ #[t, t] ty #[sv, xv]).run P w) := by
  have common : ∀ (zs : List (T e)) (vals : List Value) (objs1 : Heap), w.ownsRow 0 el (sz e) sv zs.length vals →
      (∀ (i : Nat) (x : T e) (j : Nat) (l : Leaf), zs[i]? = some x → (cells e x)[j]? = some l → ∃ u, vals[i * sz e + j]? = some u ∧ Rep ro l u) →
      zs.length + ys.length ≤ big → (∀ id x, objs1 id = some x → objs id = some x) →
      (∀ g, sv.ownBlock = some g → (ro g = none ∧ w0.heap.size ≤ g) ∧ ∀ id x hh, objs1 id = some x → β id = some hh → hh.blk ≠ some g) →
      Goes w0 β ro D' (putH objs1 nid (some (.row el e (zs ++ ys)))) (.own nid) ((Builtin.append_ #[t, t] ty #[sv, xv]).run P w) := by
    intro zs vals objs1 hown hvals hbig hobjs hold
    have hfin : ∀ (w' : World) (v' : Value) (vals' : List Value), w'.ownsRow 0 el (sz e) v' (zs ++ ys).length vals' → w.grownBy w' sv.ownBlock →
        (∀ (i : Nat) (x : T e) (j : Nat) (l : Leaf), (zs ++ ys)[i]? = some x → (cells e x)[j]? = some l → ∃ u, vals'[i * sz e + j]? = some u ∧ Rep ro l u) →
        (Builtin.append_ #[t, t] ty #[sv, xv]).run P w = .ok v' w' → (∀ g, v'.ownBlock = some g → sv.ownBlock = some g ∨ w.heap.size ≤ g) →
        Goes w0 β ro D' (putH objs1 nid (some (.row el e (zs ++ ys)))) (.own nid) ((Builtin.append_ #[t, t] ty #[sv, xv]).run P w) := by
      intro w' v' vals' a1 a2 a3 a4 a5
      obtain ⟨β', b1, b2, b3⟩ := row_goes hs hn hD hDn a1 a2 a3 hobjs hold a5
      exact ⟨v', w', β', ro, a4, b1, b2, ro.ext_refl, b3⟩
    rcases hsrc with ⟨rfl, rfl⟩ | ⟨a, cap, us, rfl, hsp, hml, hc⟩
    · refine hfin w sv vals (by simpa using hown) ⟨rfl, rfl, rfl, Nat.le_refl _, fun _ _ _ => rfl⟩ (by simpa using hvals) (run_append_owned_none w 0 t ty el inf (sz e) ht hi sv zs.length vals hown) (fun g hg => .inl hg)
    · obtain ⟨n1, n2⟩ := src_news (w := w) hsp hc
      have hb : (zs.length + ys.length) * inf.bytes ≤ 140737488355328 := by
        have := Nat.mul_le_mul hbig hby
        simp only [big_le] at this
        omega
      obtain ⟨v', w', r1, r2, r3, r4, r5⟩ := run_append_own_at (P := P) w 0 t ty el inf z (sz e) inf.bytes ht hi hz hsize rfl hzs hpos sv zs.length vals hown a ys.length cap (flat us ys.length (sz e))
        (flat_length _ _ _) n1 n2 (by simp only [big_le] at hbig; simp only [maxLen]; omega) hb (Nat.zero_le _)
      refine hfin w' v' (vals ++ flat us ys.length (sz e)) (by rw [List.length_append]; exact r2) r3 (fun i x j l hi' hj => ?_) r1 (fun g hg => ?_)
      · have hjx : j < sz e := by rw [← cells_length e x]; exact (List.getElem?_eq_some_iff.1 hj).1
        by_cases hlt : i < zs.length
        · rw [List.getElem?_append_left hlt] at hi'
          obtain ⟨u, hu, hr⟩ := hvals i x j l hi' hj
          exact ⟨u, by rw [List.getElem?_append_left (List.getElem?_eq_some_iff.1 hu).1]; exact hu, hr⟩
        · rw [List.getElem?_append_right (by omega)] at hi'
          have hiy := (List.getElem?_eq_some_iff.1 hi').1
          obtain ⟨_, hr⟩ := hc _ x j l hi' hj
          refine ⟨us (i - zs.length) j, ?_, hr⟩
          have hvl : vals.length = zs.length * sz e := hown.1
          rw [List.getElem?_append_right (by rw [hvl]; have := Nat.mul_le_mul_right (sz e) (show zs.length ≤ i by omega); omega), hvl]
          rw [show i * sz e + j - zs.length * sz e = (i - zs.length) * sz e + j from by
            have := Nat.mul_le_mul_right (sz e) (show zs.length ≤ i by omega)
            rw [Nat.sub_mul]; omega]
          exact flat_at hiy hjx
      · rcases r5 with r5 | r5
        · exact .inl (by rw [← r5]; exact hg)
        · rw [hg] at r5; cases r5; exact .inr (Nat.le_refl _)
  unfold appendTo at h
  split at h
  · rename_i id
    simp only [OT.run] at h
    cases ho : objs id with
    | none => simp [ho, OT.run] at h
    | some o =>
      cases o with
      | blk cs => simp [ho, OT.run] at h
      | row et' e' xs =>
        simp only [ho] at h
        split at h
        · rename_i hbeq
          have := Nat.eq_of_beq_eq_true hbeq
          subst this
          split at h
          · rename_i he
            subst he
            simp only [OT.run] at h
            split at h
            · rename_i hb
              cases h
              obtain ⟨vals, o1, o2, o3⟩ := own_ownsRow hs ho hsv
              refine common xs vals (putH objs id none) o1 o2 (of_decide_eq_true hb) (fun i x hx => ?_) (fun g hg => ?_)
              · by_cases hid : i = id
                · subst hid; rw [putH_same] at hx; cases hx
                · rwa [putH_other _ _ hid] at hx
              · obtain ⟨hh, p1, p2⟩ := o3 g hg
                refine ⟨⟨hs.apart id _ hh g ho p1 p2, hs.above id _ hh g ho p1 p2⟩, fun id' x hh' hx hb' hg' => ?_⟩
                by_cases hid : id' = id
                · subst hid; rw [putH_same] at hx; cases hx
                · rw [putH_other _ _ hid] at hx
                  exact hid (hs.inj _ _ _ _ _ _ _ hx ho hb' p1 hg' p2)
            · cases h
          · simp [OT.run] at h
        · simp [OT.run] at h
  · simp only [OT.run] at h
    split at h
    · rename_i hb
      cases h
      cases hsv with
      | lit _ =>
        have := common [] [] objs (World.ownsRow_nil w 0 el (sz e)) (by simp) (by simpa using of_decide_eq_true hb) (fun _ _ h => h) (by simp [Value.ownBlock])
        simpa [putAll] using this
    · cases h
  · simp [OT.run] at h
end Go.Cat

namespace Go.Cat
open Go
variable {P : Program} {E : Env} {w0 : Pt} {β : Pl} {ro : Snap} {D : Nat → Prop} {objs : Heap} {w : World}
theorem mkI_rep' {k : IntKind} {n : Int} {l : Bool} (h : rngB k n = true) : RepS β ro (mkI k n l) (.int k n) := mkI_rep _ h
theorem minT_sound (lt : Bool) : ∀ (l : List SV) (x : SV) {us : List Value} {xv : Value} {rs rs' : List Nat} {v : SV} {u : List (Nat × Option SO)},
    RepS β ro x xv → RepL β ro l us → (minT lt x l).run objs rs = some ((v, u), rs') →
    Tells P β ro v u (us.foldlM (match lt with | true => Builtin.min2 | false => Builtin.max2) xv) w
  | [], x, us, xv, rs, rs', v, u, hx, hl, h => by
    rw [hl.of_nil]
    obtain ⟨rfl, rfl⟩ := ret_inv h
    exact ⟨rfl, xv, by simp, hx⟩
  | y :: r, x, us, xv, rs, rs', v, u, hx, hl, h => by
    obtain ⟨yv, us', rfl, hy, ht⟩ := hl.of_cons
    simp only [minT] at h
    cases hI : asI x with
    | none => simp [hI, OT.run] at h
    | some p =>
      obtain ⟨k, a, la⟩ := p
      cases hJ : asI y with
      | none => simp [hI, hJ, OT.run] at h
      | some q =>
        obtain ⟨k', b, lb⟩ := q
        obtain ⟨rfl, ra⟩ := asI_rep hI hx
        obtain ⟨rfl, rb⟩ := asI_rep hJ hy
        simp only [hI, hJ] at h
        split at h
        · rename_i hk
          subst hk
          cases lt with
          | true =>
            have ih := minT_sound true r _ (xv := .int k (if b < a then b else a)) (mkI_rep' (by split <;> assumption)) ht h
            obtain ⟨h1, y, h2, h3⟩ := ih
            exact ⟨h1, y, by simpa [List.foldlM_cons, Builtin.min2] using h2, h3⟩
          | false =>
            have ih := minT_sound false r _ (xv := .int k (if b > a then b else a)) (mkI_rep' (by split <;> assumption)) ht h
            obtain ⟨h1, y, h2, h3⟩ := ih
            exact ⟨h1, y, by simpa [List.foldlM_cons, Builtin.max2] using h2, h3⟩
        · simp [OT.run] at h
theorem RepL.layN {cs ds : List SV} {us vs : List Value} (h : RepL β ro cs us) (off : Nat) (k : RepL β ro ds vs) : RepL β ro (layN cs off ds) (Go.Cat.layN us off vs) := by
  induction ds generalizing cs us vs off with
  | nil => rw [k.of_nil]; exact h
  | cons d ds ih =>
    obtain ⟨v, vs', rfl, h1, h2⟩ := k.of_cons
    simp only [Go.Cat.layN]
    exact ih (h.set off h1) (off + 1) h2
theorem fold_layN (vs : List Value) : ∀ (off n : Nat) (us : Array Value),
    ((vs.zipIdx n).foldl (fun cs (p : Value × Nat) => cs.setIfInBounds (off + p.2) p.1) us).toList = layN us.toList (off + n) vs := by
  induction vs with
  | nil => intro off n us; rfl
  | cons v vs ih =>
    intro off n us
    simp only [List.zipIdx_cons, List.foldl_cons, layN]
    rw [ih off (n + 1)]
    simp [Array.toList_setIfInBounds, Nat.add_assoc]
theorem fillT_sound {place : Nat → Option (Nat × Nat)} : ∀ (ps : List (Nat × SV)) {pv : List (Nat × Value)} {cs cs' : List SV} {us : Array Value},
    RepL β ro cs us.toList → pv.map (·.1) = ps.map (·.1) → RepL β ro (ps.map (·.2)) (pv.map (·.2)) → fillT place cs ps = some cs' →
    ∃ us', Instr.fill place us pv = some us' ∧ RepL β ro cs' us'.toList ∧ cs'.length = cs.length
  | [], pv, cs, cs', us, hr, h1, h2, h => by
    cases pv with
    | nil => simp only [fillT] at h; cases h; exact ⟨us, rfl, hr, rfl⟩
    | cons p r => simp at h1
  | (i, x) :: r, pv, cs, cs', us, hr, h1, h2, h => by
    cases pv with
    | nil => simp at h1
    | cons p pr =>
      obtain ⟨j, xv⟩ := p
      simp only [List.map_cons, List.cons.injEq] at h1
      obtain ⟨rfl, h1⟩ := h1
      simp only [List.map_cons] at h2
      obtain ⟨y, ys, he, hx, ht⟩ := h2.of_cons
      simp only [List.cons.injEq] at he
      obtain ⟨rfl, rfl⟩ := he
      simp only [fillT] at h
      cases hp : place j with
      | none => simp [hp] at h
      | some os =>
        obtain ⟨off, s⟩ := os
        simp only [hp] at h
        cases hc : Nat.beq x.cells.length s && Nat.ble (off + s) cs.length && !anySV x with
        | false => simp [hc] at h
        | true =>
          simp only [hc] at h
          simp only [Bool.and_eq_true, Bool.not_eq_true'] at hc
          obtain ⟨⟨c1, c2⟩, c3⟩ := hc
          have c1 := Nat.eq_of_beq_eq_true c1
          have c2 := Nat.le_of_ble_eq_true c2
          have hne : x ≠ .any := by rintro rfl; simp [anySV] at c3
          have hL := (cells_rep hx hne).1
          have hsz : xv.cells.size = s := by rw [← c1, ← hL.1]; simp
          have hus : us.size = cs.length := by rw [← hr.1]; simp
          let us1 := xv.cells.zipIdx.foldl (fun cs (p : Value × Nat) => cs.setIfInBounds (off + p.2) p.1) us
          have hlay : us1.toList = layN us.toList off xv.cells.toList := by
            have := fold_layN xv.cells.toList off 0 us
            simp only [Nat.add_zero] at this
            rw [← this]
            simp only [us1, ← Array.foldl_toList, Array.toList_zipIdx]
          have hr1 : RepL β ro (layN cs off x.cells) us1.toList := by rw [hlay]; exact hr.layN off hL
          obtain ⟨us', k1, k2, k3⟩ := fillT_sound r hr1 h1 ht h
          refine ⟨us', ?_, k2, by rw [k3, layN_length]⟩
          simp only [Instr.fill, hp]
          rw [if_neg (by simp [hsz]; omega)]
          exact k1
theorem repeatN_length {α : Type} (l : List α) : ∀ n, (repeatN l n).length = n * l.length
  | 0 => by simp [repeatN]
  | n + 1 => by simp [repeatN, repeatN_length l n, Nat.add_mul, Nat.add_comm]
theorem repeatN_get {α : Type} (l : List α) : ∀ (n k : Nat), k < n * l.length → (repeatN l n)[k]? = l[k % l.length]?
  | 0, k, h => by simp at h
  | n + 1, k, h => by
    simp only [repeatN]
    by_cases hk : k < l.length
    · rw [List.getElem?_append_left hk, Nat.mod_eq_of_lt hk]
    · rw [List.getElem?_append_right (by omega), repeatN_get l n (k - l.length) (by rw [Nat.add_mul] at h; omega)]
      rw [Nat.mod_eq_sub_mod (a := k) (by omega)]
theorem repeatN_rep {cs : List SV} {us : List Value} (h : RepL β ro cs us) : ∀ n, RepL β ro (repeatN cs n) (repeatN us n)
  | 0 => .nil _ _
  | n + 1 => h.append (repeatN_rep h n)
theorem madeCells_toList {z : Array Value} {s n : Nat} (hz : z.size = s) (hs : 0 < s) : ((Array.range (n * s)).map (z[· % z.size]!)).toList = repeatN z.toList n := by
  apply List.ext_getElem?
  intro k
  by_cases hk : k < n * s
  · rw [repeatN_get _ n k (by simpa [hz] using hk)]
    have hm : k % s < z.size := by rw [hz]; exact Nat.mod_lt _ hs
    simp [hk, hz, hm]
    simp [Array.getElem?_eq_getElem hm]
    exact getElem!_pos z (k % s) hm
  · rw [List.getElem?_eq_none (by simp; omega), List.getElem?_eq_none (by rw [repeatN_length]; simp [hz]; omega)]
theorem repeatN_at {α : Type} {l : List α} {s n i j : Nat} (hl : l.length = s) (hi : i < n) (hj : j < s) : (repeatN l n)[i * s + j]? = l[j]? := by
  have h1 : i * s + j < n * s := by
    have : (i + 1) * s ≤ n * s := Nat.mul_le_mul_right _ hi
    rw [Nat.add_mul, Nat.one_mul] at this
    omega
  rw [repeatN_get l n _ (by rw [hl]; exact h1), hl]
  congr 1
  rw [Nat.mul_comm, Nat.mul_add_mod]
  exact Nat.mod_eq_of_lt hj
theorem build_places (hE : TysOk P E) (w : World) : ∀ (fields : List Field) (fs : List (Nat × Nat)), fields.map (fun f => (f.offset, f.type)) = fs →
    (∀ f ∈ fields, ∃ fi, P.info? f.type = some fi ∧ fi.size ≠ 0) →
    ∃ places : List (Nat × Nat), (fields.mapM fun f => Prod.mk f.offset <$> sizeOf f.type).run P w = .ok places w ∧
      ∀ (i : Nat) (p : Nat × Nat), ((fs[i]?).bind fun (p : Nat × Nat) => (sizeT E p.2).map fun s => (p.1, s)) = some p → places[i]? = some p
  | [], fs, h, _ => ⟨[], by simp, by intro i p hp; subst h; simp at hp⟩
  | f :: fields, fs, h, hf => by
    subst h
    obtain ⟨fi, hfi, _⟩ := hf f List.mem_cons_self
    obtain ⟨places, h1, h2⟩ := build_places hE w fields _ rfl (fun g hg => hf g (List.mem_cons_of_mem _ hg))
    have hs : (sizeOf f.type).run P w = .ok fi.size w := by simp [sizeOf, typeInfo, hfi]
    refine ⟨(f.offset, fi.size) :: places, by simp [List.mapM_cons, hs, h1], fun i p hp => ?_⟩
    cases i with
    | zero =>
      simp only [List.map_cons, List.getElem?_cons_zero, Option.bind_some] at hp
      cases hsz : sizeT E f.type with
      | none => simp [hsz] at hp
      | some s =>
        obtain ⟨j, hj, rfl⟩ := sizeT_look hsz
        obtain ⟨inf', z', d', q1, q2, q3, _⟩ := (hE.look hj).info
        rw [hfi] at q1; cases q1
        simp [hsz] at hp
        subst hp
        simp [q3]
    | succ i => simpa using h2 i p (by simpa using hp)
theorem fillT_mono {p q : Nat → Option (Nat × Nat)} (h : ∀ i x, p i = some x → q i = some x) : ∀ (ps : List (Nat × SV)) {cs cs' : List SV}, fillT p cs ps = some cs' → fillT q cs ps = some cs'
  | [], _, _, hf => hf
  | (i, v) :: r, cs, cs', hf => by
    simp only [fillT] at hf ⊢
    cases hp : p i with
    | none => simp [hp] at hf
    | some x =>
      obtain ⟨off, s⟩ := x
      simp only [hp] at hf
      simp only [h i _ hp]
      split at hf
      · exact fillT_mono h r hf
      · cases hf
theorem RepL.parts {ps : List (Nat × SV)} {pv : List (Nat × Value)} (h1 : pv.map (·.1) = ps.map (·.1)) : pv.length = ps.length := by
  have := congrArg List.length h1
  simpa using this
theorem buildT_sound (hE : TysOk P E) {t : Nat} {ps : List (Nat × SV)} {pv : Array (Nat × Value)} (h1 : pv.toList.map (·.1) = ps.map (·.1)) (h2 : RepL β ro (ps.map (·.2)) (pv.toList.map (·.2)))
    {rs rs' : List Nat} {v : SV} {u : List (Nat × Option SO)} (h : (buildT E t ps).run objs rs = some ((v, u), rs')) : Tells P β ro v u (Instr.build t pv) w := by
  unfold buildT at h
  split at h
  · rename_i i0 fs sz0 z en eq hl
    obtain ⟨inf, zv, d, k1, k2, k3, k4, k5, k6, k7, _, _, _, ⟨fields, rfl, hf, hsz, _⟩, _⟩ := (hE.look hl).info
    cases hfill : fillT (fun i => (fs[i]?).bind fun (p : Nat × Nat) => (sizeT E p.2).map fun s => (p.1, s)) z ps with
    | none => simp [hfill, onSome, OT.run] at h
    | some cs =>
      simp only [hfill, onSome] at h
      obtain ⟨rfl, rfl⟩ := ret_inv h
      obtain ⟨places, p1, p2⟩ := build_places hE w fields.toList fs hf hsz
      have hfill' := fillT_mono (q := fun i => places[i]?) p2 ps hfill
      have hz : RepL β ro z zv.cells.toList := by
        have := lits_rep (β := β) (ro := ro) k7
        simp only at k6
        rw [← k6]; exact this
      obtain ⟨us, f1, f2, f3⟩ := fillT_sound (us := zv.cells) ps hz h1 h2 hfill'
      refine ⟨rfl, .agg us, ?_, ?_⟩
      · have hm : (fields.mapM fun f => Prod.mk f.offset <$> sizeOf f.type).run P w = .ok places.toArray w := by
          rw [Array.mapM_eq_mapM_toList]
          simp [p1]
        have f1' : Instr.fill (fun x => places[x]?) zv.cells pv.toList = some us := f1
        simp [Instr.build, run_zero k1 k4, run_und k2, hm, f1']
      · have := RepS.agg (us := us.toList) f2.1 f2.2
        simpa using this
  · rename_i i0 n el sz0 z en eq hl
    obtain ⟨inf, zv, d, k1, k2, k3, k4, k5, k6, k7, _, _, _, rfl, _⟩ := (hE.look hl).info
    cases hsz : sizeT E el with
    | none => simp [hsz, onSome, OT.run] at h
    | some s =>
      simp only [hsz, onSome] at h
      obtain ⟨j, hj, hjs⟩ := sizeT_look hsz
      obtain ⟨inf', z', d', q1, q2, q3, _⟩ := (hE.look hj).info
      cases hfill : fillT (fun i => some (i * s, s)) z ps with
      | none => simp [hfill, OT.run] at h
      | some cs =>
        simp only [hfill] at h
        obtain ⟨rfl, rfl⟩ := ret_inv h
        have hz : RepL β ro z zv.cells.toList := by
          have := lits_rep (β := β) (ro := ro) k7
          simp only at k6
          rw [← k6]; exact this
        obtain ⟨us, f1, f2, f3⟩ := fillT_sound (us := zv.cells) ps hz h1 h2 hfill
        refine ⟨rfl, .agg us, ?_, ?_⟩
        · have : inf'.size = s := q3.trans hjs
          simp [Instr.build, run_zero k1 k4, run_und k2, run_sizeOf q1, this, f1]
        · have := RepS.agg (us := us.toList) f2.1 f2.2
          simpa using this
  · simp [OT.run] at h
theorem newRow_goes (hs : HSat w0 β ro D objs w) {nid el cap : Nat} {e : EN} {xs : List (T e)} (hn : ¬ D nid) {D' : Nat → Prop} (hD : ∀ id, D id → D' id) (hDn : D' nid) {cur : Array Value}
    (hcap : xs.length ≤ cap) (hm : cap ≤ maxLen) (hcur : cur.size = cap * sz e)
    (hc : ∀ (i : Nat) (x : T e) (j : Nat) (l : Leaf), xs[i]? = some x → (cells e x)[j]? = some l → ∃ u, cur[i * sz e + j]? = some u ∧ Rep ro l u) :
    Goes w0 β ro D' (putH objs nid (some (.row el e xs))) (.own nid) (.ok (.slice (some ⟨w.heap.size, 0, none⟩) xs.length cap) (w.alloc (.cells cur el))) := by
  have hβn := hs.none_of_D hn
  refine ⟨_, _, β.add nid ⟨some w.heap.size, cap, xs.length, sz e⟩, ro, rfl, ?_, Pl.ext_add hβn _, ro.ext_refl, ?_⟩
  · exact RepS.own (h := ⟨some w.heap.size, cap, xs.length, sz e⟩) (Pl.add_same _ _ _)
  · refine hs.fresh hn _ _ (base_alloc w _) (fun k hk => heap_alloc_old w _ k hk) (fun g hg => ?_) ?_ hD hDn
    · cases hg; exact ⟨Nat.le_refl _, by simp⟩
    · exact ⟨rfl, rfl, cur, heap_alloc_new w _, hcap, hm, hcur, hc⟩
theorem zero_row {e : EN} {z : Array Value} {n m : Nat} (hz : z.size = sz e) (h : RepC (fun _ => none) (cells e (zeroT e)) z.toList) (hnm : n ≤ m) {cur : Array Value} (hcur : cur.toList = repeatN z.toList m) :
    ∀ (i : Nat) (x : T e) (j : Nat) (l : Leaf), (List.replicate n (zeroT e))[i]? = some x → (cells e x)[j]? = some l → ∃ u, cur[i * sz e + j]? = some u ∧ Rep ro l u := by
  intro i x j l hi hj
  have hi' : i < n := by have := (List.getElem?_eq_some_iff.1 hi).1; simpa using this
  have hx : x = zeroT e := by simp [hi'] at hi; exact hi.symm
  subst hx
  have hj' : j < sz e := by rw [← cells_length e (zeroT e)]; exact (List.getElem?_eq_some_iff.1 hj).1
  have hjz : j < z.size := by omega
  refine ⟨z[j], ?_, (h.2 j l z[j] hj (by simp [hjz])).mono (fun _ _ h => by cases h)⟩
  have := repeatN_at (l := z.toList) (n := m) (by simpa using hz) (show i < m by omega) hj'
  rw [← Array.getElem?_toList, hcur, this]
  simp [hjz]
theorem makeSliceT_sound (hE : TysOk P E) (hs : HSat w0 β ro D objs w) {nid t : Nat} {l c : SV} {lv cv : Value} (hl : RepS β ro l lv) (hc : RepS β ro c cv) (hn : ¬ D nid) {D' : Nat → Prop} (hD : ∀ id, D id → D' id) (hDn : D' nid)
    {rs rs' : List Nat} {v : SV} {u : List (Nat × Option SO)} (h : (makeSliceT E nid t l c).run objs rs = some ((v, u), rs')) :
    Goes w0 β ro D' (putAll objs u) v ((Instr.makeSlice t lv cv).run P w) := by
  unfold makeSliceT at h
  split at h
  · rename_i i0 el _ _ _ _ _ n _ _ m _ hlk hI hJ
    obtain ⟨inf0, z0, d0, k1, k2, _, _, _, _, _, _, _, _, rfl, _⟩ := (hE.look hlk).info
    obtain ⟨rfl, _⟩ := asI_rep hI hl
    obtain ⟨rfl, _⟩ := asI_rep hJ hc
    split at h
    · rename_i j0 _ _ _ e _ hel
      obtain ⟨inf, z, d, q1, q2, q3, q4, q5, q6, q7, q8, _, _, _, q9⟩ := (hE.look hel).info
      obtain ⟨m1, m2, m3, m4⟩ := q9 _ rfl
      simp only [OT.run] at h
      split at h
      · rename_i hg
        cases h
        obtain ⟨g1, g2, g3⟩ := of_decide_eq_true hg
        simp only [big] at g3
        have hb : (inf.bytes : Int) * m ≤ 281474976710656 := by
          have h1 : (inf.bytes : Int) ≤ 131072 := by omega
          have h2 : (inf.bytes : Int) * m ≤ 131072 * 1073741824 := Int.mul_le_mul h1 g3 (by omega) (by omega)
          omega
        rw [run_make w t el inf z k2 q1 q4 _ _ n m g1 g2 hb (by omega)]
        have hzs : z.cells.size = sz e := q5.trans m1.symm
        have hcur : (madeCells z.cells (m.toNat * inf.size)).toList = repeatN z.cells.toList m.toNat := by
          have : inf.size = sz e := q3.trans m1.symm
          unfold madeCells
          rw [this]
          exact madeCells_toList hzs (by omega)
        have := newRow_goes (el := el) (xs := List.replicate n.toNat (zeroT e)) hs hn hD hDn (cap := m.toNat) (cur := madeCells z.cells (m.toNat * inf.size)) (by simp; omega) (by simp only [maxLen]; omega)
          (by rw [size_madeCells, show inf.size = sz e from q3.trans m1.symm]) (zero_row hzs m4 (by omega) hcur)
        simpa [putAll] using this
      · cases h
    · simp [OT.run] at h
  · simp [OT.run] at h
theorem chunk_rep {s : Nat} (hs1 : 0 < s) : ∀ (n : Nat) {cs : List SV} {us : List Value}, RepL β ro cs us → cs.all cellSV = true → cs.length = n * s →
    ∃ vs, RepL β ro (chunk s n cs) vs ∧ ∀ i, i < n → ∃ v, vs[i]? = some v ∧ v.cells.toList = (us.drop (i * s)).take s
  | 0, _, _, _, _, _ => ⟨[], .nil _ _, fun i hi => by omega⟩
  | n + 1, cs, us, hr, ha, hl => by
    have hle : s ≤ cs.length := by rw [hl, Nat.add_mul]; omega
    obtain ⟨vs, h1, h2⟩ := chunk_rep hs1 n (hr.drop s) (by rw [List.all_eq_true] at ha ⊢; exact fun x hx => ha x (List.mem_of_mem_drop hx)) (by simp [hl, Nat.add_mul])
    have htake := hr.take s
    have head : ∃ v, RepS β ro (match cs.take s with | [c] => c | l => .agg l) v ∧ v.cells.toList = us.take s := by
      have gen : ∃ v, RepS β ro (.agg (cs.take s)) v ∧ v.cells.toList = us.take s := ⟨.agg (us.take s).toArray, .agg htake.1 htake.2, by simp [Value.cells]⟩
      split
      · rename_i c hcs
        rw [hcs] at htake
        obtain ⟨y, ys, e1, e2, e3⟩ := htake.of_cons
        have hcm : cellSV c = true := List.all_eq_true.1 ha c (List.mem_of_mem_take (by rw [hcs]; simp))
        have h1c := cellSV_one hcm e2
        refine ⟨y, e2, ?_⟩
        rw [e1, e3.of_nil]
        cases y <;> simp_all [Value.cells, Value.oneCell']
      · exact gen
    obtain ⟨v, hv, hvc⟩ := head
    refine ⟨v :: vs, by simp only [chunk]; exact .cons hv h1, fun i hi => ?_⟩
    cases i with
    | zero => exact ⟨v, rfl, by simpa using hvc⟩
    | succ i =>
      obtain ⟨y, y1, y2⟩ := h2 i (by omega)
      refine ⟨y, by simpa using y1, ?_⟩
      rw [y2, List.drop_drop]
      congr 2
      rw [Nat.add_mul]; omega
theorem chunk_length (s : Nat) : ∀ (n : Nat) (cs : List SV), (chunk s n cs).length = n
  | 0, _ => rfl
  | n + 1, cs => by simp only [chunk, List.length_cons, chunk_length s n]
theorem elems_row (hs : HSat w0 β ro D objs w) {e : EN} {n : Nat} {cs : List SV} {us : Array Value} (hr : RepL β ro cs us.toList) (ha : cs.all cellSV = true) (hl : cs.length = n * sz e) (hpos : 0 < sz e)
    {xs : List (T e)} {is : List Nat} (h : elemsOf objs e (chunk (sz e) n cs) = some (xs, is)) :
    (∀ i ∈ is, (objs i).isSome) ∧ xs.length = n ∧ ∀ (i : Nat) (x : T e) (j : Nat) (l : Leaf), xs[i]? = some x → (cells e x)[j]? = some l → ∃ u, us[i * sz e + j]? = some u ∧ Rep (ro.plus β w is) l u := by
  obtain ⟨vs, h1, h2⟩ := chunk_rep hpos n hr ha hl
  obtain ⟨a1, a2, a3⟩ := elemsOf_rep hs h h1
  rw [chunk_length] at a2
  refine ⟨a1, a2, fun i x j l hi hj => ?_⟩
  have hin : i < n := by rw [← a2]; exact (List.getElem?_eq_some_iff.1 hi).1
  obtain ⟨v, hv, hvc⟩ := h2 i hin
  have hT := (a3 is (fun _ h => h) i x v hi hv).1
  have hj' : j < sz e := by rw [← cells_length e x]; exact (List.getElem?_eq_some_iff.1 hj).1
  have hus : us.size = n * sz e := by rw [← hl, ← hr.1]; simp
  have hlt : i * sz e + j < us.size := by
    have : (i + 1) * sz e ≤ n * sz e := Nat.mul_le_mul_right _ hin
    rw [Nat.add_mul, Nat.one_mul] at this
    omega
  refine ⟨us[i * sz e + j], by simp [hlt], hT.2 j l _ hj ?_⟩
  rw [hvc, List.getElem?_take, if_pos hj', List.getElem?_drop]
  simp [hlt]
theorem buildSliceT_sound (hE : TysOk P E) (hs : HSat w0 β ro D objs w) {nid t n : Nat} {ps : List (Nat × SV)} {pv : Array (Nat × Value)} (h1 : pv.toList.map (·.1) = ps.map (·.1)) (h2 : RepL β ro (ps.map (·.2)) (pv.toList.map (·.2)))
    (hn : ¬ D nid) {D' : Nat → Prop} (hD : ∀ id, D id → D' id) (hDn : D' nid)
    {rs rs' : List Nat} {v : SV} {u : List (Nat × Option SO)} (h : (buildSliceT E nid t n ps).run objs rs = some ((v, u), rs')) :
    Goes w0 β ro D' (putAll objs u) v ((Instr.buildSlice t n pv).run P w) := by
  unfold buildSliceT at h
  split at h
  · rename_i i0 el _ _ _ _ hlk
    obtain ⟨inf0, z0, d0, k1, k2, _, _, _, _, _, _, _, _, rfl, _⟩ := (hE.look hlk).info
    split at h
    · rename_i d0 s z e eq hel
      obtain ⟨inf, zv, d, q1, q2, q3, q4, q5, q6, q7, q8, _, _, _, q9⟩ := (hE.look hel).info
      obtain ⟨m1, m2, m3, m4⟩ := q9 _ rfl
      simp only at q3 q5 q6 m1 m2
      cases hc : Nat.beq s (sz e) && Nat.ble (n * s) 16777216 with
      | false => simp [hc, OT.run] at h
      | true =>
        simp only [hc] at h
        simp only [Bool.and_eq_true] at hc
        have hs1 := Nat.eq_of_beq_eq_true hc.1
        have hs2 := Nat.le_of_ble_eq_true hc.2
        subst hs1
        cases hfill : fillT (fun i => some (i * sz e, sz e)) (repeatN z n) ps with
        | none => simp [hfill, onSome, OT.run] at h
        | some cs =>
          simp only [hfill, onSome] at h
          have hz : RepL β ro z zv.cells.toList := by
            have := lits_rep (β := β) (ro := ro) q7
            rw [← q6]; exact this
          have hbase : ((Array.range (n * sz e)).map (zv.cells[· % zv.cells.size]!)).toList = repeatN zv.cells.toList n := madeCells_toList q5 m2
          obtain ⟨us, f1, f2, f3⟩ := fillT_sound (us := (Array.range (n * sz e)).map (zv.cells[· % zv.cells.size]!)) ps (by rw [hbase]; exact repeatN_rep hz n) h1 h2 hfill
          split at h
          · simp [OT.run] at h
          · rename_i hall
            obtain ⟨xs, is, rs1, e1, e2⟩ := toElems_run h
            simp only [OT.run] at e2
            cases e2
            have hlen : cs.length = n * sz e := by
              rw [f3, repeatN_length]
              have hzl : z.length = sz e := by
                have := hz.1
                simp at this
                omega
              rw [hzl]
            obtain ⟨b1, b2, b3⟩ := elems_row hs f2 hall hlen m2 e1
            have hus : us.size = n * sz e := by rw [← hlen, ← f2.1]; simp
            have hrun : (Instr.buildSlice t n pv).run P w = .ok (.slice (some ⟨w.heap.size, 0, none⟩) n n) (w.alloc (.cells us el)) := by
              by_cases h0 : n * sz e = 0
              · have f1' : Instr.fill (fun i => some (i * sz e, sz e)) #[] pv.toList = some us := by simpa [h0, Array.range_zero'] using f1
                simp [Instr.buildSlice, run_und k2, run_sizeOf q1, q3, h0, f1', newRow, Array.range_zero']
              · have hs2' : ¬ (16777216 < n * sz e) := by omega
                simp [Instr.buildSlice, run_und k2, run_sizeOf q1, q3, h0, hs2', run_zero q1 q4, f1, newRow]
            have := newRow_goes (el := el) (xs := xs) (hs.freeze is b1) hn hD hDn (cap := n) (cur := us) (by omega) (by simp only [maxLen]; have := Nat.le_mul_of_pos_right n m2; omega) hus b3
            rw [b2] at this
            rw [hrun, putAll_append]
            obtain ⟨x, w', β', ro', r1, r2, r3, r4, r5⟩ := this
            exact ⟨x, w', β', ro', r1, r2, r3, Snap.ext_trans (Snap.ext_plus hs.snap β is) r4, r5⟩
    · simp [OT.run] at h
  · simp [OT.run] at h
end Go.Cat

namespace Go.Cat
open Go
variable {P : Program} {E : Env} {w0 : Pt} {β : Pl} {ro : Snap} {D : Nat → Prop} {objs : Heap} {w : World}
theorem Tells.goes {D' : Nat → Prop} (hs : HSat w0 β ro D objs w) (hD : ∀ id, D id → D' id) {v : SV} {u : List (Nat × Option SO)} {s : Sem Value} (h : Tells P β ro v u s w) :
    Goes w0 β ro D' (putAll objs u) v (s.run P w) := by
  obtain ⟨rfl, x, h1, h2⟩ := h
  rw [h1]
  exact .pure hs hD h2
theorem HSat.newRo (hs : HSat w0 β ro D objs w) {w' : World} (hb : Base w w') (hsame : ∀ k, k < w.heap.size → w'.heap[k]? = w.heap[k]?) {D' : Nat → Prop} (hD : ∀ id, D id → D' id) :
    ro.ext (fun b => if b = w.heap.size then w'.heap[b]? else ro b) ∧ HSat w0 β (fun b => if b = w.heap.size then w'.heap[b]? else ro b) D' objs w' := by
  have hx : ro.ext (fun b => if b = w.heap.size then w'.heap[b]? else ro b) := by
    intro b o hbo
    have : b ≠ w.heap.size := by
      rintro rfl
      rw [hs.ro_none (Nat.le_refl _)] at hbo; cases hbo
    simp only [this, if_false]
    exact hbo
  refine ⟨hx, ⟨hs.base.trans hb, fun b hb' => by
      have h1 := hs.base.size
      have h2 : b < w.heap.size := Nat.lt_of_lt_of_le hb' h1
      simp only [show b ≠ w.heap.size by omega, if_false]
      exact hs.low b hb', fun k hk => (hsame k (Nat.lt_of_lt_of_le hk hs.base.size)).trans (hs.old k hk), ?_, fun id hh h => hD _ (hs.dom id hh h), fun id hh g h1 h2 => Nat.lt_of_lt_of_le (hs.lt id hh g h1 h2) hb.size, ?_, ?_, hs.above, hs.inj⟩⟩
  · intro b o hbo
    by_cases he : b = w.heap.size
    · simpa [he] using hbo
    · simp only [he, if_false] at hbo
      have h1 := hs.snap b o hbo
      rw [hsame b (Array.getElem?_eq_some_iff.1 h1).1]
      exact h1
  · intro id o ho
    obtain ⟨hh, h1, h2⟩ := hs.obj id o ho
    exact ⟨hh, h1, h2.mono β.ext_refl hx fun g hg => hsame g (hs.lt _ _ _ h1 hg)⟩
  · intro id o hh g h1 h2 h3
    have := hs.lt _ _ _ h2 h3
    simp only [show g ≠ w.heap.size by omega, if_false]
    exact hs.apart id o hh g h1 h2 h3
theorem wrap_rep {k : IntKind} {n : Int} (l : Bool) : RepS β ro (mkI k (k.wrap n) l) (.int k (k.wrap n)) := mkI_rep _ (wrap_rng _ _)
theorem u8_of_rng {n : Int} (h : rngB .u8 n = true) : ((UInt8.ofNat n.toNat).toNat : Int) = n := by
  simp only [rngB, IntKind.min, IntKind.max, IntKind.signed, IntKind.bits, Bool.and_eq_true, decide_eq_true_eq] at h
  have h1 : 0 ≤ n := by simpa using h.1
  have h2 : n ≤ 255 := by have := h.2; simp at this; omega
  rw [UInt8.toNat_ofNat']
  omega
theorem strOf_nums {xs : List Int} (h : ∀ n ∈ xs, rngB .u8 n = true) : strOf (strOfNums xs) = xs := by
  simp only [strOf, strOfNums_data, List.map_map]
  conv => rhs; rw [← List.map_id xs]
  apply List.map_congr_left
  intro n hn
  simp only [Function.comp_apply, id]
  exact u8_of_rng (h n hn)
theorem src_bytes {ys : List Int} {v : Value} (h : SrcAt w ro (.int .u8) ys v) {src e dst : TypeId} (hs : P.underlying src = some (.slice e)) (he : P.underlying e = some (.int .u8)) (hd : P.underlying dst = some .string) :
    ∃ b, (convert src dst v).run P w = .ok (.string b) w ∧ strOf b = ys ∧ b.size ≤ maxLen := by
  rcases h with ⟨rfl, rfl⟩ | ⟨a, cap, us, rfl, hsp, hml, hc⟩
  · exact ⟨_, run_convert_bytes_nil w src e hs he 0 0 dst hd, rfl, Nat.zero_le _⟩
  · have key : ∀ (i : Nat) (y : Int), ys[i]? = some y → w.cell? ⟨a.block, a.off + i, none⟩ = some (.int .u8 y) ∧ rngB .u8 y = true := by
      intro i y hi
      obtain ⟨h1, h2⟩ := hc i y 0 (.int .u8 y) hi rfl
      have hsz : sz (.int .u8) = 1 := rfl
      rw [hsz] at h1
      cases hu : us i 0 with
      | _ => (try (rw [hu] at h2; cases h2; rename_i hr; exact ⟨by rw [← hu]; simpa using h1, hr⟩)) <;> (rw [hu] at h2; cases h2)
    rcases hsp with hsp | rfl
    case inr =>
      have := run_convert_bytes_back (P := P) w src dst e a cap [] hs he hd (by simp)
      exact ⟨_, this, rfl, Nat.zero_le _⟩
    refine ⟨_, ?_, strOf_nums (xs := ys) (fun n hn => ?_), by rw [strOfNums_size]; exact hml⟩
    · have := run_convert_bytes_arg (P := P) w src e hs he a.block a.off ys.length cap ys rfl (fun i hi => by
        have := (key i ys[i] (List.getElem?_eq_getElem hi)).1
        rw [this]
        simp [List.getD, List.getElem?_eq_getElem hi]) dst hd
      have ha : a = ⟨a.block, a.off, none⟩ := by cases a; simp_all
      rw [ha]
      exact this
    · obtain ⟨i, hi, rfl⟩ := List.getElem_of_mem hn
      exact (key i _ (List.getElem?_eq_getElem hi)).2
theorem strBytes_goes (hs : HSat w0 β ro D objs w) {D' : Nat → Prop} (hD : ∀ id, D id → D' id) {src dst e : TypeId} {b : ByteArray} (h1 : P.underlying src = some .string) (h2 : P.underlying dst = some (.slice e))
    (h3 : P.underlying e = some (.int .u8)) (hb : b.size ≤ maxLen) : Goes w0 β ro D' (putAll objs []) (.leaf (.sl (.int .u8) (strOf b))) ((convert src dst (.string b)).run P w) := by
  rw [run_bytes_of_string w src dst e b h1 h2 h3]
  generalize hC : bytesRow b (grownCap w b.size 0 e) = C
  have hcap : b.size ≤ grownCap w b.size 0 e := grownCap_ge w b.size 0 e
  have hcm := grownCap_le_maxLen w b.size 0 e hb
  generalize grownCap w b.size 0 e = cap at *
  have hnew := heap_alloc_new w.drew (.cells C e (C.size, C.size + 1))
  obtain ⟨k1, k2⟩ := hs.newRo (D' := D') (w' := w.drew.alloc (.cells C e (C.size, C.size + 1))) ⟨rfl, rfl, rfl, by simp⟩ (fun k hk => heap_alloc_old w.drew _ k hk) hD
  generalize hw' : w.drew.alloc (.cells C e (C.size, C.size + 1)) = w' at *
  refine ⟨_, w', β, _, rfl, .leaf ?_, β.ext_refl, k1, k2⟩
  have idx : ∀ (i : Nat) (x : Int) (j : Nat) (l : Leaf), (strOf b)[i]? = some x → (cells (.int .u8) x)[j]? = some l → j = 0 ∧ i < b.data.size := by
    intro i x j l hi hj
    have h1 := (List.getElem?_eq_some_iff.1 hj).1
    have h2 := (List.getElem?_eq_some_iff.1 hi).1
    rw [strOf_length] at h2
    simp [cells] at h1
    exact ⟨h1, h2⟩
  have := Rep.sl (ro := fun k => if k = w.heap.size then w'.heap[k]? else ro k)
    (.int .u8) (strOf b) ⟨w.heap.size, 0, none⟩ cap (fun i _ => .int .u8 ((b.data[i]?).getD 0).toNat) (.inl rfl) (by rw [strOf_length]; exact hcap) hcm
    (fun i x j l hi hj => by
      obtain ⟨rfl, hib⟩ := idx i x j l hi hj
      have h0 : w'.heap[w.heap.size]? = some (.cells C e (C.size, C.size + 1)) := hnew
      simp only [Snap.cell?, if_true, h0, show sz (.int .u8) = 1 from rfl, Nat.mul_one, Nat.add_zero, Nat.zero_add]
      rw [← hC]
      rw [bytesRow, Array.getElem?_append_left (by simpa using hib)]
      simp only [Array.getElem?_map, Array.getElem?_eq_getElem hib, Option.map_some, Option.getD_some]
      rfl)
    (fun i x j l hi hj => by
      obtain ⟨rfl, hib⟩ := idx i x j l hi hj
      have hi' : (strOf b)[i]? = some ((b.data[i].toNat : Int)) := by simp only [strOf, List.getElem?_map, Array.getElem?_toList, Array.getElem?_eq_getElem hib, Option.map_some]
      have hx : x = ((b.data[i].toNat : Int)) := Option.some.inj (hi.symm.trans hi')
      have hl : l = .int .u8 x := by
        have : (cells (.int .u8) x)[0]? = some (.int .u8 x) := rfl
        rw [this] at hj; exact (Option.some.inj hj).symm
      subst hl hx
      simp only [Array.getElem?_eq_getElem hib, Option.getD_some]
      exact .int _ _ (rng_u8 _))
  rw [strOf_length] at this
  exact this
theorem convT_sound (hE : TysOk P E) (hs : HSat w0 β ro D objs w) {src dst : Nat} {x : SV} {xv : Value} (hx : RepS β ro x xv) {D' : Nat → Prop} (hD : ∀ id, D id → D' id)
    {rs rs' : List Nat} {v : SV} {u : List (Nat × Option SO)} (h : (convT E src dst x).run objs rs = some ((v, u), rs')) :
    Goes w0 β ro D' (putAll objs u) v ((convert src dst xv).run P w) := by
  unfold convT at h
  split at h
  · rename_i _ _ k1 _ _ _ _ k _ _ _ _ hl1 hl2
    obtain ⟨inf, z, d, a1, a2, _⟩ := (hE.look hl1).info
    obtain ⟨inf', z', d', b1, b2, _, _, _, _, _, _, _, _, rfl, _⟩ := (hE.look hl2).info
    cases hI : asI x with
    | none => simp [hI, OT.run] at h
    | some p =>
      obtain ⟨q, n, l⟩ := p
      obtain ⟨rfl, _⟩ := asI_rep hI hx
      simp only [hI] at h
      obtain ⟨rfl, rfl⟩ := ret_inv h
      have hk : P.intKind dst = k := by simp [Program.intKind, b2]
      have := run_convert_int (P := P) w src dst q n (by rw [a2]; rfl) (by rw [hk]; exact b2)
      rw [hk] at this
      rw [this]
      exact .pure hs hD (wrap_rep l)
  · rename_i hl1 hl2
    obtain ⟨inf, z, d, a1, a2, _, _, _, _, _, _, _, _, rfl, _⟩ := (hE.look hl1).info
    obtain ⟨inf', z', d', b1, b2, _, _, _, _, _, _, _, _, rfl, _⟩ := (hE.look hl2).info
    cases hS : asS x with
    | none => simp [hS, OT.run] at h
    | some s =>
      obtain ⟨b, rfl, rfl, hb⟩ := asS_rep hS hx
      simp only [hS] at h
      obtain ⟨rfl, rfl⟩ := ret_inv h
      have : (convert src dst (.string b)).run P w = .ok (.string b) w := by simp [convert, run_und a2, run_und b2]
      rw [this]
      exact .pure hs hD hx
  · rename_i hl1 hl2
    obtain ⟨inf, z, d, a1, a2, _, _, _, _, _, _, _, _, rfl, _⟩ := (hE.look hl1).info
    obtain ⟨inf', z', d', b1, b2, _, _, _, _, _, _, _, _, rfl, _⟩ := (hE.look hl2).info
    split at h
    · rename_i hl3
      obtain ⟨inf'', z'', d'', c1, c2, _, _, _, _, _, _, _, _, rfl, _⟩ := (hE.look hl3).info
      split at h
      · obtain ⟨rfl, rfl⟩ := ret_inv h
        cases hx with
        | lit _ =>
          rw [run_convert_bytes_nil w src _ a2 c2 0 0 dst b2]
          exact .pure hs hD (.leaf (.str ByteArray.empty (Nat.zero_le _)))
      · obtain ⟨e, ys, rs1, h1, h2⟩ := seqOf_run hs hx h
        split at h1
        · rename_i xs
          obtain ⟨rfl, rfl⟩ := ret_inv h1
          obtain ⟨b, e1, e2, e3⟩ := src_bytes h2 a2 c2 b2
          rw [e1]
          exact .pure hs hD (.leaf (by rw [← e2]; exact .str b e3))
        · simp [OT.run] at h1
    · simp [OT.run] at h
  · rename_i hl1 hl2
    obtain ⟨inf, z, d, a1, a2, _, _, _, _, _, _, _, _, rfl, _⟩ := (hE.look hl1).info
    obtain ⟨inf', z', d', b1, b2, _, _, _, _, _, _, _, _, rfl, _⟩ := (hE.look hl2).info
    split at h
    · rename_i s hl3 hS
      obtain ⟨inf'', z'', d'', c1, c2, _, _, _, _, _, _, _, _, rfl, _⟩ := (hE.look hl3).info
      obtain ⟨rfl, rfl⟩ := ret_inv h
      obtain ⟨b, rfl, rfl, hb⟩ := asS_rep hS hx
      exact strBytes_goes hs hD a2 b2 c2 hb
    · simp [OT.run] at h
  · simp [OT.run] at h
theorem appendT_sound (hE : TysOk P E) (hs : HSat w0 β ro D objs w) {t ty el nid : Nat} {e : EN} (he : elemEN E t = some (el, e)) {s x : SV} {sv xv : Value} (hsv : RepS β ro s sv) (hx : RepS β ro x xv)
    (hn : ¬ D nid) {D' : Nat → Prop} (hD : ∀ id, D id → D' id) (hDn : D' nid)
    {rs rs' : List Nat} {v : SV} {u : List (Nat × Option SO)} (h : (appendT nid el e s x).run objs rs = some ((v, u), rs')) :
    Goes w0 β ro D' (putAll objs u) v ((Builtin.append_ #[t, t] ty #[sv, xv]).run P w) := by
  obtain ⟨inf, z, h1, h2, h3, h4, h5, h6, h7, h8⟩ := elemEN_spec hE he
  unfold appendT at h
  split at h
  · cases hx with
    | lit _ => exact appendTo_sound hs h1 h2 h4 h3 h5 h6 h7 hsv (.inl ⟨rfl, rfl⟩) hn hD hDn h
  · obtain ⟨e', ys, rs1, k1, k2⟩ := seqOf_run hs hx h
    split at k1
    · rename_i hee
      subst hee
      exact appendTo_sound hs h1 h2 h4 h3 h5 h6 h7 hsv k2 hn hD hDn k1
    · simp [OT.run] at k1
theorem row_turn (hs : HSat w0 β ro D objs w) {id et : Nat} {e : EN} {xs ys : List (T e)} {hd : Hd} {g : Nat} (ho : objs id = some (.row et e xs)) (hb : β id = some hd) (hg : hd.blk = some g)
    (hlen : ys.length = xs.length) {cur' : Array Value}
    (hcur : ∀ cur, w.heap[g]? = some (.cells cur et (0, 0)) → cur.size = hd.cap * sz e → (∀ (i : Nat) (x : T e) (j : Nat) (l : Leaf), xs[i]? = some x → (cells e x)[j]? = some l → ∃ u, cur[i * sz e + j]? = some u ∧ Rep ro l u) →
      cur'.size = cur.size ∧ ∀ (i : Nat) (y : T e) (j : Nat) (l : Leaf), ys[i]? = some y → (cells e y)[j]? = some l → ∃ u, cur'[i * sz e + j]? = some u ∧ Rep ro l u) {D' : Nat → Prop} (hD : ∀ id, D id → D' id) :
    HSat w0 β ro D' (putH objs id (some (.row et e ys))) (w.setRow g cur') := by
  obtain ⟨h', hb', k1, k2, k3⟩ := hs.obj id _ ho
  rw [hb] at hb'; cases hb'
  simp only [hg] at k3
  obtain ⟨cur, m1, m2, m3, m4, m5⟩ := k3
  obtain ⟨c1, c2⟩ := hcur cur m1 m4 m5
  refine hs.turn (o' := .row et e ys) (w' := w.setRow g cur') ho hb hg (base_setRow w _ _) (fun k _ hk => setRow_other w g k _ hk) ⟨k1, by omega, ?_⟩ hD
  simp only [hg]
  exact ⟨cur', setRow_heap w g cur _ et _ m1, m2, m3, by omega, c2⟩
theorem list_ext_lay {α : Type} (xs ys : List α) (lo n : Nat) (h : lo + n ≤ xs.length) (hn : n ≤ ys.length) (i : Nat) :
    (xs.take lo ++ ys.take n ++ xs.drop (lo + n))[i]? = if lo ≤ i ∧ i < lo + n then ys[i - lo]? else xs[i]? := by
  have h1 := layN_get (ys.take n) xs lo i (by simp; omega)
  rw [layN_eq _ _ _ (by simp; omega)] at h1
  simp only [List.length_take, Nat.min_eq_left hn] at h1
  rw [h1]
  split
  · rename_i hc
    rw [List.getElem?_take, if_pos (by omega)]
  · rfl
theorem copy_row (hs : HSat w0 β ro D objs w) {id et : Nat} {e : EN} (h1 : sz e = 1) {xs ys : List (T e)} {hd : Hd} {g lo n dLen dCap : Nat} (ho : objs id = some (.row et e xs)) (hb : β id = some hd) (hg : hd.blk = some g)
    {t t' ty el : TypeId} {inf : TypeInfo} (ht : P.underlying t = some (.slice el)) (hi : P.info? el = some inf) (hsz : inf.size = sz e)
    {a : Addr} {sCap : Nat} {us : Nat → Nat → Value} (hsp : a.spot = none ∨ ys = [])
    (hc : ∀ (i : Nat) (y : T e) (j : Nat) (l : Leaf), ys[i]? = some y → (cells e y)[j]? = some l → w.cell? ⟨a.block, a.off + (i * sz e + j), none⟩ = some (us i j) ∧ Rep ro l (us i j))
    (hfit : lo + dLen ≤ xs.length) (hn : n = min ys.length dLen) {D' : Nat → Prop} (hD : ∀ id, D id → D' id) :
    ∃ w', (Builtin.copy_ #[t, t'] ty #[.slice (some ⟨g, lo, none⟩) dLen dCap, .slice (some a) ys.length sCap]).run P w = .ok (goInt n) w' ∧
      HSat w0 β ro D' (putH objs id (some (.row et e (xs.take lo ++ ys.take n ++ xs.drop (lo + n))))) w' := by
  obtain ⟨h', hb', k1, k2, k3⟩ := hs.obj id _ ho
  rw [hb] at hb'; cases hb'
  simp only [hg] at k3
  obtain ⟨cur, m1, m2, m3, m4, m5⟩ := k3
  rw [h1] at m4 hsz
  let cs : List Value := (List.range n).map fun i => us i 0
  have hcs : cs.length = n := by simp [cs]
  have hny : n ≤ ys.length := by omega
  have hat : ∀ i, i < n → w.cell? (a.add i) = some (us i 0) ∧ ∀ l, (ys[i]?).bind (fun y => (cells e y)[0]?) = some l → Rep ro l (us i 0) := by
    intro i hi
    have hy : i < ys.length := by omega
    have hl : 0 < (cells e ys[i]).length := by rw [cells_length, h1]; omega
    obtain ⟨c1, c2⟩ := hc i ys[i] 0 _ (List.getElem?_eq_getElem hy) (List.getElem?_eq_getElem hl)
    rw [h1] at c1
    refine ⟨by rw [addr_add (hsp.resolve_right (by rintro rfl; simp at hy))]; simpa using c1, fun l hl' => ?_⟩
    simp only [List.getElem?_eq_getElem hy, Option.bind_some, List.getElem?_eq_getElem hl] at hl'
    cases hl'
    exact c2
  have hone : ∀ u ∈ cs, u.oneCell' = true := by
    intro u hu
    simp only [cs, List.mem_map, List.mem_range] at hu
    obtain ⟨i, hi, rfl⟩ := hu
    have hy : i < ys.length := by omega
    have hl : 0 < (cells e ys[i]).length := by rw [cells_length, h1]; omega
    exact ((hat i hi).2 ((cells e ys[i])[0]) (by simp [List.getElem?_eq_getElem hy])).oneCell
  have hrun := run_copy_row (P := P) w t t' ty el g lo dLen dCap a ys.length sCap cur et cs ht (by rw [hi]; simp [hsz]) m1 (by rw [hcs, hn])
    (fun j v hj => by
      have hjn : j < n := by rw [← hcs]; exact (List.getElem?_eq_some_iff.1 hj).1
      simp [cs, hjn] at hj
      rw [← hj]
      exact (hat j hjn).1) (by rw [hcs, m4]; omega) hone
  rw [hcs] at hrun
  refine ⟨_, hrun, row_turn hs ho hb hg (by simp; omega) (fun cur' c1 c2 c3 => ?_) hD⟩
  rw [m1] at c1; cases c1
  have hfit' : lo + n ≤ cur.size := by rw [m4]; omega
  refine ⟨by simp [hcs]; omega, fun i y j l hy hj => ?_⟩
  have hj0 : j = 0 := by
    have := (List.getElem?_eq_some_iff.1 hj).1
    rw [cells_length, h1] at this
    omega
  subst hj0
  rw [h1, Nat.mul_one, Nat.add_zero]
  rw [list_ext_lay xs ys lo n (by omega) hny] at hy
  have key := layN_get cs cur.toList lo i (by simp [hcs]; omega)
  rw [layN_eq _ _ _ (by simp [hcs]; omega), hcs] at key
  have key' : (cur.toList.take lo ++ cs ++ cur.toList.drop (lo + n)).toArray[i]? = if lo ≤ i ∧ i < lo + n then cs[i - lo]? else cur[i]? := by
    rw [List.getElem?_toArray, key]
    simp
  rw [key']
  by_cases hin : lo ≤ i ∧ i < lo + n
  · rw [if_pos hin] at hy ⊢
    have hlt : i - lo < n := by omega
    refine ⟨us (i - lo) 0, by simp [cs, hlt], (hat _ hlt).2 l (by rw [hy]; exact hj)⟩
  · rw [if_neg hin] at hy ⊢
    obtain ⟨u, hu, hr⟩ := m5 i y 0 l hy hj
    rw [h1, Nat.mul_one, Nat.add_zero] at hu
    exact ⟨u, hu, hr⟩
end Go.Cat
