/-
  CatOps8: min, max, choice, values that are built, new slices, conversions, copies.
  CatOps9: conversions, copies, clear, append, slices of arrays; every operation.
  CatOpA: copy, clear, slices of arrays; every operation.
  CatOpB: every operation.
  CatStep: the tree of a region says a run of steps; steps that are apart may be swapped.
  CatSwap: steps that are apart may be swapped; an operation that may come first, comes first.
  CatReg: a region does what its tree says, in whatever order its operations come up.
-/
import Derived.Test.YtiobnfdbeedjaaaGreatC2
import Derived.Laws.IdiomCopy
import Derived.Laws.IdiomStrings
import Derived.Laws.BytesArg
import Derived.Test.YtiobnfdbeedjaaaGreatC1
set_option linter.unusedVariables false
set_option linter.unusedSimpArgs false
namespace Go.Cat
open Go

variable {P : Program} {E : Env} {w0 : Pt} {β : Pl} {ro : Snap} {D : Nat → Prop} {objs : Heap} {w : World}

/- ---------------------------------------------------------------- min, max, choice -/

theorem mkI_rep' {k : IntKind} {n : Int} {l : Bool} (h : rngB k n = true) : RepS β ro (mkI k n l) (.int k n) := mkI_rep _ h

theorem minT_sound (lt : Bool) : ∀ (l : List SV) (x : SV) {us : List Value} {xv : Value} {rs rs' : List Nat} {v : SV} {u : List (Nat × Option SO)},
    RepS β ro x xv → RepL β ro l us → (minT lt x l).run objs rs = some ((v, u), rs') →
    Tells P β ro v u (us.foldlM (match lt with | true => Builtin.min2 | false => Builtin.max2) xv) w
  | [], x, us, xv, rs, rs', v, u, hx, hl, h => by
    rw [hl.of_nil]
    obtain ⟨rfl, rfl⟩ := ret_inv h
    exact ⟨rfl, xv, by simp, hx⟩
  | y :: r, x, us, xv, rs, rs', v, u, hx, hl, h => by
    obtain ⟨yv, us', rfl, hy, ht⟩ := hl.of_cons
    simp only [minT] at h
    cases hI : asI x with
    | none => simp [hI, OT.run] at h
    | some p =>
      obtain ⟨k, a, la⟩ := p
      cases hJ : asI y with
      | none => simp [hI, hJ, OT.run] at h
      | some q =>
        obtain ⟨k', b, lb⟩ := q
        obtain ⟨rfl, ra⟩ := asI_rep hI hx
        obtain ⟨rfl, rb⟩ := asI_rep hJ hy
        simp only [hI, hJ] at h
        split at h
        · rename_i hk
          subst hk
          cases lt with
          | true =>
            have ih := minT_sound true r _ (xv := .int k (if b < a then b else a)) (mkI_rep' (by split <;> assumption)) ht h
            obtain ⟨h1, y, h2, h3⟩ := ih
            exact ⟨h1, y, by simpa [List.foldlM_cons, Builtin.min2] using h2, h3⟩
          | false =>
            have ih := minT_sound false r _ (xv := .int k (if b > a then b else a)) (mkI_rep' (by split <;> assumption)) ht h
            obtain ⟨h1, y, h2, h3⟩ := ih
            exact ⟨h1, y, by simpa [List.foldlM_cons, Builtin.max2] using h2, h3⟩
        · simp [OT.run] at h

/- ---------------------------------------------------------------- cells laid -/

theorem RepL.layN {cs ds : List SV} {us vs : List Value} (h : RepL β ro cs us) (off : Nat) (k : RepL β ro ds vs) : RepL β ro (layN cs off ds) (Go.Cat.layN us off vs) := by
  induction ds generalizing cs us vs off with
  | nil => rw [k.of_nil]; exact h
  | cons d ds ih =>
    obtain ⟨v, vs', rfl, h1, h2⟩ := k.of_cons
    simp only [Go.Cat.layN]
    exact ih (h.set off h1) (off + 1) h2

theorem fold_layN (vs : List Value) : ∀ (off n : Nat) (us : Array Value),
    ((vs.zipIdx n).foldl (fun cs (p : Value × Nat) => cs.setIfInBounds (off + p.2) p.1) us).toList = layN us.toList (off + n) vs := by
  induction vs with
  | nil => intro off n us; rfl
  | cons v vs ih =>
    intro off n us
    simp only [List.zipIdx_cons, List.foldl_cons, layN]
    rw [ih off (n + 1)]
    simp [Array.toList_setIfInBounds, Nat.add_assoc]

theorem fillT_sound {place : Nat → Option (Nat × Nat)} : ∀ (ps : List (Nat × SV)) {pv : List (Nat × Value)} {cs cs' : List SV} {us : Array Value},
    RepL β ro cs us.toList → pv.map (·.1) = ps.map (·.1) → RepL β ro (ps.map (·.2)) (pv.map (·.2)) → fillT place cs ps = some cs' →
    ∃ us', Instr.fill place us pv = some us' ∧ RepL β ro cs' us'.toList ∧ cs'.length = cs.length
  | [], pv, cs, cs', us, hr, h1, h2, h => by
    cases pv with
    | nil => simp only [fillT] at h; cases h; exact ⟨us, rfl, hr, rfl⟩
    | cons p r => simp at h1
  | (i, x) :: r, pv, cs, cs', us, hr, h1, h2, h => by
    cases pv with
    | nil => simp at h1
    | cons p pr =>
      obtain ⟨j, xv⟩ := p
      simp only [List.map_cons, List.cons.injEq] at h1
      obtain ⟨rfl, h1⟩ := h1
      simp only [List.map_cons] at h2
      obtain ⟨y, ys, he, hx, ht⟩ := h2.of_cons
      simp only [List.cons.injEq] at he
      obtain ⟨rfl, rfl⟩ := he
      simp only [fillT] at h
      cases hp : place j with
      | none => simp [hp] at h
      | some os =>
        obtain ⟨off, s⟩ := os
        simp only [hp] at h
        cases hc : Nat.beq x.cells.length s && Nat.ble (off + s) cs.length && !anySV x with
        | false => simp [hc] at h
        | true =>
          simp only [hc] at h
          simp only [Bool.and_eq_true, Bool.not_eq_true'] at hc
          obtain ⟨⟨c1, c2⟩, c3⟩ := hc
          have c1 := Nat.eq_of_beq_eq_true c1
          have c2 := Nat.le_of_ble_eq_true c2
          have hne : x ≠ .any := by rintro rfl; simp [anySV] at c3
          have hL := (cells_rep hx hne).1
          have hsz : xv.cells.size = s := by rw [← c1, ← hL.1]; simp
          have hus : us.size = cs.length := by rw [← hr.1]; simp
          let us1 := xv.cells.zipIdx.foldl (fun cs (p : Value × Nat) => cs.setIfInBounds (off + p.2) p.1) us
          have hlay : us1.toList = layN us.toList off xv.cells.toList := by
            have := fold_layN xv.cells.toList off 0 us
            simp only [Nat.add_zero] at this
            rw [← this]
            simp only [us1, ← Array.foldl_toList, Array.toList_zipIdx]
          have hr1 : RepL β ro (layN cs off x.cells) us1.toList := by rw [hlay]; exact hr.layN off hL
          obtain ⟨us', k1, k2, k3⟩ := fillT_sound r hr1 h1 ht h
          refine ⟨us', ?_, k2, by rw [k3, layN_length]⟩
          simp only [Instr.fill, hp]
          rw [if_neg (by simp [hsz]; omega)]
          exact k1

theorem repeatN_length {α : Type} (l : List α) : ∀ n, (repeatN l n).length = n * l.length
  | 0 => by simp [repeatN]
  | n + 1 => by simp [repeatN, repeatN_length l n, Nat.add_mul, Nat.add_comm]

theorem repeatN_get {α : Type} (l : List α) : ∀ (n k : Nat), k < n * l.length → (repeatN l n)[k]? = l[k % l.length]?
  | 0, k, h => by simp at h
  | n + 1, k, h => by
    simp only [repeatN]
    by_cases hk : k < l.length
    · rw [List.getElem?_append_left hk, Nat.mod_eq_of_lt hk]
    · rw [List.getElem?_append_right (by omega), repeatN_get l n (k - l.length) (by rw [Nat.add_mul] at h; omega)]
      rw [Nat.mod_eq_sub_mod (a := k) (by omega)]

theorem repeatN_rep {cs : List SV} {us : List Value} (h : RepL β ro cs us) : ∀ n, RepL β ro (repeatN cs n) (repeatN us n)
  | 0 => .nil _ _
  | n + 1 => h.append (repeatN_rep h n)

theorem madeCells_toList {z : Array Value} {s n : Nat} (hz : z.size = s) (hs : 0 < s) : ((Array.range (n * s)).map (z[· % z.size]!)).toList = repeatN z.toList n := by
  apply List.ext_getElem?
  intro k
  by_cases hk : k < n * s
  · rw [repeatN_get _ n k (by simpa [hz] using hk)]
    have hm : k % s < z.size := by rw [hz]; exact Nat.mod_lt _ hs
    simp [hk, hz, hm]
    simp [Array.getElem?_eq_getElem hm]
    exact getElem!_pos z (k % s) hm
  · rw [List.getElem?_eq_none (by simp; omega), List.getElem?_eq_none (by rw [repeatN_length]; simp [hz]; omega)]

theorem repeatN_at {α : Type} {l : List α} {s n i j : Nat} (hl : l.length = s) (hi : i < n) (hj : j < s) : (repeatN l n)[i * s + j]? = l[j]? := by
  have h1 : i * s + j < n * s := by
    have : (i + 1) * s ≤ n * s := Nat.mul_le_mul_right _ hi
    rw [Nat.add_mul, Nat.one_mul] at this
    omega
  rw [repeatN_get l n _ (by rw [hl]; exact h1), hl]
  congr 1
  rw [Nat.mul_comm, Nat.mul_add_mod]
  exact Nat.mod_eq_of_lt hj

/- ---------------------------------------------------------------- built values -/

theorem build_places (hE : TysOk P E) (w : World) : ∀ (fields : List Field) (fs : List (Nat × Nat)), fields.map (fun f => (f.offset, f.type)) = fs →
    (∀ f ∈ fields, ∃ fi, P.info? f.type = some fi ∧ fi.size ≠ 0) →
    ∃ places : List (Nat × Nat), (fields.mapM fun f => Prod.mk f.offset <$> sizeOf f.type).run P w = .ok places w ∧
      ∀ (i : Nat) (p : Nat × Nat), ((fs[i]?).bind fun (p : Nat × Nat) => (sizeT E p.2).map fun s => (p.1, s)) = some p → places[i]? = some p
  | [], fs, h, _ => ⟨[], by simp, by intro i p hp; subst h; simp at hp⟩
  | f :: fields, fs, h, hf => by
    subst h
    obtain ⟨fi, hfi, _⟩ := hf f List.mem_cons_self
    obtain ⟨places, h1, h2⟩ := build_places hE w fields _ rfl (fun g hg => hf g (List.mem_cons_of_mem _ hg))
    have hs : (sizeOf f.type).run P w = .ok fi.size w := by simp [sizeOf, typeInfo, hfi]
    refine ⟨(f.offset, fi.size) :: places, by simp [List.mapM_cons, hs, h1], fun i p hp => ?_⟩
    cases i with
    | zero =>
      simp only [List.map_cons, List.getElem?_cons_zero, Option.bind_some] at hp
      cases hsz : sizeT E f.type with
      | none => simp [hsz] at hp
      | some s =>
        obtain ⟨j, hj, rfl⟩ := sizeT_look hsz
        obtain ⟨inf', z', d', q1, q2, q3, _⟩ := (hE.look hj).info
        rw [hfi] at q1; cases q1
        simp [hsz] at hp
        subst hp
        simp [q3]
    | succ i => simpa using h2 i p (by simpa using hp)

theorem fillT_mono {p q : Nat → Option (Nat × Nat)} (h : ∀ i x, p i = some x → q i = some x) : ∀ (ps : List (Nat × SV)) {cs cs' : List SV}, fillT p cs ps = some cs' → fillT q cs ps = some cs'
  | [], _, _, hf => hf
  | (i, v) :: r, cs, cs', hf => by
    simp only [fillT] at hf ⊢
    cases hp : p i with
    | none => simp [hp] at hf
    | some x =>
      obtain ⟨off, s⟩ := x
      simp only [hp] at hf
      simp only [h i _ hp]
      split at hf
      · exact fillT_mono h r hf
      · cases hf

theorem RepL.parts {ps : List (Nat × SV)} {pv : List (Nat × Value)} (h1 : pv.map (·.1) = ps.map (·.1)) : pv.length = ps.length := by
  have := congrArg List.length h1
  simpa using this

theorem buildT_sound (hE : TysOk P E) {t : Nat} {ps : List (Nat × SV)} {pv : Array (Nat × Value)} (h1 : pv.toList.map (·.1) = ps.map (·.1)) (h2 : RepL β ro (ps.map (·.2)) (pv.toList.map (·.2)))
    {rs rs' : List Nat} {v : SV} {u : List (Nat × Option SO)} (h : (buildT E t ps).run objs rs = some ((v, u), rs')) : Tells P β ro v u (Instr.build t pv) w := by
  unfold buildT at h
  split at h
  · rename_i i0 fs sz0 z en eq hl
    obtain ⟨inf, zv, d, k1, k2, k3, k4, k5, k6, k7, _, _, _, ⟨fields, rfl, hf, hsz, _⟩, _⟩ := (hE.look hl).info
    cases hfill : fillT (fun i => (fs[i]?).bind fun (p : Nat × Nat) => (sizeT E p.2).map fun s => (p.1, s)) z ps with
    | none => simp [hfill, onSome, OT.run] at h
    | some cs =>
      simp only [hfill, onSome] at h
      obtain ⟨rfl, rfl⟩ := ret_inv h
      obtain ⟨places, p1, p2⟩ := build_places hE w fields.toList fs hf hsz
      have hfill' := fillT_mono (q := fun i => places[i]?) p2 ps hfill
      have hz : RepL β ro z zv.cells.toList := by
        have := lits_rep (β := β) (ro := ro) k7
        simp only at k6
        rw [← k6]; exact this
      obtain ⟨us, f1, f2, f3⟩ := fillT_sound (us := zv.cells) ps hz h1 h2 hfill'
      refine ⟨rfl, .agg us, ?_, ?_⟩
      · have hm : (fields.mapM fun f => Prod.mk f.offset <$> sizeOf f.type).run P w = .ok places.toArray w := by
          rw [Array.mapM_eq_mapM_toList]
          simp [p1]
        have f1' : Instr.fill (fun x => places[x]?) zv.cells pv.toList = some us := f1
        simp [Instr.build, run_zero k1 k4, run_und k2, hm, f1']
      · have := RepS.agg (us := us.toList) f2.1 f2.2
        simpa using this
  · rename_i i0 n el sz0 z en eq hl
    obtain ⟨inf, zv, d, k1, k2, k3, k4, k5, k6, k7, _, _, _, rfl, _⟩ := (hE.look hl).info
    cases hsz : sizeT E el with
    | none => simp [hsz, onSome, OT.run] at h
    | some s =>
      simp only [hsz, onSome] at h
      obtain ⟨j, hj, hjs⟩ := sizeT_look hsz
      obtain ⟨inf', z', d', q1, q2, q3, _⟩ := (hE.look hj).info
      cases hfill : fillT (fun i => some (i * s, s)) z ps with
      | none => simp [hfill, OT.run] at h
      | some cs =>
        simp only [hfill] at h
        obtain ⟨rfl, rfl⟩ := ret_inv h
        have hz : RepL β ro z zv.cells.toList := by
          have := lits_rep (β := β) (ro := ro) k7
          simp only at k6
          rw [← k6]; exact this
        obtain ⟨us, f1, f2, f3⟩ := fillT_sound (us := zv.cells) ps hz h1 h2 hfill
        refine ⟨rfl, .agg us, ?_, ?_⟩
        · have : inf'.size = s := q3.trans hjs
          simp [Instr.build, run_zero k1 k4, run_und k2, run_sizeOf q1, this, f1]
        · have := RepS.agg (us := us.toList) f2.1 f2.2
          simpa using this
  · simp [OT.run] at h

/- ---------------------------------------------------------------- new rows -/

/-- A new row in a new block. -/
theorem newRow_goes (hs : HSat w0 β ro D objs w) {nid el cap : Nat} {e : EN} {xs : List (T e)} (hn : ¬ D nid) {D' : Nat → Prop} (hD : ∀ id, D id → D' id) (hDn : D' nid) {cur : Array Value}
    (hcap : xs.length ≤ cap) (hm : cap ≤ maxLen) (hcur : cur.size = cap * sz e)
    (hc : ∀ (i : Nat) (x : T e) (j : Nat) (l : Leaf), xs[i]? = some x → (cells e x)[j]? = some l → ∃ u, cur[i * sz e + j]? = some u ∧ Rep ro l u) :
    Goes w0 β ro D' (putH objs nid (some (.row el e xs))) (.own nid) (.ok (.slice (some ⟨w.heap.size, 0, none⟩) xs.length cap) (w.alloc (.cells cur el))) := by
  have hβn := hs.none_of_D hn
  refine ⟨_, _, β.add nid ⟨some w.heap.size, cap, xs.length, sz e⟩, ro, rfl, ?_, Pl.ext_add hβn _, ro.ext_refl, ?_⟩
  · exact RepS.own (h := ⟨some w.heap.size, cap, xs.length, sz e⟩) (Pl.add_same _ _ _)
  · refine hs.fresh hn _ _ (base_alloc w _) (fun k hk => heap_alloc_old w _ k hk) (fun g hg => ?_) ?_ hD hDn
    · cases hg; exact ⟨Nat.le_refl _, by simp⟩
    · exact ⟨rfl, rfl, cur, heap_alloc_new w _, hcap, hm, hcur, hc⟩

theorem zero_row {e : EN} {z : Array Value} {n m : Nat} (hz : z.size = sz e) (h : RepC (fun _ => none) (cells e (zeroT e)) z.toList) (hnm : n ≤ m) {cur : Array Value} (hcur : cur.toList = repeatN z.toList m) :
    ∀ (i : Nat) (x : T e) (j : Nat) (l : Leaf), (List.replicate n (zeroT e))[i]? = some x → (cells e x)[j]? = some l → ∃ u, cur[i * sz e + j]? = some u ∧ Rep ro l u := by
  intro i x j l hi hj
  have hi' : i < n := by have := (List.getElem?_eq_some_iff.1 hi).1; simpa using this
  have hx : x = zeroT e := by simp [hi'] at hi; exact hi.symm
  subst hx
  have hj' : j < sz e := by rw [← cells_length e (zeroT e)]; exact (List.getElem?_eq_some_iff.1 hj).1
  have hjz : j < z.size := by omega
  refine ⟨z[j], ?_, (h.2 j l z[j] hj (by simp [hjz])).mono (fun _ _ h => by cases h)⟩
  have := repeatN_at (l := z.toList) (n := m) (by simpa using hz) (show i < m by omega) hj'
  rw [← Array.getElem?_toList, hcur, this]
  simp [hjz]

theorem makeSliceT_sound (hE : TysOk P E) (hs : HSat w0 β ro D objs w) {nid t : Nat} {l c : SV} {lv cv : Value} (hl : RepS β ro l lv) (hc : RepS β ro c cv) (hn : ¬ D nid) {D' : Nat → Prop} (hD : ∀ id, D id → D' id) (hDn : D' nid)
    {rs rs' : List Nat} {v : SV} {u : List (Nat × Option SO)} (h : (makeSliceT E nid t l c).run objs rs = some ((v, u), rs')) :
    Goes w0 β ro D' (putAll objs u) v ((Instr.makeSlice t lv cv).run P w) := by
  unfold makeSliceT at h
  split at h
  · rename_i i0 el _ _ _ _ _ n _ _ m _ hlk hI hJ
    obtain ⟨inf0, z0, d0, k1, k2, _, _, _, _, _, _, _, _, rfl, _⟩ := (hE.look hlk).info
    obtain ⟨rfl, _⟩ := asI_rep hI hl
    obtain ⟨rfl, _⟩ := asI_rep hJ hc
    split at h
    · rename_i j0 _ _ _ e _ hel
      obtain ⟨inf, z, d, q1, q2, q3, q4, q5, q6, q7, q8, _, _, _, q9⟩ := (hE.look hel).info
      obtain ⟨m1, m2, m3, m4⟩ := q9 _ rfl
      simp only [OT.run] at h
      split at h
      · rename_i hg
        cases h
        obtain ⟨g1, g2, g3⟩ := of_decide_eq_true hg
        simp only [big] at g3
        have hb : (inf.bytes : Int) * m ≤ 281474976710656 := by
          have h1 : (inf.bytes : Int) ≤ 131072 := by omega
          have h2 : (inf.bytes : Int) * m ≤ 131072 * 1073741824 := Int.mul_le_mul h1 g3 (by omega) (by omega)
          omega
        rw [run_make w t el inf z k2 q1 q4 _ _ n m g1 g2 hb (by omega)]
        have hzs : z.cells.size = sz e := q5.trans m1.symm
        have hcur : (madeCells z.cells (m.toNat * inf.size)).toList = repeatN z.cells.toList m.toNat := by
          have : inf.size = sz e := q3.trans m1.symm
          unfold madeCells
          rw [this]
          exact madeCells_toList hzs (by omega)
        have := newRow_goes (el := el) (xs := List.replicate n.toNat (zeroT e)) hs hn hD hDn (cap := m.toNat) (cur := madeCells z.cells (m.toNat * inf.size)) (by simp; omega) (by simp only [maxLen]; omega)
          (by rw [size_madeCells, show inf.size = sz e from q3.trans m1.symm]) (zero_row hzs m4 (by omega) hcur)
        simpa [putAll] using this
      · cases h
    · simp [OT.run] at h
  · simp [OT.run] at h

theorem chunk_rep {s : Nat} (hs1 : 0 < s) : ∀ (n : Nat) {cs : List SV} {us : List Value}, RepL β ro cs us → cs.all cellSV = true → cs.length = n * s →
    ∃ vs, RepL β ro (chunk s n cs) vs ∧ ∀ i, i < n → ∃ v, vs[i]? = some v ∧ v.cells.toList = (us.drop (i * s)).take s
  | 0, _, _, _, _, _ => ⟨[], .nil _ _, fun i hi => by omega⟩
  | n + 1, cs, us, hr, ha, hl => by
    have hle : s ≤ cs.length := by rw [hl, Nat.add_mul]; omega
    obtain ⟨vs, h1, h2⟩ := chunk_rep hs1 n (hr.drop s) (by rw [List.all_eq_true] at ha ⊢; exact fun x hx => ha x (List.mem_of_mem_drop hx)) (by simp [hl, Nat.add_mul])
    have htake := hr.take s
    have head : ∃ v, RepS β ro (match cs.take s with | [c] => c | l => .agg l) v ∧ v.cells.toList = us.take s := by
      have gen : ∃ v, RepS β ro (.agg (cs.take s)) v ∧ v.cells.toList = us.take s := ⟨.agg (us.take s).toArray, .agg htake.1 htake.2, by simp [Value.cells]⟩
      split
      · rename_i c hcs
        rw [hcs] at htake
        obtain ⟨y, ys, e1, e2, e3⟩ := htake.of_cons
        have hcm : cellSV c = true := List.all_eq_true.1 ha c (List.mem_of_mem_take (by rw [hcs]; simp))
        have h1c := cellSV_one hcm e2
        refine ⟨y, e2, ?_⟩
        rw [e1, e3.of_nil]
        cases y <;> simp_all [Value.cells, Value.oneCell']
      · exact gen
    obtain ⟨v, hv, hvc⟩ := head
    refine ⟨v :: vs, by simp only [chunk]; exact .cons hv h1, fun i hi => ?_⟩
    cases i with
    | zero => exact ⟨v, rfl, by simpa using hvc⟩
    | succ i =>
      obtain ⟨y, y1, y2⟩ := h2 i (by omega)
      refine ⟨y, by simpa using y1, ?_⟩
      rw [y2, List.drop_drop]
      congr 2
      rw [Nat.add_mul]; omega

theorem chunk_length (s : Nat) : ∀ (n : Nat) (cs : List SV), (chunk s n cs).length = n
  | 0, _ => rfl
  | n + 1, cs => by simp only [chunk, List.length_cons, chunk_length s n]

/-- Cells, dealt into elements, as a row. -/
theorem elems_row (hs : HSat w0 β ro D objs w) {e : EN} {n : Nat} {cs : List SV} {us : Array Value} (hr : RepL β ro cs us.toList) (ha : cs.all cellSV = true) (hl : cs.length = n * sz e) (hpos : 0 < sz e)
    {xs : List (T e)} {is : List Nat} (h : elemsOf objs e (chunk (sz e) n cs) = some (xs, is)) :
    (∀ i ∈ is, (objs i).isSome) ∧ xs.length = n ∧ ∀ (i : Nat) (x : T e) (j : Nat) (l : Leaf), xs[i]? = some x → (cells e x)[j]? = some l → ∃ u, us[i * sz e + j]? = some u ∧ Rep (ro.plus β w is) l u := by
  obtain ⟨vs, h1, h2⟩ := chunk_rep hpos n hr ha hl
  obtain ⟨a1, a2, a3⟩ := elemsOf_rep hs h h1
  rw [chunk_length] at a2
  refine ⟨a1, a2, fun i x j l hi hj => ?_⟩
  have hin : i < n := by rw [← a2]; exact (List.getElem?_eq_some_iff.1 hi).1
  obtain ⟨v, hv, hvc⟩ := h2 i hin
  have hT := (a3 is (fun _ h => h) i x v hi hv).1
  have hj' : j < sz e := by rw [← cells_length e x]; exact (List.getElem?_eq_some_iff.1 hj).1
  have hus : us.size = n * sz e := by rw [← hl, ← hr.1]; simp
  have hlt : i * sz e + j < us.size := by
    have : (i + 1) * sz e ≤ n * sz e := Nat.mul_le_mul_right _ hin
    rw [Nat.add_mul, Nat.one_mul] at this
    omega
  refine ⟨us[i * sz e + j], by simp [hlt], hT.2 j l _ hj ?_⟩
  rw [hvc, List.getElem?_take, if_pos hj', List.getElem?_drop]
  simp [hlt]

theorem buildSliceT_sound (hE : TysOk P E) (hs : HSat w0 β ro D objs w) {nid t n : Nat} {ps : List (Nat × SV)} {pv : Array (Nat × Value)} (h1 : pv.toList.map (·.1) = ps.map (·.1)) (h2 : RepL β ro (ps.map (·.2)) (pv.toList.map (·.2)))
    (hn : ¬ D nid) {D' : Nat → Prop} (hD : ∀ id, D id → D' id) (hDn : D' nid)
    {rs rs' : List Nat} {v : SV} {u : List (Nat × Option SO)} (h : (buildSliceT E nid t n ps).run objs rs = some ((v, u), rs')) :
    Goes w0 β ro D' (putAll objs u) v ((Instr.buildSlice t n pv).run P w) := by
  unfold buildSliceT at h
  split at h
  · rename_i i0 el _ _ _ _ hlk
    obtain ⟨inf0, z0, d0, k1, k2, _, _, _, _, _, _, _, _, rfl, _⟩ := (hE.look hlk).info
    split at h
    · rename_i d0 s z e eq hel
      obtain ⟨inf, zv, d, q1, q2, q3, q4, q5, q6, q7, q8, _, _, _, q9⟩ := (hE.look hel).info
      obtain ⟨m1, m2, m3, m4⟩ := q9 _ rfl
      simp only at q3 q5 q6 m1 m2
      cases hc : Nat.beq s (sz e) && Nat.ble (n * s) 16777216 with
      | false => simp [hc, OT.run] at h
      | true =>
        simp only [hc] at h
        simp only [Bool.and_eq_true] at hc
        have hs1 := Nat.eq_of_beq_eq_true hc.1
        have hs2 := Nat.le_of_ble_eq_true hc.2
        subst hs1
        cases hfill : fillT (fun i => some (i * sz e, sz e)) (repeatN z n) ps with
        | none => simp [hfill, onSome, OT.run] at h
        | some cs =>
          simp only [hfill, onSome] at h
          have hz : RepL β ro z zv.cells.toList := by
            have := lits_rep (β := β) (ro := ro) q7
            rw [← q6]; exact this
          have hbase : ((Array.range (n * sz e)).map (zv.cells[· % zv.cells.size]!)).toList = repeatN zv.cells.toList n := madeCells_toList q5 m2
          obtain ⟨us, f1, f2, f3⟩ := fillT_sound (us := (Array.range (n * sz e)).map (zv.cells[· % zv.cells.size]!)) ps (by rw [hbase]; exact repeatN_rep hz n) h1 h2 hfill
          split at h
          · simp [OT.run] at h
          · rename_i hall
            obtain ⟨xs, is, rs1, e1, e2⟩ := toElems_run h
            simp only [OT.run] at e2
            cases e2
            have hlen : cs.length = n * sz e := by
              rw [f3, repeatN_length]
              have hzl : z.length = sz e := by
                have := hz.1
                simp at this
                omega
              rw [hzl]
            obtain ⟨b1, b2, b3⟩ := elems_row hs f2 hall hlen m2 e1
            have hus : us.size = n * sz e := by rw [← hlen, ← f2.1]; simp
            have hrun : (Instr.buildSlice t n pv).run P w = .ok (.slice (some ⟨w.heap.size, 0, none⟩) n n) (w.alloc (.cells us el)) := by
              by_cases h0 : n * sz e = 0
              · have f1' : Instr.fill (fun i => some (i * sz e, sz e)) #[] pv.toList = some us := by simpa [h0, Array.range_zero'] using f1
                simp [Instr.buildSlice, run_und k2, run_sizeOf q1, q3, h0, f1', newRow, Array.range_zero']
              · have hs2' : ¬ (16777216 < n * sz e) := by omega
                simp [Instr.buildSlice, run_und k2, run_sizeOf q1, q3, h0, hs2', run_zero q1 q4, f1, newRow]
            have := newRow_goes (el := el) (xs := xs) (hs.freeze is b1) hn hD hDn (cap := n) (cur := us) (by omega) (by simp only [maxLen]; have := Nat.le_mul_of_pos_right n m2; omega) hus b3
            rw [b2] at this
            rw [hrun, putAll_append]
            obtain ⟨x, w', β', ro', r1, r2, r3, r4, r5⟩ := this
            exact ⟨x, w', β', ro', r1, r2, r3, Snap.ext_trans (Snap.ext_plus hs.snap β is) r4, r5⟩
      
    · simp [OT.run] at h
  · simp [OT.run] at h

end Go.Cat

namespace Go.Cat
open Go

variable {P : Program} {E : Env} {w0 : Pt} {β : Pl} {ro : Snap} {D : Nat → Prop} {objs : Heap} {w : World}

theorem Tells.goes {D' : Nat → Prop} (hs : HSat w0 β ro D objs w) (hD : ∀ id, D id → D' id) {v : SV} {u : List (Nat × Option SO)} {s : Sem Value} (h : Tells P β ro v u s w) :
    Goes w0 β ro D' (putAll objs u) v (s.run P w) := by
  obtain ⟨rfl, x, h1, h2⟩ := h
  rw [h1]
  exact .pure hs hD h2

/-- A new block that is read only from its birth. -/
theorem HSat.newRo (hs : HSat w0 β ro D objs w) {w' : World} (hb : Base w w') (hsame : ∀ k, k < w.heap.size → w'.heap[k]? = w.heap[k]?) {D' : Nat → Prop} (hD : ∀ id, D id → D' id) :
    ro.ext (fun b => if b = w.heap.size then w'.heap[b]? else ro b) ∧ HSat w0 β (fun b => if b = w.heap.size then w'.heap[b]? else ro b) D' objs w' := by
  have hx : ro.ext (fun b => if b = w.heap.size then w'.heap[b]? else ro b) := by
    intro b o hbo
    have : b ≠ w.heap.size := by
      rintro rfl
      rw [hs.ro_none (Nat.le_refl _)] at hbo; cases hbo
    simp only [this, if_false]
    exact hbo
  refine ⟨hx, ⟨hs.base.trans hb, fun b hb' => by
      have h1 := hs.base.size
      have h2 : b < w.heap.size := Nat.lt_of_lt_of_le hb' h1
      simp only [show b ≠ w.heap.size by omega, if_false]
      exact hs.low b hb', fun k hk => (hsame k (Nat.lt_of_lt_of_le hk hs.base.size)).trans (hs.old k hk), ?_, fun id hh h => hD _ (hs.dom id hh h), fun id hh g h1 h2 => Nat.lt_of_lt_of_le (hs.lt id hh g h1 h2) hb.size, ?_, ?_, hs.above, hs.inj⟩⟩
  · intro b o hbo
    by_cases he : b = w.heap.size
    · simpa [he] using hbo
    · simp only [he, if_false] at hbo
      have h1 := hs.snap b o hbo
      rw [hsame b (Array.getElem?_eq_some_iff.1 h1).1]
      exact h1
  · intro id o ho
    obtain ⟨hh, h1, h2⟩ := hs.obj id o ho
    exact ⟨hh, h1, h2.mono β.ext_refl hx fun g hg => hsame g (hs.lt _ _ _ h1 hg)⟩
  · intro id o hh g h1 h2 h3
    have := hs.lt _ _ _ h2 h3
    simp only [show g ≠ w.heap.size by omega, if_false]
    exact hs.apart id o hh g h1 h2 h3

theorem wrap_rep {k : IntKind} {n : Int} (l : Bool) : RepS β ro (mkI k (k.wrap n) l) (.int k (k.wrap n)) := mkI_rep _ (wrap_rng _ _)

theorem u8_of_rng {n : Int} (h : rngB .u8 n = true) : ((UInt8.ofNat n.toNat).toNat : Int) = n := by
  simp only [rngB, IntKind.min, IntKind.max, IntKind.signed, IntKind.bits, Bool.and_eq_true, decide_eq_true_eq] at h
  have h1 : 0 ≤ n := by simpa using h.1
  have h2 : n ≤ 255 := by have := h.2; simp at this; omega
  rw [UInt8.toNat_ofNat']
  omega

theorem strOf_nums {xs : List Int} (h : ∀ n ∈ xs, rngB .u8 n = true) : strOf (strOfNums xs) = xs := by
  simp only [strOf, strOfNums_data, List.map_map]
  conv => rhs; rw [← List.map_id xs]
  apply List.map_congr_left
  intro n hn
  simp only [Function.comp_apply, id]
  exact u8_of_rng (h n hn)

theorem src_bytes {ys : List Int} {v : Value} (h : SrcAt w ro (.int .u8) ys v) {src e dst : TypeId} (hs : P.underlying src = some (.slice e)) (he : P.underlying e = some (.int .u8)) (hd : P.underlying dst = some .string) :
    ∃ b, (convert src dst v).run P w = .ok (.string b) w ∧ strOf b = ys ∧ b.size ≤ maxLen := by
  rcases h with ⟨rfl, rfl⟩ | ⟨a, cap, us, rfl, hsp, hml, hc⟩
  · exact ⟨_, run_convert_bytes_nil w src e hs he 0 0 dst hd, rfl, Nat.zero_le _⟩
  · have key : ∀ (i : Nat) (y : Int), ys[i]? = some y → w.cell? ⟨a.block, a.off + i, none⟩ = some (.int .u8 y) ∧ rngB .u8 y = true := by
      intro i y hi
      obtain ⟨h1, h2⟩ := hc i y 0 (.int .u8 y) hi rfl
      have hsz : sz (.int .u8) = 1 := rfl
      rw [hsz] at h1
      cases hu : us i 0 with
      | _ => (try (rw [hu] at h2; cases h2; rename_i hr; exact ⟨by rw [← hu]; simpa using h1, hr⟩)) <;> (rw [hu] at h2; cases h2)
    rcases hsp with hsp | rfl
    case inr =>
      have := run_convert_bytes_back (P := P) w src dst e a cap [] hs he hd (by simp)
      exact ⟨_, this, rfl, Nat.zero_le _⟩
    refine ⟨_, ?_, strOf_nums (xs := ys) (fun n hn => ?_), by rw [strOfNums_size]; exact hml⟩
    · have := run_convert_bytes_arg (P := P) w src e hs he a.block a.off ys.length cap ys rfl (fun i hi => by
        have := (key i ys[i] (List.getElem?_eq_getElem hi)).1
        rw [this]
        simp [List.getD, List.getElem?_eq_getElem hi]) dst hd
      have ha : a = ⟨a.block, a.off, none⟩ := by cases a; simp_all
      rw [ha]
      exact this
    · obtain ⟨i, hi, rfl⟩ := List.getElem_of_mem hn
      exact (key i _ (List.getElem?_eq_getElem hi)).2

theorem strBytes_goes (hs : HSat w0 β ro D objs w) {D' : Nat → Prop} (hD : ∀ id, D id → D' id) {src dst e : TypeId} {b : ByteArray} (h1 : P.underlying src = some .string) (h2 : P.underlying dst = some (.slice e))
    (h3 : P.underlying e = some (.int .u8)) (hb : b.size ≤ maxLen) : Goes w0 β ro D' (putAll objs []) (.leaf (.sl (.int .u8) (strOf b))) ((convert src dst (.string b)).run P w) := by
  rw [run_bytes_of_string w src dst e b h1 h2 h3]
  generalize hC : bytesRow b (grownCap w b.size 0 e) = C
  have hcap : b.size ≤ grownCap w b.size 0 e := grownCap_ge w b.size 0 e
  have hcm := grownCap_le_maxLen w b.size 0 e hb
  generalize grownCap w b.size 0 e = cap at *
  have hnew := heap_alloc_new w.drew (.cells C e (C.size, C.size + 1))
  obtain ⟨k1, k2⟩ := hs.newRo (D' := D') (w' := w.drew.alloc (.cells C e (C.size, C.size + 1))) ⟨rfl, rfl, rfl, by simp⟩ (fun k hk => heap_alloc_old w.drew _ k hk) hD
  generalize hw' : w.drew.alloc (.cells C e (C.size, C.size + 1)) = w' at *
  refine ⟨_, w', β, _, rfl, .leaf ?_, β.ext_refl, k1, k2⟩
  have idx : ∀ (i : Nat) (x : Int) (j : Nat) (l : Leaf), (strOf b)[i]? = some x → (cells (.int .u8) x)[j]? = some l → j = 0 ∧ i < b.data.size := by
    intro i x j l hi hj
    have h1 := (List.getElem?_eq_some_iff.1 hj).1
    have h2 := (List.getElem?_eq_some_iff.1 hi).1
    rw [strOf_length] at h2
    simp [cells] at h1
    exact ⟨h1, h2⟩
  have := Rep.sl (ro := fun k => if k = w.heap.size then w'.heap[k]? else ro k)
    (.int .u8) (strOf b) ⟨w.heap.size, 0, none⟩ cap (fun i _ => .int .u8 ((b.data[i]?).getD 0).toNat) (.inl rfl) (by rw [strOf_length]; exact hcap) hcm
    (fun i x j l hi hj => by
      obtain ⟨rfl, hib⟩ := idx i x j l hi hj
      have h0 : w'.heap[w.heap.size]? = some (.cells C e (C.size, C.size + 1)) := hnew
      simp only [Snap.cell?, if_true, h0, show sz (.int .u8) = 1 from rfl, Nat.mul_one, Nat.add_zero, Nat.zero_add]
      rw [← hC]
      rw [bytesRow, Array.getElem?_append_left (by simpa using hib)]
      simp only [Array.getElem?_map, Array.getElem?_eq_getElem hib, Option.map_some, Option.getD_some]
      rfl)
    (fun i x j l hi hj => by
      obtain ⟨rfl, hib⟩ := idx i x j l hi hj
      have hi' : (strOf b)[i]? = some ((b.data[i].toNat : Int)) := by simp only [strOf, List.getElem?_map, Array.getElem?_toList, Array.getElem?_eq_getElem hib, Option.map_some]
      have hx : x = ((b.data[i].toNat : Int)) := Option.some.inj (hi.symm.trans hi')
      have hl : l = .int .u8 x := by
        have : (cells (.int .u8) x)[0]? = some (.int .u8 x) := rfl
        rw [this] at hj; exact (Option.some.inj hj).symm
      subst hl hx
      simp only [Array.getElem?_eq_getElem hib, Option.getD_some]
      exact .int _ _ (rng_u8 _))
  rw [strOf_length] at this
  exact this

theorem convT_sound (hE : TysOk P E) (hs : HSat w0 β ro D objs w) {src dst : Nat} {x : SV} {xv : Value} (hx : RepS β ro x xv) {D' : Nat → Prop} (hD : ∀ id, D id → D' id)
    {rs rs' : List Nat} {v : SV} {u : List (Nat × Option SO)} (h : (convT E src dst x).run objs rs = some ((v, u), rs')) :
    Goes w0 β ro D' (putAll objs u) v ((convert src dst xv).run P w) := by
  unfold convT at h
  split at h
  · rename_i _ _ k1 _ _ _ _ k _ _ _ _ hl1 hl2
    obtain ⟨inf, z, d, a1, a2, _⟩ := (hE.look hl1).info
    obtain ⟨inf', z', d', b1, b2, _, _, _, _, _, _, _, _, rfl, _⟩ := (hE.look hl2).info
    cases hI : asI x with
    | none => simp [hI, OT.run] at h
    | some p =>
      obtain ⟨q, n, l⟩ := p
      obtain ⟨rfl, _⟩ := asI_rep hI hx
      simp only [hI] at h
      obtain ⟨rfl, rfl⟩ := ret_inv h
      have hk : P.intKind dst = k := by simp [Program.intKind, b2]
      have := run_convert_int (P := P) w src dst q n (by rw [a2]; rfl) (by rw [hk]; exact b2)
      rw [hk] at this
      rw [this]
      exact .pure hs hD (wrap_rep l)
  · rename_i hl1 hl2
    obtain ⟨inf, z, d, a1, a2, _, _, _, _, _, _, _, _, rfl, _⟩ := (hE.look hl1).info
    obtain ⟨inf', z', d', b1, b2, _, _, _, _, _, _, _, _, rfl, _⟩ := (hE.look hl2).info
    cases hS : asS x with
    | none => simp [hS, OT.run] at h
    | some s =>
      obtain ⟨b, rfl, rfl, hb⟩ := asS_rep hS hx
      simp only [hS] at h
      obtain ⟨rfl, rfl⟩ := ret_inv h
      have : (convert src dst (.string b)).run P w = .ok (.string b) w := by simp [convert, run_und a2, run_und b2]
      rw [this]
      exact .pure hs hD hx
  · rename_i hl1 hl2
    obtain ⟨inf, z, d, a1, a2, _, _, _, _, _, _, _, _, rfl, _⟩ := (hE.look hl1).info
    obtain ⟨inf', z', d', b1, b2, _, _, _, _, _, _, _, _, rfl, _⟩ := (hE.look hl2).info
    split at h
    · rename_i hl3
      obtain ⟨inf'', z'', d'', c1, c2, _, _, _, _, _, _, _, _, rfl, _⟩ := (hE.look hl3).info
      split at h
      · obtain ⟨rfl, rfl⟩ := ret_inv h
        cases hx with
        | lit _ =>
          rw [run_convert_bytes_nil w src _ a2 c2 0 0 dst b2]
          exact .pure hs hD (.leaf (.str ByteArray.empty (Nat.zero_le _)))
      · obtain ⟨e, ys, rs1, h1, h2⟩ := seqOf_run hs hx h
        split at h1
        · rename_i xs
          obtain ⟨rfl, rfl⟩ := ret_inv h1
          obtain ⟨b, e1, e2, e3⟩ := src_bytes h2 a2 c2 b2
          rw [e1]
          exact .pure hs hD (.leaf (by rw [← e2]; exact .str b e3))
        · simp [OT.run] at h1
    · simp [OT.run] at h
  · rename_i hl1 hl2
    obtain ⟨inf, z, d, a1, a2, _, _, _, _, _, _, _, _, rfl, _⟩ := (hE.look hl1).info
    obtain ⟨inf', z', d', b1, b2, _, _, _, _, _, _, _, _, rfl, _⟩ := (hE.look hl2).info
    split at h
    · rename_i s hl3 hS
      obtain ⟨inf'', z'', d'', c1, c2, _, _, _, _, _, _, _, _, rfl, _⟩ := (hE.look hl3).info
      obtain ⟨rfl, rfl⟩ := ret_inv h
      obtain ⟨b, rfl, rfl, hb⟩ := asS_rep hS hx
      exact strBytes_goes hs hD a2 b2 c2 hb
    · simp [OT.run] at h
  · simp [OT.run] at h

/- ---------------------------------------------------------------- append, copy, clear -/

theorem appendT_sound (hE : TysOk P E) (hs : HSat w0 β ro D objs w) {t ty el nid : Nat} {e : EN} (he : elemEN E t = some (el, e)) {s x : SV} {sv xv : Value} (hsv : RepS β ro s sv) (hx : RepS β ro x xv)
    (hn : ¬ D nid) {D' : Nat → Prop} (hD : ∀ id, D id → D' id) (hDn : D' nid)
    {rs rs' : List Nat} {v : SV} {u : List (Nat × Option SO)} (h : (appendT nid el e s x).run objs rs = some ((v, u), rs')) :
    Goes w0 β ro D' (putAll objs u) v ((Builtin.append_ #[t, t] ty #[sv, xv]).run P w) := by
  obtain ⟨inf, z, h1, h2, h3, h4, h5, h6, h7, h8⟩ := elemEN_spec hE he
  unfold appendT at h
  split at h
  · cases hx with
    | lit _ => exact appendTo_sound hs h1 h2 h4 h3 h5 h6 h7 hsv (.inl ⟨rfl, rfl⟩) hn hD hDn h
  · obtain ⟨e', ys, rs1, k1, k2⟩ := seqOf_run hs hx h
    split at k1
    · rename_i hee
      subst hee
      exact appendTo_sound hs h1 h2 h4 h3 h5 h6 h7 hsv k2 hn hD hDn k1
    · simp [OT.run] at k1

/-- A row's cells, laid over from 'off' on. -/
theorem row_turn (hs : HSat w0 β ro D objs w) {id et : Nat} {e : EN} {xs ys : List (T e)} {hd : Hd} {g : Nat} (ho : objs id = some (.row et e xs)) (hb : β id = some hd) (hg : hd.blk = some g)
    (hlen : ys.length = xs.length) {cur' : Array Value}
    (hcur : ∀ cur, w.heap[g]? = some (.cells cur et (0, 0)) → cur.size = hd.cap * sz e → (∀ (i : Nat) (x : T e) (j : Nat) (l : Leaf), xs[i]? = some x → (cells e x)[j]? = some l → ∃ u, cur[i * sz e + j]? = some u ∧ Rep ro l u) →
      cur'.size = cur.size ∧ ∀ (i : Nat) (y : T e) (j : Nat) (l : Leaf), ys[i]? = some y → (cells e y)[j]? = some l → ∃ u, cur'[i * sz e + j]? = some u ∧ Rep ro l u) {D' : Nat → Prop} (hD : ∀ id, D id → D' id) :
    HSat w0 β ro D' (putH objs id (some (.row et e ys))) (w.setRow g cur') := by
  obtain ⟨h', hb', k1, k2, k3⟩ := hs.obj id _ ho
  rw [hb] at hb'; cases hb'
  simp only [hg] at k3
  obtain ⟨cur, m1, m2, m3, m4, m5⟩ := k3
  obtain ⟨c1, c2⟩ := hcur cur m1 m4 m5
  refine hs.turn (o' := .row et e ys) (w' := w.setRow g cur') ho hb hg (base_setRow w _ _) (fun k _ hk => setRow_other w g k _ hk) ⟨k1, by omega, ?_⟩ hD
  simp only [hg]
  exact ⟨cur', setRow_heap w g cur _ et _ m1, m2, m3, by omega, c2⟩

theorem list_ext_lay {α : Type} (xs ys : List α) (lo n : Nat) (h : lo + n ≤ xs.length) (hn : n ≤ ys.length) (i : Nat) :
    (xs.take lo ++ ys.take n ++ xs.drop (lo + n))[i]? = if lo ≤ i ∧ i < lo + n then ys[i - lo]? else xs[i]? := by
  have h1 := layN_get (ys.take n) xs lo i (by simp; omega)
  rw [layN_eq _ _ _ (by simp; omega)] at h1
  simp only [List.length_take, Nat.min_eq_left hn] at h1
  rw [h1]
  split
  · rename_i hc
    rw [List.getElem?_take, if_pos (by omega)]
  · rfl

/-- Cells of one-cell elements copied into a row from element lo on. -/
theorem copy_row (hs : HSat w0 β ro D objs w) {id et : Nat} {e : EN} (h1 : sz e = 1) {xs ys : List (T e)} {hd : Hd} {g lo n dLen dCap : Nat} (ho : objs id = some (.row et e xs)) (hb : β id = some hd) (hg : hd.blk = some g)
    {t t' ty el : TypeId} {inf : TypeInfo} (ht : P.underlying t = some (.slice el)) (hi : P.info? el = some inf) (hsz : inf.size = sz e)
    {a : Addr} {sCap : Nat} {us : Nat → Nat → Value} (hsp : a.spot = none ∨ ys = [])
    (hc : ∀ (i : Nat) (y : T e) (j : Nat) (l : Leaf), ys[i]? = some y → (cells e y)[j]? = some l → w.cell? ⟨a.block, a.off + (i * sz e + j), none⟩ = some (us i j) ∧ Rep ro l (us i j))
    (hfit : lo + dLen ≤ xs.length) (hn : n = min ys.length dLen) {D' : Nat → Prop} (hD : ∀ id, D id → D' id) :
    ∃ w', (Builtin.copy_ #[t, t'] ty #[.slice (some ⟨g, lo, none⟩) dLen dCap, .slice (some a) ys.length sCap]).run P w = .ok (goInt n) w' ∧
      HSat w0 β ro D' (putH objs id (some (.row et e (xs.take lo ++ ys.take n ++ xs.drop (lo + n))))) w' := by
  obtain ⟨h', hb', k1, k2, k3⟩ := hs.obj id _ ho
  rw [hb] at hb'; cases hb'
  simp only [hg] at k3
  obtain ⟨cur, m1, m2, m3, m4, m5⟩ := k3
  rw [h1] at m4 hsz
  let cs : List Value := (List.range n).map fun i => us i 0
  have hcs : cs.length = n := by simp [cs]
  have hny : n ≤ ys.length := by omega
  have hat : ∀ i, i < n → w.cell? (a.add i) = some (us i 0) ∧ ∀ l, (ys[i]?).bind (fun y => (cells e y)[0]?) = some l → Rep ro l (us i 0) := by
    intro i hi
    have hy : i < ys.length := by omega
    have hl : 0 < (cells e ys[i]).length := by rw [cells_length, h1]; omega
    obtain ⟨c1, c2⟩ := hc i ys[i] 0 _ (List.getElem?_eq_getElem hy) (List.getElem?_eq_getElem hl)
    rw [h1] at c1
    refine ⟨by rw [addr_add (hsp.resolve_right (by rintro rfl; simp at hy))]; simpa using c1, fun l hl' => ?_⟩
    simp only [List.getElem?_eq_getElem hy, Option.bind_some, List.getElem?_eq_getElem hl] at hl'
    cases hl'
    exact c2
  have hone : ∀ u ∈ cs, u.oneCell' = true := by
    intro u hu
    simp only [cs, List.mem_map, List.mem_range] at hu
    obtain ⟨i, hi, rfl⟩ := hu
    have hy : i < ys.length := by omega
    have hl : 0 < (cells e ys[i]).length := by rw [cells_length, h1]; omega
    exact ((hat i hi).2 ((cells e ys[i])[0]) (by simp [List.getElem?_eq_getElem hy])).oneCell
  have hrun := run_copy_row (P := P) w t t' ty el g lo dLen dCap a ys.length sCap cur et cs ht (by rw [hi]; simp [hsz]) m1 (by rw [hcs, hn])
    (fun j v hj => by
      have hjn : j < n := by rw [← hcs]; exact (List.getElem?_eq_some_iff.1 hj).1
      simp [cs, hjn] at hj
      rw [← hj]
      exact (hat j hjn).1) (by rw [hcs, m4]; omega) hone
  rw [hcs] at hrun
  refine ⟨_, hrun, row_turn hs ho hb hg (by simp; omega) (fun cur' c1 c2 c3 => ?_) hD⟩
  rw [m1] at c1; cases c1
  have hfit' : lo + n ≤ cur.size := by rw [m4]; omega
  refine ⟨by simp [hcs]; omega, fun i y j l hy hj => ?_⟩
  have hj0 : j = 0 := by
    have := (List.getElem?_eq_some_iff.1 hj).1
    rw [cells_length, h1] at this
    omega
  subst hj0
  rw [h1, Nat.mul_one, Nat.add_zero]
  rw [list_ext_lay xs ys lo n (by omega) hny] at hy
  have key := layN_get cs cur.toList lo i (by simp [hcs]; omega)
  rw [layN_eq _ _ _ (by simp [hcs]; omega), hcs] at key
  have key' : (cur.toList.take lo ++ cs ++ cur.toList.drop (lo + n)).toArray[i]? = if lo ≤ i ∧ i < lo + n then cs[i - lo]? else cur[i]? := by
    rw [List.getElem?_toArray, key]
    simp
  rw [key']
  by_cases hin : lo ≤ i ∧ i < lo + n
  · rw [if_pos hin] at hy ⊢
    have hlt : i - lo < n := by omega
    refine ⟨us (i - lo) 0, by simp [cs, hlt], (hat _ hlt).2 l (by rw [hy]; exact hj)⟩
  · rw [if_neg hin] at hy ⊢
    obtain ⟨u, hu, hr⟩ := m5 i y 0 l hy hj
    rw [h1, Nat.mul_one, Nat.add_zero] at hu
    exact ⟨u, hu, hr⟩

end Go.Cat

namespace Go.Cat
open Go

variable {P : Program} {E : Env} {w0 : Pt} {β : Pl} {ro : Snap} {D : Nat → Prop} {objs : Heap} {w : World}

theorem putAll_one (h : Heap) (id : Nat) (o : Option SO) : putAll h [(id, o)] = putH h id o := rfl

theorem putH_id {h : Heap} {id : Nat} {o : SO} (ho : h id = some o) : putH h id (some o) = h := by
  funext i
  by_cases hi : i = id
  · subst hi; rw [putH_same, ho]
  · rw [putH_other _ _ hi]

/-- Where the destination of a copy lies. -/
theorem dst_none {dT t' ty el : TypeId} {inf : TypeInfo} (ht : P.underlying dT = some (.slice el)) (hi : P.info? el = some inf) (h1 : inf.size = 1) {e : EN} {ys : List (T e)} {xv : Value} (hsrc : SrcAt w ro e ys xv)
    {d : Option Addr} {n cap : Nat} (h0 : min ys.length n = 0) : (Builtin.copy_ #[dT, t'] ty #[.slice d n cap, xv]).run P w = .ok (goInt 0) w := by
  have hs : (P.info? el).map (·.size) = some 1 := by rw [hi]; simp [h1]
  rcases hsrc with ⟨rfl, rfl⟩ | ⟨a, c, us, rfl, _⟩
  · exact run_copy_none w dT t' ty el d none n cap 0 0 ht hs (by simp)
  · exact run_copy_none w dT t' ty el d (some a) n cap _ c ht hs h0

theorem take0 {α : Type} (xs : List α) (lo : Nat) (h : lo ≤ xs.length) (ys : List α) : xs.take lo ++ ys.take 0 ++ xs.drop (lo + 0) = xs := by simp

theorem goInt_leaf {n : Nat} (h : n ≤ maxLen) : RepS β ro (.leaf (.int .i64 (n : Int))) (goInt n) := .leaf (.int _ _ (rng_len h))

theorem take_min {α : Type} (ys : List α) (n : Nat) : ys.take n = ys.take (min ys.length n) := by
  rcases Nat.le_total n ys.length with h | h
  · rw [Nat.min_eq_right h]
  · rw [Nat.min_eq_left h, List.take_of_length_le h, List.take_of_length_le (Nat.le_refl _)]

theorem copyT_sound (hE : TysOk P E) (hs : HSat w0 β ro D objs w) {t t' ty : TypeId} {d x : SV} {dv xv : Value} (hd : RepS β ro d dv) (hx : RepS β ro x xv) {D' : Nat → Prop} (hD : ∀ id, D id → D' id)
    {rs rs' : List Nat} {v : SV} {u : List (Nat × Option SO)} (h : (copyT E t d x).run objs rs = some ((v, u), rs')) :
    Goes w0 β ro D' (putAll objs u) v ((Builtin.copy_ #[t, t'] ty #[dv, xv]).run P w) := by
  unfold copyT at h
  obtain ⟨e, ys, rs1, k1, hsrc⟩ := seqOf_run hs hx h
  cases hc : elemIs E t e && Nat.beq (sz e) 1 with
  | false => simp [hc, OT.run] at k1
  | true =>
    simp only [hc] at k1
    simp only [Bool.and_eq_true] at hc
    obtain ⟨el, inf, t1, t2, t3⟩ := elemIs_spec hE hc.1
    have h1 : sz e = 1 := Nat.eq_of_beq_eq_true hc.2
    have ys_le : ys.length ≤ maxLen := by
      rcases hsrc with ⟨_, rfl⟩ | ⟨a, c, us, _, _, hm, _⟩
      · exact Nat.zero_le _
      · exact hm
    split at k1
    · rename_i id
      simp only [OT.run] at k1
      cases ho : objs id with
      | none => simp [ho, OT.run] at k1
      | some o =>
        cases o with
        | blk cs => simp [ho, OT.run] at k1
        | row et e' xs =>
          simp only [ho] at k1
          split at k1
          · rename_i hee
            subst hee
            simp only [OT.run] at k1
            cases k1
            simp only [castT_self, putAll_one]
            have hform : ys.take xs.length ++ xs.drop (min ys.length xs.length) = xs.take 0 ++ ys.take (min ys.length xs.length) ++ xs.drop (0 + min ys.length xs.length) := by
              simp only [List.take_zero, List.nil_append, Nat.zero_add]
              rw [← take_min]
            cases hd with
            | own hb =>
              rename_i hh
              obtain ⟨h', hb', j1, j2, j3⟩ := hs.obj id _ ho
              rw [hb] at hb'; cases hb'
              by_cases h0 : min ys.length xs.length = 0
              · rw [hform, h0, take0 xs 0 (Nat.zero_le _), putH_id ho]
                have hval : ∃ a n c, hh.val = .slice a n c ∧ min ys.length n = 0 := by
                  unfold Hd.val
                  split
                  · exact ⟨none, 0, 0, rfl, by simp⟩
                  · exact ⟨_, _, _, rfl, by rw [← j2]; exact h0⟩
                obtain ⟨a, n, c, e1, e2⟩ := hval
                rw [e1, dst_none t1 t2 (t3.trans h1) hsrc e2]
                exact .pure hs hD (goInt_leaf (Nat.zero_le _))
              · cases hblk : hh.blk with
                | none => simp only [hblk] at j3; omega
                | some g =>
                  rcases hsrc with ⟨rfl, rfl⟩ | ⟨a, c, us, rfl, hsp, hm, hca⟩
                  · simp at h0
                  · obtain ⟨w', r1, r2⟩ := copy_row hs h1 ho hb hblk t1 t2 t3 hsp hca (lo := 0) (n := min ys.length xs.length) (dLen := hh.len) (dCap := hh.cap) (t' := t') (ty := ty) (sCap := c) (by omega) (by rw [j2]) hD
                    simp only [Hd.val, hblk]
                    rw [r1, hform]
                    exact ⟨_, w', β, ro, rfl, goInt_leaf (by omega), β.ext_refl, ro.ext_refl, r2⟩
          · simp [OT.run] at k1
    · rename_i id lo len
      simp only [OT.run] at k1
      cases ho : objs id with
      | none => simp [ho, OT.run] at k1
      | some o =>
        cases o with
        | blk cs => simp [ho, OT.run] at k1
        | row et e' xs =>
          simp only [ho] at k1
          split at k1
          · rename_i hee
            subst hee
            simp only [OT.run] at k1
            cases k1
            simp only [castT_self, putAll_one]
            have hform : xs.take lo ++ ys.take len ++ xs.drop (lo + min ys.length len) = xs.take lo ++ ys.take (min ys.length len) ++ xs.drop (lo + min ys.length len) := by
              rw [← take_min]
            cases hd with
            | win hb hl hcc hm hn hsm =>
              rename_i hh a cap
              obtain ⟨h', hb', j1, j2, j3⟩ := hs.obj id _ ho
              rw [hb] at hb'; cases hb'
              by_cases h0 : min ys.length len = 0
              · rw [hform, h0, take0 xs lo (by omega), putH_id ho]
                rw [dst_none t1 t2 (t3.trans h1) hsrc h0]
                exact .pure hs hD (goInt_leaf (Nat.zero_le _))
              · cases hblk : hh.blk with
                | none => simp only [hblk] at j3; omega
                | some g =>
                  rcases hsrc with ⟨rfl, rfl⟩ | ⟨a0, c, us, rfl, hsp, hm', hca⟩
                  · simp at h0
                  · obtain ⟨a', rfl, q1, q2, q3⟩ := hsm g hblk
                    have ha := q3.resolve_left (by omega)
                    subst ha
                    obtain ⟨w', r1, r2⟩ := copy_row hs h1 ho hb hblk t1 t2 t3 hsp hca (lo := lo) (n := min ys.length len) (dLen := len) (dCap := cap) (t' := t') (ty := ty) (sCap := c) (by omega) rfl hD
                    rw [j1, h1, Nat.mul_one, r1, hform]
                    exact ⟨_, w', β, ro, rfl, goInt_leaf (by omega), β.ext_refl, ro.ext_refl, r2⟩
          · simp [OT.run] at k1
    · simp [OT.run] at k1

theorem clearT_sound (hE : TysOk P E) (hs : HSat w0 β ro D objs w) {t ty : TypeId} {x : SV} {xv : Value} (hx : RepS β ro x xv) {D' : Nat → Prop} (hD : ∀ id, D id → D' id)
    {rs rs' : List Nat} {v : SV} {u : List (Nat × Option SO)} (h : (clearT E t x).run objs rs = some ((v, u), rs')) :
    Goes w0 β ro D' (putAll objs u) v ((Builtin.clear_ #[t] ty #[xv]).run P w) := by
  have htup : RepS β ro (.lit (.tuple #[])) (.tuple #[]) := .lit (.inr rfl)
  unfold clearT at h
  split at h
  · rename_i id
    simp only [OT.run] at h
    cases ho : objs id with
    | none => simp [ho, OT.run] at h
    | some o =>
      cases o with
      | blk cs => simp [ho, OT.run] at h
      | row et e xs =>
        simp only [ho] at h
        split at h
        · rename_i el e' hel
          split at h
          · rename_i hee
            subst hee
            simp only [OT.run] at h
            cases h
            rw [putAll_one]
            obtain ⟨inf, z, t1, t2, t3, t4, t5, t6, t7, t8⟩ := elemEN_spec hE hel
            cases hx with
            | own hb =>
              rename_i hh
              obtain ⟨h', hb', j1, j2, j3⟩ := hs.obj id _ ho
              rw [hb] at hb'; cases hb'
              cases hblk : hh.blk with
              | none =>
                simp only [hblk] at j3
                have : xs = [] := List.eq_nil_of_length_eq_zero (by omega)
                subst this
                simp only [List.length_nil, List.replicate_zero, Hd.val, hblk]
                rw [putH_id ho]
                have : (Builtin.clear_ #[t] ty #[.slice none 0 0]).run P w = .ok (.tuple #[]) w := by simp [Builtin.clear_, run_und t1]
                rw [this]
                exact .pure hs hD htup
              | some g =>
                simp only [Hd.val, hblk]
                by_cases h0 : hh.len = 0
                · have : xs = [] := List.eq_nil_of_length_eq_zero (by omega)
                  subst this
                  simp only [List.length_nil, List.replicate_zero]
                  rw [putH_id ho]
                  have : (Builtin.clear_ #[t] ty #[.slice (some ⟨g, 0, none⟩) hh.len hh.cap]).run P w = .ok (.tuple #[]) w := by simp [Builtin.clear_, run_und t1, h0]
                  rw [this]
                  exact .pure hs hD htup
                · simp only [hblk] at j3
                  obtain ⟨cur, m1, m2, m3, m4, m5⟩ := j3
                  have hz : (Builtin.zeroCells z.cells hh.len).toList = repeatN z.cells.toList hh.len := by
                    unfold Builtin.zeroCells
                    exact madeCells_toList rfl (by omega)
                  have hzl : (repeatN z.cells.toList hh.len).length = hh.len * sz e' := by rw [repeatN_length]; simp [t5]
                  have hle : hh.len * sz e' ≤ cur.size := by rw [m4]; exact Nat.mul_le_mul_right _ m2
                  have hone : ∀ u ∈ repeatN z.cells.toList hh.len, u.oneCell' = true := by
                    intro u hu
                    obtain ⟨k, hk, rfl⟩ := List.getElem_of_mem hu
                    have hk' : k < hh.len * sz e' := by rw [← hzl]; exact hk
                    have hg := repeatN_get z.cells.toList hh.len k (by simpa [t5] using hk')
                    rw [List.getElem?_eq_getElem hk] at hg
                    have hkk := hg.symm
                    have hlt := (List.getElem?_eq_some_iff.1 hkk).1
                    have hcl : k % z.cells.toList.length < (cells e' (zeroT e')).length := by have := hlt; rw [t8.1] at this ⊢; exact this
                    exact (t8.2 _ _ _ (List.getElem?_eq_getElem hcl) hkk).oneCell
                  have hst := run_storeCells_at P g 0 et (repeatN z.cells.toList hh.len) 0 cur w m1 (by rw [hzl]; omega) hone
                  have hrun : (Builtin.clear_ #[t] ty #[.slice (some ⟨g, 0, none⟩) hh.len hh.cap]).run P w = .ok (.tuple #[]) (w.setRow g (cur.toList.take 0 ++ repeatN z.cells.toList hh.len ++ cur.toList.drop (hh.len * sz e')).toArray) := by
                    simp only [Nat.zero_add, hzl] at hst
                    cases hn : hh.len with
                    | zero => exact absurd hn h0
                    | succ n =>
                      rw [hn] at hst hz
                      simp [Builtin.clear_, run_und t1, run_zero t2 t4, hz, hst]
                  rw [hrun]
                  refine ⟨_, _, β, ro, rfl, htup, β.ext_refl, ro.ext_refl, row_turn hs ho hb hblk (by simp) (fun cur' c1 c2 c3 => ?_) hD⟩
                  rw [m1] at c1; cases c1
                  refine ⟨by simp [hzl]; omega, fun i y j l hy hj => ?_⟩
                  have hi' : i < hh.len := by
                    have := (List.getElem?_eq_some_iff.1 hy).1
                    simpa [j2] using this
                  obtain ⟨u, hu, hr⟩ := zero_row (n := xs.length) (m := hh.len) t5 t8 (by omega) (cur := (repeatN z.cells.toList hh.len).toArray) (by simp) i y j l hy hj
                  have hj' : j < sz e' := by rw [← cells_length e' y]; exact (List.getElem?_eq_some_iff.1 hj).1
                  refine ⟨u, ?_, hr⟩
                  have hb' : i * sz e' + j < hh.len * sz e' := by
                    have : (i + 1) * sz e' ≤ hh.len * sz e' := Nat.mul_le_mul_right _ hi'
                    rw [Nat.add_mul, Nat.one_mul] at this
                    omega
                  simp only [List.take_zero, List.nil_append, List.getElem?_toArray] at hu ⊢
                  rw [List.getElem?_append_left (by rw [hzl]; exact hb')]
                  exact hu
          · simp [OT.run] at h
        · simp [OT.run] at h
  · split at h
    · rename_i hl
      obtain ⟨inf, z, d, h1, h2, _, _, _, _, _, _, _, _, rfl, _⟩ := (hE.look hl).info
      obtain ⟨rfl, rfl⟩ := ret_inv h
      cases hx with
      | lit _ =>
        have : (Builtin.clear_ #[t] ty #[.slice none 0 0]).run P w = .ok (.tuple #[]) w := by simp [Builtin.clear_, run_und h2]
        rw [this]
        exact .pure hs hD htup
    · simp [OT.run] at h
  · simp [OT.run] at h

theorem sliceArr_sound (hE : TysOk P E) (hs : HSat w0 β ro D objs w) {t id : Nat} {xv : Value} (hx : RepS β ro (.bptr id 0) xv) {lo hi mx : Option SV} {lov hiv mxv : Option Value}
    (h1 : RepO β ro lo lov) (h2 : RepO β ro hi hiv) (h3 : RepO β ro mx mxv) {D' : Nat → Prop} (hD : ∀ id, D id → D' id) {rs rs' : List Nat} {v : SV} {u : List (Nat × Option SO)}
    (h : (sliceT E t (.bptr id 0) lo hi mx).run objs rs = some ((v, u), rs')) : Goes w0 β ro D' (putAll objs u) v ((Instr.sliceAt t xv lov hiv mxv).run P w) := by
  unfold sliceT at h
  simp only at h
  split at h
  · rename_i n el _ _ _ _ hl
    have e1 : lov = none := by cases lov with | none => rfl | some _ => exact h1.elim
    have e2 : hiv = none := by cases hiv with | none => rfl | some _ => exact h2.elim
    have e3 : mxv = none := by cases mxv with | none => rfl | some _ => exact h3.elim
    subst e1 e2 e3
    obtain ⟨inf0, z0, d0, k1, k2, _, _, _, _, _, _, _, _, rfl, _⟩ := (hE.look hl).info
    split at h
    · rename_i d0 s z e eq hel
      obtain ⟨inf, zv, d, q1, q2, q3, q4, q5, q6, q7, q8, _, _, _, q9⟩ := (hE.look hel).info
      obtain ⟨m1, m2, m3, m4⟩ := q9 _ rfl
      simp only [OT.run] at h
      cases ho : objs id with
      | none => simp [ho, OT.run] at h
      | some o =>
        cases o with
        | row et e' xs => simp [ho, OT.run] at h
        | blk cs =>
          simp only [ho] at h
          split at h
          · rename_i hc1 hc2
            have hs1 := Nat.eq_of_beq_eq_true hc2
            simp only [Bool.and_eq_true] at hc1
            have hlen := Nat.eq_of_beq_eq_true hc1.1.1
            have hle := Nat.le_of_ble_eq_true hc1.1.2
            have hall := hc1.2
            simp only at m1 m2 q3
            rw [hs1] at h hlen hle
            obtain ⟨xs, is, rs1, f1, f2⟩ := toElems_run h
            simp only [OT.run] at f2
            cases f2
            cases hx with
            | bptr hb hg =>
              rename_i hd g
              obtain ⟨h', hb', g', cur, et, j1, j2, j3⟩ := hs.obj id _ ho
              rw [hb] at hb'; cases hb'
              rw [hg] at j1; cases j1
              obtain ⟨b1, b2, b3⟩ := elems_row hs j3 hall hlen (by omega) f1
              have hfz := hs.freeze (id :: is) (fun i hi => by
                rcases List.mem_cons.1 hi with rfl | hi
                · simp [ho]
                · exact b1 i hi)
              have hrun : (Instr.sliceAt t (.pointer (some ⟨g, 0, none⟩)) none none none).run P w = .ok (.slice (some ⟨g, 0, none⟩) n n) w := by
                simp [Instr.sliceAt, run_und k2, Instr.sureAddr, Instr.sliceBounds, run_sizeOf q1, addr_add]
              rw [hrun]
              refine ⟨_, w, β, _, rfl, .leaf ?_, β.ext_refl, Snap.ext_plus hs.snap β (id :: is), hfz.less (fun _ _ h => h) hD⟩
              have hmono := Snap.plus_mono hs.snap β (is := is) (js := id :: is) (fun i hi => List.mem_cons_of_mem _ hi)
              have hcur : cur.size = n * sz e := by rw [← hlen, ← j3.1]; simp
              have hro : (ro.plus β w (id :: is)) g = some (.cells cur et (0, 0)) := by
                unfold Snap.plus
                rw [if_pos ⟨id, List.mem_cons_self, hd, hb, hg⟩]
                exact j2
              have hpos : n ≤ maxLen := by
                have : n * 1 ≤ n * sz e := Nat.mul_le_mul_left _ (by omega)
                simp only [maxLen]; omega
              have := Rep.sl (ro := ro.plus β w (id :: is)) e xs ⟨g, 0, none⟩ n (fun i j => (cur[i * sz e + j]?).getD default) (.inl rfl) (by omega) hpos
                (fun i x j l hi hj => by
                  obtain ⟨u, hu, hr⟩ := b3 i x j l hi hj
                  simp [Snap.cell?, hro, hu])
                (fun i x j l hi hj => by
                  obtain ⟨u, hu, hr⟩ := b3 i x j l hi hj
                  simp only [hu, Option.getD_some]
                  exact hr.mono hmono)
              rw [b2] at this
              exact this
          · simp [OT.run] at h
    · simp [OT.run] at h
  · simp [OT.run] at h

end Go.Cat

namespace Go.Cat
open Go

variable {P : Program} {E : Env} {w0 : Pt} {β : Pl} {ro : Snap} {D : Nat → Prop} {objs : Heap} {w : World}

/-- What an operation of a region comes to. -/
def OpGoes (w0 : Pt) (β : Pl) (ro : Snap) (D : Nat → Prop) (objs : Heap) (v : SV) (r : Result Next) : Prop :=
  ∃ w' β' ro', β.ext β' ∧ ro.ext ro' ∧ HSat w0 β' ro' D objs w' ∧ ((∃ x, r = .ok (.value x) w' ∧ RepS β' ro' v x) ∨ (r = .ok .skip w' ∧ v = .lit (.tuple #[])))

theorem Goes.op {v : SV} {s : Sem Value} (h : Goes w0 β ro D objs v (s.run P w)) : OpGoes w0 β ro D objs v ((do Pure.pure (Next.value (← s)) : Sem Next).run P w) := by
  obtain ⟨x, w', β', ro', h1, h2, h3, h4, h5⟩ := h
  exact ⟨w', β', ro', h3, h4, h5, .inl ⟨x, by simp [h1], h2⟩⟩

theorem OpGoes.pure {D' : Nat → Prop} (hs : HSat w0 β ro D objs w) (hD : ∀ id, D id → D' id) {v : SV} {x : Value} (h : RepS β ro v x) {s : Sem Next} (hr : s.run P w = .ok (.value x) w) :
    OpGoes w0 β ro D' (putAll objs []) v (s.run P w) :=
  ⟨w, β, ro, β.ext_refl, ro.ext_refl, hs.less (fun _ _ h => h) hD, .inl ⟨x, hr, h⟩⟩

theorem map_rep {ρ : Operand → SV} {ρv : Operand → Value} (h : ∀ x, RepS β ro (ρ x) (ρv x)) (l : List Operand) : RepL β ro (l.map ρ) (l.map ρv) := by
  induction l with
  | nil => exact .nil _ _
  | cons x l ih => exact .cons (h x) ih

theorem opt_rep {ρ : Operand → SV} {ρv : Operand → Value} (h : ∀ x, RepS β ro (ρ x) (ρv x)) (o : Option Operand) : RepO β ro (o.map ρ) (o.map ρv) := by
  cases o with
  | none => trivial
  | some x => exact h x

theorem two_rep {x y : SV} {us : List Value} (h : RepL β ro [x, y] us) : ∃ u v, us = [u, v] ∧ RepS β ro x u ∧ RepS β ro y v := by
  obtain ⟨u, r, rfl, h1, h2⟩ := h.of_cons
  obtain ⟨v, r, rfl, h3, h4⟩ := h2.of_cons
  rw [h4.of_nil]
  exact ⟨u, v, rfl, h1, h3⟩

theorem arr_of_list {α : Type} {a : Array α} {l : List α} (h : a.toList = l) : a = l.toArray := by rw [← h]

theorem builtinT_sound (hE : TysOk P E) (hs : HSat w0 β ro D objs w) {nid : Nat} {b : Builtin} {ts : Array TypeId} {ty : TypeId} {cs : Array Bool} {as : List SV} {us : Array Value} (ha : RepL β ro as us.toList) (hn : ¬ D nid)
    {D' : Nat → Prop} (hD : ∀ id, D id → D' id) (hDn : D' nid) {rs rs' : List Nat} {v : SV} {u : List (Nat × Option SO)} (h : (builtinT E nid b ts.toList as).run objs rs = some ((v, u), rs')) :
    OpGoes w0 β ro D' (putAll objs u) v ((builtin b ts ty cs us).run P w) := by
  unfold builtinT at h
  split at h
  · obtain ⟨x, h1, h2⟩ := one_rep ha
    rw [arr_of_list h1]
    exact ((lenT_sound hE hs h2 h).goes hs hD).op
  · obtain ⟨x, y, h1, h2, h3⟩ := two_rep ha
    rw [arr_of_list h1]
    split at h
    · rename_i t t' hts
      split at h
      · rename_i el e hbeq hel
        have := Nat.eq_of_beq_eq_true hbeq
        subst this
        rw [arr_of_list hts]
        exact (appendT_sound hE hs hel h2 h3 hn hD hDn h).op
      · simp [OT.run] at h
    · simp [OT.run] at h
  · obtain ⟨x, y, h1, h2, h3⟩ := two_rep ha
    rw [arr_of_list h1]
    split at h
    · rename_i t t' hts
      rw [arr_of_list hts]
      exact (copyT_sound hE hs h2 h3 hD h).op
    · simp [OT.run] at h
  · obtain ⟨x, h1, h2⟩ := one_rep ha
    rw [arr_of_list h1]
    split at h
    · rename_i t hts
      rw [arr_of_list hts]
      exact (clearT_sound hE hs h2 hD h).op
    · simp [OT.run] at h
  · obtain ⟨x, r, h1, h2, h3⟩ := ha.of_cons
    rw [arr_of_list h1]
    have := minT_sound (P := P) (w := w) true _ _ h2 h3 h
    exact Goes.op (s := Builtin.min_ ts ty (x :: r).toArray) (this.goes hs hD)
  · obtain ⟨x, r, h1, h2, h3⟩ := ha.of_cons
    rw [arr_of_list h1]
    have := minT_sound (P := P) (w := w) false _ _ h2 h3 h
    exact Goes.op (s := Builtin.max_ ts ty (x :: r).toArray) (this.goes hs hD)
  · simp [OT.run] at h

theorem op_sound (hE : TysOk P E) (hs : HSat w0 β ro D objs w) {ρ : Operand → SV} {ρv : Operand → Value} (hρ : ∀ x, RepS β ro (ρ x) (ρv x)) {o : Oper} {nid : Nat} (hn : ¬ D nid)
    {D' : Nat → Prop} (hD : ∀ id, D id → D' id) (hDn : D' nid) {rs rs' : List Nat} {v : SV} {u : List (Nat × Option SO)} (h : (opT E ρ nid o.op).run objs rs = some ((v, u), rs')) :
    OpGoes w0 β ro D' (putAll objs u) v ((execOp ρv o).run P w) := by
  obtain ⟨dst, op, ty, pos, after, guard⟩ := o
  simp only at h
  unfold opT at h
  split at h
  · obtain ⟨rfl, rfl⟩ := ret_inv h
    exact .pure hs hD (hρ _) rfl
  · obtain ⟨rfl, rfl⟩ := ret_inv h
    exact .pure hs hD (hρ _) rfl
  · rename_i c a b
    have fin : ∀ (t : Bool), ρv c = .bool t → (execOp ρv ⟨dst, .pick c a b, ty, pos, after, guard⟩).run P w = .ok (.value (if t = true then ρv a else ρv b)) w := by
      intro t ht
      cases t <;> simp [execOp, ht, asBool]
    split at h
    · rename_i t hc
      have hv := asB_rep hc (hρ c)
      cases t with
      | true => simp only at h; obtain ⟨rfl, rfl⟩ := ret_inv h; exact .pure hs hD (hρ a) (fin _ hv)
      | false => simp only at h; obtain ⟨rfl, rfl⟩ := ret_inv h; exact .pure hs hD (hρ b) (fin _ hv)
    · rename_i t hc
      have hv := asB_rep hc (hρ c)
      split at h
      · rename_i x lx y ly ha hb
        obtain ⟨rfl, rfl⟩ := ret_inv h
        have h1 := asB_rep ha (hρ a)
        have h2 := asB_rep hb (hρ b)
        have := fin _ hv
        rw [h1, h2] at this
        refine .pure hs hD ?_ this
        cases t with
        | true => exact .leaf (.bool x)
        | false => exact .leaf (.bool y)
      · simp only [OT.run] at h
        split at h
        · rename_i ht
          subst ht
          obtain ⟨rfl, rfl⟩ := ret_inv h
          exact .pure hs hD (hρ a) (fin _ hv)
        · rename_i ht
          have : t = false := by simpa using ht
          subst this
          obtain ⟨rfl, rfl⟩ := ret_inv h
          exact .pure hs hD (hρ b) (fin _ hv)
    · simp [OT.run] at h
  · split at h
    · rename_i i hl
      simp only [OT.run] at h
      cases h
      exact (alloc_goes hs hn (hE.look hl) hD hDn).op
    · simp [OT.run] at h
  · rename_i t x
    split at h
    · split at h
      · rename_i hc
        simp only [OT.run] at h
        cases h
        simp only [Bool.and_eq_true, Bool.not_eq_true'] at hc
        exact (box_goes hs hn (hρ x) (by intro he; rw [he] at hc; simp [anySV] at hc) hD hDn).op
      · simp [OT.run] at h
    · simp [OT.run] at h
  · rename_i t ps
    have := buildT_sound (P := P) (w := w) hE (ps := ps.toList.map fun p => (p.1, ρ p.2)) (pv := ps.map fun (i, x) => (i, ρv x)) (by simp) (by
      have := map_rep hρ (ps.toList.map (·.2))
      simpa [Function.comp_def] using this) h
    exact (this.goes hs hD).op
  · rename_i t n ps
    have := buildSliceT_sound (P := P) (w := w) hE hs (ps := ps.toList.map fun p => (p.1, ρ p.2)) (pv := ps.map fun (i, x) => (i, ρv x)) (by simp) (by
      have := map_rep hρ (ps.toList.map (·.2))
      simpa [Function.comp_def] using this) hn hD hDn h
    exact this.op
  · rename_i t a
    split at h
    · rename_i i hl
      have : Tells P β ro v u (Instr.loadAt t (ρv a)) w := loadT_sound hs (hE.look hl) (hρ a) h
      exact (this.goes hs hD).op
    · simp [OT.run] at h
  · rename_i t a x
    split at h
    · rename_i i hl
      obtain ⟨rfl, w', ro', h1, h2, h3⟩ := storeT_sound hs (hE.look hl) (hρ a) (hρ x) h hD
      exact ⟨w', β, ro', β.ext_refl, h2, h3, .inr ⟨by simp [execOp, h1], rfl⟩⟩
    · simp [OT.run] at h
  · rename_i x
    have hx := hρ x
    generalize hv : ρv x = xv at hx
    split at h
    · rename_i id off hc
      obtain ⟨rfl, rfl⟩ := ret_inv h
      rw [hc] at hx
      cases hx with
      | bptr hb hg => exact .pure hs hD (.bptr hb hg) (by simp [execOp, hv])
    · rename_i ls hc
      obtain ⟨rfl, rfl⟩ := ret_inv h
      rw [hc] at hx
      cases hx with
      | rptr us h1 h2 h3 => exact .pure hs hD (.rptr us h1 h2 h3) (by simp [execOp, hv])
    · rename_i a b c hc
      obtain ⟨rfl, rfl⟩ := ret_inv h
      rw [hc] at hx
      cases hx with
      | optr hb hg hi => exact .pure hs hD (.optr hb hg hi) (by simp [execOp, hv])
    · rename_i f a b hc
      obtain ⟨rfl, rfl⟩ := ret_inv h
      rw [hc] at hx
      cases hx with
      | fn h1 h2 h3 h4 => exact .pure hs hD (.fn h1 h2 h3 h4) (by simp [execOp, hv])
    · simp [OT.run] at h
  · rename_i op t x y nn
    obtain ⟨rfl, z, h1, h2⟩ := binT_sound (P := P) (w := w) hE (hρ x) (hρ y) h x y
    have : Tells P β ro v [] (do eqGuard op t x y (ρv x) (ρv y); binOp op t (ρv x) (ρv y) : Sem Value) w := ⟨rfl, z, h1, h2⟩
    exact (this.goes hs hD).op
  · exact ((unT_sound (P := P) (w := w) (hρ _) h).goes hs hD).op
  · exact (convT_sound hE hs (hρ _) hD h).op
  · rename_i f a c
    obtain ⟨rfl, rfl⟩ := ret_inv h
    refine .pure hs hD (x := .func (.func f) (a.map ρv) (c.map ρv)) ?_ (by simp [execOp, Instr.makeFunc])
    have h1 := map_rep hρ a.toList
    have h2 := map_rep hρ c.toList
    have := RepS.fn (f := f) h1.1 h2.1 h1.2 h2.2
    have e1 : (a.toList.map ρv).toArray = a.map ρv := by rw [← Array.toList_map]
    have e2 : (c.toList.map ρv).toArray = c.map ρv := by rw [← Array.toList_map]
    rwa [e1, e2] at this
  · exact (makeSliceT_sound hE hs (hρ _) (hρ _) hn hD hDn h).op
  · rename_i t x lo hi mx
    by_cases hb : ∃ id, ρ x = .bptr id 0
    · obtain ⟨id, hid⟩ := hb
      have hx := hρ x
      rw [hid] at hx h
      exact (sliceArr_sound hE hs hx (opt_rep hρ lo) (opt_rep hρ hi) (opt_rep hρ mx) hD h).op
    · exact ((sliceT_sound hE hs (hρ x) (opt_rep hρ lo) (opt_rep hρ hi) (opt_rep hρ mx) (fun id he => hb ⟨id, he⟩) h).goes hs hD).op
  · exact ((fieldAddrT_sound (w := w) hE (hρ _) h).goes hs hD).op
  · exact ((fieldT_sound (w := w) hE (hρ _) h).goes hs hD).op
  · exact ((indexAddrT_sound hE hs (hρ _) (hρ _) h).goes hs hD).op
  · exact ((indexT_sound (w := w) hE (hρ _) (hρ _) h).goes hs hD).op
  · rename_i t x
    split at h
    · rename_i hl
      obtain ⟨inf, z, d, k1, k2, _, _, _, _, _, _, _, _, rfl, _⟩ := (hE.look hl).info
      obtain ⟨rfl, rfl⟩ := ret_inv h
      exact .pure hs hD (.iface (hρ x)) (by simp [execOp, Instr.makeInterface, run_und k2])
    · rename_i hl
      obtain ⟨inf, z, d, k1, k2, _, _, _, _, _, _, _, _, rfl, _⟩ := (hE.look hl).info
      obtain ⟨rfl, rfl⟩ := ret_inv h
      exact .pure hs hD (.iface (hρ x)) (by simp [execOp, Instr.makeInterface, run_und k2])
    · simp [OT.run] at h
  · rename_i x i
    have hx := hρ x
    split at h
    · rename_i vs hc
      rw [hc] at hx
      generalize hv : ρv x = xv at hx
      cases hx with
      | @tup _ us h1 h2 =>
        split at h
        · rename_i y hy
          obtain ⟨rfl, rfl⟩ := ret_inv h
          have hlt : i < us.length := by rw [h1]; exact (List.getElem?_eq_some_iff.1 hy).1
          exact .pure hs hD (h2 i _ us[i] hy (List.getElem?_eq_getElem hlt)) (by simp [execOp, Instr.extract, hv, hlt])
        · simp [OT.run] at h
    · simp [OT.run] at h
  · rename_i b args ts
    have hargs : RepL β ro (args.toList.map ρ) (args.map ρv).toList := by
      have := map_rep hρ args.toList
      simpa using this
    simp only [execOp, resolve, invoke, Sem.run_bind, Sem.run_pure, Result.andThen_ok]
    exact builtinT_sound hE hs hargs hn hD hDn h
  · simp [OT.run] at h

end Go.Cat

namespace Go.Cat
open Go

theorem OT.k_den {A R : Type} {H : Heap} (t : OT A) : ∀ (rs : List Nat) {k : A → List Nat → Tr R} {r : R}, (t.k H rs k).den = some r → ∃ a rs', t.run H rs = some (a, rs') ∧ (k a rs').den = some r := by
  induction t with
  | fail => intro rs k r h; simp [OT.k, Tr.den] at h
  | out a => intro rs k r h; exact ⟨a, rs, rfl, h⟩
  | guard b t ih =>
    intro rs k r h
    simp only [OT.k, Tr.den] at h
    split at h
    · rename_i hb
      obtain ⟨a, rs', h1, h2⟩ := ih rs h
      exact ⟨a, rs', by simp [OT.run, hb, h1], h2⟩
    · cases h
  | ite b t e iht ihe =>
    intro rs k r h
    simp only [OT.k, Tr.den] at h
    split at h
    · rename_i hb
      obtain ⟨a, rs', h1, h2⟩ := iht rs h
      exact ⟨a, rs', by simp [OT.run, hb, h1], h2⟩
    · rename_i hb
      obtain ⟨a, rs', h1, h2⟩ := ihe rs h
      exact ⟨a, rs', by simp [OT.run, hb, h1], h2⟩
  | get id f ih =>
    intro rs k r h
    exact ih (H id) (id :: rs) h
  | bind m f ih =>
    intro rs k r h
    simp only [OT.k, Tr.den] at h
    cases m with
    | none => simp at h
    | some x =>
      obtain ⟨a, rs', h1, h2⟩ := ih x rs (by simpa using h)
      exact ⟨a, rs', by simpa [OT.run] using h1, h2⟩

theorem OT.run_mono {A : Type} {H : Heap} (t : OT A) : ∀ (rs : List Nat) {a : A} {rs' : List Nat}, t.run H rs = some (a, rs') → ∀ x ∈ rs, x ∈ rs' := by
  induction t with
  | fail => intro rs a rs' h; simp [OT.run] at h
  | out a => intro rs a rs' h; simp only [OT.run] at h; cases h; exact fun _ h => h
  | guard b t ih => intro rs a rs' h; simp only [OT.run] at h; split at h; exact ih rs h; cases h
  | ite b t e iht ihe => intro rs a rs' h; simp only [OT.run] at h; split at h; exact iht rs h; exact ihe rs h
  | get id f ih => intro rs a rs' h x hx; exact ih (H id) (id :: rs) h x (List.mem_cons_of_mem _ hx)
  | bind m f ih =>
    intro rs a rs' h
    simp only [OT.run] at h
    cases m with
    | none => simp at h
    | some x => exact ih x rs (by simpa using h)

/-- What is read alone counts. -/
theorem OT.run_local {A : Type} {H H' : Heap} (t : OT A) : ∀ (rs : List Nat) {a : A} {rs' : List Nat}, t.run H rs = some (a, rs') → (∀ x ∈ rs', H x = H' x) → t.run H' rs = some (a, rs') := by
  induction t with
  | fail => intro rs a rs' h; simp [OT.run] at h
  | out a => intro rs a rs' h _; exact h
  | guard b t ih => intro rs a rs' h hx; simp only [OT.run] at h ⊢; split at h; · simp only [*, if_true]; exact ih rs h hx
                    · cases h
  | ite b t e iht ihe =>
    intro rs a rs' h hx
    simp only [OT.run] at h ⊢
    split at h
    · simp only [*, if_true]; exact iht rs h hx
    · simp only [*]; exact ihe rs h hx
  | get id f ih =>
    intro rs a rs' h hx
    simp only [OT.run] at h ⊢
    have := hx id (OT.run_mono (f (H id)) (id :: rs) h id List.mem_cons_self)
    rw [← this]
    exact ih (H id) (id :: rs) h hx
  | bind m f ih =>
    intro rs a rs' h hx
    simp only [OT.run] at h ⊢
    cases m with
    | none => simp at h
    | some x => exact ih x rs (by simpa using h) hx

theorem litK_den {R : Type} {g : Bool} {v : SV} {k : SV → Tr R} : (litK g v k).den = (k (litV g v)).den := by
  unfold litK litV
  split
  · rename_i b
    simp only [Tr.den]
    cases b <;> rfl
  · rfl

/-- The program of an operation, if it calls nothing that is walked in place. -/
def otOf (E : Env) (ρ : Operand → SV) (nid : Nat) (o : Op) : Option (OT Ans) :=
  match callOf o with
  | some (f, args) => match calleeT ρ f args with
    | some (n, as) => match look E.specs n with
      | some s => some (callSpec nid s as)
      | none => none
    | none => none
  | none => some (opT E ρ nid o)

def inlOf (E : Env) (ρ : Operand → SV) (o : Op) : Option (Nat × List SV) :=
  match callOf o with
  | some (f, args) => match calleeT ρ f args with
    | some (n, as) => match look E.specs n with
      | some _ => none
      | none => some (n, as)
    | none => none
  | none => none

theorem opT_congr (E : Env) {ρ ρ' : Operand → SV} (nid : Nat) (o : Op) (h : ∀ x ∈ o.operands, ρ x = ρ' x) : opT E ρ nid o = opT E ρ' nid o := by
  have pairs : ∀ ps : Array (Nat × Operand), (∀ x ∈ (ps.toList.map (·.2)).toArray, ρ x = ρ' x) → (ps.toList.map fun p => (p.1, ρ p.2)) = ps.toList.map fun p => (p.1, ρ' p.2) := fun ps hp =>
    List.map_congr_left fun p hm => by rw [hp p.2 (by simp only [List.mem_toArray, List.mem_map]; exact ⟨p, hm, rfl⟩)]
  have arr : ∀ as : Array Operand, (∀ x ∈ as, ρ x = ρ' x) → as.toList.map ρ = as.toList.map ρ' := fun as ha =>
    List.map_congr_left fun x hx => ha x (by simpa using hx)
  cases o <;> simp only [Op.operands] at h <;> simp only [opT]
  case build t ps => rw [pairs ps h]
  case buildSlice t n ps => rw [pairs ps h]
  case makeFunc fn first captured =>
    cases fn <;> simp only [opT]
    rw [arr first fun x hx => h x (by simp [hx]), arr captured fun x hx => h x (by simp [hx])]
  case call c =>
    obtain ⟨callee, args, argTypes⟩ := c
    cases callee <;> simp only [opT]
    rw [arr args fun x hx => h x (by simp [Call.operands, hx])]
  case slice t x lo hi mx =>
    have h0 : ρ x = ρ' x := h x (by simp)
    have hl : lo.map ρ = lo.map ρ' := by cases lo with | none => rfl | some y => simp [h y (by simp)]
    have hh : hi.map ρ = hi.map ρ' := by cases hi with | none => rfl | some y => simp [h y (by simp)]
    have hm : mx.map ρ = mx.map ρ' := by cases mx with | none => rfl | some y => simp [h y (by simp)]
    rw [h0, hl, hh, hm]
  all_goals (first | rfl | (simp_all; done))

theorem call_congr {ρ ρ' : Operand → SV} (o : Op) (h : ∀ x ∈ o.operands, ρ x = ρ' x) {f : Operand} {args : Array Operand} (hc : callOf o = some (f, args)) : calleeT ρ f args = calleeT ρ' f args := by
  unfold callOf at hc
  split at hc
  · rename_i f' args' _
    cases hc
    have hf : ρ f = ρ' f := h f (by simp [Op.operands, Call.operands])
    have ha : args.toList.map ρ = args.toList.map ρ' := List.map_congr_left fun x hx => h x (by simp only [Op.operands, Call.operands, Array.mem_append]; exact .inr (by simpa using hx))
    unfold calleeT
    rw [hf, ha]
  · cases hc

theorem otOf_congr (E : Env) {ρ ρ' : Operand → SV} (nid : Nat) (o : Op) (h : ∀ x ∈ o.operands, ρ x = ρ' x) : otOf E ρ nid o = otOf E ρ' nid o := by
  unfold otOf
  split
  · rename_i f args hc
    rw [call_congr o h hc]
  · rw [opT_congr E nid o h]

theorem inlOf_congr (E : Env) {ρ ρ' : Operand → SV} (o : Op) (h : ∀ x ∈ o.operands, ρ x = ρ' x) : inlOf E ρ o = inlOf E ρ' o := by
  unfold inlOf
  split
  · rename_i f args hc
    rw [call_congr o h hc]
  · rfl

/-- What a call that is walked in place comes to. -/
abbrev CallRel := Nat → List SV → Mem → SV → Mem → Prop

def Foot.none : Foot := ⟨[], [], false⟩

/-- What an operation does with slots and memory. -/
inductive Core (E : Env) (R : CallRel) (ops : Array Oper) (nid : Nat) (g : Bool) (o : Oper) (tmps : List SV) (m : Mem) : SV → Mem → Foot → Prop
  | off (h : wantedS ops tmps o = some false) : Core E R ops nid g o tmps m (.lit (.tuple #[])) m ⟨[], [], false⟩
  | op (h : wantedS ops tmps o = some true) (t : OT Ans) (ht : otOf E (ev tmps) nid o.op = some t) (v : SV) (u : List (Nat × Option SO)) (rs : List Nat) (hr : t.run m.objs [] = some ((v, u), rs)) :
      Core E R ops nid g o tmps m (litV g v) { m with objs := putAll m.objs u } ⟨rs, u.map (·.1), false⟩
  | call (h : wantedS ops tmps o = some true) (n : Nat) (as : List SV) (ht : inlOf E (ev tmps) o.op = some (n, as)) (v : SV) (m' : Mem) (hr : R n as m v m') :
      Core E R ops nid g o tmps m (litV g v) m' ⟨[], [], true⟩

structure CallDen (R : CallRel) (call : CallK) : Prop where
  den : ∀ {X : Type} (n : Nat) (as : List SV) (m : Mem) (k : SV → Mem → Tr X) (r : X), (call n as m k).den = some r → ∃ v m', R n as m v m' ∧ (k v m').den = some r

def setT (tmps : List SV) (d : Option Nat) (v : SV) : List SV := match d with | some d => tmps.set d v | none => tmps

theorem setTmp_eq (S : St) (d : Option Nat) (v : SV) : setTmp S d v = ⟨setT S.tmps d v, S.m⟩ := by cases d <;> rfl

variable {E : Env} {R : CallRel} {ops : Array Oper} {base : Nat}

theorem opK_den {call : CallK} (hc : CallDen R call) {i : Nat} {o : Oper} {X : Type} {S : St} {k : St → Foot → Tr X} {r : X} (h : (opK E call ops base i o S k).den = some r) :
    ∃ v m' fp, Core E R ops (base + 64 * i) (isGuard ops i) o S.tmps S.m v m' fp ∧ (k ⟨setT S.tmps o.dst v, m'⟩ fp).den = some r := by
  unfold opK at h
  split at h
  · simp [Tr.den] at h
  · rename_i hw
    rw [setTmp_eq] at h
    exact ⟨_, _, _, .off hw, h⟩
  · rename_i hw
    simp only at h
    have fin : ∀ (t : OT Ans), otOf E (ev S.tmps) (base + 64 * i) o.op = some t →
        (t.k S.m.objs [] fun a rs => litK (isGuard ops i) a.1 fun v => k (setTmp { S with m := { S.m with objs := putAll S.m.objs a.2 } } o.dst v) ⟨rs, a.2.map (·.1), false⟩).den = some r →
        ∃ v m' fp, Core E R ops (base + 64 * i) (isGuard ops i) o S.tmps S.m v m' fp ∧ (k ⟨setT S.tmps o.dst v, m'⟩ fp).den = some r := by
      intro t ht hd
      obtain ⟨⟨v, u⟩, rs, h1, h2⟩ := OT.k_den t [] hd
      rw [litK_den, setTmp_eq] at h2
      exact ⟨_, _, _, .op hw t ht v u rs h1, h2⟩
    split at h
    · rename_i f args hcall
      split at h
      · rename_i n as hcal
        split at h
        · rename_i s hs
          exact fin _ (by simp [otOf, hcall, hcal, hs]) h
        · rename_i hs
          obtain ⟨v, m', h1, h2⟩ := hc.den _ _ _ _ _ h
          rw [litK_den, setTmp_eq] at h2
          exact ⟨_, _, _, .call hw n as (by simp [inlOf, hcall, hcal, hs]) v m' h1, h2⟩
      · simp [Tr.den] at h
    · rename_i hcall
      exact fin _ (by simp [otOf, hcall]) h

/-- Some operations, one behind the other. -/
inductive RunL (E : Env) (R : CallRel) (ops : Array Oper) (base : Nat) (fps : Nat → Foot) : List Nat → St → St → Prop
  | nil (S : St) : RunL E R ops base fps [] S S
  | cons {i : Nat} {rest : List Nat} {S S' : St} {o : Oper} (hi : ops[i]? = some o) (v : SV) (m' : Mem) (hs : Core E R ops (base + 64 * i) (isGuard ops i) o S.tmps S.m v m' (fps i))
      (hr : RunL E R ops base fps rest ⟨setT S.tmps o.dst v, m'⟩ S') : RunL E R ops base fps (i :: rest) S S'

theorem RunL.congr {fps fps' : Nat → Foot} {l : List Nat} {S S' : St} (h : ∀ i ∈ l, fps i = fps' i) (hr : RunL E R ops base fps l S S') : RunL E R ops base fps' l S S' := by
  induction hr with
  | nil S => exact .nil S
  | cons hi v m' hs _ ih => exact .cons hi v m' (by rw [← h _ List.mem_cons_self]; exact hs) (ih fun j hj => h j (List.mem_cons_of_mem _ hj))

theorem opsK_den {call : CallK} (hc : CallDen R call) : ∀ (l : List Oper) (i : Nat) {X : Type} {S : St} {fps : List Foot} {k : St → List Foot → Tr X} {r : X}, (∀ j, l[j]? = ops[i + j]?) →
    (opsK E call ops base i l S fps k).den = some r →
    ∃ (S' : St) (ff : Nat → Foot), RunL E R ops base ff (List.range' i l.length) S S' ∧ (k S' (fps.reverse ++ (List.range' i l.length).map ff)).den = some r
  | [], i, X, S, fps, k, r, _, h => ⟨S, fun _ => .none, .nil S, by simpa [opsK] using h⟩
  | o :: l, i, X, S, fps, k, r, hl, h => by
    simp only [opsK] at h
    obtain ⟨v, m', fp, h1, h2⟩ := opK_den hc h
    obtain ⟨S', ff, h3, h4⟩ := opsK_den hc l (i + 1) (fun j => by have := hl (j + 1); simp only [List.getElem?_cons_succ] at this; rw [this]; congr 1; omega) h2
    refine ⟨S', fun j => if j = i then fp else ff j, ?_, ?_⟩
    · rw [List.length_cons, List.range'_succ]
      refine .cons (o := o) (by have := hl 0; simpa using this.symm) v m' (by simpa using h1) (h3.congr fun j hj => ?_)
      have := (List.mem_range'_1.1 hj).1
      simp [show j ≠ i by omega]
    · rw [List.length_cons, List.range'_succ, List.map_cons]
      have e : (List.range' (i + 1) l.length).map (fun j => if j = i then fp else ff j) = (List.range' (i + 1) l.length).map ff :=
        List.map_congr_left fun j hj => by
          have := (List.mem_range'_1.1 hj).1
          simp [show j ≠ i by omega]
      simp only [if_true, e]
      simpa using h4

end Go.Cat

namespace Go.Cat
open Go

variable {E : Env} {R : CallRel} {ops : Array Oper} {base : Nat}

/-- Which slots may not meet. -/
structure Apart (ops : Array Oper) (a b : Oper) : Prop where
  l : ∀ d, a.dst = some d → d ∉ looks ops b
  r : ∀ d, b.dst = some d → d ∉ looks ops a
  d : ∀ d, a.dst = some d → b.dst ≠ some d

structure FootApart (a b : Foot) : Prop where
  top : a.top = true ∨ b.top = true → (a.rd = [] ∧ a.wr = [] ∧ a.top = false) ∨ (b.rd = [] ∧ b.wr = [] ∧ b.top = false)
  mem : a.top = false → b.top = false → (∀ x ∈ a.wr, x ∉ b.rd) ∧ (∀ x ∈ a.wr, x ∉ b.wr) ∧ (∀ x ∈ b.wr, x ∉ a.rd)

theorem inB_mem {n : Nat} : ∀ {l : List Nat}, inB n l = false → n ∉ l
  | [], _ => by simp
  | m :: r, h => by
    simp only [inB] at h
    cases hb : Nat.beq n m with
    | true => simp [hb] at h
    | false =>
      simp only [hb] at h
      have h1 := inB_mem h
      intro hm
      rcases List.mem_cons.1 hm with rfl | hm
      · simp at hb
      · exact h1 hm

theorem meet_false {a b : List Nat} (h : meet a b = false) : ∀ x ∈ a, x ∉ b := by
  intro x hx
  have := List.any_eq_false.1 h x hx
  exact inB_mem (by simpa using this)

theorem Foot.quiet_spec {f : Foot} (h : f.quiet = true) : f.rd = [] ∧ f.wr = [] ∧ f.top = false := by
  simp only [Foot.quiet, Bool.and_eq_true, List.isEmpty_iff, Bool.not_eq_true'] at h
  exact ⟨h.1.1, h.1.2, h.2⟩

theorem indep_spec {ops : Array Oper} {a b : Oper} {fa fb : Foot} {na nb : Nat} (h : indep ⟨a.dst, looks ops a, fa, na⟩ ⟨b.dst, looks ops b, fb, nb⟩ = true) : Apart ops a b ∧ FootApart fa fb := by
  simp only [indep, Bool.and_eq_true] at h
  obtain ⟨⟨h1, h2⟩, h3⟩ := h
  refine ⟨⟨fun d hd => ?_, fun d hd => ?_, fun d hd hd' => ?_⟩, ⟨fun ht => ?_, fun ha hb => ?_⟩⟩
  · simp only [apartDst, hd, Bool.and_eq_true, Bool.not_eq_true'] at h1
    exact inB_mem h1.1
  · simp only [apartDst, hd, Bool.and_eq_true, Bool.not_eq_true'] at h2
    exact inB_mem h2.1
  · simp only [apartDst, hd, hd', Bool.and_eq_true, Bool.not_eq_true'] at h1
    simp at h1
  · have : (fa.top || fb.top) = true := by simpa using ht
    simp only [this, Bool.or_eq_true] at h3
    exact h3.imp Foot.quiet_spec Foot.quiet_spec
  · simp only [ha, hb, Bool.or_false, Bool.and_eq_true, Bool.not_eq_true'] at h3
    exact ⟨meet_false h3.1.1, meet_false h3.1.2, meet_false h3.2⟩

/- ---------------------------------------------------------------- what a step hangs on -/

theorem ev_at {tmps tmps' : List SV} {o : Oper} (h : ∀ t ∈ looks ops o, tmpAt tmps t = tmpAt tmps' t) : ∀ x ∈ o.op.operands, ev tmps x = ev tmps' x := by
  intro x hx
  cases x with
  | tmp t => exact h t (List.mem_append_left _ (List.mem_filterMap.2 ⟨.tmp t, by simpa using hx, rfl⟩))
  | _ => rfl

theorem wantedS_at {tmps tmps' : List SV} {o : Oper} (h : ∀ t ∈ looks ops o, tmpAt tmps t = tmpAt tmps' t) : wantedS ops tmps o = wantedS ops tmps' o := by
  unfold wantedS
  cases hg : o.guard with
  | none => rfl
  | some gw =>
    obtain ⟨j, want⟩ := gw
    simp only
    cases hd : (ops[j]?).bind (·.dst) with
    | none => rfl
    | some d =>
      simp only
      rw [h d (List.mem_append_right _ (by simp [hg, hd]))]

theorem Core.slots {nid : Nat} {g : Bool} {o : Oper} {tmps tmps' : List SV} {m m' : Mem} {v : SV} {fp : Foot} (h : ∀ t ∈ looks ops o, tmpAt tmps t = tmpAt tmps' t)
    (hc : Core E R ops nid g o tmps m v m' fp) : Core E R ops nid g o tmps' m v m' fp := by
  cases hc with
  | off hw => exact .off (by rw [← wantedS_at h]; exact hw)
  | op hw t ht v u rs hr => exact .op (by rw [← wantedS_at h]; exact hw) t (by rw [← otOf_congr E nid o.op (ev_at h)]; exact ht) v u rs hr
  | call hw n as ht v m' hr => exact .call (by rw [← wantedS_at h]; exact hw) n as (by rw [← inlOf_congr E o.op (ev_at h)]; exact ht) v m' hr

/-- A step that walks no call, at other memory that it cannot tell apart. -/
theorem Core.mem {nid : Nat} {g : Bool} {o : Oper} {tmps : List SV} {m m' : Mem} {v : SV} {fp : Foot} (hc : Core E R ops nid g o tmps m v m' fp) (ht : fp.top = false) :
    ∃ u : List (Nat × Option SO), u.map (·.1) = fp.wr ∧ m' = { m with objs := putAll m.objs u } ∧
      ∀ m2 : Mem, (∀ x ∈ fp.rd, m.objs x = m2.objs x) → Core E R ops nid g o tmps m2 v { m2 with objs := putAll m2.objs u } fp := by
  cases hc with
  | off hw => exact ⟨[], rfl, rfl, fun m2 _ => .off hw⟩
  | op hw t ht' v u rs hr => exact ⟨u, rfl, rfl, fun m2 h2 => .op hw t ht' v u rs (OT.run_local t [] hr h2)⟩
  | call => cases ht

theorem putAll_at : ∀ (u : List (Nat × Option SO)) (h h' : Heap) (i : Nat), (i ∉ u.map (·.1) → h i = h' i) → putAll h u i = putAll h' u i
  | [], h, h', i, hi => hi (by simp)
  | (j, o) :: r, h, h', i, hi => by
    simp only [putAll]
    refine putAll_at r _ _ i fun hn => ?_
    by_cases hij : i = j
    · subst hij; rw [putH_same, putH_same]
    · rw [putH_other _ _ hij, putH_other _ _ hij]
      exact hi (by simp only [List.map_cons, List.mem_cons, not_or]; exact ⟨hij, hn⟩)

theorem putAll_out (u : List (Nat × Option SO)) (h : Heap) (i : Nat) (hi : i ∉ u.map (·.1)) : putAll h u i = h i :=
  putAll_other u h i fun p hp e => hi (List.mem_map.2 ⟨p, hp, e⟩)

theorem putAll_comm (u u' : List (Nat × Option SO)) (h : Heap) (hd : ∀ x ∈ u.map (·.1), x ∉ u'.map (·.1)) : putAll (putAll h u) u' = putAll (putAll h u') u := by
  funext i
  by_cases hi : i ∈ u'.map (·.1)
  · have hn : i ∉ u.map (·.1) := fun h1 => hd i h1 hi
    rw [putAll_out u _ i hn]
    exact putAll_at u' _ _ i fun h' => absurd hi h'
  · rw [putAll_out u' _ i hi]
    exact putAll_at u _ _ i fun _ => (putAll_out u' _ i hi).symm

theorem tmpAt_setT {tmps : List SV} {d : Option Nat} {v : SV} {t : Nat} (h : ∀ x, d = some x → x ≠ t) : tmpAt (setT tmps d v) t = tmpAt tmps t := by
  cases d with
  | none => rfl
  | some x => simp [setT, tmpAt, List.getElem?_set_ne (h x rfl)]

theorem setT_comm {tmps : List SV} {a b : Option Nat} {v w : SV} (h : ∀ x, a = some x → b ≠ some x) : setT (setT tmps a v) b w = setT (setT tmps b w) a v := by
  cases a with
  | none => rfl
  | some x =>
    cases b with
    | none => rfl
    | some y =>
      have : x ≠ y := fun e => h x rfl (by rw [e])
      simp [setT, List.set_comm _ _ this]

/-- Two steps that are apart, the other way round. -/
theorem Core.swap {ni nj : Nat} {gi gj : Bool} {oi oj : Oper} {tmps : List SV} {m m1 m2 : Mem} {vi vj : SV} {fi fj : Foot} (ha : Apart ops oi oj) (hf : FootApart fi fj)
    (h1 : Core E R ops ni gi oi tmps m vi m1 fi) (h2 : Core E R ops nj gj oj (setT tmps oi.dst vi) m1 vj m2 fj) :
    ∃ m1', Core E R ops nj gj oj tmps m vj m1' fj ∧ Core E R ops ni gi oi (setT tmps oj.dst vj) m1' vi m2 fi := by
  have h2' : Core E R ops nj gj oj tmps m1 vj m2 fj := h2.slots fun t ht => tmpAt_setT fun x hx e => ha.l x hx (e ▸ ht)
  have h1' : Core E R ops ni gi oi (setT tmps oj.dst vj) m vi m1 fi := h1.slots fun t ht => (tmpAt_setT fun x hx e => ha.r x hx (e ▸ ht)).symm
  cases hti : fi.top with
  | true =>
    rcases hf.top (.inl hti) with ⟨_, _, h0⟩ | ⟨q1, q2, q3⟩
    · rw [hti] at h0; cases h0
    · obtain ⟨u, e1, e2, e3⟩ := h2'.mem q3
      have hu : u = [] := by rw [q2] at e1; simpa using e1
      subst hu
      refine ⟨m, e3 m (by rw [q1]; simp), ?_⟩
      have : m2 = m1 := e2
      rw [this]; exact h1'
  | false =>
    cases htj : fj.top with
    | true =>
      rcases hf.top (.inr htj) with ⟨q1, q2, q3⟩ | ⟨_, _, h0⟩
      · obtain ⟨u, e1, e2, e3⟩ := h1'.mem q3
        have hu : u = [] := by rw [q2] at e1; simpa using e1
        subst hu
        have hm : m1 = m := e2
        subst hm
        exact ⟨m2, h2', e3 m2 (by rw [q1]; simp)⟩
      · rw [htj] at h0; cases h0
    | false =>
      obtain ⟨a1, a2, a3⟩ := hf.mem hti htj
      obtain ⟨ui, e1, e2, e3⟩ := h1'.mem hti
      obtain ⟨uj, f1, f2, f3⟩ := h2'.mem htj
      subst e2 f2
      refine ⟨{ m with objs := putAll m.objs uj }, f3 m (fun x hx => ?_), ?_⟩
      · exact putAll_out ui _ x fun hm => a1 x (e1 ▸ hm) hx
      · have := e3 { m with objs := putAll m.objs uj } (fun x hx => (putAll_out uj _ x fun hm => a3 x (f1 ▸ hm) hx).symm)
        simp only at this ⊢
        rw [putAll_comm ui uj m.objs (fun x hx hx' => a2 x (e1 ▸ hx) (f1 ▸ hx'))]
        exact this

/-- An operation that is apart from all ahead of it may come first. -/
theorem RunL.front {fps : Nat → Foot} {i : Nat} {oi : Oper} (hi : ops[i]? = some oi) : ∀ (pre : List Nat) {post : List Nat} {S S' : St},
    (∀ j ∈ pre, ∀ oj, ops[j]? = some oj → Apart ops oj oi ∧ FootApart (fps j) (fps i)) → RunL E R ops base fps (pre ++ i :: post) S S' →
    ∃ v m', Core E R ops (base + 64 * i) (isGuard ops i) oi S.tmps S.m v m' (fps i) ∧ RunL E R ops base fps (pre ++ post) ⟨setT S.tmps oi.dst v, m'⟩ S'
  | [], post, S, S', _, h => by
    cases h with
    | cons hi' v m' hs hr =>
      rw [hi] at hi'; cases hi'
      exact ⟨v, m', hs, hr⟩
  | j :: pre, post, S, S', ha, h => by
    cases h with
    | @cons _ _ _ _ oj hj vj mj hs hr =>
      obtain ⟨v, m', k1, k2⟩ := RunL.front hi pre (fun x hx => ha x (List.mem_cons_of_mem _ hx)) hr
      obtain ⟨b1, b2⟩ := ha j List.mem_cons_self oj hj
      obtain ⟨m1', c1, c2⟩ := Core.swap b1 b2 hs k1
      refine ⟨v, m1', c1, ?_⟩
      rw [List.cons_append]
      refine .cons hj vj m' c2 ?_
      simp only at k2 ⊢
      rw [setT_comm (fun x hx => b1.d x hx)] at k2
      exact k2

/- ---------------------------------------------------------------- what waits for what -/

/-- Bits of what comes up ahead. -/
theorem ancOf_bits (acc : List Nat) (o : Oper) {k : Nat} (h : (ancOf acc o).testBit k = true) : ∃ e ∈ o.after.toList, Region.binds .any e = true ∧ (k = e.on ∨ ((acc[e.on]?).getD 0).testBit k = true) := by
  unfold ancOf at h
  have gen : ∀ (l : List Edge) (s : Nat), (l.foldl (fun s e => match Region.binds .any e with | true => s ||| 2 ^ e.on ||| (acc[e.on]?).getD 0 | false => s) s).testBit k = true →
      s.testBit k = true ∨ ∃ e ∈ l, Region.binds .any e = true ∧ (k = e.on ∨ ((acc[e.on]?).getD 0).testBit k = true) := by
    intro l
    induction l with
    | nil => intro s hs; exact .inl hs
    | cons e l ih =>
      intro s hs
      simp only [List.foldl_cons] at hs
      rcases ih _ hs with h1 | ⟨e', he', h1⟩
      · cases hb : Region.binds .any e with
        | false => simp only [hb] at h1; exact .inl h1
        | true =>
          simp only [hb, Nat.testBit_or, Bool.or_eq_true, Nat.testBit_two_pow, decide_eq_true_eq] at h1
          rcases h1 with (h1 | h1) | h1
          · exact .inl h1
          · exact .inr ⟨e, List.mem_cons_self, hb, .inl h1.symm⟩
          · exact .inr ⟨e, List.mem_cons_self, hb, .inr h1⟩
      · exact .inr ⟨e', List.mem_cons_of_mem _ he', h1⟩
  rcases gen _ _ h with h1 | h1
  · simp at h1
  · exact h1

theorem ancGo_get : ∀ (l : List Oper) (acc : List Nat) (n : Nat), n < acc.length → (ancGo l acc)[n]? = acc[n]?
  | [], _, _, _ => rfl
  | o :: r, acc, n, h => by
    simp only [ancGo]
    rw [ancGo_get r _ n (by simp; omega), List.getElem?_append_left h]

theorem ancGo_at : ∀ (l : List Oper) (acc : List Nat) (j : Nat) (o : Oper), l[j]? = some o → ∃ acc', acc'.length = acc.length + j ∧ (ancGo l acc)[acc.length + j]? = some (ancOf acc' o) ∧ ∀ n, n < acc.length + j → (ancGo l acc)[n]? = acc'[n]?
  | [], _, _, _, h => by simp at h
  | x :: r, acc, 0, o, h => by
    simp at h; subst h
    simp only [ancGo]
    refine ⟨acc, rfl, ?_, fun n hn => ?_⟩
    · rw [Nat.add_zero, ancGo_get r _ _ (by simp)]; simp
    · rw [ancGo_get r _ n (by simp; omega), List.getElem?_append_left (by omega)]
  | x :: r, acc, j + 1, o, h => by
    simp only [ancGo]
    obtain ⟨acc', h1, h2, h3⟩ := ancGo_at r (acc ++ [ancOf acc x]) j o (by simpa using h)
    simp only [List.length_append, List.length_singleton] at h1 h2 h3
    refine ⟨acc', by omega, ?_, fun n hn => h3 n (by omega)⟩
    rw [← h2]; congr 1; omega

/-- An ancestor is waited for, or is an ancestor of what is waited for. -/
theorem ancs_bits {ops : List Oper} {i : Nat} {o : Oper} (hi : ops[i]? = some o) {k : Nat} (h : (((ancs ops)[i]?).getD 0).testBit k = true) :
    ∃ e ∈ o.after.toList, Region.binds .any e = true ∧ (k = e.on ∨ (e.on < i ∧ (((ancs ops)[e.on]?).getD 0).testBit k = true)) := by
  obtain ⟨acc', h1, h2, h3⟩ := ancGo_at ops [] i o hi
  simp only [List.length_nil, Nat.zero_add] at h1 h2 h3
  unfold ancs at h
  rw [h2, Option.getD_some] at h
  obtain ⟨e, he, hb, hor⟩ := ancOf_bits acc' o h
  refine ⟨e, he, hb, hor.imp id fun hk => ?_⟩
  by_cases hlt : e.on < i
  · exact ⟨hlt, by unfold ancs; rw [h3 _ hlt]; exact hk⟩
  · rw [List.getElem?_eq_none (by omega)] at hk
    simp at hk

theorem indepGo_spec : ∀ (l : List Row) (j : Nat) (b : Row), indepAll.go j l b = true → ∀ n a, l[n]? = some a → b.anc.testBit (j + n) = true ∨ indep a b = true
  | [], _, _, _, n, a, h => by simp at h
  | x :: r, j, b, hg, n, a, h => by
    simp only [indepAll.go, Bool.and_eq_true, Bool.or_eq_true] at hg
    cases n with
    | zero => simp at h; subst h; exact hg.1
    | succ n => have := indepGo_spec r (j + 1) b hg.2 n a (by simpa using h); rwa [show j + (n + 1) = j + 1 + n by omega]

theorem indepAll_spec : ∀ (l : List Row) (i : Nat) (before : List Row), indepAll i before l = true → ∀ p q a b, p < q → (before ++ l)[p]? = some a → (before ++ l)[q]? = some b → before.length ≤ q →
    b.anc.testBit p = true ∨ indep a b = true
  | [], _, before, _, p, q, a, b, _, _, hq, hl => by
    rw [List.append_nil, List.getElem?_eq_none hl] at hq; cases hq
  | x :: r, i, before, h, p, q, a, b, hpq, hp, hq, hl => by
    simp only [indepAll, Bool.and_eq_true] at h
    by_cases he : q = before.length
    · subst he
      rw [List.getElem?_append_right (Nat.le_refl _)] at hq
      simp at hq; subst hq
      rw [List.getElem?_append_left hpq] at hp
      have := indepGo_spec before 0 x h.1 p a hp
      simpa using this
    · have := indepAll_spec r (i + 1) (before ++ [x]) h.2 p q a b hpq (by simpa using hp) (by simpa using hq) (by simp; omega)
      exact this

theorem backB_spec : ∀ (l : List Oper) (i : Nat), backB i l = true → ∀ j o, l[j]? = some o → ∀ e ∈ o.after.toList, Region.binds .any e = true → e.on < i + j
  | [], _, _, _, _, h, _, _, _ => by simp at h
  | x :: r, i, hb, j, o, h, e, he, hbd => by
    simp only [backB, Bool.and_eq_true] at hb
    cases j with
    | zero =>
      simp at h; subst h
      have := List.all_eq_true.1 hb.1 e he
      simp only [hbd, Bool.not_true, Bool.false_or] at this
      have : e.on < i := by simpa [Nat.blt_eq] using this
      omega
    | succ j =>
      have := backB_spec r (i + 1) hb.2 j o (by simpa using h) e he hbd
      omega

end Go.Cat

namespace Go.Cat
open Go

variable {P : Program} {E : Env} {R : CallRel} {ops : Array Oper} {w0 : Pt} {β : Pl} {ro : Snap} {D : Nat → Prop} {w : World}

structure Sat (w0 : Pt) (β : Pl) (ro : Snap) (D : Nat → Prop) (S : St) (a : Go.Act) (w : World) : Prop where
  h : HSat w0 β ro D S.m.objs w
  sz : a.tmps.size = S.tmps.length
  t : ∀ t, RepS β ro (tmpAt S.tmps t) (a.tmps.getD t undef)
  df : a.defers = w0.defs

theorem ofConst_rep (v : Value) : RepS β ro (ofConst v) v := by
  unfold ofConst
  split
  · rename_i cs
    have : RepL β ro (cs.toList.map ofConst1) cs.toList := by
      induction cs.toList with
      | nil => exact .nil _ _
      | cons c l ih => exact .cons (ofConst1_rep c) ih
    have := RepS.agg this.1 this.2
    simpa using this
  · exact ofConst1_rep v

theorem Sat.ev {S : St} {a : Go.Act} (h : Sat w0 β ro D S a w) (x : Operand) : RepS β ro (ev S.tmps x) (a.eval x) := by
  cases x with
  | tmp t => exact h.t t
  | const v => exact ofConst_rep v
  | global g => exact .any _
  | func f =>
    have := RepS.fn (β := β) (ro := ro) (f := f) (fs := []) (cs := []) (us := []) (vs := []) rfl rfl (by simp) (by simp)
    exact this

theorem Sat.put {S : St} {a : Go.Act} (h : Sat w0 β ro D S a w) {β' : Pl} {ro' : Snap} {D' : Nat → Prop} {m' : Mem} {w' : World} (hβ : β.ext β') (hr : ro.ext ro') (hh : HSat w0 β' ro' D' m'.objs w') {v : SV} {x : Value}
    (hv : RepS β' ro' v x) (d : Option Nat) : Sat w0 β' ro' D' ⟨setT S.tmps d v, m'⟩ (a.put d x) w' := by
  cases d with
  | none => exact ⟨hh, h.sz, fun t => (h.t t).mono hβ hr, h.df⟩
  | some d =>
    refine ⟨hh, by simp [Go.Act.put, setT, h.sz], fun t => ?_, h.df⟩
    simp only [Go.Act.put, setT, tmpAt]
    rw [List.getElem?_set]
    by_cases hd : d = t
    · subst hd
      by_cases hlt : d < S.tmps.length
      · have hlt' : d < a.tmps.size := by rw [h.sz]; exact hlt
        simp [hlt, hlt', Array.getD, hv]
      · simp [hlt]
        exact .any _
    · have := (h.t t).mono hβ hr
      simp only [tmpAt] at this
      have e : (a.tmps.setIfInBounds d x).getD t undef = a.tmps.getD t undef := by
        simp only [Array.getD_eq_getD_getElem?, Array.getElem?_setIfInBounds_ne hd]
      rw [e]
      simpa [hd] using this

theorem wanted_sound {S : St} {a : Go.Act} (h : Sat w0 β ro D S a w) {o : Oper} {b : Bool} (hw : wantedS ops S.tmps o = some b) : Region.wanted o (yielded ops a.tmps) = b := by
  unfold wantedS at hw
  unfold Region.wanted
  cases hg : o.guard with
  | none => simp only [hg] at hw ⊢; cases hw; rfl
  | some gw =>
    obtain ⟨j, want⟩ := gw
    simp only [hg] at hw ⊢
    cases hd : (ops[j]?).bind (·.dst) with
    | none => simp [hd] at hw
    | some d =>
      simp only [hd] at hw
      have ht := h.t d
      have hy : yielded ops a.tmps j = match a.tmps[d]? with | some (.bool b) => some b | _ => none := by
        unfold yielded; rw [hd]; rfl
      rw [hy]
      split at hw
      · rename_i c hc
        rw [hc] at ht
        have hval : a.tmps.getD d undef = .bool c := by
          generalize a.tmps.getD d undef = x at ht
          cases ht with | lit _ => rfl
        have hget : a.tmps[d]? = some (.bool c) := by
          rw [Array.getD_eq_getD_getElem?] at hval
          cases hq : a.tmps[d]? with
          | none => simp [hq, undef] at hval
          | some y => simp [hq] at hval; rw [hval]
        rw [hget]
        cases c <;> cases want <;> simp at hw <;> subst hw <;> rfl
      · rename_i vs hc
        cases hw
        rw [hc] at ht
        have hval : a.tmps.getD d undef = .tuple vs := by
          generalize a.tmps.getD d undef = x at ht
          cases ht with | lit _ => rfl
        rw [Array.getD_eq_getD_getElem?] at hval
        cases hq : a.tmps[d]? with
        | none => rfl
        | some y => simp [hq] at hval; rw [hval]; rfl
      · cases hw

/- ---------------------------------------------------------------- calls -/

def Enters (P : Program) (n : Nat) : Prop := ∃ fn, P.funcs[n]? = some fn ∧ (fn.name == "runtime.NumGoroutine") = false ∧ fn.body.isNone = false

def CallPost (w0 : Pt) (β : Pl) (ro : Snap) (D' : Nat → Prop) (objs' : Heap) (v : SV) (e : Ending) (w' : World) : Prop :=
  ∃ x β' ro', e = .returned x ∧ β.ext β' ∧ ro.ext ro' ∧ RepS β' ro' v x ∧ HSat w0 β' ro' D' objs' w'

/-- No memory has gone; what is not noted as written is as it was. -/
def MFrame (m m' : Mem) : Prop := m.next ≤ m'.next ∧ ∃ new, m'.wl = new ++ m.wl ∧ ∀ id, id < m.next → id ∉ new → m'.objs id = m.objs id

theorem MFrame.refl (m : Mem) : MFrame m m := ⟨Nat.le_refl _, [], rfl, fun _ _ _ => rfl⟩

theorem MFrame.trans {a b c : Mem} (h : MFrame a b) (k : MFrame b c) : MFrame a c := by
  obtain ⟨h1, n1, h2, h3⟩ := h
  obtain ⟨k1, n2, k2, k3⟩ := k
  refine ⟨Nat.le_trans h1 k1, n2 ++ n1, by rw [k2, h2, List.append_assoc], fun id hid hn => ?_⟩
  rw [k3 id (by omega) (fun h => hn (List.mem_append_left _ h)), h3 id hid (fun h => hn (List.mem_append_right _ h))]

structure CallGood (P : Program) (R : CallRel) : Prop where
  good : ∀ (n : Nat) (as : List SV) (m : Mem) (v : SV) (m' : Mem), R n as m v m' → Enters P n ∧ MFrame m m' ∧
    ∀ (w0 : Pt) (β : Pl) (ro : Snap) (D : Nat → Prop) (w : World) (vs : List Value), HSat w0 β ro D m.objs w → (∀ id, D id → id < m.next) → RepL β ro as vs →
      Calls P n vs.toArray w (CallPost w0 β ro (fun id => D id ∨ (m.next ≤ id ∧ id < m'.next)) m'.objs v)

structure SpecSound (P : Program) (E : Env) : Prop where
  good : ∀ (n : Nat) (s : VSpec) (nid : Nat) (as : List SV) (objs : Heap) (v : SV) (u : List (Nat × Option SO)) (rs : List Nat), look E.specs n = some s → (callSpec nid s as).run objs [] = some ((v, u), rs) → Enters P n ∧
    ∀ (w0 : Pt) (β : Pl) (ro : Snap) (D : Nat → Prop) (w : World) (vs : List Value), HSat w0 β ro D objs w → (∀ k, k < 64 → ¬ D (nid + k)) → RepL β ro as vs →
      Calls P n vs.toArray w (CallPost w0 β ro (fun id => D id ∨ (nid ≤ id ∧ id < nid + 64)) (putAll objs u) v)

theorem run_program' (w : World) : (program).run P w = .ok P w := rfl

theorem call_run {ρ : Operand → SV} {ρv : Operand → Value} (hρ : ∀ x, RepS β ro (ρ x) (ρv x)) {o : Oper} {f : Operand} {args : Array Operand} (hc : callOf o.op = some (f, args)) {n : Nat} {as : List SV}
    (ht : calleeT ρ f args = some (n, as)) (he : Enters P n) : ∃ vs : List Value, RepL β ro as vs ∧ (execOp ρv o).run P w = .ok (.enter n vs.toArray) w := by
  obtain ⟨dst, op, ty, pos, after, guard⟩ := o
  simp only at hc
  unfold callOf at hc
  split at hc
  · rename_i f' args' ts
    cases hc
    unfold calleeT at ht
    split at ht
    · rename_i k first captured hf
      cases ht
      have hfv := hρ f
      rw [hf] at hfv
      generalize hfx : ρv f = fv at hfv
      cases hfv with
      | @fn _ _ _ us cs h1 h2 h3 h4 =>
        obtain ⟨fn, e1, e2, e3⟩ := he
        have hargs := map_rep hρ args.toList
        refine ⟨us ++ args.toList.map ρv ++ cs, (RepL.append (RepL.append ⟨h1, h3⟩ hargs) ⟨h2, h4⟩), ?_⟩
        have harr : (us.toArray ++ args.map ρv) ++ cs.toArray = (us ++ args.toList.map ρv ++ cs).toArray := by
          apply Array.ext'
          simp
        simp only [execOp, resolve, hfx, Deferred.ofValue, Sem.run_bind, Sem.run_pure, Result.andThen_ok, invoke, callFunc, run_program']
        rw [harr, e1]
        simp [e2, e3]
    · cases ht
  · cases hc

theorem step_sound (hE : TysOk P E) (hR : CallGood P R) (hS : SpecSound P E) {i : Nat} {o : Oper} (hi : ops[i]? = some o) {S : St} {a : Go.Act} (hs : Sat w0 β ro D S a w) {nid : Nat} {g : Bool} {v : SV} {m' : Mem} {fp : Foot}
    (hc : Core E R ops nid g o S.tmps S.m v m' fp) (hn : ∀ k, k < 64 → ¬ D (nid + k)) (hDm : ∀ id, D id → id < S.m.next) {K : Go.Act → World → Prop} {Q : Exit → Go.Act → World → Prop}
    (hK : ∀ a' w' β' ro', β.ext β' → ro.ext ro' → Sat w0 β' ro' (fun id => D id ∨ (nid ≤ id ∧ id < nid + 64) ∨ (S.m.next ≤ id ∧ id < m'.next)) ⟨setT S.tmps o.dst v, m'⟩ a' w' → K a' w') : wpOp P ops Q i K a w := by
  unfold wpOp
  simp only [hi]
  have lit : ∀ {β' : Pl} {ro' : Snap} {v : SV} {x : Value}, RepS β' ro' v x → RepS β' ro' (litV g v) x := by
    intro β' ro' v x hv
    unfold litV
    split
    · cases hv with | leaf h => cases h with | bool b => exact .lit (.inl rfl)
    · exact hv
  cases hc with
  | off hw =>
    rw [wanted_sound hs hw]
    exact hK _ _ β ro β.ext_refl ro.ext_refl (hs.put β.ext_refl ro.ext_refl (hs.h.less (fun _ _ h => h) (fun id h => .inl h)) (.lit (.inr rfl)) o.dst)
  | op hw t ht v u rs hr =>
    rw [wanted_sound hs hw, if_pos rfl]
    refine .inl ?_
    unfold otOf at ht
    split at ht
    · rename_i f args hcall
      split at ht
      · rename_i n as hcal
        split at ht
        · rename_i s hspec
          cases ht
          obtain ⟨he, hgood⟩ := hS.good n s nid as S.m.objs v u rs hspec hr
          obtain ⟨vs, hvs, hrun⟩ := call_run (P := P) (w := w) hs.ev hcall hcal he
          have hcalls := hgood w0 β ro D w vs hs.h hn hvs
          unfold Oper.wp
          rw [hrun]
          refine Calls.mono hcalls ?_
          rintro e w' ⟨x, β', ro', rfl, h1, h2, h3, h4⟩
          exact hK _ _ β' ro' h1 h2 (hs.put h1 h2 (h4.less (fun _ _ h => h) (fun id h => h.imp (fun x => x) .inl)) (lit h3) o.dst)
        · cases ht
      · cases ht
    · cases ht
      obtain ⟨w', β', ro', h1, h2, h3, h4⟩ := op_sound (P := P) (o := o) (D' := fun id => D id ∨ (nid ≤ id ∧ id < nid + 64) ∨ (S.m.next ≤ id ∧ id < S.m.next)) hE hs.h hs.ev (by simpa using hn 0 (by omega)) (fun id h => .inl h) (.inr (.inl ⟨Nat.le_refl _, by omega⟩)) hr
      unfold Oper.wp
      rcases h4 with ⟨x, h5, h6⟩ | ⟨h5, rfl⟩
      · rw [h5]
        exact hK _ _ β' ro' h1 h2 (hs.put h1 h2 h3 (lit h6) o.dst)
      · rw [h5]
        exact hK _ _ β' ro' h1 h2 (hs.put h1 h2 h3 (lit (.lit (.inr rfl))) o.dst)
  | call hw n as ht v m' hr =>
    rw [wanted_sound hs hw, if_pos rfl]
    refine .inl ?_
    obtain ⟨he, hfr, hgood⟩ := hR.good n as S.m v m' hr
    unfold inlOf at ht
    split at ht
    · rename_i f args hcall
      split at ht
      · rename_i n' as' hcal
        split at ht
        · cases ht
        · cases ht
          obtain ⟨vs, hvs, hrun⟩ := call_run (P := P) (w := w) hs.ev hcall hcal he
          have hcalls := hgood w0 β ro D w vs hs.h hDm hvs
          unfold Oper.wp
          rw [hrun]
          refine Calls.mono hcalls ?_
          rintro e w' ⟨x, β', ro', rfl, h1, h2, h3, h4⟩
          exact hK _ _ β' ro' h1 h2 (hs.put h1 h2 (h4.less (fun _ _ h => h) (fun id h => h.imp (fun x => x) .inr)) (lit h3) o.dst)
      · cases ht
    · cases ht

end Go.Cat
