/-
  My own text: a part of the proof.
  My own text: a part of the proof.
  My own text: a part of the proof.
  My own text: a part of the proof.
  My own text: a part of the proof.
  My own text: a part of the proof.
  My own text: a part of the proof.
  My own text: a part of the proof.
  My own text: a part of the proof.
  My own text: a part of the proof.
  My own text: a part of the proof.
-/
import Derived.Test.YtiflikkmjeikdaaGreatC2
import Derived.Test.YtiflikkmjeikdaaGreatC1
import Derived.Scope
import Derived.LoopN
set_option linter.unusedVariables false
set_option linter.unusedSimpArgs false
namespace Go.Cat
open Go
variable {P : Program} {E : Env} {w0 : Pt} {β : Pl} {ro : Snap} {D : Nat → Prop} {objs : Heap} {w : World}
theorem putAll_one (h : Heap) (id : Nat) (o : Option SO) : putAll h [(id, o)] = putH h id o := rfl
theorem putH_id {h : Heap} {id : Nat} {o : SO} (ho : h id = some o) : putH h id (some o) = h := by
  funext i
  by_cases hi : i = id
  · subst hi; rw [putH_same, ho]
  · rw [putH_other _ _ hi]
theorem dst_none {dT t' ty el : TypeId} {inf : TypeInfo} (ht : P.underlying dT = some (.slice el)) (hi : P.info? el = some inf) (h1 : inf.size = 1) {e : EN} {ys : List (T e)} {xv : Value} (hsrc : SrcAt w ro e ys xv)
    {d : Option Addr} {n cap : Nat} (h0 : min ys.length n = 0) : (Builtin.copy_ #[dT, t'] ty #[.slice d n cap, xv]).run P w = .ok (goInt 0) w := by
  have hs : (P.info? el).map (·.size) = some 1 := by rw [hi]; simp [h1]
  rcases hsrc with ⟨rfl, rfl⟩ | ⟨a, c, us, rfl, _⟩
  · exact run_copy_none w dT t' ty el d none n cap 0 0 ht hs (by simp)
  · exact run_copy_none w dT t' ty el d (some a) n cap _ c ht hs h0
theorem take0 {α : Type} (xs : List α) (lo : Nat) (h : lo ≤ xs.length) (ys : List α) : xs.take lo ++ ys.take 0 ++ xs.drop (lo + 0) = xs := by simp
theorem goInt_leaf {n : Nat} (h : n ≤ maxLen) : RepS β ro (.leaf (.int .i64 (n : Int))) (goInt n) := .leaf (.int _ _ (rng_len h))
theorem take_min {α : Type} (ys : List α) (n : Nat) : ys.take n = ys.take (min ys.length n) := by
  rcases Nat.le_total n ys.length with h | h
  · rw [Nat.min_eq_right h]
  · rw [Nat.min_eq_left h, List.take_of_length_le h, List.take_of_length_le (Nat.le_refl _)]
theorem copyT_sound (hE : TysOk P E) (hs : HSat w0 β ro D objs w) {t t' ty : TypeId} {d x : SV} {dv xv : Value} (hd : RepS β ro d dv) (hx : RepS β ro x xv) {D' : Nat → Prop} (hD : ∀ id, D id → D' id)
    {rs rs' : List Nat} {v : SV} {u : List (Nat × Option SO)} (h : (copyT E t d x).run objs rs = some ((v, u), rs')) :
    Goes w0 β ro D' (putAll objs u) v ((Builtin.copy_ #[t, t'] ty #[dv, xv]).run P w) := by
  unfold copyT at h
  obtain ⟨e, ys, rs1, k1, hsrc⟩ := seqOf_run hs hx h
  cases hc : elemIs E t e && Nat.beq (sz e) 1 with
  | false => simp [hc, OT.run] at k1
  | true =>
    simp only [hc] at k1
    simp only [Bool.and_eq_true] at hc
    obtain ⟨el, inf, t1, t2, t3⟩ := elemIs_spec hE hc.1
    have h1 : sz e = 1 := Nat.eq_of_beq_eq_true hc.2
    have ys_le : ys.length ≤ maxLen := by
      rcases hsrc with ⟨_, rfl⟩ | ⟨a, c, us, _, _, hm, _⟩
      · exact Nat.zero_le _
      · exact hm
    split at k1
    · rename_i id
      simp only [OT.run] at k1
      cases ho : objs id with
      | none => simp [ho, OT.run] at k1
      | some o =>
        cases o with
        | blk cs => simp [ho, OT.run] at k1
        | row et e' xs =>
          simp only [ho] at k1
          split at k1
          · rename_i hee
            subst hee
            simp only [OT.run] at k1
            cases k1
            simp only [castT_self, putAll_one]
            have hform : ys.take xs.length ++ xs.drop (min ys.length xs.length) = xs.take 0 ++ ys.take (min ys.length xs.length) ++ xs.drop (0 + min ys.length xs.length) := by
              simp only [List.take_zero, List.nil_append, Nat.zero_add]
              rw [← take_min]
            cases hd with
            | own hb =>
              rename_i hh
              obtain ⟨h', hb', j1, j2, j3⟩ := hs.obj id _ ho
              rw [hb] at hb'; cases hb'
              by_cases h0 : min ys.length xs.length = 0
              · rw [hform, h0, take0 xs 0 (Nat.zero_le _), putH_id ho]
                have hval : ∃ a n c, hh.val = .slice a n c ∧ min ys.length n = 0 := by
                  unfold Hd.val
                  split
                  · exact ⟨none, 0, 0, rfl, by simp⟩
                  · exact ⟨_, _, _, rfl, by rw [← j2]; exact h0⟩
                obtain ⟨a, n, c, e1, e2⟩ := hval
                rw [e1, dst_none t1 t2 (t3.trans h1) hsrc e2]
                exact .pure hs hD (goInt_leaf (Nat.zero_le _))
              · cases hblk : hh.blk with
                | none => simp only [hblk] at j3; omega
                | some g =>
                  rcases hsrc with ⟨rfl, rfl⟩ | ⟨a, c, us, rfl, hsp, hm, hca⟩
                  · simp at h0
                  · obtain ⟨w', r1, r2⟩ := copy_row hs h1 ho hb hblk t1 t2 t3 hsp hca (lo := 0) (n := min ys.length xs.length) (dLen := hh.len) (dCap := hh.cap) (t' := t') (ty := ty) (sCap := c) (by omega) (by rw [j2]) hD
                    simp only [Hd.val, hblk]
                    rw [r1, hform]
                    exact ⟨_, w', β, ro, rfl, goInt_leaf (by omega), β.ext_refl, ro.ext_refl, r2⟩
          · simp [OT.run] at k1
    · rename_i id lo len
      simp only [OT.run] at k1
      cases ho : objs id with
      | none => simp [ho, OT.run] at k1
      | some o =>
        cases o with
        | blk cs => simp [ho, OT.run] at k1
        | row et e' xs =>
          simp only [ho] at k1
          split at k1
          · rename_i hee
            subst hee
            simp only [OT.run] at k1
            cases k1
            simp only [castT_self, putAll_one]
            have hform : xs.take lo ++ ys.take len ++ xs.drop (lo + min ys.length len) = xs.take lo ++ ys.take (min ys.length len) ++ xs.drop (lo + min ys.length len) := by
              rw [← take_min]
            cases hd with
            | win hb hl hcc hm hn hsm =>
              rename_i hh a cap
              obtain ⟨h', hb', j1, j2, j3⟩ := hs.obj id _ ho
              rw [hb] at hb'; cases hb'
              by_cases h0 : min ys.length len = 0
              · rw [hform, h0, take0 xs lo (by omega), putH_id ho]
                rw [dst_none t1 t2 (t3.trans h1) hsrc h0]
                exact .pure hs hD (goInt_leaf (Nat.zero_le _))
              · cases hblk : hh.blk with
                | none => simp only [hblk] at j3; omega
                | some g =>
                  rcases hsrc with ⟨rfl, rfl⟩ | ⟨a0, c, us, rfl, hsp, hm', hca⟩
                  · simp at h0
                  · obtain ⟨a', rfl, q1, q2, q3⟩ := hsm g hblk
                    have ha := q3.resolve_left (by omega)
                    subst ha
                    obtain ⟨w', r1, r2⟩ := copy_row hs h1 ho hb hblk t1 t2 t3 hsp hca (lo := lo) (n := min ys.length len) (dLen := len) (dCap := cap) (t' := t') (ty := ty) (sCap := c) (by omega) rfl hD
                    rw [j1, h1, Nat.mul_one, r1, hform]
                    exact ⟨_, w', β, ro, rfl, goInt_leaf (by omega), β.ext_refl, ro.ext_refl, r2⟩
          · simp [OT.run] at k1
    · simp [OT.run] at k1
theorem clearT_sound (hE : TysOk P E) (hs : HSat w0 β ro D objs w) {t ty : TypeId} {x : SV} {xv : Value} (hx : RepS β ro x xv) {D' : Nat → Prop} (hD : ∀ id, D id → D' id)
    {rs rs' : List Nat} {v : SV} {u : List (Nat × Option SO)} (h : (clearT E t x).run objs rs = some ((v, u), rs')) :
    Goes w0 β ro D' (putAll objs u) v ((Builtin.clear_ #[t] ty #[xv]).run P w) := by
  have htup : RepS β ro (.lit (.tuple #[])) (.tuple #[]) := .lit (.inr rfl)
  unfold clearT at h
  split at h
  · rename_i id
    simp only [OT.run] at h
    cases ho : objs id with
    | none => simp [ho, OT.run] at h
    | some o =>
      cases o with
      | blk cs => simp [ho, OT.run] at h
      | row et e xs =>
        simp only [ho] at h
        split at h
        · rename_i el e' hel
          split at h
          · rename_i hee
            subst hee
            simp only [OT.run] at h
            cases h
            rw [putAll_one]
            obtain ⟨inf, z, t1, t2, t3, t4, t5, t6, t7, t8⟩ := elemEN_spec hE hel
            cases hx with
            | own hb =>
              rename_i hh
              obtain ⟨h', hb', j1, j2, j3⟩ := hs.obj id _ ho
              rw [hb] at hb'; cases hb'
              cases hblk : hh.blk with
              | none =>
                simp only [hblk] at j3
                have : xs = [] := List.eq_nil_of_length_eq_zero (by omega)
                subst this
                simp only [List.length_nil, List.replicate_zero, Hd.val, hblk]
                rw [putH_id ho]
                have : (Builtin.clear_ #[t] ty #[.slice none 0 0]).run P w = .ok (.tuple #[]) w := by simp [Builtin.clear_, run_und t1]
                rw [this]
                exact .pure hs hD htup
              | some g =>
                simp only [Hd.val, hblk]
                by_cases h0 : hh.len = 0
                · have : xs = [] := List.eq_nil_of_length_eq_zero (by omega)
                  subst this
                  simp only [List.length_nil, List.replicate_zero]
                  rw [putH_id ho]
                  have : (Builtin.clear_ #[t] ty #[.slice (some ⟨g, 0, none⟩) hh.len hh.cap]).run P w = .ok (.tuple #[]) w := by simp [Builtin.clear_, run_und t1, h0]
                  rw [this]
                  exact .pure hs hD htup
                · simp only [hblk] at j3
                  obtain ⟨cur, m1, m2, m3, m4, m5⟩ := j3
                  have hz : (Builtin.zeroCells z.cells hh.len).toList = repeatN z.cells.toList hh.len := by
                    unfold Builtin.zeroCells
                    exact madeCells_toList rfl (by omega)
                  have hzl : (repeatN z.cells.toList hh.len).length = hh.len * sz e' := by rw [repeatN_length]; simp [t5]
                  have hle : hh.len * sz e' ≤ cur.size := by rw [m4]; exact Nat.mul_le_mul_right _ m2
                  have hone : ∀ u ∈ repeatN z.cells.toList hh.len, u.oneCell' = true := by
                    intro u hu
                    obtain ⟨k, hk, rfl⟩ := List.getElem_of_mem hu
                    have hk' : k < hh.len * sz e' := by rw [← hzl]; exact hk
                    have hg := repeatN_get z.cells.toList hh.len k (by simpa [t5] using hk')
                    rw [List.getElem?_eq_getElem hk] at hg
                    have hkk := hg.symm
                    have hlt := (List.getElem?_eq_some_iff.1 hkk).1
                    have hcl : k % z.cells.toList.length < (cells e' (zeroT e')).length := by have := hlt; rw [t8.1] at this ⊢; exact this
                    exact (t8.2 _ _ _ (List.getElem?_eq_getElem hcl) hkk).oneCell
                  have hst := run_storeCells_at P g 0 et (repeatN z.cells.toList hh.len) 0 cur w m1 (by rw [hzl]; omega) hone
                  have hrun : (Builtin.clear_ #[t] ty #[.slice (some ⟨g, 0, none⟩) hh.len hh.cap]).run P w = .ok (.tuple #[]) (w.setRow g (cur.toList.take 0 ++ repeatN z.cells.toList hh.len ++ cur.toList.drop (hh.len * sz e')).toArray) := by
                    simp only [Nat.zero_add, hzl] at hst
                    cases hn : hh.len with
                    | zero => exact absurd hn h0
                    | succ n =>
                      rw [hn] at hst hz
                      simp [Builtin.clear_, run_und t1, run_zero t2 t4, hz, hst]
                  rw [hrun]
                  refine ⟨_, _, β, ro, rfl, htup, β.ext_refl, ro.ext_refl, row_turn hs ho hb hblk (by simp) (fun cur' c1 c2 c3 => ?_) hD⟩
                  rw [m1] at c1; cases c1
                  refine ⟨by simp [hzl]; omega, fun i y j l hy hj => ?_⟩
                  have hi' : i < hh.len := by
                    have := (List.getElem?_eq_some_iff.1 hy).1
                    simpa [j2] using this
                  obtain ⟨u, hu, hr⟩ := zero_row (n := xs.length) (m := hh.len) t5 t8 (by omega) (cur := (repeatN z.cells.toList hh.len).toArray) (by simp) i y j l hy hj
                  have hj' : j < sz e' := by rw [← cells_length e' y]; exact (List.getElem?_eq_some_iff.1 hj).1
                  refine ⟨u, ?_, hr⟩
                  have hb' : i * sz e' + j < hh.len * sz e' := by
                    have : (i + 1) * sz e' ≤ hh.len * sz e' := Nat.mul_le_mul_right _ hi'
                    rw [Nat.add_mul, Nat.one_mul] at this
                    omega
                  simp only [List.take_zero, List.nil_append, List.getElem?_toArray] at hu ⊢
                  rw [List.getElem?_append_left (by rw [hzl]; exact hb')]
                  exact hu
          · simp [OT.run] at h
        · simp [OT.run] at h
  · split at h
    · rename_i hl
      obtain ⟨inf, z, d, h1, h2, _, _, _, _, _, _, _, _, rfl, _⟩ := (hE.look hl).info
      obtain ⟨rfl, rfl⟩ := ret_inv h
      cases hx with
      | lit _ =>
        have : (Builtin.clear_ #[t] ty #[.slice none 0 0]).run P w = .ok (.tuple #[]) w := by simp [Builtin.clear_, run_und h2]
        rw [this]
        exact .pure hs hD htup
    · simp [OT.run] at h
  · simp [OT.run] at h
theorem sliceArr_sound (hE : TysOk P E) (hs : HSat w0 β ro D objs w) {t id : Nat} {xv : Value} (hx : RepS β ro (.bptr id 0) xv) {lo hi mx : Option SV} {lov hiv mxv : Option Value}
    (h1 : RepO β ro lo lov) (h2 : RepO β ro hi hiv) (h3 : RepO β ro mx mxv) {D' : Nat → Prop} (hD : ∀ id, D id → D' id) {rs rs' : List Nat} {v : SV} {u : List (Nat × Option SO)}
    (h : (sliceT E t (.bptr id 0) lo hi mx).run objs rs = some ((v, u), rs')) : Goes w0 β ro D' (putAll objs u) v ((Instr.sliceAt t xv lov hiv mxv).run P w) := by
  unfold sliceT at h
  simp only at h
  split at h
  · rename_i n el _ _ _ _ hl
    have e1 : lov = none := by cases lov with | none => rfl | some _ => exact h1.elim
    have e2 : hiv = none := by cases hiv with | none => rfl | some _ => exact h2.elim
    have e3 : mxv = none := by cases mxv with | none => rfl | some _ => exact h3.elim
    subst e1 e2 e3
    obtain ⟨inf0, z0, d0, k1, k2, _, _, _, _, _, _, _, _, rfl, _⟩ := (hE.look hl).info
    split at h
    · rename_i d0 s z e eq hel
      obtain ⟨inf, zv, d, q1, q2, q3, q4, q5, q6, q7, q8, _, _, _, q9⟩ := (hE.look hel).info
      obtain ⟨m1, m2, m3, m4⟩ := q9 _ rfl
      simp only [OT.run] at h
      cases ho : objs id with
      | none => simp [ho, OT.run] at h
      | some o =>
        cases o with
        | row et e' xs => simp [ho, OT.run] at h
        | blk cs =>
          simp only [ho] at h
          split at h
          · rename_i hc1 hc2
            have hs1 := Nat.eq_of_beq_eq_true hc2
            simp only [Bool.and_eq_true] at hc1
            have hlen := Nat.eq_of_beq_eq_true hc1.1.1
            have hle := Nat.le_of_ble_eq_true hc1.1.2
            have hall := hc1.2
            simp only at m1 m2 q3
            rw [hs1] at h hlen hle
            obtain ⟨xs, is, rs1, f1, f2⟩ := toElems_run h
            simp only [OT.run] at f2
            cases f2
            cases hx with
            | bptr hb hg =>
              rename_i hd g
              obtain ⟨h', hb', g', cur, et, j1, j2, j3⟩ := hs.obj id _ ho
              rw [hb] at hb'; cases hb'
              rw [hg] at j1; cases j1
              obtain ⟨b1, b2, b3⟩ := elems_row hs j3 hall hlen (by omega) f1
              have hfz := hs.freeze (id :: is) (fun i hi => by
                rcases List.mem_cons.1 hi with rfl | hi
                · simp [ho]
                · exact b1 i hi)
              have hrun : (Instr.sliceAt t (.pointer (some ⟨g, 0, none⟩)) none none none).run P w = .ok (.slice (some ⟨g, 0, none⟩) n n) w := by
                simp [Instr.sliceAt, run_und k2, Instr.sureAddr, Instr.sliceBounds, run_sizeOf q1, addr_add]
              rw [hrun]
              refine ⟨_, w, β, _, rfl, .leaf ?_, β.ext_refl, Snap.ext_plus hs.snap β (id :: is), hfz.less (fun _ _ h => h) hD⟩
              have hmono := Snap.plus_mono hs.snap β (is := is) (js := id :: is) (fun i hi => List.mem_cons_of_mem _ hi)
              have hcur : cur.size = n * sz e := by rw [← hlen, ← j3.1]; simp
              have hro : (ro.plus β w (id :: is)) g = some (.cells cur et (0, 0)) := by
                unfold Snap.plus
                rw [if_pos ⟨id, List.mem_cons_self, hd, hb, hg⟩]
                exact j2
              have hpos : n ≤ maxLen := by
                have : n * 1 ≤ n * sz e := Nat.mul_le_mul_left _ (by omega)
                simp only [maxLen]; omega
              have := Rep.sl (ro := ro.plus β w (id :: is)) e xs ⟨g, 0, none⟩ n (fun i j => (cur[i * sz e + j]?).getD default) (.inl rfl) (by omega) hpos
                (fun i x j l hi hj => by
                  obtain ⟨u, hu, hr⟩ := b3 i x j l hi hj
                  simp [Snap.cell?, hro, hu])
                (fun i x j l hi hj => by
                  obtain ⟨u, hu, hr⟩ := b3 i x j l hi hj
                  simp only [hu, Option.getD_some]
                  exact hr.mono hmono)
              rw [b2] at this
              exact this
          · simp [OT.run] at h
    · simp [OT.run] at h
  · simp [OT.run] at h
end Go.Cat

set_option linter.unusedSimpArgs false
set_option linter.unusedVariables false
namespace Go.Cat
open Go
variable {P : Program} {E : Env} {w0 : Pt} {β : Pl} {ro : Snap} {D : Nat → Prop} {objs : Heap} {w : World}
theorem capT_sound (hE : TysOk P E) {ts : Array TypeId} {ty : TypeId} {x : SV} {xv : Value} (hx : RepS β ro x xv) {rs rs' : List Nat} {v : SV} {u : List (Nat × Option SO)}
    (h : (capT E ts.toList x).run objs rs = some ((v, u), rs')) : Tells P β ro v u (Builtin.cap_ ts ty #[xv]) w := by
  unfold capT at h
  split at h
  · rename_i t hts
    split at h
    · rename_i el _ _ _ _ hl
      obtain ⟨inf, z, d, h1, h2, _, _, _, _, _, _, _, _, rfl, _⟩ := (hE.look hl).info
      obtain ⟨rfl, rfl⟩ := ret_inv h
      cases hx with
      | lit _ =>
        have e : ts = #[t] := Array.toList_inj.1 (by simpa using hts)
        subst e
        refine ⟨rfl, .int .i64 0, ?_, .lit (.inl (by decide))⟩
        simp [Builtin.cap_, run_und h2, goInt]
    · simp [OT.run] at h
  · simp [OT.run] at h
theorem zeroCells_list {z : Array Value} {s n : Nat} (hz : z.size = s) (hs : 0 < s) : (Builtin.zeroCells z n).toList = repeatN z.toList n := by
  unfold Builtin.zeroCells
  rw [hz]
  have := madeCells_toList (z := z) (n := n) hz hs
  simpa [hz] using this
theorem repeatN_add {α : Type} (l : List α) (m n : Nat) : repeatN l m ++ repeatN l n = repeatN l (m + n) := by
  induction m with
  | zero => simp [repeatN]
  | succ m ih => rw [Nat.succ_add]; simp only [repeatN, List.append_assoc, ih]
theorem run_append_zeros (w : World) (t t' ty e : TypeId) (i : TypeInfo) (z : Value) (ht : P.underlying t = some (.slice e)) {k' : IntKind} (ht' : P.underlying t' = some (.int k')) (hi : P.info? e = some i) (hz : i.zero = some z)
    (hzs : 0 < z.cells.size) (hsz : 0 < i.size) (k : IntKind) (n : Nat) (hb : n ≤ 1073741824) (hby : i.bytes ≤ 131072) (h0 : 0 < n) :
    (Builtin.append_ #[t, t'] ty #[.slice none 0 0, .int k (n : Int)]).run P w =
      .ok (.slice (some ⟨w.heap.size, 0, none⟩) n (grownCap w n 0 e)) (w.drew.alloc (.cells (Builtin.zeroCells z.cells n ++ Builtin.zeroCells z.cells (grownCap w n 0 e - n)) e)) := by
  have hw : IntKind.i64.wrap (n : Int) = (n : Int) := by
    simp [IntKind.wrap, IntKind.signed, IntKind.bits]
    omega
  have h48 : n * i.bytes ≤ 140737488355328 := by
    have := Nat.mul_le_mul hb hby
    omega
  have c1 : ¬ ((n : Int) < 0) := by omega
  have c2 : ¬ (281474976710656 < (n : Int) * (i.bytes : Int)) := by
    have : ((n * i.bytes : Nat) : Int) = (n : Int) * (i.bytes : Int) := Int.natCast_mul n i.bytes
    omega
  have c3 : ¬ (n * i.size = 0 ∧ False) := fun h => h.2
  have h63' : ¬ (9223372036854775807 < (n : Int)) := by omega
  have h48' : ¬ (281474976710656 < Builtin.nextslicecap n 0 * i.bytes) := by rw [nextslicecap_zero h0]; omega
  have hn : n ≠ 0 := by omega
  have c4 : ¬ (n * i.size = 0) := Nat.ne_of_gt (Nat.mul_pos h0 hsz)
  simp [Builtin.append_, run_underlying ht, run_underlying ht', sizeOf, typeInfo, zeroValue, hi, hz, asInt, asIntOf, hw, c1, c2, hn, h63', h48', Question.forced, run_firstCells_none, newRow, grownCap, Nat.ne_of_gt hsz]
  exact fun h => absurd h c4
theorem run_append_zeros0 (w : World) (t t' ty e : TypeId) (i : TypeInfo) (ht : P.underlying t = some (.slice e)) {k' : IntKind} (ht' : P.underlying t' = some (.int k')) (hi : P.info? e = some i) (k : IntKind) :
    (Builtin.append_ #[t, t'] ty #[.slice none 0 0, .int k 0]).run P w = .ok (.slice none 0 0) w := by
  have hw : IntKind.i64.wrap (0 : Int) = 0 := by decide
  simp [Builtin.append_, run_underlying ht, run_underlying ht', sizeOf, typeInfo, hi, asInt, asIntOf, hw]
theorem appendZ_sound (hE : TysOk P E) (hs : HSat w0 β ro D objs w) {t t' ty nid el : Nat} {e : EN} {k' : IntKind} (ht : elemEN E t = some (el, e)) (ht' : P.underlying t' = some (.int k')) {s x : SV} {sv xv : Value}
    (hsv : RepS β ro s sv) (hx : RepS β ro x xv) (hn : ¬ D nid) {D' : Nat → Prop} (hD : ∀ id, D id → D' id) (hDn : D' nid) {rs rs' : List Nat} {v : SV} {u : List (Nat × Option SO)}
    (h : (appendZ nid el e s x).run objs rs = some ((v, u), rs')) : Goes w0 β ro D' (putAll objs u) v ((Builtin.append_ #[t, t'] ty #[sv, xv]).run P w) := by
  unfold elemEN at ht
  split at ht
  · rename_i el0 _ _ _ _ hl
    obtain ⟨inf0, z0, d0, k1, k2, _, _, _, _, _, _, _, _, rfl, _⟩ := (hE.look hl).info
    split at ht
    · rename_i d s0 zz e0 eq hel
      cases ht
      obtain ⟨inf, z, d, q1, q2, q3, q4, q5, q6, q7, q8, _, _, _, q9⟩ := (hE.look hel).info
      obtain ⟨m1, m2, m3, m4⟩ := q9 _ rfl
      unfold appendZ at h
      split at h
      · rename_i k n l hI
        simp only [OT.run] at h
        split at h
        · rename_i hg
          cases h
          obtain ⟨g1, g2⟩ := of_decide_eq_true hg
          obtain ⟨rfl, _⟩ := asI_rep hI hx
          have hsv' : sv = .slice none 0 0 := by cases hsv; rfl
          subst hsv'
          obtain ⟨m, rfl⟩ := Int.eq_ofNat_of_zero_le g1
          have hm : m ≤ 1073741824 := by simp only [big] at g2; omega
          have hzs : z.cells.size = sz e := q5.trans m1.symm
          have hsz : 0 < sz e := by omega
          have hisz : inf.size = sz e := q3.trans m1.symm
          rcases Nat.eq_zero_or_pos m with rfl | hpos
          · rw [show ((0 : Nat) : Int) = 0 from rfl, run_append_zeros0 w t t' ty el inf k2 ht' q1 k]
            have hβn := hs.none_of_D hn
            obtain ⟨β', b1, b2, b3⟩ := row_goes (el := el) (e := e) (zs := []) hs hn hD hDn (w' := w) (v' := .slice none 0 0) (vals := []) (World.ownsRow_nil w 0 el (sz e)) (old := none) ⟨rfl, rfl, rfl, Nat.le_refl _, fun _ _ _ => rfl⟩ (by simp)
              (objs1 := objs) (fun _ _ h => h) (fun g hg => by cases hg) (fun g hg => by simp [Value.ownBlock] at hg)
            exact ⟨_, w, β', ro, rfl, b1, b2, ro.ext_refl, b3⟩
          · rw [run_append_zeros w t t' ty el inf z k2 ht' q1 q4 (by rw [hzs]; exact hsz) (by rw [hisz]; exact hsz) k m hm (by omega) hpos]
            have hge := grownCap_ge w m 0 el
            have hle := grownCap_le_maxLen w m 0 el (by simp only [maxLen]; omega)
            have hcur : (Builtin.zeroCells z.cells m ++ Builtin.zeroCells z.cells (grownCap w m 0 el - m)).toList = repeatN z.cells.toList (grownCap w m 0 el) := by
              rw [Array.toList_append, zeroCells_list hzs hsz, zeroCells_list hzs hsz, repeatN_add]
              congr 1; omega
            have := newRow_goes (el := el) (xs := List.replicate m (zeroT e)) hs.drew hn hD hDn (cap := grownCap w m 0 el) (cur := Builtin.zeroCells z.cells m ++ Builtin.zeroCells z.cells (grownCap w m 0 el - m)) (by simpa using hge) hle
              (by rw [Array.size_append, size_zeroCells, size_zeroCells, hzs, ← Nat.add_mul]; congr 1; omega) (zero_row hzs m4 (by simpa using hge) hcur)
            simp only [List.length_replicate] at this
            simpa [putAll] using this
        · cases h
      · simp [OT.run] at h
    · cases ht
  · cases ht
theorem sliceN_own (hE : TysOk P E) (hs : HSat w0 β ro D objs w) {t id nid et : Nat} {e : EN} {xs : List (T e)} {xv : Value} (hx : RepS β ro (.own id) xv) (ho : objs id = some (.row et e xs)) (he : elemIs E t e = true) (k : IntKind)
    (hn : ¬ D nid) {D' : Nat → Prop} (hD : ∀ id, D id → D' id) (hDn : D' nid) :
    Goes w0 β ro D' (putAll objs [(id, none), (nid, some (.row et e []))]) (.own nid) ((Instr.sliceAt t xv none (some (.int k 0)) none).run P w) := by
  obtain ⟨el, inf, t1, t2, t3⟩ := elemIs_spec hE he
  obtain ⟨vals, ⟨hlen, hcase⟩, o2, o3⟩ := own_ownsRow hs ho hx
  have key : ∃ v', (Instr.sliceAt t xv none (some (.int k 0)) none).run P w = .ok v' w ∧ w.ownsRow 0 et (sz e) v' 0 [] ∧ ∀ g, v'.ownBlock = some g → xv.ownBlock = some g := by
    rcases hcase with ⟨rfl, h0⟩ | ⟨g, cap, cur, rfl, _, hg, hc, hm, hcs, htake⟩
    · have hb : (Instr.sliceBounds true 0 0 none (some (.int k 0)) none).run P w = .ok (0, 0, 0) w := by simp [Instr.sliceBounds, Instr.sliceBound, asIntOf]
      exact ⟨_, run_sliceAt_sl t1 t2 hb, World.ownsRow_nil w 0 et (sz e), fun g hg => by simp [Value.ownBlock] at hg⟩
    · have hb : (Instr.sliceBounds true xs.length cap none (some (.int k 0)) none).run P w = .ok (0, 0, cap) w := by simp [Instr.sliceBounds, Instr.sliceBound, asIntOf]
      refine ⟨.slice (some ⟨g, 0, none⟩) 0 cap, ?_, ⟨by simp, .inr ⟨g, cap, cur, rfl, Nat.zero_le _, hg, Nat.zero_le _, hm, hcs, by simp⟩⟩, fun g' hg' => by simpa [Value.ownBlock] using hg'⟩
      rw [run_sliceAt_sl t1 t2 hb]
      by_cases hcap : cap = 0
      · simp [hcap]
      · simp [hcap, addr_add]
  obtain ⟨v', r1, r2, r3⟩ := key
  have hold : ∀ g, xv.ownBlock = some g → (ro g = none ∧ w0.heap.size ≤ g) ∧ ∀ id' x hh, putH objs id none id' = some x → β id' = some hh → hh.blk ≠ some g := by
    intro g hg
    obtain ⟨hh, p1, p2⟩ := o3 g hg
    refine ⟨⟨hs.apart id _ hh g ho p1 p2, hs.above id _ hh g ho p1 p2⟩, fun id' x hh' hx hb' hg' => ?_⟩
    by_cases hid : id' = id
    · subst hid; rw [putH_same] at hx; cases hx
    · rw [putH_other _ _ hid] at hx
      exact hid (hs.inj _ _ _ _ _ _ _ hx ho hb' p1 hg' p2)
  obtain ⟨β', b1, b2, b3⟩ := row_goes (el := et) (e := e) (zs := []) hs hn hD hDn (w' := w) (v' := v') (vals := []) r2 (old := xv.ownBlock) ⟨rfl, rfl, rfl, Nat.le_refl _, fun _ _ _ => rfl⟩ (by simp)
    (objs1 := putH objs id none) (fun i x hx => by
      by_cases hid : i = id
      · subst hid; rw [putH_same] at hx; cases hx
      · rwa [putH_other _ _ hid] at hx) hold (fun g hg => .inl (r3 g hg))
  rw [r1]
  exact ⟨_, w, β', ro, rfl, b1, b2, ro.ext_refl, b3⟩
end Go.Cat

namespace Go.Cat
open Go
variable {P : Program} {E : Env} {w0 : Pt} {β : Pl} {ro : Snap} {D : Nat → Prop} {objs : Heap} {w : World}
def OpGoes (w0 : Pt) (β : Pl) (ro : Snap) (D : Nat → Prop) (objs : Heap) (v : SV) (r : Result Next) : Prop :=
  ∃ w' β' ro', β.ext β' ∧ ro.ext ro' ∧ HSat w0 β' ro' D objs w' ∧ ((∃ x, r = .ok (.value x) w' ∧ RepS β' ro' v x) ∨ (r = .ok .skip w' ∧ v = .lit (.tuple #[])))
theorem Goes.op {v : SV} {s : Sem Value} (h : Goes w0 β ro D objs v (s.run P w)) : OpGoes w0 β ro D objs v ((do Pure.pure (Next.value (← s)) : Sem Next).run P w) := by
  obtain ⟨x, w', β', ro', h1, h2, h3, h4, h5⟩ := h
  exact ⟨w', β', ro', h3, h4, h5, .inl ⟨x, by simp [h1], h2⟩⟩
theorem OpGoes.pure {D' : Nat → Prop} (hs : HSat w0 β ro D objs w) (hD : ∀ id, D id → D' id) {v : SV} {x : Value} (h : RepS β ro v x) {s : Sem Next} (hr : s.run P w = .ok (.value x) w) :
    OpGoes w0 β ro D' (putAll objs []) v (s.run P w) :=
  ⟨w, β, ro, β.ext_refl, ro.ext_refl, hs.less (fun _ _ h => h) hD, .inl ⟨x, hr, h⟩⟩
theorem map_rep {ρ : Operand → SV} {ρv : Operand → Value} (h : ∀ x, RepS β ro (ρ x) (ρv x)) (l : List Operand) : RepL β ro (l.map ρ) (l.map ρv) := by
  induction l with
  | nil => exact .nil _ _
  | cons x l ih => exact .cons (h x) ih
theorem opt_rep {ρ : Operand → SV} {ρv : Operand → Value} (h : ∀ x, RepS β ro (ρ x) (ρv x)) (o : Option Operand) : RepO β ro (o.map ρ) (o.map ρv) := by
  cases o with
  | none => trivial
  | some x => exact h x
theorem two_rep {x y : SV} {us : List Value} (h : RepL β ro [x, y] us) : ∃ u v, us = [u, v] ∧ RepS β ro x u ∧ RepS β ro y v := by
  obtain ⟨u, r, rfl, h1, h2⟩ := h.of_cons
  obtain ⟨v, r, rfl, h3, h4⟩ := h2.of_cons
  rw [h4.of_nil]
  exact ⟨u, v, rfl, h1, h3⟩
theorem arr_of_list {α : Type} {a : Array α} {l : List α} (h : a.toList = l) : a = l.toArray := by rw [← h]
theorem builtinT_sound (hE : TysOk P E) (hs : HSat w0 β ro D objs w) {nid : Nat} {b : Builtin} {ts : Array TypeId} {ty : TypeId} {cs : Array Bool} {as : List SV} {us : Array Value} (ha : RepL β ro as us.toList) (hn : ¬ D nid)
    {D' : Nat → Prop} (hD : ∀ id, D id → D' id) (hDn : D' nid) {rs rs' : List Nat} {v : SV} {u : List (Nat × Option SO)} (h : (builtinT E nid b ts.toList as).run objs rs = some ((v, u), rs')) :
    OpGoes w0 β ro D' (putAll objs u) v ((builtin b ts ty cs us).run P w) := by
  unfold builtinT at h
  split at h
  · obtain ⟨x, h1, h2⟩ := one_rep ha
    rw [arr_of_list h1]
    exact ((lenT_sound hE hs h2 h).goes hs hD).op
  · obtain ⟨x, h1, h2⟩ := one_rep ha
    rw [arr_of_list h1]
    exact ((capT_sound (P := P) (w := w) hE h2 h).goes hs hD).op
  · obtain ⟨x, y, h1, h2, h3⟩ := two_rep ha
    rw [arr_of_list h1]
    split at h
    · rename_i t t' hts
      split at h
      · rename_i el e hbeq hel
        have := Nat.eq_of_beq_eq_true hbeq
        subst this
        rw [arr_of_list hts]
        exact (appendT_sound hE hs hel h2 h3 hn hD hDn h).op
      · rename_i el e hbeq hel
        split at h
        · rename_i hl
          obtain ⟨inf, z, d, k1, k2, _, _, _, _, _, _, _, _, rfl, _⟩ := (hE.look hl).info
          rw [arr_of_list hts]
          exact (appendZ_sound hE hs hel k2 h2 h3 hn hD hDn h).op
        · simp [OT.run] at h
      · simp [OT.run] at h
    · simp [OT.run] at h
  · obtain ⟨x, y, h1, h2, h3⟩ := two_rep ha
    rw [arr_of_list h1]
    split at h
    · rename_i t t' hts
      rw [arr_of_list hts]
      exact (copyT_sound hE hs h2 h3 hD h).op
    · simp [OT.run] at h
  · obtain ⟨x, h1, h2⟩ := one_rep ha
    rw [arr_of_list h1]
    split at h
    · rename_i t hts
      rw [arr_of_list hts]
      exact (clearT_sound hE hs h2 hD h).op
    · simp [OT.run] at h
  · obtain ⟨x, r, h1, h2, h3⟩ := ha.of_cons
    rw [arr_of_list h1]
    have := minT_sound (P := P) (w := w) true _ _ h2 h3 h
    exact Goes.op (s := Builtin.min_ ts ty (x :: r).toArray) (this.goes hs hD)
  · obtain ⟨x, r, h1, h2, h3⟩ := ha.of_cons
    rw [arr_of_list h1]
    have := minT_sound (P := P) (w := w) false _ _ h2 h3 h
    exact Goes.op (s := Builtin.max_ ts ty (x :: r).toArray) (this.goes hs hD)
  · simp [OT.run] at h
theorem op_sound (hE : TysOk P E) (hs : HSat w0 β ro D objs w) {ρ : Operand → SV} {ρv : Operand → Value} (hρ : ∀ x, RepS β ro (ρ x) (ρv x)) {o : Oper} {nid : Nat} (hn : ¬ D nid)
    {D' : Nat → Prop} (hD : ∀ id, D id → D' id) (hDn : D' nid) {rs rs' : List Nat} {v : SV} {u : List (Nat × Option SO)} (h : (opT E ρ nid o.op).run objs rs = some ((v, u), rs')) :
    OpGoes w0 β ro D' (putAll objs u) v ((execOp ρv o).run P w) := by
  obtain ⟨dst, op, ty, pos, after, guard⟩ := o
  simp only at h
  unfold opT at h
  split at h
  · obtain ⟨rfl, rfl⟩ := ret_inv h
    exact .pure hs hD (hρ _) rfl
  · obtain ⟨rfl, rfl⟩ := ret_inv h
    exact .pure hs hD (hρ _) rfl
  · rename_i c a b
    have fin : ∀ (t : Bool), ρv c = .bool t → (execOp ρv ⟨dst, .pick c a b, ty, pos, after, guard⟩).run P w = .ok (.value (if t = true then ρv a else ρv b)) w := by
      intro t ht
      cases t <;> simp [execOp, ht, asBool]
    split at h
    · rename_i t hc
      have hv := asB_rep hc (hρ c)
      cases t with
      | true => simp only at h; obtain ⟨rfl, rfl⟩ := ret_inv h; exact .pure hs hD (hρ a) (fin _ hv)
      | false => simp only at h; obtain ⟨rfl, rfl⟩ := ret_inv h; exact .pure hs hD (hρ b) (fin _ hv)
    · rename_i t hc
      have hv := asB_rep hc (hρ c)
      split at h
      · rename_i x lx y ly ha hb
        obtain ⟨rfl, rfl⟩ := ret_inv h
        have h1 := asB_rep ha (hρ a)
        have h2 := asB_rep hb (hρ b)
        have := fin _ hv
        rw [h1, h2] at this
        refine .pure hs hD ?_ this
        cases t with
        | true => exact .leaf (.bool x)
        | false => exact .leaf (.bool y)
      · simp only [OT.run] at h
        split at h
        · rename_i ht
          subst ht
          obtain ⟨rfl, rfl⟩ := ret_inv h
          exact .pure hs hD (hρ a) (fin _ hv)
        · rename_i ht
          have : t = false := by simpa using ht
          subst this
          obtain ⟨rfl, rfl⟩ := ret_inv h
          exact .pure hs hD (hρ b) (fin _ hv)
    · simp [OT.run] at h
  · split at h
    · rename_i i hl
      simp only [OT.run] at h
      cases h
      exact (alloc_goes hs hn (hE.look hl) hD hDn).op
    · simp [OT.run] at h
  · rename_i t x
    split at h
    · split at h
      · rename_i hc
        simp only [OT.run] at h
        cases h
        simp only [Bool.and_eq_true, Bool.not_eq_true'] at hc
        exact (box_goes hs hn (hρ x) (by intro he; rw [he] at hc; simp [anySV] at hc) hD hDn).op
      · simp [OT.run] at h
    · simp [OT.run] at h
  · rename_i t ps
    have := buildT_sound (P := P) (w := w) hE (ps := ps.toList.map fun p => (p.1, ρ p.2)) (pv := ps.map fun (i, x) => (i, ρv x)) (by simp) (by
      have := map_rep hρ (ps.toList.map (·.2))
      simpa [Function.comp_def] using this) h
    exact (this.goes hs hD).op
  · rename_i t n ps
    have := buildSliceT_sound (P := P) (w := w) hE hs (ps := ps.toList.map fun p => (p.1, ρ p.2)) (pv := ps.map fun (i, x) => (i, ρv x)) (by simp) (by
      have := map_rep hρ (ps.toList.map (·.2))
      simpa [Function.comp_def] using this) hn hD hDn h
    exact this.op
  · rename_i t a
    split at h
    · rename_i i hl
      have : Tells P β ro v u (Instr.loadAt t (ρv a)) w := loadT_sound hs (hE.look hl) (hρ a) h
      exact (this.goes hs hD).op
    · simp [OT.run] at h
  · rename_i t a x
    split at h
    · rename_i i hl
      obtain ⟨rfl, w', ro', h1, h2, h3⟩ := storeT_sound hs (hE.look hl) (hρ a) (hρ x) h hD
      exact ⟨w', β, ro', β.ext_refl, h2, h3, .inr ⟨by simp [execOp, h1], rfl⟩⟩
    · simp [OT.run] at h
  · rename_i x
    have hx := hρ x
    generalize hv : ρv x = xv at hx
    split at h
    · rename_i id off hc
      obtain ⟨rfl, rfl⟩ := ret_inv h
      rw [hc] at hx
      cases hx with
      | bptr hb hg => exact .pure hs hD (.bptr hb hg) (by simp [execOp, hv])
    · rename_i ls hc
      obtain ⟨rfl, rfl⟩ := ret_inv h
      rw [hc] at hx
      cases hx with
      | rptr us h1 h2 h3 => exact .pure hs hD (.rptr us h1 h2 h3) (by simp [execOp, hv])
    · rename_i a b c hc
      obtain ⟨rfl, rfl⟩ := ret_inv h
      rw [hc] at hx
      cases hx with
      | optr hb hg hi => exact .pure hs hD (.optr hb hg hi) (by simp [execOp, hv])
    · rename_i f a b hc
      obtain ⟨rfl, rfl⟩ := ret_inv h
      rw [hc] at hx
      cases hx with
      | fn h1 h2 h3 h4 => exact .pure hs hD (.fn h1 h2 h3 h4) (by simp [execOp, hv])
    · simp [OT.run] at h
  · rename_i op t x y nn
    obtain ⟨rfl, z, h1, h2⟩ := binT_sound (P := P) (w := w) hE (hρ x) (hρ y) h x y
    have : Tells P β ro v [] (do eqGuard op t x y (ρv x) (ρv y); binOp op t (ρv x) (ρv y) : Sem Value) w := ⟨rfl, z, h1, h2⟩
    exact (this.goes hs hD).op
  · exact ((unT_sound (P := P) (w := w) (hρ _) h).goes hs hD).op
  · exact (convT_sound hE hs (hρ _) hD h).op
  · rename_i f a c
    obtain ⟨rfl, rfl⟩ := ret_inv h
    refine .pure hs hD (x := .func (.func f) (a.map ρv) (c.map ρv)) ?_ (by simp [execOp, Instr.makeFunc])
    have h1 := map_rep hρ a.toList
    have h2 := map_rep hρ c.toList
    have := RepS.fn (f := f) h1.1 h2.1 h1.2 h2.2
    have e1 : (a.toList.map ρv).toArray = a.map ρv := by rw [← Array.toList_map]
    have e2 : (c.toList.map ρv).toArray = c.map ρv := by rw [← Array.toList_map]
    rwa [e1, e2] at this
  · exact (makeSliceT_sound hE hs (hρ _) (hρ _) hn hD hDn h).op
  · rename_i t x lo hi mx
    unfold sliceN at h
    split at h
    · rename_i id k h1 h2 h3 h4
      simp only [OT.run] at h
      have hx := hρ x
      rw [h1] at hx
      have hlo := opt_rep hρ lo
      rw [h2] at hlo
      have hhi := opt_rep hρ hi
      rw [h3] at hhi
      have hmx := opt_rep hρ mx
      rw [h4] at hmx
      have e1 : lo.map ρv = none := by cases hq : lo.map ρv with | none => rfl | some _ => rw [hq] at hlo; exact hlo.elim
      have e3 : mx.map ρv = none := by cases hq : mx.map ρv with | none => rfl | some _ => rw [hq] at hmx; exact hmx.elim
      have e2 : ∃ k, hi.map ρv = some (.int k 0) := by
        cases hq : hi.map ρv with
        | none => rw [hq] at hhi; exact hhi.elim
        | some y => rw [hq] at hhi; cases hhi with | lit _ => exact ⟨_, rfl⟩
      obtain ⟨k0, e2⟩ := e2
      cases ho : objs id with
      | none => simp [ho, OT.run] at h
      | some o =>
        cases o with
        | blk cs => simp [ho, OT.run] at h
        | row et e xs =>
          simp only [ho] at h
          cases he : elemIs E t e with
          | false => simp [he, OT.run] at h
          | true =>
            simp only [he, OT.run] at h
            cases h
            have : Goes w0 β ro D' (putAll objs [(id, none), (nid, some (.row et e []))]) (.own nid) ((Instr.sliceAt t (ρv x) (lo.map ρv) (hi.map ρv) (mx.map ρv)).run P w) := by
              rw [e1, e2, e3]
              exact sliceN_own hE hs hx ho he k0 hn hD hDn
            exact this.op
    by_cases hb : ∃ id, ρ x = .bptr id 0
    · obtain ⟨id, hid⟩ := hb
      have hx := hρ x
      rw [hid] at hx h
      exact (sliceArr_sound hE hs hx (opt_rep hρ lo) (opt_rep hρ hi) (opt_rep hρ mx) hD h).op
    · exact ((sliceT_sound hE hs (hρ x) (opt_rep hρ lo) (opt_rep hρ hi) (opt_rep hρ mx) (fun id he => hb ⟨id, he⟩) h).goes hs hD).op
  · exact ((fieldAddrT_sound (w := w) hE (hρ _) h).goes hs hD).op
  · exact ((fieldT_sound (w := w) hE (hρ _) h).goes hs hD).op
  · exact ((indexAddrT_sound hE hs (hρ _) (hρ _) h).goes hs hD).op
  · exact ((indexT_sound (w := w) hE (hρ _) (hρ _) h).goes hs hD).op
  · exact ((arrayAtT_sound (w := w) hE (hρ _) h).goes hs hD).op
  · rename_i t x
    split at h
    · rename_i hl
      obtain ⟨inf, z, d, k1, k2, _, _, _, _, _, _, _, _, rfl, _⟩ := (hE.look hl).info
      obtain ⟨rfl, rfl⟩ := ret_inv h
      exact .pure hs hD (.iface (hρ x)) (by simp [execOp, Instr.makeInterface, run_und k2])
    · rename_i hl
      obtain ⟨inf, z, d, k1, k2, _, _, _, _, _, _, _, _, rfl, _⟩ := (hE.look hl).info
      obtain ⟨rfl, rfl⟩ := ret_inv h
      exact .pure hs hD (.iface (hρ x)) (by simp [execOp, Instr.makeInterface, run_und k2])
    · simp [OT.run] at h
  · rename_i x i
    have hx := hρ x
    split at h
    · rename_i vs hc
      rw [hc] at hx
      generalize hv : ρv x = xv at hx
      cases hx with
      | @tup _ us h1 h2 =>
        split at h
        · rename_i y hy
          obtain ⟨rfl, rfl⟩ := ret_inv h
          have hlt : i < us.length := by rw [h1]; exact (List.getElem?_eq_some_iff.1 hy).1
          exact .pure hs hD (h2 i _ us[i] hy (List.getElem?_eq_getElem hlt)) (by simp [execOp, Instr.extract, hv, hlt])
        · simp [OT.run] at h
    · simp [OT.run] at h
  · rename_i b args ts
    have hargs : RepL β ro (args.toList.map ρ) (args.map ρv).toList := by
      have := map_rep hρ args.toList
      simpa using this
    simp only [execOp, resolve, invoke, Sem.run_bind, Sem.run_pure, Result.andThen_ok]
    exact builtinT_sound hE hs hargs hn hD hDn h
  · simp [OT.run] at h
end Go.Cat

namespace Go.Cat
open Go
variable {P : Program} {E : Env} {R : CallRel} {ops : Array Oper} {w0 : Pt} {β : Pl} {ro : Snap} {D : Nat → Prop} {w : World}
structure Sat (w0 : Pt) (β : Pl) (ro : Snap) (D : Nat → Prop) (S : St) (a : Go.Act) (w : World) : Prop where
  h : HSat w0 β ro D S.m.objs w
  sz : a.tmps.size = S.tmps.length
  t : ∀ t, RepS β ro (tmpAt S.tmps t) (a.tmps.getD t undef)
  df : a.defers = w0.defs
theorem ofConst_rep (v : Value) : RepS β ro (ofConst v) v := by
  unfold ofConst
  split
  · rename_i cs
    have : RepL β ro (cs.toList.map ofConst1) cs.toList := by
      induction cs.toList with
      | nil => exact .nil _ _
      | cons c l ih => exact .cons (ofConst1_rep c) ih
    have := RepS.agg this.1 this.2
    simpa using this
  · exact ofConst1_rep v
theorem Sat.ev {S : St} {a : Go.Act} (h : Sat w0 β ro D S a w) (x : Operand) : RepS β ro (ev S.tmps x) (a.eval x) := by
  cases x with
  | tmp t => exact h.t t
  | const v => exact ofConst_rep v
  | global g => exact .any _
  | func f =>
    have := RepS.fn (β := β) (ro := ro) (f := f) (fs := []) (cs := []) (us := []) (vs := []) rfl rfl (by simp) (by simp)
    exact this
theorem Sat.put {S : St} {a : Go.Act} (h : Sat w0 β ro D S a w) {β' : Pl} {ro' : Snap} {D' : Nat → Prop} {m' : Mem} {w' : World} (hβ : β.ext β') (hr : ro.ext ro') (hh : HSat w0 β' ro' D' m'.objs w') {v : SV} {x : Value}
    (hv : RepS β' ro' v x) (d : Option Nat) : Sat w0 β' ro' D' ⟨setT S.tmps d v, m'⟩ (a.put d x) w' := by
  cases d with
  | none => exact ⟨hh, h.sz, fun t => (h.t t).mono hβ hr, h.df⟩
  | some d =>
    refine ⟨hh, by simp [Go.Act.put, setT, h.sz], fun t => ?_, h.df⟩
    simp only [Go.Act.put, setT, tmpAt]
    rw [List.getElem?_set]
    by_cases hd : d = t
    · subst hd
      by_cases hlt : d < S.tmps.length
      · have hlt' : d < a.tmps.size := by rw [h.sz]; exact hlt
        simp [hlt, hlt', Array.getD, hv]
      · simp [hlt]
        exact .any _
    · have := (h.t t).mono hβ hr
      simp only [tmpAt] at this
      have e : (a.tmps.setIfInBounds d x).getD t undef = a.tmps.getD t undef := by
        simp only [Array.getD_eq_getD_getElem?, Array.getElem?_setIfInBounds_ne hd]
      rw [e]
      simpa [hd] using this
theorem wanted_sound {S : St} {a : Go.Act} (h : Sat w0 β ro D S a w) {o : Oper} {b : Bool} (hw : wantedS ops S.tmps o = some b) : Region.wanted o (yielded ops a.tmps) = b := by
  unfold wantedS at hw
  unfold Region.wanted
  cases hg : o.guard with
  | none => simp only [hg] at hw ⊢; cases hw; rfl
  | some gw =>
    obtain ⟨j, want⟩ := gw
    simp only [hg] at hw ⊢
    cases hd : (ops[j]?).bind (·.dst) with
    | none => simp [hd] at hw
    | some d =>
      simp only [hd] at hw
      have ht := h.t d
      have hy : yielded ops a.tmps j = match a.tmps[d]? with | some (.bool b) => some b | _ => none := by
        unfold yielded; rw [hd]; rfl
      rw [hy]
      split at hw
      · rename_i c hc
        rw [hc] at ht
        have hval : a.tmps.getD d undef = .bool c := by
          generalize a.tmps.getD d undef = x at ht
          cases ht with | lit _ => rfl
        have hget : a.tmps[d]? = some (.bool c) := by
          rw [Array.getD_eq_getD_getElem?] at hval
          cases hq : a.tmps[d]? with
          | none => simp [hq, undef] at hval
          | some y => simp [hq] at hval; rw [hval]
        rw [hget]
        cases c <;> cases want <;> simp at hw <;> subst hw <;> rfl
      · rename_i vs hc
        cases hw
        rw [hc] at ht
        have hval : a.tmps.getD d undef = .tuple vs := by
          generalize a.tmps.getD d undef = x at ht
          cases ht with | lit _ => rfl
        rw [Array.getD_eq_getD_getElem?] at hval
        cases hq : a.tmps[d]? with
        | none => rfl
        | some y => simp [hq] at hval; rw [hval]; rfl
      · cases hw
def Enters (P : Program) (n : Nat) : Prop := ∃ fn, P.funcs[n]? = some fn ∧ (fn.name == "runtime.NumGoroutine") = false ∧ fn.body.isNone = false
def CallPost (w0 : Pt) (β : Pl) (ro : Snap) (D' : Nat → Prop) (objs' : Heap) (v : SV) (e : Ending) (w' : World) : Prop :=
  ∃ x β' ro', e = .returned x ∧ β.ext β' ∧ ro.ext ro' ∧ RepS β' ro' v x ∧ HSat w0 β' ro' D' objs' w'
theorem MFrame.refl (m : Mem) : MFrame m m := ⟨Nat.le_refl _, [], rfl, fun _ _ _ => rfl⟩
theorem MFrame.trans {a b c : Mem} (h : MFrame a b) (k : MFrame b c) : MFrame a c := by
  obtain ⟨h1, n1, h2, h3⟩ := h
  obtain ⟨k1, n2, k2, k3⟩ := k
  refine ⟨Nat.le_trans h1 k1, n2 ++ n1, by rw [k2, h2, List.append_assoc], fun id hid hn => ?_⟩
  rw [k3 id (by omega) (fun h => hn (List.mem_append_left _ h)), h3 id hid (fun h => hn (List.mem_append_right _ h))]
structure CallGood (P : Program) (R : CallRel) : Prop where
  good : ∀ (n : Nat) (as : List SV) (m : Mem) (v : SV) (m' : Mem), R n as m v m' → Enters P n ∧ MFrame m m' ∧
    ∀ (w0 : Pt) (β : Pl) (ro : Snap) (D : Nat → Prop) (w : World) (vs : List Value), HSat w0 β ro D m.objs w → (∀ id, D id → id < m.next) → RepL β ro as vs →
      Calls P n vs.toArray w (CallPost w0 β ro (fun id => D id ∨ (m.next ≤ id ∧ id < m'.next)) m'.objs v)
structure SpecSound (P : Program) (E : Env) : Prop where
  good : ∀ (n : Nat) (s : VSpec) (nid : Nat) (as : List SV) (objs : Heap) (v : SV) (u : List (Nat × Option SO)) (rs : List Nat), look E.specs n = some s → (callSpec nid s as).run objs [] = some ((v, u), rs) → Enters P n ∧
    ∀ (w0 : Pt) (β : Pl) (ro : Snap) (D : Nat → Prop) (w : World) (vs : List Value), HSat w0 β ro D objs w → (∀ k, k < 64 → ¬ D (nid + k)) → RepL β ro as vs →
      Calls P n vs.toArray w (CallPost w0 β ro (fun id => D id ∨ (nid ≤ id ∧ id < nid + 64)) (putAll objs u) v)
theorem run_program' (w : World) : (program).run P w = .ok P w := rfl
theorem call_run {ρ : Operand → SV} {ρv : Operand → Value} (hρ : ∀ x, RepS β ro (ρ x) (ρv x)) {o : Oper} {f : Operand} {args : Array Operand} (hc : callOf o.op = some (f, args)) {n : Nat} {as : List SV}
    (ht : calleeT ρ f args = some (n, as)) (he : Enters P n) : ∃ vs : List Value, RepL β ro as vs ∧ (execOp ρv o).run P w = .ok (.enter n vs.toArray) w := by
  obtain ⟨dst, op, ty, pos, after, guard⟩ := o
  simp only at hc
  unfold callOf at hc
  split at hc
  · rename_i f' args' ts
    cases hc
    unfold calleeT at ht
    split at ht
    · rename_i k first captured hf
      cases ht
      have hfv := hρ f
      rw [hf] at hfv
      generalize hfx : ρv f = fv at hfv
      cases hfv with
      | @fn _ _ _ us cs h1 h2 h3 h4 =>
        obtain ⟨fn, e1, e2, e3⟩ := he
        have hargs := map_rep hρ args.toList
        refine ⟨us ++ args.toList.map ρv ++ cs, (RepL.append (RepL.append ⟨h1, h3⟩ hargs) ⟨h2, h4⟩), ?_⟩
        have harr : (us.toArray ++ args.map ρv) ++ cs.toArray = (us ++ args.toList.map ρv ++ cs).toArray := by
          apply Array.ext'
          simp
        simp only [execOp, resolve, hfx, Deferred.ofValue, Sem.run_bind, Sem.run_pure, Result.andThen_ok, invoke, callFunc, run_program']
        rw [harr, e1]
        simp [e2, e3]
    · cases ht
  · cases hc
theorem step_sound (hE : TysOk P E) (hR : CallGood P R) (hS : SpecSound P E) {i : Nat} {o : Oper} (hi : ops[i]? = some o) {S : St} {a : Go.Act} (hs : Sat w0 β ro D S a w) {nid : Nat} {g : Bool} {v : SV} {m' : Mem} {fp : Foot}
    (hc : Core E R ops nid g o S.tmps S.m v m' fp) (hn : ∀ k, k < 64 → ¬ D (nid + k)) (hDm : ∀ id, D id → id < S.m.next) {K : Go.Act → World → Prop} {Q : Exit → Go.Act → World → Prop}
    (hK : ∀ a' w' β' ro', β.ext β' → ro.ext ro' → Sat w0 β' ro' (fun id => D id ∨ (nid ≤ id ∧ id < nid + 64) ∨ (S.m.next ≤ id ∧ id < m'.next)) ⟨setT S.tmps o.dst v, m'⟩ a' w' → K a' w') : wpOp P ops Q i K a w := by
  unfold wpOp
  simp only [hi]
  have lit : ∀ {β' : Pl} {ro' : Snap} {v : SV} {x : Value}, RepS β' ro' v x → RepS β' ro' (litV g v) x := by
    intro β' ro' v x hv
    unfold litV
    split
    · cases hv with | leaf h => cases h with | bool b => exact .lit (.inl rfl)
    · exact hv
  cases hc with
  | off hw =>
    rw [wanted_sound hs hw]
    exact hK _ _ β ro β.ext_refl ro.ext_refl (hs.put β.ext_refl ro.ext_refl (hs.h.less (fun _ _ h => h) (fun id h => .inl h)) (.lit (.inr rfl)) o.dst)
  | op hw t ht v u rs hr =>
    rw [wanted_sound hs hw, if_pos rfl]
    refine .inl ?_
    unfold otOf at ht
    split at ht
    · rename_i f args hcall
      split at ht
      · rename_i n as hcal
        split at ht
        · rename_i s hspec
          cases ht
          obtain ⟨he, hgood⟩ := hS.good n s nid as S.m.objs v u rs hspec hr
          obtain ⟨vs, hvs, hrun⟩ := call_run (P := P) (w := w) hs.ev hcall hcal he
          have hcalls := hgood w0 β ro D w vs hs.h hn hvs
          unfold Oper.wp
          rw [hrun]
          refine Calls.mono hcalls ?_
          rintro e w' ⟨x, β', ro', rfl, h1, h2, h3, h4⟩
          exact hK _ _ β' ro' h1 h2 (hs.put h1 h2 (h4.less (fun _ _ h => h) (fun id h => h.imp (fun x => x) .inl)) (lit h3) o.dst)
        · cases ht
      · cases ht
    · cases ht
      obtain ⟨w', β', ro', h1, h2, h3, h4⟩ := op_sound (P := P) (o := o) (D' := fun id => D id ∨ (nid ≤ id ∧ id < nid + 64) ∨ (S.m.next ≤ id ∧ id < S.m.next)) hE hs.h hs.ev (by simpa using hn 0 (by omega)) (fun id h => .inl h) (.inr (.inl ⟨Nat.le_refl _, by omega⟩)) hr
      unfold Oper.wp
      rcases h4 with ⟨x, h5, h6⟩ | ⟨h5, rfl⟩
      · rw [h5]
        exact hK _ _ β' ro' h1 h2 (hs.put h1 h2 h3 (lit h6) o.dst)
      · rw [h5]
        exact hK _ _ β' ro' h1 h2 (hs.put h1 h2 h3 (lit (.lit (.inr rfl))) o.dst)
  | call hw n as ht v m' hr =>
    rw [wanted_sound hs hw, if_pos rfl]
    refine .inl ?_
    obtain ⟨he, hfr, hgood⟩ := hR.good n as S.m v m' hr
    unfold inlOf at ht
    split at ht
    · rename_i f args hcall
      split at ht
      · rename_i n' as' hcal
        split at ht
        · cases ht
        · cases ht
          obtain ⟨vs, hvs, hrun⟩ := call_run (P := P) (w := w) hs.ev hcall hcal he
          have hcalls := hgood w0 β ro D w vs hs.h hDm hvs
          unfold Oper.wp
          rw [hrun]
          refine Calls.mono hcalls ?_
          rintro e w' ⟨x, β', ro', rfl, h1, h2, h3, h4⟩
          exact hK _ _ β' ro' h1 h2 (hs.put h1 h2 (h4.less (fun _ _ h => h) (fun id h => h.imp (fun x => x) .inr)) (lit h3) o.dst)
      · cases ht
    · cases ht
end Go.Cat

namespace Go.Cat
open Go
variable {P : Program} {E : Env} {R : CallRel} {ops : Array Oper} {w0 : Pt} {β : Pl} {ro : Snap} {w : World}
def Taken (D0 : Nat → Prop) (base n : Nat) (isDone : Nat → Prop) (next : Nat) : Nat → Prop :=
  fun id => D0 id ∨ (∃ j, j < n ∧ isDone j ∧ base + 64 * j ≤ id ∧ id < base + 64 * j + 64) ∨ (base + 64 * n ≤ id ∧ id < next)
theorem Taken.fresh {D0 : Nat → Prop} {base n next : Nat} {isDone : Nat → Prop} {i : Nat} (h0 : ∀ id, D0 id → id < base) (hi : i < n) (hd : ¬ isDone i) (k : Nat) (hk : k < 64) : ¬ Taken D0 base n isDone next (base + 64 * i + k) := by
  rintro (h | ⟨j, h1, h2, h3, h4⟩ | ⟨h1, _⟩)
  · have := h0 _ h; omega
  · have : j = i := by omega
    subst this; exact hd h2
  · omega
theorem Taken.lt {D0 : Nat → Prop} {base n next : Nat} {isDone : Nat → Prop} (h0 : ∀ id, D0 id → id < base) (hn : base + 64 * n ≤ next) : ∀ id, Taken D0 base n isDone next id → id < next := by
  rintro id (h | ⟨j, h1, h2, h3, h4⟩ | ⟨_, h1⟩)
  · have := h0 _ h; omega
  · omega
  · omega
theorem Taken.out {D0 : Nat → Prop} {base n next : Nat} {isDone : Nat → Prop} (hn : base + 64 * n ≤ next) : ∀ id, Taken D0 base n isDone next id → D0 id ∨ (base ≤ id ∧ id < next) := by
  rintro id (h | ⟨j, h1, h2, h3, h4⟩ | ⟨_, h1⟩)
  · exact .inl h
  · exact .inr (by omega)
  · exact .inr (by omega)
theorem Taken.step {D0 : Nat → Prop} {base n next next' : Nat} {isDone : Nat → Prop} {i : Nat} (hi : i < n) (hn : base + 64 * n ≤ next) (hle : next ≤ next') :
    ∀ id, (Taken D0 base n isDone next id ∨ (base + 64 * i ≤ id ∧ id < base + 64 * i + 64) ∨ (next ≤ id ∧ id < next')) → Taken D0 base n (fun j => isDone j ∨ j = i) next' id := by
  rintro id ((h | ⟨j, h1, h2, h3, h4⟩ | ⟨h1, h2⟩) | h | ⟨h1, h2⟩)
  · exact .inl h
  · exact .inr (.inl ⟨j, h1, .inl h2, h3, h4⟩)
  · exact .inr (.inr ⟨h1, by omega⟩)
  · exact .inr (.inl ⟨i, hi, .inr rfl, h.1, h.2⟩)
  · exact .inr (.inr ⟨by omega, h2⟩)
theorem Core.next (hR : CallGood P R) {nid : Nat} {g : Bool} {o : Oper} {tmps : List SV} {m m' : Mem} {v : SV} {fp : Foot} (hc : Core E R ops nid g o tmps m v m' fp) : m.next ≤ m'.next := by
  cases hc with
  | off => exact Nat.le_refl _
  | op => exact Nat.le_refl _
  | call _ n as _ v m' hr => exact (hR.good _ _ _ _ _ hr).2.1.1
theorem RunL.next (hR : CallGood P R) {base : Nat} {fps : Nat → Foot} {l : List Nat} {S S' : St} (h : RunL E R ops base fps l S S') : S.m.next ≤ S'.m.next := by
  induction h with
  | nil => exact Nat.le_refl _
  | cons _ _ _ hs _ ih => exact Nat.le_trans (hs.next hR) ih
theorem RunL.frame (hR : CallGood P R) {base : Nat} {fps : Nat → Foot} {l : List Nat} {S S' : St} (h : RunL E R ops base fps l S S') :
    ∃ new, S'.m.wl = new ++ S.m.wl ∧ ∀ id, id < S.m.next → id ∉ new → id ∉ l.flatMap (fun i => (fps i).wr) → S'.m.objs id = S.m.objs id := by
  induction h with
  | nil S => exact ⟨[], rfl, fun _ _ _ _ => rfl⟩
  | @cons i rest S S' o hi v m' hs hr ih =>
    obtain ⟨n2, h1, h2⟩ := ih
    have hn := hs.next hR
    simp only at h1 h2
    have key : ∃ n1, m'.wl = n1 ++ S.m.wl ∧ ∀ id, id < S.m.next → id ∉ n1 → id ∉ (fps i).wr → m'.objs id = S.m.objs id := by
      cases ht : (fps i).top with
      | false =>
        obtain ⟨u, e1, e2, _⟩ := hs.mem ht
        subst e2
        exact ⟨[], rfl, fun id _ _ hw => putAll_out u _ id (e1 ▸ hw)⟩
      | true =>
        generalize fps i = fp at *
        cases hs with
        | off => cases ht
        | op => cases ht
        | call _ n as _ v m' hr' =>
          obtain ⟨_, ⟨_, n1, k1, k2⟩, _⟩ := hR.good _ _ _ _ _ hr'
          exact ⟨n1, k1, fun id a b _ => k2 id a b⟩
    obtain ⟨n1, k1, k2⟩ := key
    refine ⟨n2 ++ n1, by rw [h1, k1, List.append_assoc], fun id a b c => ?_⟩
    simp only [List.flatMap_cons, List.mem_append, not_or] at b c
    rw [h2 id (by omega) b.1 c.2, k2 id a b.2 c.1]
section
variable (hE : TysOk P E) (hR : CallGood P R) (hS : SpecSound P E)
include hE hR hS
theorem run_text {D0 : Nat → Prop} {base : Nat} (h0 : ∀ id, D0 id → id < base) {fps : Nat → Foot} {Q : Exit → Go.Act → World → Prop} : ∀ {l : List Nat} {S S' : St}, RunL E R ops base fps l S S' → ∀ (isDone : Nat → Prop) (β : Pl) (ro : Snap) (a : Go.Act) (w : World),
    (∀ i ∈ l, i < ops.size ∧ ¬ isDone i) → l.Nodup → base + 64 * ops.size ≤ S.m.next → Sat w0 β ro (Taken D0 base ops.size isDone S.m.next) S a w →
    (∀ a' w' β' ro', β.ext β' → ro.ext ro' → Sat w0 β' ro' (fun id => D0 id ∨ (base ≤ id ∧ id < S'.m.next)) S' a' w' → Q .normal a' w') → wpOps P ops Q l a w := by
  intro l S S' h
  induction h with
  | nil S =>
    intro isDone β ro a w _ _ hn hs hq
    exact hq a w β ro β.ext_refl ro.ext_refl ⟨hs.h.less (fun _ _ h => h) (Taken.out hn), hs.sz, hs.t, hs.df⟩
  | @cons i rest S S' o hi v m' hs hr ih =>
    intro isDone β ro a w hl hnd hn hsat hq
    obtain ⟨hin, hid⟩ := hl i List.mem_cons_self
    rw [wpOps_cons]
    have hle := hs.next hR
    refine step_sound hE hR hS hi hsat hs (fun k hk => Taken.fresh h0 hin hid k hk) (Taken.lt h0 hn) fun a' w' β' ro' hb hr' hsat' => ?_
    refine ih (fun j => isDone j ∨ j = i) β' ro' a' w' (fun j hj => ?_) (List.nodup_cons.1 hnd).2 (Nat.le_trans hn hle) ?_ (fun a'' w'' β'' ro'' k1 k2 k3 => hq a'' w'' β'' ro'' (Pl.ext_trans hb k1) (Snap.ext_trans hr' k2) k3)
    · obtain ⟨q1, q2⟩ := hl j (List.mem_cons_of_mem _ hj)
      exact ⟨q1, fun hor => hor.elim q2 fun e => (List.nodup_cons.1 hnd).1 (e ▸ hj)⟩
    · exact ⟨hsat'.h.less (fun _ _ h => h) (Taken.step hin hn hle), hsat'.sz, hsat'.t, hsat'.df⟩
structure Left (ops : Array Oper) (listed : Array Bool) (l : List Nat) : Prop where
  size : listed.size = ops.size
  sorted : l.Pairwise (· < ·)
  mem : ∀ j, j ∈ l ↔ j < ops.size ∧ listed.getD j true = false
  closed : ∀ j o, ops[j]? = some o → listed.getD j false = true → ∀ e ∈ o.after.toList, Region.binds .any e = true → listed.getD e.on false = true
omit hE hR hS in
theorem ready_mem {listed : Array Bool} {i : Nat} (h : i ∈ Region.ready .any ops listed) : i < ops.size ∧ listed.getD i true = false ∧ ∃ o, ops[i]? = some o ∧ ∀ e ∈ o.after.toList, Region.binds .any e = true → listed.getD e.on false = true := by
  unfold Region.ready at h
  rw [List.mem_filter, List.mem_range] at h
  obtain ⟨h1, h2⟩ := h
  simp only [Bool.and_eq_true, Bool.not_eq_true'] at h2
  have ho : ops[i]? = some ops[i] := Array.getElem?_eq_getElem h1
  refine ⟨h1, h2.1, ops[i], ho, fun e he hb => ?_⟩
  have h3 := h2.2
  rw [ho] at h3
  simp only [Option.map_some, Option.getD_some, Array.all_eq_true', Bool.or_eq_true, Bool.not_eq_true'] at h3
  rcases h3 e (by simpa using he) with h4 | h4
  · rw [hb] at h4; cases h4
  · exact h4
omit hE hR hS in
theorem getD_set {listed : Array Bool} {i j : Nat} {d : Bool} (hi : i < listed.size) : (listed.setIfInBounds i true).getD j d = if j = i then true else listed.getD j d := by
  simp only [Array.getD_eq_getD_getElem?]
  by_cases h : j = i
  · subst h; simp [hi]
  · rw [Array.getElem?_setIfInBounds_ne (fun e => h e.symm), if_neg h]
omit hE hR hS in
theorem Left.anc {listed : Array Bool} {l : List Nat} (hl : Left ops listed l) : ∀ (n i : Nat), i < n → ∀ o, ops[i]? = some o → (∀ e ∈ o.after.toList, Region.binds .any e = true → listed.getD e.on false = true) →
    ∀ k, (((ancs ops.toList)[i]?).getD 0).testBit k = true → listed.getD k false = true := by
  intro n
  induction n with
  | zero => intro i h; omega
  | succ n ih =>
    intro i hi o ho hd k hk
    obtain ⟨e, he, hb, hor⟩ := ancs_bits (o := o) (by simpa using ho) hk
    rcases hor with rfl | ⟨hlt, hk'⟩
    · exact hd e he hb
    · have hle := hd e he hb
      have hon : e.on < ops.size := by
        rw [← hl.size]
        rcases Nat.lt_or_ge e.on listed.size with h | h
        · exact h
        · rw [Array.getD_eq_getD_getElem?, Array.getElem?_eq_none h] at hle; cases hle
      have ho' := Array.getElem?_eq_getElem hon
      exact ih e.on (by omega) _ ho' (hl.closed e.on _ ho' hle) k hk'
omit hE hR hS in
theorem sorted_split {pre post : List Nat} {i : Nat} (h : (pre ++ i :: post).Pairwise (· < ·)) : (∀ j ∈ pre, j < i) ∧ (pre ++ post).Pairwise (· < ·) ∧ i ∉ pre ++ post := by
  rw [List.pairwise_append] at h
  obtain ⟨h1, h2, h3⟩ := h
  rw [List.pairwise_cons] at h2
  refine ⟨fun j hj => h3 j hj i List.mem_cons_self, ?_, fun hm => ?_⟩
  · rw [List.pairwise_append]
    exact ⟨h1, h2.2, fun x hx y hy => h3 x hx y (List.mem_cons_of_mem _ hy)⟩
  · rcases List.mem_append.1 hm with h | h
    · have := h3 i h i List.mem_cons_self; omega
    · have := h2.1 i h; omega
theorem run_any {D0 : Nat → Prop} {base : Nat} (h0 : ∀ id, D0 id → id < base) {fps : Nat → Foot} {Q : Exit → Go.Act → World → Prop} (hback : ∀ j o, ops[j]? = some o → ∀ e ∈ o.after.toList, Region.binds .any e = true → e.on < j)
    (hind : ∀ p q a b, p < q → ops[p]? = some a → ops[q]? = some b → (((ancs ops.toList)[q]?).getD 0).testBit p = true ∨ (Apart ops a b ∧ FootApart (fps p) (fps q))) :
    ∀ (n : Nat) (l : List Nat) (listed : Array Bool) (S S' : St) (β : Pl) (ro : Snap) (a : Go.Act) (w : World), l.length = n → Left ops listed l → RunL E R ops base fps l S S' →
    base + 64 * ops.size ≤ S.m.next → Sat w0 β ro (Taken D0 base ops.size (fun j => listed.getD j false = true) S.m.next) S a w →
    (∀ a' w' β' ro', β.ext β' → ro.ext ro' → Sat w0 β' ro' (fun id => D0 id ∨ (base ≤ id ∧ id < S'.m.next)) S' a' w' → Q .normal a' w') → wpAny P .any ops Q n listed a w := by
  intro n
  induction n with
  | zero =>
    intro l listed S S' β ro a w hlen hl hr hn hs hq
    have : l = [] := List.eq_nil_of_length_eq_zero hlen
    subst this
    refine ⟨?_, ?_⟩
    · rw [List.eq_nil_iff_forall_not_mem]
      intro i hi
      obtain ⟨h1, h2, _⟩ := ready_mem hi
      have := (hl.mem i).2 ⟨h1, h2⟩
      cases this
    · cases hr with
      | nil => exact hq a w β ro β.ext_refl ro.ext_refl ⟨hs.h.less (fun _ _ h => h) (Taken.out hn), hs.sz, hs.t, hs.df⟩
  | succ n ih =>
    intro l listed S S' β ro a w hlen hl hr hn hs hq
    refine ⟨fun hnil => ?_, fun i hi => ?_⟩
    ·
      cases l with
      | nil => simp at hlen
      | cons i r =>
        exfalso
        obtain ⟨h1, h2⟩ := (hl.mem i).1 List.mem_cons_self
        have ho := Array.getElem?_eq_getElem h1
        have : i ∈ Region.ready .any ops listed := by
          unfold Region.ready
          rw [List.mem_filter, List.mem_range]
          refine ⟨h1, ?_⟩
          simp only [Bool.and_eq_true, Bool.not_eq_true']
          refine ⟨h2, ?_⟩
          rw [ho]
          simp only [Option.map_some, Option.getD_some, Array.all_eq_true', Bool.or_eq_true, Bool.not_eq_true']
          intro e he
          cases hb : Region.binds .any e with
          | false => exact .inl rfl
          | true =>
            refine .inr ?_
            have hlt := hback i _ ho e (by simpa using he) hb
            cases hd : listed.getD e.on true with
            | false =>
              have hm := (hl.mem e.on).2 ⟨by omega, hd⟩
              have hpw := List.pairwise_cons.1 hl.sorted
              rcases List.mem_cons.1 hm with h | h
              · omega
              · have := hpw.1 _ h; omega
            | true =>
              have hsz : e.on < listed.size := by rw [hl.size]; omega
              rw [Array.getD_eq_getD_getElem?, Array.getElem?_eq_getElem hsz] at hd ⊢
              exact hd
        rw [hnil] at this; cases this
    · obtain ⟨h1, h2, o, ho, hdep⟩ := ready_mem hi
      have him := (hl.mem i).2 ⟨h1, h2⟩
      obtain ⟨pre, post, rfl⟩ := List.append_of_mem him
      obtain ⟨s1, s2, s3⟩ := sorted_split hl.sorted
      have hiL : i < listed.size := by rw [hl.size]; exact h1
      have hpre : ∀ j ∈ pre, ∀ oj, ops[j]? = some oj → Apart ops oj o ∧ FootApart (fps j) (fps i) := by
        intro j hj oj hoj
        rcases hind j i oj o (s1 j hj) hoj ho with h | h
        · exfalso
          have hlj := hl.anc (i + 1) i (by omega) o ho hdep j h
          obtain ⟨q1, q2⟩ := (hl.mem j).1 (List.mem_append_left _ hj)
          have hsz : j < listed.size := by rw [hl.size]; exact q1
          rw [Array.getD_eq_getD_getElem?, Array.getElem?_eq_getElem hsz] at hlj q2
          rw [Option.getD_some] at hlj q2
          rw [hlj] at q2; cases q2
        · exact h
      obtain ⟨v, m', k1, k2⟩ := RunL.front (fun _ _ _ _ _ h => (hR.good _ _ _ _ _ h).2.1) ho pre hpre hr
      have hnotdone : ¬ (listed.getD i false = true) := by
        rw [Array.getD_eq_getD_getElem?, Array.getElem?_eq_getElem hiL] at h2 ⊢
        rw [Option.getD_some] at h2 ⊢
        rw [h2]; simp
      have hle := k1.next hR
      refine step_sound hE hR hS ho hs k1 (fun k hk => Taken.fresh h0 h1 hnotdone k hk) (Taken.lt h0 hn) fun a' w' β' ro' hb hr' hsat' => ?_
      refine ih (pre ++ post) (listed.setIfInBounds i true) _ S' β' ro' a' w' (by simp at hlen ⊢; omega) ⟨by simp [hl.size], s2, fun j => ?_, fun j oj hoj hlj e he hbd => ?_⟩ k2 (Nat.le_trans hn hle) ?_
        (fun a'' w'' β'' ro'' q1 q2 q3 => hq a'' w'' β'' ro'' (Pl.ext_trans hb q1) (Snap.ext_trans hr' q2) q3)
      · rw [getD_set hiL]
        by_cases hji : j = i
        · subst hji; simp [s3]
        · rw [if_neg hji, ← hl.mem j]
          simp [hji]
      · rw [getD_set hiL] at hlj ⊢
        by_cases heo : e.on = i
        · simp [heo]
        · rw [if_neg heo]
          by_cases hji : j = i
          · subst hji
            rw [ho] at hoj; cases hoj
            exact hdep e he hbd
          · rw [if_neg hji] at hlj
            exact hl.closed j oj hoj hlj e he hbd
      · refine ⟨hsat'.h.less (fun _ _ h => h) fun id hid => ?_, hsat'.sz, hsat'.t, hsat'.df⟩
        have := Taken.step h1 hn hle id hid
        rcases this with h | ⟨j, q1, q2, q3, q4⟩ | h
        · exact .inl h
        · refine .inr (.inl ⟨j, q1, ?_, q3, q4⟩)
          show (listed.setIfInBounds i true).getD j false = true
          rw [getD_set hiL]
          rcases q2 with q2 | rfl
          · split
            · rfl
            · exact q2
          · simp
        · exact .inr (.inr h)
end
theorem ancs_length (l : List Oper) : (ancs l).length = l.length := by
  have gen : ∀ (l : List Oper) (acc : List Nat), (ancGo l acc).length = acc.length + l.length := by
    intro l
    induction l with
    | nil => intro acc; simp [ancGo]
    | cons o r ih => intro acc; simp only [ancGo]; rw [ih]; simp; omega
  simpa [ancs] using gen l []
theorem rowsOf_at {fps : List Foot} {ff : Nat → Foot} (hf : fps = (List.range' 0 ops.size).map ff) {j : Nat} {o : Oper} (hj : ops[j]? = some o) :
    (rowsOf ops fps)[j]? = some ⟨o.dst, looks ops o, ff j, ((ancs ops.toList)[j]?).getD 0⟩ := by
  have hlt : j < ops.size := (Array.getElem?_eq_some_iff.1 hj).1
  have hla : j < (ancs ops.toList).length := by rw [ancs_length]; simpa using hlt
  unfold rowsOf
  have hz : (ops.toList.zip (ancs ops.toList))[j]? = some (o, (ancs ops.toList)[j]) := List.getElem?_zip_eq_some.2 ⟨by simpa using hj, List.getElem?_eq_getElem hla⟩
  rw [List.getElem?_zipWith, hz]
  subst hf
  simp [hlt, List.getElem?_eq_getElem hla]
theorem regionK_sound (hE : TysOk P E) (hR : CallGood P R) (hS : SpecSound P E) (hmix : P.follows .mixedOrders = true) {call : CallK} (hc : CallDen R call) {draw : Bool} {X : Type} {S : St} {k : St → Tr X} {r : X}
    (h : (regionK E call ops draw S k).den = some r) : ∃ S', (k S').den = some r ∧ MFrame S.m S'.m ∧ ∀ (w0 : Pt) (β : Pl) (ro : Snap) (D0 : Nat → Prop) (a : Go.Act) (w : World) (id : Nat) (Q : Exit → Go.Act → World → Prop), (∀ id, D0 id → id < S.m.next) →
      Sat w0 β ro D0 S a w → (∀ a' w' β' ro', β.ext β' → ro.ext ro' → Sat w0 β' ro' (fun id => D0 id ∨ (S.m.next ≤ id ∧ id < S'.m.next)) S' a' w' → Q .normal a' w') → (Code.region id ops draw).wp P Q a w := by
  unfold regionK at h
  obtain ⟨S1, ff, h1, h2⟩ := opsK_den hc ops.toList 0 (fun j => by simp) h
  simp only [List.reverse_nil, List.nil_append, Array.length_toList] at h1 h2
  have hrange : List.range' 0 ops.size = List.range ops.size := List.range_eq_range'.symm
  split at h2
  · rename_i hchk
    have hnext := h1.next hR
    simp only at hnext
    refine ⟨_, h2, ?_, ?_⟩
    · obtain ⟨new, e1, e2⟩ := h1.frame hR
      refine ⟨by simp only; omega, ((List.range' 0 ops.size).map ff).flatMap (·.wr) ++ new, by simp only; rw [e1, List.append_assoc], fun id hid hn => ?_⟩
      simp only [List.mem_append, not_or] at hn
      refine e2 id (by simp only; omega) hn.2 ?_
      simpa [List.flatMap_map] using hn.1
    · intro w0 β ro D0 a w rid Q hD0 hs hq
      have hs0 : ∀ isDone : Nat → Prop, (∀ j, ¬ isDone j) → Sat w0 β ro (Taken D0 S.m.next ops.size isDone (S.m.next + 64 * ops.size)) { S with m := { S.m with next := S.m.next + 64 * ops.size } } a w := fun isDone _ =>
        ⟨hs.h.less (fun _ _ h => h) (fun id hid => .inl hid), hs.sz, hs.t, hs.df⟩
      cases draw with
      | false =>
        refine wp_region ?_
        rw [← hrange]
        refine run_text hE hR hS hD0 h1 (fun _ => False) β ro a w (fun i hi => ⟨by rw [hrange] at hi; exact List.mem_range.1 hi, fun h => h⟩) (by rw [hrange]; exact List.nodup_range) (Nat.le_refl _) (hs0 _ (fun _ h => h))
          fun a' w' β' ro' k1 k2 k3 => hq a' w' β' ro' k1 k2 ⟨k3.h, k3.sz, k3.t, k3.df⟩
      | true =>
        simp only [Bool.not_true, Bool.false_or, Bool.and_eq_true] at hchk
        refine wp_region_any hmix ?_
        have hl0 : Left ops (Array.replicate ops.size false) (List.range' 0 ops.size) := by
          refine ⟨by simp, ?_, fun j => ?_, fun j o _ hj => ?_⟩
          · rw [hrange]; exact List.pairwise_lt_range
          · rw [hrange, List.mem_range]
            constructor
            · intro h; exact ⟨h, by simp [Array.getD_eq_getD_getElem?, h]⟩
            · exact fun h => h.1
          · exfalso
            rw [Array.getD_eq_getD_getElem?, Array.getElem?_replicate] at hj
            split at hj <;> cases hj
        refine run_any hE hR hS hD0 (fun j o ho => ?_) (fun p q x y hpq hp hq' => ?_) ops.size (List.range' 0 ops.size) _ _ S1 β ro a _ (by simp) hl0 h1 (Nat.le_refl _) ?_
          fun a' w' β' ro' k1 k2 k3 => hq a' w' β' ro' k1 k2 ⟨k3.h, k3.sz, k3.t, k3.df⟩
        · intro e he hb
          have := backB_spec ops.toList 0 hchk.1 j o (by simpa using ho) e he hb
          omega
        · have := indepAll_spec _ 0 [] hchk.2 p q _ _ hpq (by simpa using rowsOf_at rfl hp) (by simpa using rowsOf_at rfl hq') (by simp)
          exact this.imp (fun x => x) indep_spec
        · have hd : ∀ j, ¬ ((Array.replicate ops.size false).getD j false = true) := by
            intro j hj
            rw [Array.getD_eq_getD_getElem?, Array.getElem?_replicate] at hj
            split at hj <;> cases hj
          have := hs0 _ hd
          exact ⟨this.h.drew, this.sz, this.t, this.df⟩
  · simp [Tr.den] at h2
end Go.Cat

namespace Go.Cat
open Go
variable {P : Program} {E : Env} {R : CallRel} {w0 : Pt} {β : Pl} {ro : Snap} {w : World}
def exitOf : Ex → Exit
  | .normal => .normal
  | .exit i => .exit i
  | .goto l => .goto l
  | .ret => .ret
def CodeSem (P : Program) (c : Code) (S : St) (e : Ex) (S' : St) : Prop :=
  ∀ (w0 : Pt) (β : Pl) (ro : Snap) (D0 : Nat → Prop) (a : Go.Act) (w : World) (Q : Exit → Go.Act → World → Prop), (∀ id, D0 id → id < S.m.next) → Sat w0 β ro D0 S a w →
    (∀ a' w' β' ro', β.ext β' → ro.ext ro' → Sat w0 β' ro' (fun id => D0 id ∨ (S.m.next ≤ id ∧ id < S'.m.next)) S' a' w' → Q (exitOf e) a' w') → c.wp P Q a w
theorem Sat.less {D D' : Nat → Prop} {S : St} {a : Go.Act} (h : Sat w0 β ro D S a w) (hD : ∀ id, D id → D' id) : Sat w0 β ro D' S a w := ⟨h.h.less (fun _ _ h => h) hD, h.sz, h.t, h.df⟩
theorem then_lt {D0 : Nat → Prop} {n n1 : Nat} (h : ∀ id, D0 id → id < n) (hn : n ≤ n1) : ∀ id, (D0 id ∨ (n ≤ id ∧ id < n1)) → id < n1 := by
  rintro id (h1 | h1)
  · have := h id h1; omega
  · exact h1.2
theorem then_sub {D0 : Nat → Prop} {n n1 n2 : Nat} (h1 : n ≤ n1) (h2 : n1 ≤ n2) : ∀ id, ((D0 id ∨ (n ≤ id ∧ id < n1)) ∨ (n1 ≤ id ∧ id < n2)) → D0 id ∨ (n ≤ id ∧ id < n2) := by
  rintro id ((h | h) | h)
  · exact .inl h
  · exact .inr (by omega)
  · exact .inr (by omega)
def BodyGood (P : Program) (c : Code) (body : BodyK) : Prop :=
  ∀ {X : Type} (S : St) (k : Ex → St → Tr X) (r : X), (body S k).den = some r → ∃ e S', (k e S').den = some r ∧ MFrame S.m S'.m ∧ CodeSem P c S e S'
theorem setLit {D : Nat → Prop} {S : St} {a : Go.Act} (hs : Sat w0 β ro D S a w) {d : Nat} {b : Bool} (hd : a.tmps.getD d undef = .bool b) : Sat w0 β ro D { S with tmps := S.tmps.set d (.lit (.bool b)) } a w := by
  refine ⟨hs.h, by simp [hs.sz], fun t => ?_, hs.df⟩
  simp only [tmpAt, List.getElem?_set]
  by_cases h : d = t
  · subst h
    simp only [if_true]
    split
    · simp only [Option.getD_some]; rw [hd]; exact .lit (.inl rfl)
    · simp only [Option.getD_none]; exact .any _
  · simp only [h, if_false]; exact hs.t t
def LoopGood (P : Program) (E : Env) : Prop :=
  ∀ (c : Code) (body : BodyK), BodyGood P c body → ∀ (sl : List (Nat × SigV)) {X : Type} (S : St) (k : Ex → St → Tr X) (r : X),
    ((sigOf S.tmps S.tmps sl).k S.m.objs [] fun p _ => match p with
      | (x, is) => .loop (L := SigT sl) (fun l => body (loopHead S.tmps S.m is sl l) fun e S' => match e with
        | .normal => (sigOf S.tmps S'.tmps sl).k S'.m.objs [] fun q _ => match q with
          | (y, js) => match onlyWrote S.m.next is (js ++ S'.m.wl) && Nat.beq S'.tmps.length S.tmps.length with
            | true => .ret (.inl y)
            | false => .fail
        | e => .map .inr (k e { S' with m := { S'.m with wl := S'.m.wl ++ is ++ S.m.wl } })) x).den = some r →
    ∃ e S', (k e S').den = some r ∧ MFrame S.m S'.m ∧ CodeSem P (.loop c) S e S'
theorem unroll_good {c : Code} {body : BodyK} (hb : BodyGood P c body) : ∀ (n : Nat) {X : Type} (S : St) (k : Ex → St → Tr X) (r : X), (unrollK body n S k).den = some r →
    ∃ e S', (k e S').den = some r ∧ MFrame S.m S'.m ∧
      ∀ (w0 : Pt) (β : Pl) (ro : Snap) (D0 : Nat → Prop) (a : Go.Act) (w : World) (Q : Exit → Go.Act → World → Prop), (∀ id, D0 id → id < S.m.next) → Sat w0 β ro D0 S a w →
        (∀ a' w' β' ro', β.ext β' → ro.ext ro' → Sat w0 β' ro' (fun id => D0 id ∨ (S.m.next ≤ id ∧ id < S'.m.next)) S' a' w' → Q (exitOf e) a' w') → Code.rounds P c Q n a w
  | 0, X, S, k, r, h => by simp [unrollK, Tr.den] at h
  | n + 1, X, S, k, r, h => by
    simp only [unrollK] at h
    obtain ⟨e, S1, h1, h2, h3⟩ := hb S _ r h
    cases e with
    | normal =>
      simp only at h1
      obtain ⟨e', S', k1, k2, k3⟩ := unroll_good hb n S1 k r h1
      refine ⟨e', S', k1, h2.trans k2, fun w0 β ro D0 a w Q hD hs hq => ?_⟩
      rw [rounds_succ]
      refine h3 w0 β ro D0 a w _ hD hs fun a' w' β' ro' q1 q2 q3 => ?_
      exact k3 w0 β' ro' _ a' w' Q (then_lt hD h2.1) q3 fun a'' w'' β'' ro'' r1 r2 r3 => hq a'' w'' β'' ro'' (Pl.ext_trans q1 r1) (Snap.ext_trans q2 r2) (r3.less (then_sub h2.1 k2.1))
    | exit i => exact ⟨_, S1, h1, h2, fun w0 β ro D0 a w Q hD hs hq => by rw [rounds_succ]; exact h3 w0 β ro D0 a w _ hD hs hq⟩
    | goto i => exact ⟨_, S1, h1, h2, fun w0 β ro D0 a w Q hD hs hq => by rw [rounds_succ]; exact h3 w0 β ro D0 a w _ hD hs hq⟩
    | ret => exact ⟨_, S1, h1, h2, fun w0 β ro D0 a w Q hD hs hq => by rw [rounds_succ]; exact h3 w0 β ro D0 a w _ hD hs hq⟩
theorem codeK_good (hE : TysOk P E) (hR : CallGood P R) (hS : SpecSound P E) (hmix : P.follows .mixedOrders = true) (hL : LoopGood P E) {call : CallK} (hc : CallDen R call) (fid : Nat) : ∀ (c : Code), BodyGood P c (codeK E call fid c)
  | .skip => fun S k r h => ⟨.normal, S, h, .refl _, fun w0 β ro D0 a w Q hD hs hq => wp_skip (hq a w β ro β.ext_refl ro.ext_refl (hs.less fun _ h => .inl h))⟩
  | .label _ => fun S k r h => ⟨.normal, S, h, .refl _, fun w0 β ro D0 a w Q hD hs hq => wp_label (hq a w β ro β.ext_refl ro.ext_refl (hs.less fun _ h => .inl h))⟩
  | .exit i => fun S k r h => ⟨.exit i, S, h, .refl _, fun w0 β ro D0 a w Q hD hs hq => wp_exit (hq a w β ro β.ext_refl ro.ext_refl (hs.less fun _ h => .inl h))⟩
  | .goto i => fun S k r h => ⟨.goto i, S, h, .refl _, fun w0 β ro D0 a w Q hD hs hq => wp_goto (hq a w β ro β.ext_refl ro.ext_refl (hs.less fun _ h => .inl h))⟩
  | .ret => fun S k r h => ⟨.ret, S, h, .refl _, fun w0 β ro D0 a w Q hD hs hq => wp_ret (hq a w β ro β.ext_refl ro.ext_refl (hs.less fun _ h => .inl h))⟩
  | .refuse _ => fun S k r h => by simp [codeK, Tr.den] at h
  | .rangeFunc .. => fun S k r h => by simp [codeK, Tr.den] at h
  | .region id ops draw => fun S k r h => by
    simp only [codeK] at h
    obtain ⟨S', h1, h2, h3⟩ := regionK_sound hE hR hS hmix hc h
    exact ⟨.normal, S', h1, h2, fun w0 β ro D0 a w Q hD hs hq => h3 w0 β ro D0 a w id Q hD hs hq⟩
  | .seq x y => fun S k r h => by
    simp only [codeK] at h
    obtain ⟨e, S1, h1, h2, h3⟩ := codeK_good hE hR hS hmix hL hc fid x S _ r h
    cases e with
    | normal =>
      simp only at h1
      obtain ⟨e', S', k1, k2, k3⟩ := codeK_good hE hR hS hmix hL hc fid y S1 _ r h1
      refine ⟨e', S', k1, h2.trans k2, fun w0 β ro D0 a w Q hD hs hq => wp_seq ?_⟩
      refine h3 w0 β ro D0 a w _ hD hs fun a' w' β' ro' q1 q2 q3 => ?_
      exact k3 w0 β' ro' _ a' w' Q (then_lt hD h2.1) q3 fun a'' w'' β'' ro'' r1 r2 r3 => hq a'' w'' β'' ro'' (Pl.ext_trans q1 r1) (Snap.ext_trans q2 r2) (r3.less (then_sub h2.1 k2.1))
    | exit i => exact ⟨_, S1, h1, h2, fun w0 β ro D0 a w Q hD hs hq => wp_seq (h3 w0 β ro D0 a w _ hD hs hq)⟩
    | goto i => exact ⟨_, S1, h1, h2, fun w0 β ro D0 a w Q hD hs hq => wp_seq (h3 w0 β ro D0 a w _ hD hs hq)⟩
    | ret => exact ⟨_, S1, h1, h2, fun w0 β ro D0 a w Q hD hs hq => wp_seq (h3 w0 β ro D0 a w _ hD hs hq)⟩
  | .cond c x y => fun S k r h => by
    simp only [codeK] at h
    split at h
    · rename_i t hv
      have val : ∀ {w0 : Pt} {β : Pl} {ro : Snap} {a : Go.Act} {w : World} {D0 : Nat → Prop}, Sat w0 β ro D0 S a w → a.eval c = .bool t := by
        intro w0 β ro a w D0 hs
        have := hs.ev c
        rw [hv] at this
        generalize a.eval c = x at this
        cases this with | lit _ => rfl
      cases t with
      | true =>
        obtain ⟨e, S', h1, h2, h3⟩ := codeK_good hE hR hS hmix hL hc fid x S _ r h
        exact ⟨e, S', h1, h2, fun w0 β ro D0 a w Q hD hs hq => wp_cond_true (val hs) (h3 w0 β ro D0 a w Q hD hs hq)⟩
      | false =>
        obtain ⟨e, S', h1, h2, h3⟩ := codeK_good hE hR hS hmix hL hc fid y S _ r h
        exact ⟨e, S', h1, h2, fun w0 β ro D0 a w Q hD hs hq => wp_cond_false (val hs) (h3 w0 β ro D0 a w Q hD hs hq)⟩
    · rename_i t hv
      have val : ∀ {w0 : Pt} {β : Pl} {ro : Snap} {a : Go.Act} {w : World} {D0 : Nat → Prop}, Sat w0 β ro D0 S a w → a.eval c = .bool t := by
        intro w0 β ro a w D0 hs
        have := hs.ev c
        rw [hv] at this
        generalize a.eval c = x at this
        cases this with | leaf h => cases h with | bool b => rfl
      split at h
      · rename_i d
        simp only [Tr.den] at h
        split at h
        · rename_i ht
          subst ht
          obtain ⟨e, S', h1, h2, h3⟩ := codeK_good hE hR hS hmix hL hc fid x _ _ r h
          exact ⟨e, S', h1, h2, fun w0 β ro D0 a w Q hD hs hq => wp_cond_true (val hs) (h3 w0 β ro D0 a w Q hD (setLit hs (val hs)) hq)⟩
        · rename_i ht
          have ht' : t = false := by simpa using ht
          subst ht'
          obtain ⟨e, S', h1, h2, h3⟩ := codeK_good hE hR hS hmix hL hc fid y _ _ r h
          exact ⟨e, S', h1, h2, fun w0 β ro D0 a w Q hD hs hq => wp_cond_false (val hs) (h3 w0 β ro D0 a w Q hD (setLit hs (val hs)) hq)⟩
      · simp [Tr.den] at h
    · simp [Tr.den] at h
  | .block id c => fun S k r h => by
    simp only [codeK] at h
    obtain ⟨e, S1, h1, h2, h3⟩ := codeK_good hE hR hS hmix hL hc fid c S _ r h
    cases e with
    | normal => exact ⟨.normal, S1, h1, h2, fun w0 β ro D0 a w Q hD hs hq => wp_block (h3 w0 β ro D0 a w _ hD hs hq)⟩
    | exit i =>
      simp only at h1
      cases hb : Nat.beq i id with
      | true =>
        simp only [hb] at h1
        have := Nat.eq_of_beq_eq_true hb
        subst this
        exact ⟨.normal, S1, h1, h2, fun w0 β ro D0 a w Q hD hs hq => wp_block (h3 w0 β ro D0 a w _ hD hs fun a' w' β' ro' q1 q2 q3 => by
          simp only [exitOf, Exit.inBlock, if_true]; exact hq a' w' β' ro' q1 q2 q3)⟩
      | false =>
        simp only [hb] at h1
        have hne : i ≠ id := by rintro rfl; simp at hb
        exact ⟨.exit i, S1, h1, h2, fun w0 β ro D0 a w Q hD hs hq => wp_block (h3 w0 β ro D0 a w _ hD hs fun a' w' β' ro' q1 q2 q3 => by
          simp only [exitOf, Exit.inBlock, hne, if_false]; exact hq a' w' β' ro' q1 q2 q3)⟩
    | goto i => exact ⟨_, S1, h1, h2, fun w0 β ro D0 a w Q hD hs hq => wp_block (h3 w0 β ro D0 a w _ hD hs hq)⟩
    | ret => exact ⟨_, S1, h1, h2, fun w0 β ro D0 a w Q hD hs hq => wp_block (h3 w0 β ro D0 a w _ hD hs hq)⟩
  | .scope c => fun S k r h => by
    simp only [codeK] at h
    obtain ⟨e, S1, h1, h2, h3⟩ := codeK_good hE hR hS hmix hL hc fid c S _ r h
    cases e with
    | goto i => simp [Tr.den] at h1
    | normal => exact ⟨_, S1, h1, h2, fun w0 β ro D0 a w Q hD hs hq => wp_scope_straight (h3 w0 β ro D0 a w _ hD hs hq)⟩
    | exit i => exact ⟨_, S1, h1, h2, fun w0 β ro D0 a w Q hD hs hq => wp_scope_straight (h3 w0 β ro D0 a w _ hD hs hq)⟩
    | ret => exact ⟨_, S1, h1, h2, fun w0 β ro D0 a w Q hD hs hq => wp_scope_straight (h3 w0 β ro D0 a w _ hD hs hq)⟩
  | .loop c => fun S k r h => by
    simp only [codeK] at h
    split at h
    · simp [Tr.den] at h
    · rename_i n hh
      obtain ⟨e, S', h1, h2, h3⟩ := unroll_good (codeK_good hE hR hS hmix hL hc fid c) n S k r h
      exact ⟨e, S', h1, h2, fun w0 β ro D0 a w Q hD hs hq => wp_loop_rounds n (h3 w0 β ro D0 a w Q hD hs hq)⟩
    · rename_i sl hh
      exact hL c _ (codeK_good hE hR hS hmix hL hc fid c) sl S k r h
end Go.Cat

namespace Go.Cat
open Go
variable {P : Program} {E : Env} {w0 : Pt} {β : Pl} {ro : Snap} {w : World}
theorem iter_mono {L R : Type} {step : L → Option (L ⊕ R)} : ∀ (n m : Nat) (l : L) (r : R), n ≤ m → iter step n l = some r → iter step m l = some r
  | 0, _, _, _, _, h => by simp [iter] at h
  | n + 1, 0, _, _, hle, _ => by omega
  | n + 1, m + 1, l, r, hle, h => by
    simp only [iter] at h ⊢
    cases hs : step l with
    | none => simp [hs] at h
    | some z =>
      cases z with
      | inl l' => simp only [hs] at h ⊢; exact iter_mono n m l' r (by omega) h
      | inr r' => simp only [hs] at h ⊢; exact h
theorem loopO_iff {L R : Type} {step : L → Option (L ⊕ R)} {l : L} {r : R} : loopO step l = some r ↔ ∃ n, iter step n l = some r := by
  unfold loopO
  constructor
  · intro h
    split at h
    · exact ⟨_, h⟩
    · cases h
  · rintro ⟨n, hn⟩
    have hex : ∃ n, (iter step n l).isSome := ⟨n, by rw [hn]; rfl⟩
    rw [dif_pos hex]
    obtain ⟨r', hr'⟩ := Option.isSome_iff_exists.1 hex.choose_spec
    have h1 := iter_mono _ (max n hex.choose) l r (Nat.le_max_left _ _) hn
    have h2 := iter_mono _ (max n hex.choose) l r' (Nat.le_max_right _ _) hr'
    rw [h1] at h2; cases h2
    exact hr'
theorem map_den {R R' : Type} (t : Tr R) (f : R → R') (z : R') (h : (Tr.map f t).den = some z) : ∃ r, t.den = some r ∧ f r = z := by
  simp only [Tr.den] at h
  exact Option.map_eq_some_iff.1 h
inductive OwnRel (H : Heap) (et : Nat) (e : EN) : SV → List (T e) → List Nat → Prop
  | nil : OwnRel H et e (.lit (.slice none 0 0)) [] []
  | row {id : Nat} {xs : List (T e)} (h : H id = some (.row et e xs)) : OwnRel H et e (.own id) xs [id]
theorem ownRow_run {A : Type} {H : Heap} {et : Nat} {e : EN} {v : SV} {f : List (T e) → List Nat → OT A} {rs : List Nat} {r : A × List Nat} (h : (ownRow et e v f).run H rs = some r) :
    ∃ xs os rs', OwnRel H et e v xs os ∧ (f xs os).run H rs' = some r := by
  unfold ownRow at h
  split at h
  · exact ⟨_, _, _, .nil, h⟩
  · rename_i id
    simp only [OT.run] at h
    cases ho : H id with
    | none => simp [ho, OT.run] at h
    | some o =>
      cases o with
      | blk cs => simp [ho, OT.run] at h
      | row et' e' xs =>
        simp only [ho] at h
        split at h
        · rename_i hb
          have := Nat.eq_of_beq_eq_true hb
          subst this
          split at h
          · rename_i he
            subst he
            exact ⟨_, _, _, .row ho, h⟩
          · simp [OT.run] at h
        · simp [OT.run] at h
  · simp [OT.run] at h
inductive CTRel (H : Heap) : (ks : List CK) → List SV → CT ks → List Nat → List Nat → Prop
  | nil : CTRel H [] [] () [] []
  | int {k : IntKind} {ks v vs x i xs is os} (h : tOf H (.int k) v = some (x, i)) (t : CTRel H ks vs xs is os) : CTRel H (.dat (.int k) :: ks) (v :: vs) (x, xs) (i ++ is) os
  | bool {ks v vs x i xs is os} (h : tOf H .bool v = some (x, i)) (t : CTRel H ks vs xs is os) : CTRel H (.dat .bool :: ks) (v :: vs) (x, xs) (i ++ is) os
  | str {ks v vs x i xs is os} (h : tOf H .str v = some (x, i)) (t : CTRel H ks vs xs is os) : CTRel H (.dat .str :: ks) (v :: vs) (x, xs) (i ++ is) os
  | sl {e : EN} {ks v vs x i xs is os} (h : tOf H (.sl e) v = some (x, i)) (t : CTRel H ks vs xs is os) : CTRel H (.dat (.sl e) :: ks) (v :: vs) (x, xs) (i ++ is) os
  | own {et : Nat} {e : EN} {ks v vs x o xs is os} (h : OwnRel H et e v x o) (t : CTRel H ks vs xs is os) : CTRel H (.own et e :: ks) (v :: vs) (x, xs) is (o ++ os)
theorem readCT_run {A : Type} {H : Heap} : ∀ (ks : List CK) (vs : List SV) {f : CT ks → List Nat → List Nat → OT A} {rs : List Nat} {r : A × List Nat}, (readCT ks vs f).run H rs = some r →
    ∃ x is os rs', CTRel H ks vs x is os ∧ (f x is os).run H rs' = some r
  | [], [], f, rs, r, h => ⟨(), [], [], rs, .nil, h⟩
  | .dat (.int k) :: ks, v :: vs, f, rs, r, h => by
    simp only [readCT] at h
    obtain ⟨x, i, rs1, h1, h2⟩ := toT_run h
    obtain ⟨xs, is, os, rs2, h3, h4⟩ := readCT_run ks vs h2
    exact ⟨_, _, _, _, .int h1 h3, h4⟩
  | .dat .bool :: ks, v :: vs, f, rs, r, h => by
    simp only [readCT] at h
    obtain ⟨x, i, rs1, h1, h2⟩ := toT_run h
    obtain ⟨xs, is, os, rs2, h3, h4⟩ := readCT_run ks vs h2
    exact ⟨_, _, _, _, .bool h1 h3, h4⟩
  | .dat .str :: ks, v :: vs, f, rs, r, h => by
    simp only [readCT] at h
    obtain ⟨x, i, rs1, h1, h2⟩ := toT_run h
    obtain ⟨xs, is, os, rs2, h3, h4⟩ := readCT_run ks vs h2
    exact ⟨_, _, _, _, .str h1 h3, h4⟩
  | .dat (.sl e) :: ks, v :: vs, f, rs, r, h => by
    simp only [readCT] at h
    obtain ⟨x, i, rs1, h1, h2⟩ := toT_run h
    obtain ⟨xs, is, os, rs2, h3, h4⟩ := readCT_run ks vs h2
    exact ⟨_, _, _, _, .sl h1 h3, h4⟩
  | .own et e :: ks, v :: vs, f, rs, r, h => by
    simp only [readCT] at h
    obtain ⟨x, o, rs1, h1, h2⟩ := ownRow_run h
    obtain ⟨xs, is, os, rs2, h3, h4⟩ := readCT_run ks vs h2
    exact ⟨_, _, _, _, .own h1 h3, h4⟩
  | [], _ :: _, f, rs, r, h => by simp [readCT, OT.run] at h
  | .dat (.int _) :: _, [], f, rs, r, h => by simp [readCT, OT.run] at h
  | .dat .bool :: _, [], f, rs, r, h => by simp [readCT, OT.run] at h
  | .dat .str :: _, [], f, rs, r, h => by simp [readCT, OT.run] at h
  | .dat (.sl _) :: _, [], f, rs, r, h => by simp [readCT, OT.run] at h
  | .own _ _ :: _, [], f, rs, r, h => by simp [readCT, OT.run] at h
mutual
theorem samePtr_eq : ∀ (x y : SV), samePtr x y = true → x = y
  | .bptr a i, y, h => by
    cases y <;> simp only [samePtr] at h <;> try cases h
    simp only [Bool.and_eq_true] at h
    rw [Nat.eq_of_beq_eq_true h.1, Nat.eq_of_beq_eq_true h.2]
  | .own a, y, h => by
    cases y <;> simp only [samePtr] at h <;> try cases h
    rw [Nat.eq_of_beq_eq_true h]
  | .fn f a c, y, h => by
    cases y <;> simp only [samePtr] at h <;> try cases h
    simp only [Bool.and_eq_true] at h
    rw [Nat.eq_of_beq_eq_true h.1.1, samePtrs_eq _ _ h.1.2, samePtrs_eq _ _ h.2]
  | .lit v, y, h => by
    unfold samePtr at h
    split at h <;> simp_all
  | .leaf _, y, h => by simp [samePtr] at h
  | .win _ _ _, y, h => by simp [samePtr] at h
  | .rptr _, y, h => by simp [samePtr] at h
  | .optr _ _ _, y, h => by simp [samePtr] at h
  | .iface _ _, y, h => by simp [samePtr] at h
  | .agg _, y, h => by simp [samePtr] at h
  | .tup _, y, h => by simp [samePtr] at h
  | .nn _ _, y, h => by simp [samePtr] at h
  | .any, y, h => by simp [samePtr] at h
theorem samePtrs_eq : ∀ (x y : List SV), samePtrs x y = true → x = y
  | [], [], _ => rfl
  | a :: as, b :: bs, h => by
    simp only [samePtrs, Bool.and_eq_true] at h
    rw [samePtr_eq a b h.1, samePtrs_eq as bs h.2]
  | [], _ :: _, h => by simp [samePtrs] at h
  | _ :: _, [], h => by simp [samePtrs] at h
end
inductive SigRel (t0 tmps : List SV) (H : Heap) : (sl : List (Nat × SigV)) → SigT sl → List Nat → List Nat → Prop
  | nil : SigRel t0 tmps H [] () [] []
  | dat {t : Nat} {e : EN} {r a i x is os} (h : tOf H e (tmpAt tmps t) = some (a, i)) (q : SigRel t0 tmps H r x is os) : SigRel t0 tmps H ((t, .dat e) :: r) (a, x) (i ++ is) os
  | own {t et : Nat} {e : EN} {r a o x is os} (h : OwnRel H et e (tmpAt tmps t) a o) (q : SigRel t0 tmps H r x is os) : SigRel t0 tmps H ((t, .own et e) :: r) (a, x) is (o ++ os)
  | var {t : Nat} {e : EN} {r a i x is os} {id : Nat} {cs : List SV} (h0 : tmpAt t0 t = .bptr id 0) (h1 : tmpAt tmps t = .bptr id 0) (ho : H id = some (.blk cs)) (h : tOf H e (mkVal e cs) = some (a, i)) (q : SigRel t0 tmps H r x is os) :
      SigRel t0 tmps H ((t, .var e) :: r) (a, x) (i ++ is) (id :: os)
  | cls {t : Nat} {ks : List CK} {r a i o x is os} {id : Nat} {cs : List SV} (h0 : tmpAt t0 t = .bptr id 0) (h1 : tmpAt tmps t = .bptr id 0) (ho : H id = some (.blk cs)) (h : CTRel H ks cs a i o) (q : SigRel t0 tmps H r x is os) :
      SigRel t0 tmps H ((t, .cls ks) :: r) (a, x) (i ++ is) (id :: o ++ os)
  | wrow {t et : Nat} {e : EN} {r a x is os} {id lo len : Nat} (h0 : tmpAt t0 t = .win id lo len) (h1 : tmpAt tmps t = .win id lo len) (ho : H id = some (.row et e a)) (q : SigRel t0 tmps H r x is os) :
      SigRel t0 tmps H ((t, .wrow et e) :: r) (a, x) is (id :: os)
  | same {t : Nat} {r x is os} (h : tmpAt t0 t = tmpAt tmps t) (q : SigRel t0 tmps H r x is os) : SigRel t0 tmps H ((t, .same) :: r) x is os
theorem readSig_run {A : Type} {H : Heap} {t0 tmps : List SV} : ∀ (sl : List (Nat × SigV)) {f : SigT sl → List Nat → List Nat → OT A} {rs : List Nat} {r : A × List Nat}, (readSig t0 tmps sl f).run H rs = some r →
    ∃ x is os rs', SigRel t0 tmps H sl x is os ∧ (f x is os).run H rs' = some r
  | [], f, rs, r, h => ⟨(), [], [], rs, .nil, h⟩
  | (t, .dat e) :: sl, f, rs, r, h => by
    simp only [readSig] at h
    obtain ⟨a, i, rs1, h1, h2⟩ := toT_run h
    obtain ⟨x, is, os, rs2, h3, h4⟩ := readSig_run sl h2
    exact ⟨_, _, _, _, .dat h1 h3, h4⟩
  | (t, .own et e) :: sl, f, rs, r, h => by
    simp only [readSig] at h
    obtain ⟨a, o, rs1, h1, h2⟩ := ownRow_run h
    obtain ⟨x, is, os, rs2, h3, h4⟩ := readSig_run sl h2
    exact ⟨_, _, _, _, .own h1 h3, h4⟩
  | (t, .var e) :: sl, f, rs, r, h => by
    simp only [readSig] at h
    split at h
    · rename_i id hs ht
      simp only [OT.run] at h
      cases ho : H id with
      | none => simp [ho, OT.run] at h
      | some o =>
        cases o with
        | row et e xs => simp [ho, OT.run] at h
        | blk cs =>
          simp only [ho] at h
          obtain ⟨a, i, rs1, h1, h2⟩ := toT_run h
          obtain ⟨x, is, os, rs2, h3, h4⟩ := readSig_run sl h2
          exact ⟨_, _, _, _, .var ((samePtr_eq _ _ hs).trans ht) ht ho h1 h3, h4⟩
    · simp [OT.run] at h
  | (t, .cls ks) :: sl, f, rs, r, h => by
    simp only [readSig] at h
    split at h
    · rename_i id hs ht
      simp only [OT.run] at h
      cases ho : H id with
      | none => simp [ho, OT.run] at h
      | some o =>
        cases o with
        | row et e xs => simp [ho, OT.run] at h
        | blk cs =>
          simp only [ho] at h
          obtain ⟨a, i, o, rs1, h1, h2⟩ := readCT_run ks cs h
          obtain ⟨x, is, os, rs2, h3, h4⟩ := readSig_run sl h2
          exact ⟨_, _, _, _, .cls ((samePtr_eq _ _ hs).trans ht) ht ho h1 h3, h4⟩
    · simp [OT.run] at h
  | (t, .same) :: sl, f, rs, r, h => by
    simp only [readSig] at h
    split at h
    · rename_i hs
      obtain ⟨x, is, os, rs2, h3, h4⟩ := readSig_run sl h
      exact ⟨_, _, _, _, .same (samePtr_eq _ _ hs) h3, h4⟩
    · simp [OT.run] at h
  | (t, .wrow et e) :: sl, f, rs, r, h => by
    simp only [readSig] at h
    split at h
    · rename_i id lo len id' lo' len' ht0 ht
      split at h
      · rename_i hb
        have hb := Nat.eq_of_beq_eq_true hb
        subst hb
        simp only [OT.run] at h
        split at h
        · rename_i hg
          obtain ⟨rfl, rfl⟩ := of_decide_eq_true hg
          cases ho : H id with
          | none => simp [ho, OT.run] at h
          | some o =>
            cases o with
            | blk cs => simp [ho, OT.run] at h
            | row et' e' xs =>
              simp only [ho] at h
              split at h
              · rename_i hbt
                have hbt := Nat.eq_of_beq_eq_true hbt
                subst hbt
                split at h
                · rename_i he
                  subst he
                  obtain ⟨x, is, os, rs2, h3, h4⟩ := readSig_run sl h
                  exact ⟨_, _, _, _, .wrow ht0 ht ho h3, h4⟩
                · simp [OT.run] at h
              · simp [OT.run] at h
        · cases h
      · simp [OT.run] at h
    · simp [OT.run] at h
theorem sigOf_run {H : Heap} {t0 tmps : List SV} {sl : List (Nat × SigV)} {x : SigT sl} {js : List Nat} {rs rs' : List Nat} (h : (sigOf t0 tmps sl).run H rs = some ((x, js), rs')) :
    ∃ is os, js = is ++ os ∧ SigRel t0 tmps H sl x is os ∧ distinctB os = true ∧ meet os is = false := by
  unfold sigOf at h
  obtain ⟨y, is, os, rs1, h1, h2⟩ := readSig_run sl h
  split at h2
  · rename_i hc
    simp only [Bool.and_eq_true, Bool.not_eq_true'] at hc
    simp only [OT.run] at h2
    cases h2
    exact ⟨is, os, rfl, h1, hc.1, hc.2⟩
  · simp [OT.run] at h2
end Go.Cat

namespace Go.Cat
open Go
structure Src (w0 : Pt) (β : Pl) (ro : Snap) (D : Nat → Prop) (O : Heap) (w : World) (IS : List Nat) : Prop where
  hs : HSat w0 β ro D O w
  live : ∀ i ∈ IS, (O i).isSome
variable {P : Program} {w0 : Pt} {β β2 : Pl} {ro : Snap} {D : Nat → Prop} {O : Heap} {w : World} {IS : List Nat}
theorem Src.at (h : Src w0 β ro D O w IS) {s : Nat} {o : SO} (hn : s ∉ IS) (ho : O s = some o) : ∃ hd, β s = some hd ∧ ObjAt β (ro.plus β w IS) w hd o ∧ (∀ g, hd.blk = some g → (ro.plus β w IS) g = none ∧ g < w.heap.size ∧ w0.heap.size ≤ g) := by
  have hf := h.hs.freeze IS h.live
  have ho' : putAll O (freezeAll IS) s = some o := by rw [putAll_freeze, if_neg hn]; exact ho
  obtain ⟨hd, h1, h2⟩ := hf.obj s o ho'
  exact ⟨hd, h1, h2, fun g hg => ⟨hf.apart s o hd g ho' h1 hg, hf.lt s hd g h1 hg, hf.above s o hd g ho' h1 hg⟩⟩
def Away (β : Pl) (β2 : Pl) (objs : Heap) (os : List Nat) : Prop :=
  ∀ (id : Nat) (o : SO) (h : Hd) (g s : Nat) (hh : Hd), objs id = some o → β2 id = some h → h.blk = some g → s ∈ os → β s = some hh → hh.blk ≠ some g
theorem Away.less {objs : Heap} {os os' : List Nat} (h : Away β β2 objs os) (hs : ∀ s ∈ os', s ∈ os) : Away β β2 objs os' :=
  fun id o hd g s hh a b c d e => h id o hd g s hh a b c (hs s d) e
theorem not_dom {D0 : Nat → Prop} {N0 n : Nat} (h0 : ∀ id, D0 id → id < N0) (hN : N0 ≤ n) : ¬ (D0 n ∨ (N0 ≤ n ∧ n < n)) := by
  rintro (h | h)
  · have := h0 _ h; omega
  · omega
theorem add_obj {D0 : Nat → Prop} {N0 : Nat} (h0 : ∀ id, D0 id → id < N0) {ro2 : Snap} {n : Nat} (hN : N0 ≤ n) {objs : Heap} (hH : HSat w0 β2 ro2 (fun id => D0 id ∨ (N0 ≤ id ∧ id < n)) objs w) (hd : Hd) (o : SO) (hat : ObjAt (β2.add n hd) ro2 w hd o) (hro : ∀ g, hd.blk = some g → ro2 g = none ∧ g < w.heap.size ∧ w0.heap.size ≤ g)
    (hfree : ∀ (g id : Nat) (x : SO) (hh : Hd), hd.blk = some g → objs id = some x → β2 id = some hh → hh.blk ≠ some g) : HSat w0 (β2.add n hd) ro2 (fun id => D0 id ∨ (N0 ≤ id ∧ id < n + 1)) (putH objs n (some o)) w := by
  have hn : β2 n = none := hH.none_of_D (not_dom h0 hN)
  refine hH.upd n hd o none ?_ (Pl.ext_add hn hd) (Pl.add_same _ _ _) (fun id hh hb => Pl.add_or hb) (Base.refl w) (fun _ _ _ => rfl) (by simp) ?_ hat hro (fun id h => h.imp (fun x => x) fun h => ⟨h.1, by omega⟩) (.inr ⟨hN, by omega⟩)
  · intro id x hx
    by_cases he : id = n
    · subst he; rw [putH_same] at hx; cases hx; exact .inl ⟨rfl, rfl⟩
    · rw [putH_other _ _ he] at hx; exact .inr ⟨he, hx⟩
  · intro g id x hh hor hne hx hb
    rw [putH_other _ _ hne] at hx
    rcases hor with h1 | h1
    · cases h1
    · exact hfree g id x hh h1 hx hb
theorem set_obj {ro2 : Snap} {D2 : Nat → Prop} {n : Nat} {objs : Heap} (hH : HSat w0 β2 ro2 D2 objs w) (hd : Hd) (hn : β2 n = some hd) (o : SO) (hat : ObjAt β2 ro2 w hd o) (hro : ∀ g, hd.blk = some g → ro2 g = none ∧ g < w.heap.size ∧ w0.heap.size ≤ g)
    (hfree : ∀ (g id : Nat) (x : SO) (hh : Hd), hd.blk = some g → objs id = some x → β2 id = some hh → hh.blk ≠ some g) : HSat w0 β2 ro2 D2 (putH objs n (some o)) w := by
  refine hH.upd n hd o none ?_ β2.ext_refl hn (fun id hh hb => .inl hb) (Base.refl w) (fun _ _ _ => rfl) (by simp) ?_ hat hro (fun id h => h) (hH.dom _ _ hn)
  · intro id x hx
    by_cases he : id = n
    · subst he; rw [putH_same] at hx; cases hx; exact .inl ⟨rfl, rfl⟩
    · rw [putH_other _ _ he] at hx; exact .inr ⟨he, hx⟩
  · intro g id x hh hor hne hx hb
    rw [putH_other _ _ hne] at hx
    rcases hor with h1 | h1
    · cases h1
    · exact hfree g id x hh h1 hx hb
theorem own_src' (h : Src w0 β ro D O w IS) {et : Nat} {e : EN} {v : SV} {xs : List (T e)} {os : List Nat} (hr : OwnRel O et e v xs os) (hn : ∀ s ∈ os, s ∉ IS) {val : Value} (hv : RepS β ro v val) :
    ∃ hd : Hd, val = hd.val ∧ (∀ β3 : Pl, ObjAt β3 (ro.plus β w IS) w hd (.row et e xs)) ∧ (∀ g, hd.blk = some g → ((ro.plus β w IS) g = none ∧ g < w.heap.size ∧ w0.heap.size ≤ g) ∧ ∃ s, os = [s] ∧ β s = some hd) := by
  cases hr with
  | nil =>
    cases hv with
    | lit _ => exact ⟨⟨none, 0, 0, sz e⟩, rfl, fun _ => ⟨rfl, rfl, rfl⟩, by simp⟩
  | row ho =>
    rename_i id
    obtain ⟨hd, h1, h2, h3⟩ := h.at (hn id (by simp)) ho
    cases hv with
    | own hb =>
      rw [h1] at hb; cases hb
      exact ⟨hd, rfl, fun _ => h2, fun g hg => ⟨h3 g hg, id, rfl, h1⟩⟩
theorem OwnRel.live {et : Nat} {e : EN} {v : SV} {xs : List (T e)} {os : List Nat} (hr : OwnRel O et e v xs os) : ∀ s ∈ os, (O s).isSome := by
  cases hr with
  | nil => simp
  | row ho => simp [ho]
theorem CTRel.live {ks : List CK} {vs : List SV} {x : CT ks} {is os : List Nat} (hr : CTRel O ks vs x is os) : ∀ s ∈ os, (O s).isSome := by
  induction hr with
  | nil => simp
  | int _ _ ih => exact ih
  | bool _ _ ih => exact ih
  | str _ _ ih => exact ih
  | sl _ _ ih => exact ih
  | own h _ ih => exact fun s hs => (List.mem_append.1 hs).elim (h.live s) (ih s)
theorem SigRel.live {t0 tmps : List SV} {sl : List (Nat × SigV)} {x : SigT sl} {is os : List Nat} (hr : SigRel t0 tmps O sl x is os) : ∀ s ∈ os, (O s).isSome := by
  induction hr with
  | nil => simp
  | dat _ _ ih => exact ih
  | own h _ ih => exact fun s hs => (List.mem_append.1 hs).elim (h.live s) (ih s)
  | var _ _ ho _ _ ih =>
    intro s hs
    rcases List.mem_cons.1 hs with rfl | hs
    · simp [ho]
    · exact ih s hs
  | cls _ _ ho h _ ih =>
    intro s hs
    rcases List.mem_append.1 hs with hs | hs
    · rcases List.mem_cons.1 hs with rfl | hs
      · simp [ho]
      · exact h.live s hs
    · exact ih s hs
  | same _ _ ih => exact ih
  | wrow _ _ ho _ ih =>
    intro s hs
    rcases List.mem_cons.1 hs with rfl | hs
    · simp [ho]
    · exact ih s hs
theorem headCT_le : ∀ (ks : List CK) (x : CT ks) (n : Nat), n ≤ (headCT ks x n).2.2 ∧ ∀ p ∈ (headCT ks x n).2.1, n ≤ p.1
  | [], _, n => ⟨Nat.le_refl _, by simp [headCT]⟩
  | .dat (.int k) :: ks, (x, xs), n => headCT_le ks xs n
  | .dat .bool :: ks, (x, xs), n => headCT_le ks xs n
  | .dat .str :: ks, (x, xs), n => headCT_le ks xs n
  | .dat (.sl e) :: ks, (x, xs), n => headCT_le ks xs n
  | .own et e :: ks, (x, xs), n => by
    obtain ⟨h1, h2⟩ := headCT_le ks xs (n + 1)
    simp only [headCT]
    refine ⟨by omega, fun p hp => ?_⟩
    rcases List.mem_cons.1 hp with rfl | hp
    · exact Nat.le_refl _
    · have := h2 p hp; omega
theorem leaf_cell (h : Src w0 β ro D O w IS) {e : EN} {v : SV} {x : T e} {i : List Nat} (ht : tOf O e v = some (x, i)) (hi : ∀ j ∈ i, j ∈ IS) {l : Leaf} (hc : cells e x = [l]) (ha : isAggE e = false) {u : Value} (hv : RepS β ro v u) :
    RepS β2 (ro.plus β w IS) (.leaf l) u := by
  obtain ⟨_, h2⟩ := tOf_rep h.hs ht hv
  have := datSV_rep (β := β2) (h2 IS hi)
  simpa [datSV, mkVal, ha, hc] using this
theorem ct_build (h : Src w0 β ro D O w IS) {D0 : Nat → Prop} {N0 : Nat} (h0 : ∀ id, D0 id → id < N0) : ∀ {ks : List CK} {vs : List SV} {x : CT ks} {is os : List Nat}, CTRel O ks vs x is os → (∀ i ∈ is, i ∈ IS) → (∀ s ∈ os, s ∉ IS) → ∀ (rest : List Nat), (os ++ rest).Nodup → (∀ s ∈ rest, s ∉ IS ∧ (O s).isSome) →
    ∀ (us : List Value) (β2 : Pl) (objs : Heap) (n : Nat), N0 ≤ n → RepL β ro vs us → HSat w0 β2 (ro.plus β w IS) (fun id => D0 id ∨ (N0 ≤ id ∧ id < n)) objs w → Away β β2 objs (os ++ rest) →
    ∃ β3, β2.ext β3 ∧ (∀ id, id < n → β3 id = β2 id) ∧ HSat w0 β3 (ro.plus β w IS) (fun id => D0 id ∨ (N0 ≤ id ∧ id < (headCT ks x n).2.2)) (putAll objs (headCT ks x n).2.1) w ∧ RepL β3 (ro.plus β w IS) (headCT ks x n).1 us ∧
      Away β β3 (putAll objs (headCT ks x n).2.1) rest := by
  intro ks vs x is os hr
  have datc : ∀ {k : LK} {ks : List CK} {v : SV} {vs : List SV} {u : Value} {us : List Value} {β3 : Pl} {l : Leaf} {cs : List SV}, RepS β3 (ro.plus β w IS) (.leaf l) u → RepL β3 (ro.plus β w IS) cs us → RepL β3 (ro.plus β w IS) (.leaf l :: cs) (u :: us) :=
    fun h1 h2 => .cons h1 h2
  induction hr with
  | nil =>
    intro _ _ rest _ _ us β2 objs n hN hv hH haw
    rw [hv.of_nil]
    exact ⟨β2, β2.ext_refl, fun _ _ => rfl, hH, .nil _ _, haw⟩
  | int ht _ ih =>
    intro hi hn rest hnd hrest us β2 objs n hN hv hH haw
    obtain ⟨u, us', rfl, hu, hus⟩ := hv.of_cons
    obtain ⟨β3, a1, a2, a3, a4, a5⟩ := ih (fun i hm => hi i (List.mem_append_right _ hm)) hn rest hnd hrest us' β2 objs n hN hus hH haw
    exact ⟨β3, a1, a2, a3, .cons (leaf_cell h ht (fun j hj => hi j (List.mem_append_left _ hj)) rfl rfl hu) a4, a5⟩
  | bool ht _ ih =>
    intro hi hn rest hnd hrest us β2 objs n hN hv hH haw
    obtain ⟨u, us', rfl, hu, hus⟩ := hv.of_cons
    obtain ⟨β3, a1, a2, a3, a4, a5⟩ := ih (fun i hm => hi i (List.mem_append_right _ hm)) hn rest hnd hrest us' β2 objs n hN hus hH haw
    exact ⟨β3, a1, a2, a3, .cons (leaf_cell h ht (fun j hj => hi j (List.mem_append_left _ hj)) rfl rfl hu) a4, a5⟩
  | str ht _ ih =>
    intro hi hn rest hnd hrest us β2 objs n hN hv hH haw
    obtain ⟨u, us', rfl, hu, hus⟩ := hv.of_cons
    obtain ⟨β3, a1, a2, a3, a4, a5⟩ := ih (fun i hm => hi i (List.mem_append_right _ hm)) hn rest hnd hrest us' β2 objs n hN hus hH haw
    exact ⟨β3, a1, a2, a3, .cons (leaf_cell h ht (fun j hj => hi j (List.mem_append_left _ hj)) rfl rfl hu) a4, a5⟩
  | sl ht _ ih =>
    intro hi hn rest hnd hrest us β2 objs n hN hv hH haw
    obtain ⟨u, us', rfl, hu, hus⟩ := hv.of_cons
    obtain ⟨β3, a1, a2, a3, a4, a5⟩ := ih (fun i hm => hi i (List.mem_append_right _ hm)) hn rest hnd hrest us' β2 objs n hN hus hH haw
    exact ⟨β3, a1, a2, a3, .cons (leaf_cell h ht (fun j hj => hi j (List.mem_append_left _ hj)) rfl rfl hu) a4, a5⟩
  | @own et e ks v vs x o xs is os ho hq ih =>
    intro hi hn rest hnd hrest us β2 objs n hN hv hH haw
    obtain ⟨u, us', rfl, hu, hus⟩ := hv.of_cons
    obtain ⟨hd, hval, hat, hsrc⟩ := own_src' h ho (fun s hs => hn s (List.mem_append_left _ hs)) hu
    have hH1 := add_obj h0 hN hH hd (.row et e x) (hat _) (fun g hg => (hsrc g hg).1) (fun g id y hh hg hy hb => by
      obtain ⟨_, s, rfl, hs⟩ := hsrc g hg
      have := haw id y hh
      intro he
      exact this g s hd hy hb he (by simp) hs hg)
    have hβn : β2 n = none := hH.none_of_D (not_dom h0 hN)
    have hext := Pl.ext_add hβn hd
    have hnd' : (os ++ rest).Nodup := by
      rw [List.append_assoc] at hnd
      exact (List.nodup_append.1 hnd).2.1
    have haw1 : Away β (β2.add n hd) (putH objs n (some (.row et e x))) (os ++ rest) := by
      intro id y hh g s hs hy hb hg hm hβs hblk
      by_cases he : id = n
      · subst he
        rw [Pl.add_same] at hb; cases hb
        obtain ⟨_, s1, rfl, hs1⟩ := hsrc g hg
        have hlive1 := ho.live s1 (by simp)
        have hne1 := hn s1 (by simp)
        have hs2 : s ∉ IS ∧ (O s).isSome := by
          rcases List.mem_append.1 hm with h1 | h1
          · exact ⟨hn s (by simp [h1]), hq.live s h1⟩
          · exact hrest s h1
        obtain ⟨o1, ho1⟩ := Option.isSome_iff_exists.1 hlive1
        obtain ⟨o2, ho2⟩ := Option.isSome_iff_exists.1 hs2.2
        have := h.hs.inj s1 s o1 o2 _ _ g ho1 ho2 hs1 hβs hg hblk
        subst this
        have := List.nodup_cons.1 (show (s1 :: (os ++ rest)).Nodup by simpa using hnd)
        exact this.1 hm
      · rw [putH_other _ _ he] at hy
        have hb' : β2 id = some hh := by
          rcases Pl.add_or hb with h1 | ⟨h1, _⟩
          · exact h1
          · exact absurd h1 he
        exact haw id y hh g s hs hy hb' hg (by rw [List.append_assoc]; exact List.mem_append_right _ hm) hβs hblk
    obtain ⟨β3, a1, a2, a3, a4, a5⟩ := ih hi (fun s hs => hn s (List.mem_append_right _ hs)) rest hnd' hrest us' (β2.add n hd) (putH objs n (some (.row et e x))) (n + 1) (by omega) hus hH1 haw1
    refine ⟨β3, Pl.ext_trans hext a1, fun id hid => ?_, a3, .cons ?_ a4, a5⟩
    · rw [a2 id (by omega)]
      unfold Pl.add
      rw [if_neg (by omega)]
    · rw [hval]
      exact .own (a1 _ _ (Pl.add_same _ _ _))
end Go.Cat

namespace Go.Cat
open Go
variable {P : Program} {E : Env} {w0 : Pt} {β β2 : Pl} {ro : Snap} {D : Nat → Prop} {O : Heap} {w : World} {IS : List Nat}
theorem tOf_any {H : Heap} (e : EN) : tOf H e .any = none := by
  unfold tOf
  split
  · cases hk : kinds e with
    | nil => cases e <;> simp [kinds] at hk; rename_i s; cases s <;> simp [stKinds] at hk
    | cons k ks =>
      have : leafOf H k .any = none := by cases k <;> rfl
      simp [SV.cells, leavesOf, this]
  · rfl
theorem mkVal_rep {e : EN} {cs : List SV} {us : List Value} (hr : RepL β ro cs us) {x : T e} {i : List Nat} (ht : tOf O e (mkVal e cs) = some (x, i)) : ∃ u, RepS β ro (mkVal e cs) u ∧ u.cells.toList = us := by
  unfold mkVal at ht ⊢
  cases ha : isAggE e with
  | true => exact ⟨.agg us.toArray, .agg hr.1 hr.2, by simp [Value.cells]⟩
  | false =>
    simp only [ha] at ht ⊢
    split at ht
    · rename_i h2; cases h2
    · rename_i c _
      obtain ⟨u, us', rfl, h1, h2⟩ := hr.of_cons
      have hne : c ≠ .any := by rintro rfl; rw [tOf_any] at ht; cases ht
      have hag := (cells_rep h1 hne).2
      have hna : aggSV c = false := by
        unfold tOf at ht
        rw [ha] at ht
        cases hc : aggSV c with
        | false => rfl
        | true => rw [hc] at ht; simp at ht
      rw [h2.of_nil]
      refine ⟨u, h1, ?_⟩
      have : ¬ ∃ cs, u = .agg cs := fun h => by rw [hag.2 h] at hna; cases hna
      cases u <;> first | rfl | exact absurd ⟨_, rfl⟩ this
    · unfold tOf at ht
      rw [ha] at ht
      simp [aggSV] at ht
theorem RepS.low {β0 β β2 : Pl} {ro0 ro ro2 : Snap} (hβ : ∀ id h, β0 id = some h → β2 id = β id) (hro : ro.ext ro2) {x : SV} {v : Value} (hr : RepS β ro x v) : ∀ {v0 : Value}, RepS β0 ro0 x v0 → RepS β2 ro2 x v := by
  induction hr with
  | leaf h => intro v0 _; exact .leaf (h.mono hro)
  | lit h => intro v0 _; exact .lit h
  | own hb => intro v0 h0; cases h0 with | own h1 => exact .own (by rw [hβ _ _ h1]; exact hb)
  | win hb hl hc hm hn hs => intro v0 h0; cases h0 with | win h1 => exact .win (by rw [hβ _ _ h1]; exact hb) hl hc hm hn hs
  | rptr us hc hr hs => intro v0 _; exact .rptr us (fun j l hj => Snap.cell_ext hro (hc j l hj)) (fun j l hj => (hr j l hj).mono hro) hs
  | optr hb hg hi => intro v0 h0; cases h0 with | optr h1 => exact .optr (by rw [hβ _ _ h1]; exact hb) hg hi
  | bptr hb hg => intro v0 h0; cases h0 with | bptr h1 => exact .bptr (by rw [hβ _ _ h1]; exact hb) hg
  | fn h1 h2 _ _ i3 i4 =>
    intro v0 h0
    cases h0 with
    | @fn _ _ _ us0 vs0 k1 k2 k3 k4 =>
      refine .fn h1 h2 (fun i c u hc hu => ?_) (fun i c u hc hu => ?_)
      · have hlt : i < us0.length := by rw [k1]; exact (List.getElem?_eq_some_iff.1 hc).1
        exact i3 i c u hc hu (k3 i c us0[i] hc (List.getElem?_eq_getElem hlt))
      · have hlt : i < vs0.length := by rw [k2]; exact (List.getElem?_eq_some_iff.1 hc).1
        exact i4 i c u hc hu (k4 i c vs0[i] hc (List.getElem?_eq_getElem hlt))
  | iface _ ih => intro v0 h0; cases h0 with | iface h1 => exact .iface (ih h1)
  | agg h1 _ ih =>
    intro v0 h0
    cases h0 with
    | @agg _ us0 k1 k2 =>
      refine .agg h1 fun i c u hc hu => ?_
      have hlt : i < us0.length := by rw [k1]; exact (List.getElem?_eq_some_iff.1 hc).1
      exact ih i c u hc hu (k2 i c us0[i] hc (List.getElem?_eq_getElem hlt))
  | tup h1 _ ih =>
    intro v0 h0
    cases h0 with
    | @tup _ us0 k1 k2 =>
      refine .tup h1 fun i c u hc hu => ?_
      have hlt : i < us0.length := by rw [k1]; exact (List.getElem?_eq_some_iff.1 hc).1
      exact ih i c u hc hu (k2 i c us0[i] hc (List.getElem?_eq_getElem hlt))
  | nn h => intro v0 h0; cases h0 with | nn _ => exact .nn (h.mono hro)
  | any v => intro v0 _; exact .any v
theorem set_rep {ro2 : Snap} {tmps : List SV} {a : Go.Act} (h : ∀ t, RepS β2 ro2 (tmpAt tmps t) (a.tmps.getD t undef)) (t : Nat) {v : SV} (hv : RepS β2 ro2 v (a.tmps.getD t undef)) : ∀ s, RepS β2 ro2 (tmpAt (tmps.set t v) s) (a.tmps.getD s undef) := by
  intro s
  simp only [tmpAt, List.getElem?_set]
  by_cases hd : t = s
  · subst hd
    simp only [if_true]
    split
    · simpa using hv
    · exact .any _
  · simp only [hd, if_false]; exact h s
theorem Away.next {ro2 : Snap} {objs : Heap} {os : List Nat} (h : Src w0 β ro D O w IS) (hn : ∀ s ∈ os, s ∉ IS ∧ (O s).isSome) (haw : Away β β2 objs os) {n : Nat} {o : SO} {hd : Hd} (hb : β2 n = some hd)
    (hsrc : ∀ g, hd.blk = some g → ∃ s, s ∉ os ∧ (O s).isSome ∧ β s = some hd) : Away β β2 (putH objs n (some o)) os := by
  intro id y hh g s hs hy hb' hg hm hβs hblk
  by_cases he : id = n
  · subst he
    rw [hb] at hb'; cases hb'
    obtain ⟨s1, k1, k2, k3⟩ := hsrc g hg
    obtain ⟨o1, ho1⟩ := Option.isSome_iff_exists.1 k2
    obtain ⟨o2, ho2⟩ := Option.isSome_iff_exists.1 (hn s hm).2
    have := h.hs.inj s1 s o1 o2 _ _ g ho1 ho2 k3 hβs hg hblk
    subst this
    exact k1 hm
  · rw [putH_other _ _ he] at hy
    exact haw id y hh g s hs hy hb' hg hm hβs hblk
theorem Away.add {objs : Heap} {os : List Nat} (haw : Away β β2 objs os) {n : Nat} (hn : ∀ id o, objs id = some o → id ≠ n) (hd : Hd) : Away β (β2.add n hd) objs os := by
  intro id y hh g s hs hy hb' hg hm hβs
  have hne := hn id y hy
  rcases Pl.add_or hb' with h1 | ⟨h1, _⟩
  · exact haw id y hh g s hs hy h1 hg hm hβs
  · exact absurd h1 hne
theorem head_build (h : Src w0 β ro D O w IS) {t0 tmps : List SV} {a : Go.Act} (ht : ∀ t, RepS β ro (tmpAt tmps t) (a.tmps.getD t undef)) (hdf : a.defers = w0.defs) {β0 : Pl} {ro0 : Snap} {D0 : Nat → Prop} {N0 : Nat} (hD0 : ∀ id, D0 id → id < N0)
    (h0dom : ∀ id hd, β0 id = some hd → id < N0) (h0ext : β0.ext β) (ht0 : ∀ t, ∃ v, RepS β0 ro0 (tmpAt t0 t) v) :
    ∀ {sl : List (Nat × SigV)} {x : SigT sl} {is os : List Nat}, SigRel t0 tmps O sl x is os → (∀ i ∈ is, i ∈ IS) → (∀ s ∈ os, s ∉ IS) → os.Nodup → ∀ (H : St) (β2 : Pl), N0 ≤ H.m.next → (∀ id, id < N0 → β2 id = β id) →
      HSat w0 β2 (ro.plus β w IS) (fun id => D0 id ∨ (N0 ≤ id ∧ id < H.m.next)) H.m.objs w → Away β β2 H.m.objs os → a.tmps.size = H.tmps.length → (∀ t, RepS β2 (ro.plus β w IS) (tmpAt H.tmps t) (a.tmps.getD t undef)) →
      ∃ β3, (∀ id, id < N0 → β3 id = β id) ∧ Sat w0 β3 (ro.plus β w IS) (fun id => D0 id ∨ (N0 ≤ id ∧ id < (headSig t0 sl x H).m.next)) (headSig t0 sl x H) a w := by
  have hro : ro.ext (ro.plus β w IS) := Snap.ext_plus h.hs.snap β IS
  intro sl x is os hr
  induction hr with
  | nil =>
    intro _ _ _ H β2 hN hlo hH haw hsz hts
    exact ⟨β2, hlo, hH, hsz, hts, hdf⟩
  | @dat t e r a' i x is os htof hq ih =>
    intro hi hn hnd H β2 hN hlo hH haw hsz hts
    have hT := (tOf_rep h.hs htof (ht t)).2 IS (fun j hj => hi j (List.mem_append_left _ hj))
    exact ih (fun j hj => hi j (List.mem_append_right _ hj)) hn hnd { H with tmps := H.tmps.set t (datSV e a') } β2 hN hlo hH haw (by simpa using hsz) (set_rep hts t (datSV_rep hT))
  | @own t et e r a' o x is os ho hq ih =>
    intro hi hn hnd H β2 hN hlo hH haw hsz hts
    obtain ⟨hd, hval, hat, hsrc⟩ := own_src' h ho (fun s hs => hn s (List.mem_append_left _ hs)) (ht t)
    have hβn : β2 H.m.next = none := hH.none_of_D (not_dom hD0 hN)
    have hext := Pl.ext_add hβn hd
    have hH1 := add_obj hD0 hN hH hd (.row et e a') (hat _) (fun g hg => (hsrc g hg).1) (fun g id y hh hg hy hb he => by
      obtain ⟨_, s, rfl, hs⟩ := hsrc g hg
      exact haw id y hh g s hd hy hb he (by simp) hs hg)
    have hnd1 := List.nodup_append.1 hnd
    have haw1 : Away β (β2.add H.m.next hd) (putH H.m.objs H.m.next (some (.row et e a'))) os := by
      refine Away.next (ro2 := ro) h (fun s hs => ⟨hn s (List.mem_append_right _ hs), hq.live s hs⟩) ((haw.less fun s hs => List.mem_append_right _ hs).add (fun id o' ho' => ?_) hd) (Pl.add_same _ _ _) (fun g hg => ?_)
      · obtain ⟨hh, hb, _⟩ := hH.obj id o' ho'
        rcases hH.dom _ _ hb with h1 | h1
        · have := hD0 _ h1; omega
        · omega
      · obtain ⟨_, s, rfl, hs⟩ := hsrc g hg
        exact ⟨s, fun hm => hnd1.2.2 s (by simp) s hm rfl, ho.live s (by simp), hs⟩
    refine ih hi (fun s hs => hn s (List.mem_append_right _ hs)) hnd1.2.1 { tmps := H.tmps.set t (.own H.m.next), m := { H.m with objs := putH H.m.objs H.m.next (some (.row et e a')), next := H.m.next + 1 } } (β2.add H.m.next hd)
      (by simp only; omega) (fun id hid => ?_) hH1 haw1 (by simpa using hsz) (set_rep (fun s => (hts s).mono hext (Snap.ext_refl _)) t ?_)
    · rw [← hlo id hid]; unfold Pl.add; rw [if_neg (by omega)]
    · rw [hval]; exact .own (Pl.add_same _ _ _)
  | @var t e r a' i x is os id cs h0 h1 ho htof hq ih =>
    intro hi hn hnd H β2 hN hlo hH haw hsz hts
    have hidN : id < N0 := by
      obtain ⟨v, hv⟩ := ht0 t
      rw [h0] at hv
      cases hv with | bptr hb _ => exact h0dom _ _ hb
    obtain ⟨hd, k1, k2, k3⟩ := h.at (hn id List.mem_cons_self) ho
    obtain ⟨hd', k1', g, cur, et, m1, m2, m3⟩ := h.hs.obj id _ ho
    rw [k1] at k1'; cases k1'
    obtain ⟨u, q1, q2⟩ := mkVal_rep m3 htof
    have hT := ((tOf_rep h.hs htof q1).2 IS (fun j hj => hi j (List.mem_append_left _ hj))).1
    rw [q2] at hT
    have hb2 : β2 id = some hd := by rw [hlo id hidN]; exact k1
    have hH1 := set_obj hH hd hb2 (.blk ((cells e a').map .leaf)) ⟨g, cur, et, m1, m2, hT.toL⟩ k3 (fun g id' y hh hg hy hb he => haw id' y hh g id hd hy hb he List.mem_cons_self k1 hg)
    have hnd1 := List.nodup_cons.1 hnd
    have haw1 : Away β β2 (putH H.m.objs id (some (.blk ((cells e a').map .leaf)))) os :=
      Away.next (ro2 := ro) h (fun s hs => ⟨hn s (List.mem_cons_of_mem _ hs), hq.live s hs⟩) (haw.less fun s hs => List.mem_cons_of_mem _ hs) hb2 (fun g hg => ⟨id, hnd1.1, by simp [ho], k1⟩)
    have hval := ht t
    rw [h1] at hval
    simp only [headSig, h0]
    refine ih (fun j hj => hi j (List.mem_append_right _ hj)) (fun s hs => hn s (List.mem_cons_of_mem _ hs)) hnd1.2 { tmps := H.tmps.set t (.bptr id 0), m := { H.m with objs := putH H.m.objs id (some (.blk ((cells e a').map .leaf))) } } β2 hN hlo hH1 haw1
      (by simpa using hsz) (set_rep hts t ?_)
    generalize a.tmps.getD t undef = val at hval
    cases hval with
    | bptr hb hg => rw [k1] at hb; cases hb; exact .bptr hb2 hg
  | @cls t ks r a' i o x is os id cs h0 h1 ho hct hq ih =>
    intro hi hn hnd H β2 hN hlo hH haw hsz hts
    have hidN : id < N0 := by
      obtain ⟨v, hv⟩ := ht0 t
      rw [h0] at hv
      cases hv with | bptr hb _ => exact h0dom _ _ hb
    obtain ⟨hd, k1, k2, k3⟩ := h.at (hn id (by simp)) ho
    obtain ⟨hd', k1', g, cur, et, m1, m2, m3⟩ := h.hs.obj id _ ho
    rw [k1] at k1'; cases k1'
    have hb2 : β2 id = some hd := by rw [hlo id hidN]; exact k1
    have hnd1 : (o ++ id :: os).Nodup := (List.perm_middle.nodup_iff).2 (by simpa using hnd)
    have hnd2 := List.nodup_cons.1 (List.nodup_append.1 hnd1).2.1
    obtain ⟨β3, a1, a2, a3, a4, a5⟩ := ct_build h hD0 hct (fun j hj => hi j (List.mem_append_left _ hj)) (fun s hs => hn s (by simp [hs])) (id :: os) hnd1
      (fun s hs => by
        rcases List.mem_cons.1 hs with rfl | hs
        · exact ⟨hn s (by simp), by simp [ho]⟩
        · exact ⟨hn s (by simp [hs]), hq.live s hs⟩) cur.toList β2 H.m.objs H.m.next hN m3 hH (haw.less fun s hs => by
          rcases List.mem_append.1 hs with hs | hs
          · simp [hs]
          · rcases List.mem_cons.1 hs with rfl | hs
            · simp
            · simp [hs])
    obtain ⟨n1, n2⟩ := headCT_le ks a' H.m.next
    have hb3 : β3 id = some hd := a1 _ _ hb2
    have hH1 := set_obj a3 hd hb3 (.blk (headCT ks a' H.m.next).1) ⟨g, cur, et, m1, m2, a4⟩ k3 (fun g id' y hh hg hy hb he => a5 id' y hh g id hd hy hb he List.mem_cons_self k1 hg)
    have haw1 : Away β β3 (putH (putAll H.m.objs (headCT ks a' H.m.next).2.1) id (some (.blk (headCT ks a' H.m.next).1))) os :=
      Away.next (ro2 := ro) h (fun s hs => ⟨hn s (by simp [hs]), hq.live s hs⟩) (a5.less fun s hs => List.mem_cons_of_mem _ hs) hb3 (fun g hg => ⟨id, hnd2.1, by simp [ho], k1⟩)
    have hcomm : putH (putAll H.m.objs (headCT ks a' H.m.next).2.1) id (some (.blk (headCT ks a' H.m.next).1)) = putAll (putH H.m.objs id (some (.blk (headCT ks a' H.m.next).1))) (headCT ks a' H.m.next).2.1 := by
      have := putAll_comm [(id, some (.blk (headCT ks a' H.m.next).1))] (headCT ks a' H.m.next).2.1 H.m.objs (fun y hy hy' => by
        simp at hy; subst hy
        obtain ⟨p, hp, rfl⟩ := List.mem_map.1 hy'
        have := n2 p hp
        omega)
      simpa [putAll] using this.symm
    rw [hcomm] at hH1 haw1
    have hval := ht t
    rw [h1] at hval
    simp only [headSig, h0]
    refine ih (fun j hj => hi j (List.mem_append_right _ hj)) (fun s hs => hn s (by simp [hs])) hnd2.2
      { tmps := H.tmps.set t (.bptr id 0), m := { H.m with objs := putAll (putH H.m.objs id (some (.blk (headCT ks a' H.m.next).1))) (headCT ks a' H.m.next).2.1, next := (headCT ks a' H.m.next).2.2 } } β3
      (by simp only; omega) (fun id' hid' => by rw [a2 id' (by omega)]; exact hlo id' hid') hH1 haw1 (by simpa using hsz) (set_rep (fun s => (hts s).mono a1 (Snap.ext_refl _)) t ?_)
    generalize a.tmps.getD t undef = val at hval
    cases hval with
    | bptr hb hg => rw [k1] at hb; cases hb; exact .bptr hb3 hg
  | @wrow t et e r a' x is os id lo len h0 h1 ho hq ih =>
    intro hi hn hnd H β2 hN hlo hH haw hsz hts
    have hidN : id < N0 := by
      obtain ⟨v, hv⟩ := ht0 t
      rw [h0] at hv
      cases hv with | win hb _ _ _ _ _ => exact h0dom _ _ hb
    obtain ⟨hd, k1, k2, k3⟩ := h.at (hn id List.mem_cons_self) ho
    have hb2 : β2 id = some hd := by rw [hlo id hidN]; exact k1
    have hH1 := set_obj hH hd hb2 (.row et e a') k2 k3 (fun g id' y hh hg hy hb he => haw id' y hh g id hd hy hb he List.mem_cons_self k1 hg)
    have hnd1 := List.nodup_cons.1 hnd
    have haw1 : Away β β2 (putH H.m.objs id (some (.row et e a'))) os :=
      Away.next (ro2 := ro) h (fun s hs => ⟨hn s (List.mem_cons_of_mem _ hs), hq.live s hs⟩) (haw.less fun s hs => List.mem_cons_of_mem _ hs) hb2 (fun g hg => ⟨id, hnd1.1, by simp [ho], k1⟩)
    have hval := ht t
    rw [h1] at hval
    simp only [headSig, h0]
    refine ih hi (fun s hs => hn s (List.mem_cons_of_mem _ hs)) hnd1.2 { tmps := H.tmps.set t (.win id lo len), m := { H.m with objs := putH H.m.objs id (some (.row et e a')) } } β2 hN hlo hH1 haw1
      (by simpa using hsz) (set_rep hts t ?_)
    generalize a.tmps.getD t undef = val at hval
    cases hval with
    | win hb q1 q2 q3 q4 q5 => rw [k1] at hb; cases hb; exact .win hb2 q1 q2 q3 q4 q5
  | @same t r x is os hsm hq ih =>
    intro hi hn hnd H β2 hN hlo hH haw hsz hts
    obtain ⟨v0, hv0⟩ := ht0 t
    have hv := ht t
    rw [← hsm] at hv
    refine ih hi hn hnd { H with tmps := H.tmps.set t (tmpAt t0 t) } β2 hN hlo hH haw (by simpa using hsz) (set_rep hts t (RepS.low (fun id hd hb => hlo id (h0dom id hd hb)) hro hv hv0))
end Go.Cat

namespace Go.Cat
open Go
variable {P : Program} {E : Env} {w0 : Pt} {β β2 : Pl} {ro : Snap} {D : Nat → Prop} {O : Heap} {w : World} {IS : List Nat}
theorem distinctB_nodup : ∀ {l : List Nat}, distinctB l = true → l.Nodup
  | [], _ => List.nodup_nil
  | a :: r, h => by
    simp only [distinctB, Bool.and_eq_true, Bool.not_eq_true'] at h
    exact List.nodup_cons.2 ⟨inB_mem h.1, distinctB_nodup h.2⟩
theorem inB_true {n : Nat} : ∀ {l : List Nat}, inB n l = true → n ∈ l
  | [], h => by simp [inB] at h
  | m :: r, h => by
    simp only [inB] at h
    cases hb : Nat.beq n m with
    | true => rw [Nat.eq_of_beq_eq_true hb]; exact List.mem_cons_self
    | false => simp only [hb] at h; exact List.mem_cons_of_mem _ (inB_true h)
theorem onlyWrote_spec {n : Nat} {ids wl : List Nat} (h : onlyWrote n ids wl = true) : ∀ i ∈ wl, n ≤ i ∨ i ∈ ids := by
  intro i hi
  have := List.all_eq_true.1 h i hi
  simp only [Bool.or_eq_true] at this
  exact this.imp Nat.le_of_ble_eq_true inB_true
theorem headSig_frame {t0 tmps : List SV} : ∀ {sl : List (Nat × SigV)} {x : SigT sl} {is os : List Nat}, SigRel t0 tmps O sl x is os → ∀ (y : SigT sl) (H : St),
    H.m.next ≤ (headSig t0 sl y H).m.next ∧ (headSig t0 sl y H).m.wl = H.m.wl ∧ (headSig t0 sl y H).tmps.length = H.tmps.length ∧ ∀ id, id < H.m.next → id ∉ os → (headSig t0 sl y H).m.objs id = H.m.objs id := by
  intro sl x is os hr
  induction hr with
  | nil => intro y H; exact ⟨Nat.le_refl _, rfl, rfl, fun _ _ _ => rfl⟩
  | @dat t e r a i x is os _ _ ih =>
    intro ⟨b, y⟩ H
    obtain ⟨h1, h2, h3, h4⟩ := ih y { H with tmps := H.tmps.set t (datSV e b) }
    exact ⟨h1, h2, h3.trans (by simp), h4⟩
  | @own t et e r a o x is os _ _ ih =>
    intro ⟨b, y⟩ H
    obtain ⟨h1, h2, h3, h4⟩ := ih y { tmps := H.tmps.set t (.own H.m.next), m := { H.m with objs := putH H.m.objs H.m.next (some (.row et e b)), next := H.m.next + 1 } }
    simp only at h1 h2 h4
    refine ⟨Nat.le_trans (Nat.le_succ _) h1, h2, h3.trans (by simp), fun id hid hn => ?_⟩
    have := h4 id (by omega) (fun hm => hn (List.mem_append_right _ hm))
    rw [putH_other _ _ (by omega)] at this
    exact this
  | @var t e r a i x is os id cs h0 h1 ho _ _ ih =>
    intro ⟨b, y⟩ H
    simp only [headSig, h0]
    obtain ⟨q1, q2, q3, q4⟩ := ih y { tmps := H.tmps.set t (.bptr id 0), m := { H.m with objs := putH H.m.objs id (some (.blk ((cells e b).map .leaf))) } }
    refine ⟨q1, q2, by simpa using q3, fun id' hid hn => ?_⟩
    have := q4 id' hid (fun hm => hn (List.mem_cons_of_mem _ hm))
    simp only at this
    rw [putH_other _ _ (fun e => hn (by rw [e]; exact List.mem_cons_self))] at this
    exact this
  | @cls t ks r a i o x is os id cs h0 h1 ho _ _ ih =>
    intro ⟨b, y⟩ H
    simp only [headSig, h0]
    obtain ⟨n1, n2⟩ := headCT_le ks b H.m.next
    obtain ⟨q1, q2, q3, q4⟩ := ih y { tmps := H.tmps.set t (.bptr id 0), m := { H.m with objs := putAll (putH H.m.objs id (some (.blk (headCT ks b H.m.next).1))) (headCT ks b H.m.next).2.1, next := (headCT ks b H.m.next).2.2 } }
    simp only at q1 q2 q4
    refine ⟨by omega, q2, by simpa using q3, fun id' hid hn => ?_⟩
    have := q4 id' (by omega) (fun hm => hn (List.mem_append_right _ hm))
    rw [putAll_out _ _ id' (fun hm => by
      obtain ⟨p, hp, rfl⟩ := List.mem_map.1 hm
      have := n2 p hp
      omega), putH_other _ _ (fun e => hn (by rw [e]; simp))] at this
    exact this
  | @wrow t et e r a x is os id lo len h0 h1 ho _ ih =>
    intro ⟨b, y⟩ H
    simp only [headSig, h0]
    obtain ⟨q1, q2, q3, q4⟩ := ih y { tmps := H.tmps.set t (.win id lo len), m := { H.m with objs := putH H.m.objs id (some (.row et e b)) } }
    refine ⟨q1, q2, by simpa using q3, fun id' hid hn => ?_⟩
    have := q4 id' hid (fun hm => hn (List.mem_cons_of_mem _ hm))
    simp only at this
    rw [putH_other _ _ (fun e => hn (by rw [e]; exact List.mem_cons_self))] at this
    exact this
  | @same t r x is os _ _ ih =>
    intro y H
    obtain ⟨h1, h2, h3, h4⟩ := ih y { H with tmps := H.tmps.set t (tmpAt t0 t) }
    exact ⟨h1, h2, h3.trans (by simp), h4⟩
theorem ObjAt.low {β0 β β2 : Pl} {ro0 ro : Snap} {w0 w : World} {h0 h : Hd} {o : SO} (hβ : ∀ id hd, β0 id = some hd → β2 id = β id) (ho : ObjAt β ro w h o) (h0' : ObjAt β0 ro0 w0 h0 o) : ObjAt β2 ro w h o := by
  cases o with
  | row et e xs => exact ho
  | blk cs =>
    obtain ⟨g, cur, et, h1, h2, h3⟩ := ho
    obtain ⟨g0, cur0, et0, k1, k2, k3⟩ := h0'
    refine ⟨g, cur, et, h1, h2, h3.1, fun i c u hc hu => ?_⟩
    have hlt : i < cur0.toList.length := by rw [k3.1]; exact (List.getElem?_eq_some_iff.1 hc).1
    exact RepS.low hβ (Snap.ext_refl _) (h3.2 i c u hc hu) (k3.2 i c _ hc (List.getElem?_eq_getElem hlt))
structure Entry (w0 : Pt) (S : St) (β0 : Pl) (D0 : Nat → Prop) : Prop where
  lt : ∀ id, D0 id → id < S.m.next
  ex : ∃ (ro0 : Snap) (a : Go.Act) (we : World), Sat w0 β0 ro0 D0 S a we
theorem relay {S S' : St} {β0 : Pl} {D0 : Nat → Prop} (he : Entry w0 S β0 D0) (hDD : ∀ id, D id → D0 id ∨ S.m.next ≤ id) (hβ0 : β0.ext β) {a : Go.Act} (hs : Sat w0 β ro D S' a w) (hlen : S'.tmps.length = S.tmps.length) {sl : List (Nat × SigV)} {y : SigT sl} {js js' rs rs' : List Nat}
    (hy : (sigOf S.tmps S'.tmps sl).run S'.m.objs rs = some ((y, js'), rs')) (hlink : ∀ id, id < S.m.next → id ∉ js → S'.m.objs id = S.m.objs id ∧ id ∉ js') :
    ∃ β3 ro3, β0.ext β3 ∧ ro.ext ro3 ∧ Sat w0 β3 ro3 (fun id => D0 id ∨ (S.m.next ≤ id ∧ id < (loopHead S.tmps S.m js sl y).m.next)) (loopHead S.tmps S.m js sl y) a w := by
  obtain ⟨is, os, rfl, hsig, hd, hm⟩ := sigOf_run hy
  obtain ⟨ro0, a0, we, h0⟩ := he.ex
  have live : ∀ i ∈ is, (S'.m.objs i).isSome := by
    have gen : ∀ {sl : List (Nat × SigV)} {x : SigT sl} {is os : List Nat}, SigRel S.tmps S'.tmps S'.m.objs sl x is os → ∀ i ∈ is, (S'.m.objs i).isSome := by
      intro sl x is os hr
      have ctl : ∀ {ks : List CK} {vs : List SV} {us : List Value} {x : CT ks} {is os : List Nat}, CTRel S'.m.objs ks vs x is os → RepL β ro vs us → ∀ i ∈ is, (S'.m.objs i).isSome := by
        intro ks vs us x is os hct
        induction hct generalizing us with
        | nil => intro _; simp
        | int h _ ih => intro hr; obtain ⟨u, us', rfl, h1, h2⟩ := hr.of_cons; exact fun i hi => (List.mem_append.1 hi).elim ((tOf_rep hs.h h h1).1 i) (ih h2 i)
        | bool h _ ih => intro hr; obtain ⟨u, us', rfl, h1, h2⟩ := hr.of_cons; exact fun i hi => (List.mem_append.1 hi).elim ((tOf_rep hs.h h h1).1 i) (ih h2 i)
        | str h _ ih => intro hr; obtain ⟨u, us', rfl, h1, h2⟩ := hr.of_cons; exact fun i hi => (List.mem_append.1 hi).elim ((tOf_rep hs.h h h1).1 i) (ih h2 i)
        | sl h _ ih => intro hr; obtain ⟨u, us', rfl, h1, h2⟩ := hr.of_cons; exact fun i hi => (List.mem_append.1 hi).elim ((tOf_rep hs.h h h1).1 i) (ih h2 i)
        | own _ _ ih => intro hr; obtain ⟨u, us', rfl, h1, h2⟩ := hr.of_cons; exact ih h2
      induction hr with
      | nil => simp
      | dat h _ ih => exact fun i hi => (List.mem_append.1 hi).elim ((tOf_rep hs.h h (hs.t _)).1 i) (ih i)
      | own _ _ ih => exact ih
      | var _ _ ho h _ ih =>
        obtain ⟨hd, b1, g, cur, et, m1, m2, m3⟩ := hs.h.obj _ _ ho
        obtain ⟨u, q1, q2⟩ := mkVal_rep m3 h
        exact fun i hi => (List.mem_append.1 hi).elim ((tOf_rep hs.h h q1).1 i) (ih i)
      | cls _ _ ho h _ ih =>
        obtain ⟨hd, b1, g, cur, et, m1, m2, m3⟩ := hs.h.obj _ _ ho
        exact fun i hi => (List.mem_append.1 hi).elim (ctl h m3 i) (ih i)
      | same _ _ ih => exact ih
      | wrow _ _ _ _ ih => exact ih
    exact gen hsig
  have hsrc : Src w0 β ro D S'.m.objs w is := ⟨hs.h, live⟩
  have hro := Snap.ext_plus hs.h.snap β is
  have hF := hs.h.freeze is live
  let β2 : Pl := fun id => if id < S.m.next then β id else none
  have hlow : ∀ id hd, β0 id = some hd → β2 id = β id := fun id hd hb => by
    have : id < S.m.next := he.lt id (h0.h.dom id hd hb)
    simp [β2, this]
  have hobj : ∀ id o, putAll S.m.objs (freezeAll (js)) id = some o → id ∉ js ∧ id < S.m.next ∧ S.m.objs id = some o ∧ S'.m.objs id = some o ∧ id ∉ is ++ os ∧ putAll S'.m.objs (freezeAll is) id = some o := by
    intro id o ho
    rw [putAll_freeze] at ho
    split at ho
    · cases ho
    · rename_i hn
      obtain ⟨hh, hb, _⟩ := h0.h.obj id o ho
      have hlt := he.lt id (h0.h.dom id hh hb)
      obtain ⟨l1, l2⟩ := hlink id hlt hn
      refine ⟨hn, hlt, ho, by rw [l1]; exact ho, l2, ?_⟩
      rw [putAll_freeze, if_neg (fun h => l2 (List.mem_append_left _ h)), l1]
      exact ho
  have hH : HSat w0 β2 (ro.plus β w is) (fun id => D0 id ∨ (S.m.next ≤ id ∧ id < S.m.next)) (putAll S.m.objs (freezeAll js)) w := by
    have sub : ∀ id hd, β2 id = some hd → id < S.m.next ∧ β id = some hd := by
      intro id hd hb
      simp only [β2] at hb
      split at hb
      · exact ⟨by assumption, hb⟩
      · cases hb
    refine ⟨hF.base, hF.low, hF.old, hF.snap, fun id hd hb => (hDD id (hs.h.dom id hd (sub id hd hb).2)).elim .inl (fun h => by have := (sub id hd hb).1; omega), fun id hd g hb hg => hF.lt id hd g (sub id hd hb).2 hg, fun id o ho => ?_, fun id o hd g ho hb hg => ?_, fun id o hd g ho hb hg => hF.above id o hd g (hobj id o ho).2.2.2.2.2 (sub id hd hb).2 hg, fun id id' o o' hd hd' g ho ho' hb hb' hg hg' => ?_⟩
    · obtain ⟨q1, q2, q3, q4, q5, q6⟩ := hobj id o ho
      obtain ⟨hd, k1, k2⟩ := hF.obj id o q6
      obtain ⟨hd0, j1, j2⟩ := h0.h.obj id o q3
      exact ⟨hd, by simp only [β2, q2, if_true]; exact k1, ObjAt.low hlow k2 j2⟩
    · exact hF.apart id o hd g (hobj id o ho).2.2.2.2.2 (sub id hd hb).2 hg
    · exact hF.inj id id' o o' hd hd' g (hobj id o ho).2.2.2.2.2 (hobj id' o' ho').2.2.2.2.2 (sub id hd hb).2 (sub id' hd' hb').2 hg hg'
  have haw : Away β β2 (putAll S.m.objs (freezeAll js)) os := by
    intro id o hd g s hh ho hb hg hms hbs he
    obtain ⟨q1, q2, q3, q4, q5, q6⟩ := hobj id o ho
    obtain ⟨o2, ho2⟩ := Option.isSome_iff_exists.1 (hsig.live s hms)
    have hb' : β id = some hd := by simpa [β2, q2] using hb
    have := hs.h.inj id s o o2 hd hh g q4 ho2 hb' hbs hg he
    subst this
    exact q5 (List.mem_append_right _ hms)
  obtain ⟨β3, k1, k2⟩ := head_build hsrc (t0 := S.tmps) (ro0 := ro0) hs.t hs.df (N0 := S.m.next) he.lt (fun id hd hb => he.lt id (h0.h.dom id hd hb)) hβ0 (fun t => ⟨_, h0.t t⟩) hsig (fun i hi => hi) (fun s hms hmi => meet_false hm s hms hmi)
    (distinctB_nodup hd) { tmps := S.tmps.map fun _ => .any, m := { objs := putAll S.m.objs (freezeAll js), next := S.m.next, wl := [] } } β2 (Nat.le_refl _) (fun id hid => by simp [β2, hid]) hH haw (by simp [hs.sz, hlen]) (fun t => by
      have : tmpAt (S.tmps.map fun _ => SV.any) t = .any := by
        simp only [tmpAt, List.getElem?_map]
        cases S.tmps[t]? <;> rfl
      simp only [this]
      exact .any _)
  refine ⟨β3, _, fun id hd hb => ?_, hro, k2⟩
  rw [k1 id (he.lt id (h0.h.dom id hd hb))]
  exact hβ0 _ _ hb
theorem loop_good : LoopGood P E := by
  intro c body hb sl X S k r h
  obtain ⟨⟨x, js⟩, rs0, hx, hden⟩ := OT.k_den _ _ h
  simp only [Tr.den] at hden
  obtain ⟨n, hn⟩ := loopO_iff.1 hden
  obtain ⟨is0, os0, hjs, hsig0, _, _⟩ := sigOf_run hx
  have key : ∀ (n : Nat) (l : SigT sl), iter (fun l => (body (loopHead S.tmps S.m js sl l) fun e S' => match e with
        | .normal => (sigOf S.tmps S'.tmps sl).k S'.m.objs [] fun q _ => match q with
          | (y, js') => match onlyWrote S.m.next js (js' ++ S'.m.wl) && Nat.beq S'.tmps.length S.tmps.length with
            | true => .ret (.inl y)
            | false => .fail
        | e => .map .inr (k e { S' with m := { S'.m with wl := S'.m.wl ++ js ++ S.m.wl } })).den) n l = some r →
      ∃ e S', (k e S').den = some r ∧ MFrame S.m S'.m ∧ ∀ (w0 : Pt) (β0 : Pl) (ro : Snap) (D0 : Nat → Prop) (a : Go.Act) (w : World) (Q : Exit → Go.Act → World → Prop), Entry w0 S β0 D0 →
        (∃ β ro1, β0.ext β ∧ ro.ext ro1 ∧ Sat w0 β ro1 (fun id => D0 id ∨ (S.m.next ≤ id ∧ id < (loopHead S.tmps S.m js sl l).m.next)) (loopHead S.tmps S.m js sl l) a w) →
        (∀ a' w' β' ro', β0.ext β' → ro.ext ro' → Sat w0 β' ro' (fun id => D0 id ∨ (S.m.next ≤ id ∧ id < S'.m.next)) S' a' w' → Q (exitOf e) a' w') → Code.rounds P c Q n a w := by
    intro n
    induction n with
    | zero => intro l h; simp [iter] at h
    | succ n ih =>
      intro l h
      simp only [iter] at h
      split at h
      · cases h
      · rename_i y hz
        obtain ⟨e, S1, h1, h2, h3⟩ := hb _ _ _ hz
        have hfr := headSig_frame hsig0 l { tmps := S.tmps.map fun _ => .any, m := { objs := putAll S.m.objs (freezeAll js), next := S.m.next, wl := [] } }
        cases e with
        | normal =>
          simp only at h1
          obtain ⟨⟨y', js'⟩, rs', hy', hd'⟩ := OT.k_den _ _ h1
          simp only at hd'
          split at hd'
          · rename_i hchk
            simp only [Bool.and_eq_true] at hchk
            simp only [Tr.den] at hd'
            cases hd'
            obtain ⟨e', S', k1, k2, k3⟩ := ih y h
            refine ⟨e', S', k1, k2, fun w0 β0 ro D0 a w Q hent hhead hq => ?_⟩
            obtain ⟨β, ro1, g1, g2, g3⟩ := hhead
            rw [rounds_succ]
            refine h3 w0 β ro1 _ a w _ (then_lt hent.lt hfr.1) g3 fun a' w' β' ro' q1 q2 q3 => ?_
            have hw := onlyWrote_spec hchk.1
            obtain ⟨hn1, new, hn2, hn3⟩ := h2
            have hlink : ∀ id, id < S.m.next → id ∉ js → S1.m.objs id = S.m.objs id ∧ id ∉ js' := by
              intro id hid hnj
              have hnot : ∀ i ∈ js' ++ S1.m.wl, i ≠ id := by
                rintro i hi rfl
                rcases hw i hi with h | h
                · omega
                · exact hnj h
              refine ⟨?_, fun hm => hnot id (List.mem_append_left _ hm) rfl⟩
              have hwl : S1.m.wl = new := by rw [hn2]; simp [loopHead, hfr.2.1]
              rw [hn3 id (Nat.lt_of_lt_of_le hid hfr.1) (fun hm => hnot id (List.mem_append_right _ (hwl ▸ hm)) rfl)]
              have := hfr.2.2.2 id hid (fun hm => hnj (hjs ▸ List.mem_append_right _ hm))
              simp only [loopHead]
              rw [this]
              simp only
              rw [putAll_freeze, if_neg hnj]
            obtain ⟨β3, ro3, r1, r2, r3⟩ := relay hent (fun id hid => by
              rcases hid with (h | h) | h
              · exact .inl h
              · exact .inr h.1
              · exact .inr (Nat.le_trans hfr.1 h.1)) (Pl.ext_trans g1 q1) q3 (Nat.eq_of_beq_eq_true hchk.2) hy' hlink
            exact k3 w0 β0 ro D0 a' w' Q hent ⟨β3, ro3, r1, Snap.ext_trans g2 (Snap.ext_trans q2 r2), r3⟩ hq
          · simp [Tr.den] at hd'
        | exit i =>
          obtain ⟨r', d1, d2⟩ := map_den _ _ _ h1
          cases d2
        | goto i =>
          obtain ⟨r', d1, d2⟩ := map_den _ _ _ h1
          cases d2
        | ret =>
          obtain ⟨r', d1, d2⟩ := map_den _ _ _ h1
          cases d2
      · rename_i r1 hz
        cases h
        obtain ⟨e, S1, h1, h2, h3⟩ := hb _ _ _ hz
        have hfr := headSig_frame hsig0 l { tmps := S.tmps.map fun _ => .any, m := { objs := putAll S.m.objs (freezeAll js), next := S.m.next, wl := [] } }
        have fin : ∀ (e : Ex), e ≠ .normal → CodeSem P c (loopHead S.tmps S.m js sl l) e S1 → (Tr.map Sum.inr (k e { S1 with m := { S1.m with wl := S1.m.wl ++ js ++ S.m.wl } })).den = some (Sum.inr (α := SigT sl) r) →
            ∃ e S', (k e S').den = some r ∧ MFrame S.m S'.m ∧ ∀ (w0 : Pt) (β0 : Pl) (ro : Snap) (D0 : Nat → Prop) (a : Go.Act) (w : World) (Q : Exit → Go.Act → World → Prop), Entry w0 S β0 D0 →
              (∃ β ro1, β0.ext β ∧ ro.ext ro1 ∧ Sat w0 β ro1 (fun id => D0 id ∨ (S.m.next ≤ id ∧ id < (loopHead S.tmps S.m js sl l).m.next)) (loopHead S.tmps S.m js sl l) a w) →
              (∀ a' w' β' ro', β0.ext β' → ro.ext ro' → Sat w0 β' ro' (fun id => D0 id ∨ (S.m.next ≤ id ∧ id < S'.m.next)) S' a' w' → Q (exitOf e) a' w') → Code.rounds P c Q (n + 1) a w := by
          intro e hne hsem hden
          obtain ⟨r', d1, d2⟩ := map_den _ _ _ hden
          cases d2
          refine ⟨e, _, d1, ?_, fun w0 β0 ro D0 a w Q hent hhead hq => ?_⟩
          · obtain ⟨hn1, new, hn2, hn3⟩ := h2
            have hwl : S1.m.wl = new := by rw [hn2]; simp [loopHead, hfr.2.1]
            refine ⟨Nat.le_trans hfr.1 hn1, S1.m.wl ++ js, rfl, fun id hid hn => ?_⟩
            simp only [List.mem_append, not_or] at hn
            simp only
            rw [hn3 id (Nat.lt_of_lt_of_le hid hfr.1) (hwl ▸ hn.1)]
            have := hfr.2.2.2 id hid (fun hm => hn.2 (hjs ▸ List.mem_append_right _ hm))
            simp only [loopHead]
            rw [this]
            simp only
            rw [putAll_freeze, if_neg hn.2]
          · obtain ⟨β, ro1, g1, g2, g3⟩ := hhead
            rw [rounds_succ]
            refine hsem w0 β ro1 _ a w _ (then_lt hent.lt hfr.1) g3 fun a' w' β' ro' q1 q2 q3 => ?_
            have := hq a' w' β' ro' (Pl.ext_trans g1 q1) (Snap.ext_trans g2 q2) (Sat.less ⟨q3.h, q3.sz, q3.t, q3.df⟩ (then_sub hfr.1 h2.1))
            cases e with
            | normal => exact absurd rfl hne
            | exit i => exact this
            | goto i => exact this
            | ret => exact this
        cases e with
        | normal =>
          simp only at h1
          obtain ⟨⟨y', js'⟩, rs', hy', hd'⟩ := OT.k_den _ _ h1
          simp only at hd'
          split at hd'
          · simp only [Tr.den] at hd'; cases hd'
          · simp [Tr.den] at hd'
        | exit i => exact fin _ (by simp) h3 h1
        | goto i => exact fin _ (by simp) h3 h1
        | ret => exact fin _ (by simp) h3 h1
  obtain ⟨e, S', k1, k2, k3⟩ := key n x hn
  refine ⟨e, S', k1, k2, fun w0 β ro D0 a w Q hD hs hq => wp_loop_rounds n ?_⟩
  have hent : Entry w0 S β D0 := ⟨hD, ro, a, w, hs⟩
  obtain ⟨β3, ro3, r1, r2, r3⟩ := relay (js := js) hent (fun _ h => .inl h) β.ext_refl hs rfl hx (fun id _ hn => ⟨rfl, hn⟩)
  exact k3 w0 β ro D0 a w Q hent ⟨β3, ro3, r1, r2, r3⟩ hq
end Go.Cat

namespace Go.Cat
open Go
variable {P : Program} {E : Env} {w0 : Pt} {β : Pl} {ro : Snap} {D : Nat → Prop} {w : World}
def resultOf (tmps : Array Value) : ResultVar → Sem Value
  | .tmp t => pure (tmps.getD t undef)
  | .cell a t => do loadVar t (← asAddr (tmps.getD a undef))
theorem resultsT_sound (hE : TysOk P E) {S : St} {a : Go.Act} (hs : Sat w0 β ro D S a w) : ∀ (rl : List ResultVar) {f : List SV → OT Ans} {rs : List Nat} {r : Ans × List Nat}, (resultsT E S.tmps rl f).run S.m.objs rs = some r →
    ∃ svs rs' us, (f svs).run S.m.objs rs' = some r ∧ (rl.mapM (resultOf a.tmps)).run P w = .ok us w ∧ RepL β ro svs us
  | [], f, rs, r, h => ⟨[], rs, [], h, by simp, .nil _ _⟩
  | .tmp t :: rl, f, rs, r, h => by
    simp only [resultsT] at h
    split at h
    · rename_i v hv
      obtain ⟨svs, rs', us, h1, h2, h3⟩ := resultsT_sound hE hs rl h
      have := hs.t t
      simp only [tmpAt, hv, Option.getD_some] at this
      exact ⟨v :: svs, rs', a.tmps.getD t undef :: us, h1, by simp [List.mapM_cons, resultOf, h2], .cons this h3⟩
    · simp [OT.run] at h
  | .cell ad t :: rl, f, rs, r, h => by
    simp only [resultsT] at h
    split at h
    · rename_i i id off hl ht
      simp only [OT.run] at h
      have hv := hs.t ad
      rw [ht] at hv
      cases ho : S.m.objs id with
      | none => simp [ho, OT.run] at h
      | some o =>
        cases o with
        | row et e xs => simp [ho, OT.run] at h
        | blk cs =>
          simp only [ho] at h
          obtain ⟨hd, hb, g, cur, et, m1, m2, m3⟩ := hs.h.obj id _ ho
          have key : ∀ (v : SV), (loadCs i cs off).run S.m.objs [] = some ((v, []), []) → ∀ (rs' : List Nat), (resultsT E S.tmps rl fun vs => f (v :: vs)).run S.m.objs rs' = some r →
              ∃ svs rs' us, (f svs).run S.m.objs rs' = some r ∧ ((.cell ad t :: rl).mapM (resultOf a.tmps)).run P w = .ok us w ∧ RepL β ro svs us := by
            intro v hload rs1 hr
            obtain ⟨svs, rs', us, h1, h2, h3⟩ := resultsT_sound hE hs rl hr
            obtain ⟨_, x, l1, l2⟩ := loadCs_sound (w := w) (b := g) (o := 0) (hE.look hl) hload m3 (fun j x hj => by
              rw [Nat.zero_add, cell_of_row w g j cur et (0, 0) m2]
              simpa using hj)
            rw [Nat.zero_add] at l1
            refine ⟨v :: svs, rs', x :: us, h1, ?_, .cons l2 h3⟩
            generalize hval : a.tmps.getD ad undef = val at hv
            cases hv with
            | bptr hb' hg =>
              rw [hb] at hb'; cases hb'
              rw [m1] at hg; cases hg
              simp [List.mapM_cons, resultOf, hval, asAddr, l1, h2]
          split at h
          · rename_i h1 h2
            refine key _ ?_ _ h
            simp only [loadCs, h1, aggOr, h2, ret, OT.run]
          · rename_i c h1 h2 h3
            refine key _ ?_ _ h
            unfold loadCs
            simp only [h3] at h1 ⊢
            simp only [h1, aggOr, h2, ret, OT.run]
          · simp [OT.run] at h
    · simp [OT.run] at h
theorem oneOr_rep {svs : List SV} {us : List Value} (h : RepL β ro svs us) : RepS β ro (oneOr svs) (if hh : us.toArray.size = 1 then us.toArray[0] else .tuple us.toArray) := by
  unfold oneOr
  split
  · obtain ⟨u, us', rfl, h1, h2⟩ := h.of_cons
    rw [h2.of_nil]
    simpa using h1
  · rename_i hn
    have : us.toArray.size ≠ 1 := by
      intro he
      have hl : svs.length = 1 := by rw [← h.1]; simpa using he
      match svs, hl with
      | [v], _ => exact hn v rfl
    rw [dif_neg this]
    exact .tup h.1 h.2
theorem results_run {fn : Func} {tmps : Array Value} {us : List Value} (h : (fn.results.toList.mapM (resultOf tmps)).run P w = .ok us w) : (results fn tmps).run P w = .ok (if hh : us.toArray.size = 1 then us.toArray[0] else .tuple us.toArray) w := by
  unfold results
  have e : (fn.results.mapM (resultOf tmps)).run P w = .ok us.toArray w := by
    rw [Array.mapM_eq_mapM_toList]
    simp [h]
  have hfun : ∀ g : ResultVar → Sem Value, (∀ r, g r = resultOf tmps r) → (fn.results.mapM g).run P w = .ok us.toArray w := fun g hg => by
    rw [show g = resultOf tmps from funext hg]; exact e
  rw [Sem.run_bind, hfun _ (fun r => by cases r <;> rfl)]
  rfl
def CallR (P : Program) : CallRel := fun n as m v m' => Enters P n ∧ MFrame m m' ∧
  ∀ (w0 : Pt) (β : Pl) (ro : Snap) (D : Nat → Prop) (w : World) (vs : List Value), HSat w0 β ro D m.objs w → (∀ id, D id → id < m.next) → RepL β ro as vs →
    Calls P n vs.toArray w (CallPost w0 β ro (fun id => D id ∨ (m.next ≤ id ∧ id < m'.next)) m'.objs v)
theorem callGood : CallGood P (CallR P) := ⟨fun _ _ _ _ _ h => h⟩
structure InlOk (P : Program) (E : Env) : Prop where
  ok : ∀ f fn, look E.inl f = some fn → P.funcs[f]? = some fn ∧ (fn.name == "runtime.NumGoroutine") = false
theorem init_sat {m : Mem} {args : List SV} {vs : List Value} (hH : HSat w0 β ro D m.objs w) (hv : RepL β ro args vs) (n : Nat) :
    Sat { w0 with defs := [] } β ro D { tmps := args ++ List.replicate (n - args.length) (.lit (.tuple #[])), m } { tmps := vs.toArray ++ Array.replicate (n - vs.toArray.size) undef, defers := [] } w := by
  have hlen : vs.length = args.length := hv.1
  refine ⟨hH.defs [], by simp [hlen], fun t => ?_, rfl⟩
  have hL : RepL β ro (args ++ List.replicate (n - args.length) (.lit (.tuple #[]))) (vs ++ List.replicate (n - vs.length) undef) := by
    refine hv.append ⟨by simp [hlen], fun i c u hc hu => ?_⟩
    rw [List.getElem?_replicate] at hc hu
    split at hc
    · split at hu
      · cases hc; cases hu; exact .lit (.inr rfl)
      · cases hu
    · cases hc
  have harr : vs.toArray ++ Array.replicate (n - vs.toArray.size) undef = (vs ++ List.replicate (n - vs.length) undef).toArray := by
    apply Array.ext'
    simp
  rw [harr]
  simp only [tmpAt, Array.getD_eq_getD_getElem?, List.getElem?_toArray]
  cases hc : (args ++ List.replicate (n - args.length) (SV.lit (.tuple #[])))[t]? with
  | none => exact .any _
  | some c =>
    have hlt : t < (vs ++ List.replicate (n - vs.length) undef).length := by rw [hL.1]; exact (List.getElem?_eq_some_iff.1 hc).1
    rw [List.getElem?_eq_getElem hlt]
    exact hL.2 t c _ hc (List.getElem?_eq_getElem hlt)
theorem body_good (hE : TysOk P E) (hS : SpecSound P E) (hmix : P.follows .mixedOrders = true) {call : CallK} (hcall : CallDen (CallR P) call) {f : Nat} {fn : Func} (hf : P.funcs[f]? = some fn) (hname : (fn.name == "runtime.NumGoroutine") = false)
    {c : Code} (hb : fn.body = some c) {X : Type} {args : List SV} {m : Mem} {k : SV → Mem → Tr X} {r : X}
    (h : (codeK E call f c { tmps := args ++ List.replicate (fn.ntmps - args.length) (.lit (.tuple #[])), m } fun e S' => match e with
        | .normal | .ret => (resultsT E S'.tmps fn.results.toList fun vs => ret (oneOr vs)).k S'.m.objs [] fun v _ => k v.1 S'.m
        | _ => .fail).den = some r) : ∃ v m', CallR P f args m v m' ∧ (k v m').den = some r := by
  obtain ⟨e, S', h1, h2, h3⟩ := codeK_good hE callGood hS hmix loop_good hcall f c _ _ r h
  have fin : exitOf e = .normal ∨ exitOf e = .ret → ((resultsT E S'.tmps fn.results.toList fun vs => ret (oneOr vs)).k S'.m.objs [] fun v _ => k v.1 S'.m).den = some r → ∃ v m', CallR P f args m v m' ∧ (k v m').den = some r := by
    intro he hd
    obtain ⟨⟨v, u⟩, rs, k1, k2⟩ := OT.k_den _ _ hd
    refine ⟨v, S'.m, ⟨⟨fn, hf, hname, by simp [hb]⟩, h2, fun w0 β ro D w vs hH hD hv => ?_⟩, k2⟩
    refine calls_of_wp hf hb ?_
    refine h3 { w0 with defs := [] } β ro D _ w _ hD (init_sat hH hv fn.ntmps) fun a' w' β' ro' q1 q2 q3 => ?_
    obtain ⟨svs, rs', us, r1, r2, r3⟩ := resultsT_sound hE q3 fn.results.toList k1
    obtain ⟨rfl, rfl⟩ := ret_inv r1
    have hpost : bodyPost P fn (CallPost w0 β ro (fun id => D id ∨ (m.next ≤ id ∧ id < S'.m.next)) S'.m.objs (oneOr svs)) .normal a' w' :=
      ⟨q3.df, _, results_run r2, _, β', ro', rfl, q1, q2, oneOr_rep r3, q3.h.undefs⟩
    rcases he with he | he
    · rw [he]; exact hpost
    · rw [he]; exact hpost
  cases e with
  | normal => exact fin (.inl rfl) h1
  | ret => exact fin (.inr rfl) h1
  | exit i => simp [Tr.den] at h1
  | goto i => simp [Tr.den] at h1
theorem callK_den (hE : TysOk P E) (hS : SpecSound P E) (hmix : P.follows .mixedOrders = true) (hI : InlOk P E) : ∀ n, CallDen (CallR P) (callK E n)
  | 0 => ⟨fun n as m k r h => by simp [callK, Tr.den] at h⟩
  | n + 1 => ⟨fun f as m k r h => by
    simp only [callK] at h
    split at h
    · simp [Tr.den] at h
    · rename_i fn hl
      split at h
      · simp [Tr.den] at h
      · rename_i c hb
        obtain ⟨hf, hname⟩ := hI.ok f fn hl
        exact body_good hE hS hmix (callK_den hE hS hmix hI n) hf hname hb h⟩
end Go.Cat
