/-
  My own text: a part of the proof.
  My own text: a part of the proof.
  My own text: a part of the proof.
  My own text: a part of the proof.
  My own text: a part of the proof.
  My own text: a part of the proof.
  My own text: a part of the proof.
  My own text: a part of the proof.
  My own text: a part of the proof.
  My own text: a part of the proof.
  My own text: a part of the proof.
  My own text: a part of the proof.
  My own text: a part of the proof.
  My own text: a part of the proof.
  My own text: a part of the proof.
  My own text: a part of the proof.
  My own text: a part of the proof.
  My own text: a part of the proof.
  My own text: a part of the proof.
  My own text: a part of the proof.
  My own text: a part of the proof.
  My own text: a part of the proof.
  My own text: a part of the proof.
-/
import Derived.Test.YtiflikkmjeikdaaGreatC5
import Derived.KernelRfl
set_option linter.unusedVariables false
set_option linter.unusedSimpArgs false
namespace Go.Cat
open Go
theorem P_rec_site (l : List Int) (hl : l.length ≤ maxLen) : D_rec_site l = N_rec_site (l, ()) := by
  refine (loopO_all l (fun n => n == 0 || n == 1) (fun k => (l, ((l.length : Int), ((k : Int), ())))) (some (false, ())) (some (true, ())) (fun k h => ?_) ?_).trans (ite_b1 _)
  · simp only [D_rec_site_l1, wrap_succ (Nat.lt_of_lt_of_le h hl), Int.toNat_natCast, nth_lt h]
    grind
  · simp [D_rec_site_l1]
theorem rec_iff (r : Rec) : mayRec r = true ↔ 0 ≤ r.pair ∧ r.pair ≤ 2 ∧ 1 ≤ r.born ∧ 1 ≤ r.epoch ∧ (r.lead = 0 ∨ r.lead = 1) ∧ (r.from_ = 0 ∨ r.from_ = 1) ∧ 1 ≤ r.phase ∧ r.phase ≤ 3 ∧ (r.phase = 1 ∨ r.from_ = r.lead) ∧ (r.quick = false ∨ (r.phase = 1 ∧ r.from_ ≠ r.lead)) := by
  simp only [mayRec, Bool.and_eq_true, Bool.or_eq_true, decide_eq_true_eq, Bool.not_eq_true', decide_eq_false_iff_not, and_assoc, ne_eq]
theorem P_rec_Check (r : Rec) : D_rec_Check r = N_rec_Check (r, ()) := by
  have h := rec_iff r
  simp only [D_rec_Check, N_rec_Check, e1, N_rec_site, b1, Option.bind_some, List.all_cons, List.all_nil]
  generalize mayRec r = b at h
  by_cases hb : b = true
  · rw [if_pos hb]
    have h' := h.1 hb
    grind (splits := 40)
  · rw [if_neg hb]
    have h' := fun x => hb (h.2 x)
    grind (splits := 40)
theorem row_iff (t : List Rec) (i : Nat) : mayRow t i = true ↔ mayRec (nth t i) = true ∧ (i = 0 ∨ (nth t (i - 1)).pair < (nth t i).pair) := by
  simp only [mayRow, Bool.and_eq_true, Bool.or_eq_true, decide_eq_true_eq, beq_iff_eq]
theorem wrap_pred {k : Nat} (h : k < maxLen) (h0 : 0 < k) : IntKind.wrap .i64 ((k : Int) - 1) = ((k - 1 : Nat) : Int) := by
  rw [maxLen_eq] at h
  rw [wrap_i64 (by omega) (by omega)]
  omega
theorem wrap_u8_mod (n : Int) : IntKind.wrap .u8 n = n % 256 := by
  simp [IntKind.wrap, IntKind.signed, IntKind.bits]
theorem be_len (n : Int) (s : Nat) : (be n s).length = s := by simp [be]
theorem rows_len (l ss : List Int) : ∀ k, (rows l ss k).length = offs ss k
  | 0 => rfl
  | k + 1 => by simp [rows, offs, rows_len l ss k, be_len]
theorem offs_le (ss : List Int) (h : ∀ k, k < ss.length → 1 ≤ nth ss k ∧ nth ss k ≤ 8) : ∀ k, k ≤ ss.length → offs ss k ≤ 8 * k
  | 0, _ => Nat.le_refl _
  | k + 1, hk => by
    have := offs_le ss h k (by omega)
    have := h k (by omega)
    simp only [offs]
    omega
theorem offs_mono (ss : List Int) {a b : Nat} (h : a ≤ b) : offs ss a ≤ offs ss b := by
  induction b with
  | zero => have : a = 0 := by omega
            subst this; exact Nat.le_refl _
  | succ b ih =>
    rcases Nat.eq_or_lt_of_le h with h1 | h1
    · rw [h1]; exact Nat.le_refl _
    · have := ih (by omega)
      simp only [offs]; omega
theorem set_tail (B : List Int) {m : Nat} (h : m < B.length) : (List.replicate (m + 1) (0 : Int) ++ B.drop (m + 1)).set m B[m] = List.replicate m 0 ++ B.drop m := by
  rw [List.replicate_succ', List.append_assoc, List.set_append_right _ _ (by simp), List.length_replicate, Nat.sub_self, List.drop_eq_getElem_cons h]
  rfl
theorem shr8 {n : Int} (h : 0 ≤ n) : shrI .u64 n 8 = n / 256 := by
  unfold shrI
  rw [show (2 : Int) ^ (min (8 : Int).toNat IntKind.u64.bits) = 256 by decide, Int.fdiv_eq_ediv_of_nonneg _ (by omega)]
theorem P_num_digits (l ss A : List Int) (k R s : Nat) (n : Int) (out : List Int) (len : Int) (hs : nth ss k = (s : Int)) (h1 : 1 ≤ s) (h8 : s ≤ 8) (hn : 0 ≤ n) (hlt : n < 256 ^ s) (hA : A.length ≤ 1000) (hk : k < ss.length) (hk2 : k < 1000) :
    loopO (D_num_Write_l2 (l, (ss, (out, ((A.length : Int), (len, ((k : Int), ()))))))) ((A ++ (List.replicate s 0 ++ List.replicate R 0)), (n, ((s : Int), ((0 : Int), ())))) =
      some (.inl (l, (ss, ((A ++ (be n s ++ List.replicate R 0)), (((A.length + s : Nat) : Int), (len, (((k + 1 : Nat) : Int), ()))))))) := by
  have w1 : IntKind.wrap .i64 ((A.length : Int) + (s : Int)) = ((A.length + s : Nat) : Int) := by rw [wrap_i64 (by omega) (by omega)]; omega
  have start : ((A ++ (List.replicate s 0 ++ List.replicate R 0), (n, ((s : Int), ((0 : Int), ())))) : List Int × (Int × (Int × (Int × Unit)))) =
      (fun i : Nat => ((A ++ ((List.replicate (s - i) 0 ++ (be n s).drop (s - i)) ++ List.replicate R 0)), (n / 256 ^ i, ((s : Int), ((i : Int), ()))))) 0 := by
    simp only [Nat.sub_zero, Int.pow_zero, Int.ediv_one, List.drop_eq_nil_of_le (Nat.le_of_eq (be_len n s)), List.append_nil]
    rfl
  rw [start]
  refine loopO_for (fun i : Nat => ((A ++ ((List.replicate (s - i) 0 ++ (be n s).drop (s - i)) ++ List.replicate R 0)), (n / 256 ^ i, ((s : Int), ((i : Int), ()))))) s _ (fun i hi => ?_) ?_
  · have e1 : IntKind.wrap .i64 (IntKind.wrap .i64 ((s : Int) - 1) - (i : Int)) = ((s - 1 - i : Nat) : Int) := by
      rw [wrap_i64 (n := (s : Int) - 1) (by omega) (by omega), wrap_i64 (by omega) (by omega)]; omega
    have hm : s - 1 - i < (be n s).length := by rw [be_len]; omega
    have e2 : (be n s)[s - 1 - i] = (n / 256 ^ i) % 256 := by
      simp only [be, List.getElem_map, List.getElem_range]
      rw [show s - 1 - (s - 1 - i) = i by omega]
    have e3 : s - i = (s - 1 - i) + 1 := by omega
    have e4 : s - (i + 1) = s - 1 - i := by omega
    have e5 : (A ++ ((List.replicate (s - i) 0 ++ (be n s).drop (s - i)) ++ List.replicate R 0)).set (A.length + (s - 1 - i)) ((n / 256 ^ i) % 256) = A ++ ((List.replicate (s - (i + 1)) 0 ++ (be n s).drop (s - (i + 1))) ++ List.replicate R 0) := by
      rw [List.set_append_right _ _ (by omega), Nat.add_sub_cancel_left, List.set_append_left _ _ (by simp [be_len]; omega), e3, ← e2, set_tail _ hm, e4]
    have e6 : n / 256 ^ i / 256 = n / 256 ^ (i + 1) := by rw [Int.ediv_ediv_of_nonneg (Int.pow_nonneg (by omega)), Int.pow_succ]
    have p0 : 0 ≤ n / 256 ^ i := Int.ediv_nonneg hn (Int.pow_nonneg (by omega))
    simp only [D_num_Write_l2, Int.toNat_natCast, hs, w1, Nat.add_sub_cancel_left, e1, wrap_u8_mod, wrap_succ (k := i) (by rw [maxLen_eq]; omega), e5, shr8 p0, e6]
    grind
  · have e7 : n / 256 ^ s = 0 := Int.ediv_eq_zero_of_lt hn hlt
    simp only [D_num_Write_l2, D_num_Write_t1, e7, Int.toNat_natCast, hs, w1, wrap_succ (k := k) (by rw [maxLen_eq]; omega), Nat.sub_self, List.replicate_zero, List.drop_zero, List.nil_append]
    grind
end Go.Cat

namespace Go.Cat
open Go
theorem fits_iff (l ss : List Int) : fitsRow l ss = true ↔ l.length = ss.length ∧ ss.length ≤ 16 ∧ ∀ k, k < l.length → 1 ≤ nth ss k ∧ nth ss k ≤ 8 ∧ 0 ≤ nth l k ∧ nth l k < 256 ^ (nth ss k).toNat := by
  simp only [fitsRow, fitsAt, Bool.and_eq_true, beq_iff_eq, decide_eq_true_eq, List.all_eq_true, List.mem_range'_1]
  grind
theorem rep_split {a b : Nat} (h : b ≤ a) : List.replicate a (0 : Int) = List.replicate b 0 ++ List.replicate (a - b) 0 := by
  rw [List.replicate_append_replicate]; congr 1; omega
theorem P_num_Write (l ss : List Int) (h : fitsRow l ss = true) : D_num_Write l ss = N_num_Write (l, (ss, ())) := by
  obtain ⟨h1, h2, h3⟩ := (fits_iff l ss).1 h
  have hb : ∀ k, k ≤ ss.length → offs ss k ≤ 8 * k := offs_le ss fun k hk => ⟨(h3 k (by omega)).1, (h3 k (by omega)).2.1⟩
  have hrow : loopO D_num_Write_l3 (l, (ss, (List.replicate (offs ss ss.length) 0, ((0 : Int), ((l.length : Int), ((0 : Int), ())))))) = some (rowOf l ss, ((0 : Int), ())) := by
    refine loopO_for (fun k => (l, (ss, (rows l ss k ++ List.replicate (offs ss ss.length - offs ss k) 0, (((offs ss k : Nat) : Int), ((l.length : Int), ((k : Int), ()))))))) l.length _ (fun k hk => ?_) ?_
    · obtain ⟨q1, q2, q3, q4⟩ := h3 k hk
      have hb1 := hb k (by omega)
      have hb2 := hb ss.length (Nat.le_refl _)
      have hm : offs ss (k + 1) ≤ offs ss ss.length := offs_mono ss (by omega)
      have ho : offs ss (k + 1) = offs ss k + (nth ss k).toNat := rfl
      have hA := rows_len l ss k
      have hn : nth ss k = (((nth ss k).toNat : Nat) : Int) := by omega
      have w1 : IntKind.wrap .i64 (((offs ss k : Nat) : Int) + nth ss k) = ((offs ss k + (nth ss k).toNat : Nat) : Int) := by rw [wrap_i64 (by omega) (by omega)]; omega
      have e1 : rows l ss k ++ List.replicate (offs ss ss.length - offs ss k) 0 = rows l ss k ++ (List.replicate (nth ss k).toNat 0 ++ List.replicate (offs ss ss.length - offs ss (k + 1)) 0) := by
        rw [rep_split (a := offs ss ss.length - offs ss k) (b := (nth ss k).toNat) (by omega)]
        congr 3; omega
      have dig := P_num_digits l ss (rows l ss k) k (offs ss ss.length - offs ss (k + 1)) (nth ss k).toNat (nth l k) (rows l ss k ++ List.replicate (offs ss ss.length - offs ss k) 0) (l.length : Int) hn (by omega) (by omega) q3 q4 (by omega) (by omega) (by omega)
      rw [hA] at dig
      have e2 : rows l ss (k + 1) ++ List.replicate (offs ss ss.length - offs ss (k + 1)) 0 = rows l ss k ++ (be (nth l k) (nth ss k).toNat ++ List.replicate (offs ss ss.length - offs ss (k + 1)) 0) := by
        simp only [rows, List.append_assoc]
      have e3 : (rows l ss k ++ List.replicate (offs ss ss.length - offs ss k) 0 : List Int).length = offs ss ss.length := by simp only [List.length_append, hA, List.length_replicate]; omega
      have c1 : decide ((k : Int) < (l.length : Int)) = true := by simp; omega
      have c2 : decide ((0 : Int) ≤ (k : Int) ∧ (k : Int) < (ss.length : Int)) = true := by simp; omega
      have c3 : decide ((0 : Int) ≤ (k : Int) ∧ (k : Int) < (l.length : Int)) = true := by simp; omega
      have c4 : decide ((0 : Int) ≤ ((offs ss k : Nat) : Int) ∧ ((offs ss k : Nat) : Int) ≤ ((offs ss k + (nth ss k).toNat : Nat) : Int) ∧ ((offs ss k + (nth ss k).toNat : Nat) : Int) ≤ ((offs ss k + (nth ss k).toNat : Nat) : Int) ∧ ((offs ss k + (nth ss k).toNat : Nat) : Int) ≤ ((offs ss ss.length : Nat) : Int)) = true := by simp; omega
      simp only [D_num_Write_l3, Int.toNat_natCast, w1, e3, c1, c2, c3, c4, if_true, and_self, decide_true, Nat.add_sub_cancel_left]
      rw [e2, ho]
      rw [← e1] at dig
      exact dig
    · have c1 : ¬ (decide ((l.length : Int) < (l.length : Int)) = true) := by simp
      simp only [D_num_Write_l3, c1, if_false, rowOf, h1, Nat.sub_self, List.replicate_zero, List.append_nil]
      simp
  have hsum : loopO (D_num_Write_l5 l ss) ((0 : Int), (ss, ((ss.length : Int), ((0 : Int), ())))) = some (rowOf l ss, ((0 : Int), ())) := by
    refine loopO_for (fun k => (((offs ss k : Nat) : Int), (ss, ((ss.length : Int), ((k : Int), ()))))) ss.length _ (fun k hk => ?_) ?_
    · obtain ⟨q1, q2, q3, q4⟩ := h3 k (by omega)
      have hb1 := hb k (by omega)
      have w1 : IntKind.wrap .i64 (((offs ss k : Nat) : Int) + nth ss k) = ((offs ss (k + 1) : Nat) : Int) := by rw [wrap_i64 (by omega) (by omega)]; simp only [offs]; omega
      simp only [D_num_Write_l5, Int.toNat_natCast, w1, wrap_succ (k := k) (by rw [maxLen_eq]; omega)]
      grind
    · have hb2 := hb ss.length (Nat.le_refl _)
      have e : D_num_Write_t4 l ss (((offs ss ss.length : Nat) : Int), (ss, ((ss.length : Int), ((ss.length : Int), ())))) = some (rowOf l ss, ((0 : Int), ())) := by
        simp only [D_num_Write_t4, Int.toNat_natCast, hrow, big_eq]
        grind
      simp only [D_num_Write_l5, e]
      grind
  simp only [D_num_Write, hsum, N_num_Write, h, if_true]
  grind
end Go.Cat

namespace Go.Cat
open Go
theorem P_rec_sizes : D_rec_sizes = N_rec_sizes () := rfl
theorem wrapu (n : Int) (h : 0 ≤ n ∧ n ≤ 18446744073709551615) : IntKind.wrap .u64 n = n := wrap_u64 h.1 h.2
structure RecR (r : Rec) : Prop where
  born : 0 ≤ r.born ∧ r.born ≤ 4294967295
  epoch : 0 ≤ r.epoch ∧ r.epoch ≤ 4294967295
theorem fits_note (r : Rec) (hr : RecR r) (h : mayRec r = true) (f : Int) (hf : 0 ≤ f ∧ f ≤ 3) : fitsRow [1, r.pair, r.born, r.epoch, r.lead, r.phase, r.from_, f] [1, 1, 4, 4, 1, 1, 1, 1] = true := by
  have q := (rec_iff r).1 h
  have b1 := hr.born
  have b2 := hr.epoch
  rw [fits_iff]
  refine ⟨rfl, by decide, fun k hk => ?_⟩
  simp only [List.length_cons, List.length_nil] at hk
  match k, hk with
  | 0, _ => refine ⟨by decide, by decide, ?_, ?_⟩ <;> simp [nth]
  | 1, _ => refine ⟨by decide, by decide, ?_, ?_⟩ <;> simp [nth] <;> omega
  | 2, _ => refine ⟨by decide, by decide, ?_, ?_⟩ <;> simp [nth] <;> omega
  | 3, _ => refine ⟨by decide, by decide, ?_, ?_⟩ <;> simp [nth] <;> omega
  | 4, _ => refine ⟨by decide, by decide, ?_, ?_⟩ <;> simp [nth] <;> omega
  | 5, _ => refine ⟨by decide, by decide, ?_, ?_⟩ <;> simp [nth] <;> omega
  | 6, _ => refine ⟨by decide, by decide, ?_, ?_⟩ <;> simp [nth] <;> omega
  | 7, _ => refine ⟨by decide, by decide, ?_, ?_⟩ <;> simp [nth] <;> omega
  | k + 8, hk => omega
theorem P_rec_Note (r : Rec) (hr : RecR r) : D_rec_Note r = N_rec_Note (r, ()) := by
  cases h : mayRec r with
  | false => simp [D_rec_Note, N_rec_Check, e1, h, N_rec_Note]
  | true =>
    have q := (rec_iff r).1 h
    have b1 := hr.born
    have b2 := hr.epoch
    have i1 : ibits .or .u64 2 1 = 3 := by decide
    have i2 : ibits .or .u64 0 2 = 2 := by decide
    have i3 : ibits .or .u64 0 1 = 1 := by decide
    have f0 := fits_note r hr h 0 (by omega)
    have f1 := fits_note r hr h 1 (by omega)
    have f2 := fits_note r hr h 2 (by omega)
    have f3 := fits_note r hr h 3 (by omega)
    simp only [D_rec_Note, N_rec_Check, e1, h, if_true, Option.bind_some, N_rec_sizes, wrapu r.pair (by omega), wrapu r.born (by omega), wrapu r.epoch (by omega), wrapu r.lead (by omega), wrapu r.phase (by omega), wrapu r.from_ (by omega), i1, i2, i3, N_num_Write, f0, f1, f2, f3, N_rec_Note, noteOf, flagsOf]
    cases r.quick <;> cases r.alone <;> simp
theorem P_rec_Notes (t : List Rec) (ht : t.length ≤ 1000000) : D_rec_Notes t = N_rec_Notes (t, ()) := by
  have hl : (∀ r ∈ t, mayRec r = true) → loopO D_rec_Notes_l1 ([], (t, ((t.length : Int), ((0 : Int), ())))) = some (t.map noteOf, ((0 : Int), ())) := by
    intro hall
    refine loopO_for (fun k => ((t.take k).map noteOf, (t, ((t.length : Int), ((k : Int), ()))))) t.length _ (fun k hk => ?_) ?_
    · have q := hall _ (List.getElem_mem hk)
      have e : (t.take k).map noteOf ++ [noteOf t[k]] = (t.take (k + 1)).map noteOf := by rw [← take_succ_len hk, List.map_append]; rfl
      simp only [D_rec_Notes_l1, wrap_succ (k := k) (by rw [maxLen_eq]; omega), Int.toNat_natCast, nth_lt hk, N_rec_Note, q, if_true, Option.bind_some, e, big_eq, List.length_map, List.length_take, List.length_singleton]
      grind
    · simp [D_rec_Notes_l1]
  have hs : loopO (D_rec_Notes_l3 t) (t, (t, ((t.length : Int), ((0 : Int), ())))) = if mayTable t = true then some (t.map noteOf, ((0 : Int), ())) else some ([], ((110 : Int), ())) := by
    by_cases hm : mayTable t = true
    · have hall : ∀ r ∈ t, mayRec r = true := by
        intro r hr
        obtain ⟨i, hi, rfl⟩ := List.getElem_of_mem hr
        have := List.all_eq_true.1 hm i (by simp [List.mem_range'_1, hi])
        have := ((row_iff t i).1 this).1
        rwa [nth_lt hi] at this
      have e := hl hall
      refine loopO_allN 0 t.length (mayRow t) (fun k => (t, (t, ((t.length : Int), ((k : Int), ()))))) (some ([], ((110 : Int), ()))) _ (by omega) (fun k _ h => ?_) ?_
      · have hmx : k < maxLen := by rw [maxLen_eq]; omega
        simp only [D_rec_Notes_l3, wrap_succ hmx, Int.toNat_natCast, N_rec_Check, e1, Option.bind_some, mayRow]
        rcases Nat.eq_zero_or_pos k with h0 | h0
        · subst h0; grind
        · simp only [wrap_pred hmx h0, Int.toNat_natCast]
          grind
      · simp [D_rec_Notes_l3, D_rec_Notes_t2, e]
    · rw [if_neg hm]
      have := loopO_allN (step := D_rec_Notes_l3 t) 0 t.length (mayRow t) (fun k => (t, (t, ((t.length : Int), ((k : Int), ()))))) (some ([], ((110 : Int), ()))) (D_rec_Notes_t2 t) (by omega) (fun k _ h => by
        have hmx : k < maxLen := by rw [maxLen_eq]; omega
        simp only [D_rec_Notes_l3, wrap_succ hmx, Int.toNat_natCast, N_rec_Check, e1, Option.bind_some, mayRow]
        rcases Nat.eq_zero_or_pos k with h0 | h0
        · subst h0; grind
        · simp only [wrap_pred hmx h0, Int.toNat_natCast]
          grind) (by simp [D_rec_Notes_l3])
      refine this.trans ?_
      rw [if_neg]
      exact hm
  simp only [D_rec_Notes, hs, N_rec_Notes, ht, if_true]
theorem P_meta_Check (c : Config) (m : Meta) (h : m.table.length ≤ 1000000) : D_meta_Check c m = N_meta_Check (c, (m, ())) := by
  simp only [D_meta_Check, N_meta_Check, N_rec_Notes, N_place_Check, e1, h, if_true, Option.bind_some, mayMeta]
  by_cases h1 : mayTable m.table = true <;> by_cases h2 : mayConf c = true <;> simp only [h1, h2, if_true, if_false, Option.bind_some] <;> grind
theorem P_ref12_Twin (m : Meta) (h : m.table.length ≤ 1000000) : D_ref12_Twin m = N_ref12_Twin (m, ()) := by
  have hb : decide (0 + m.table.length ≤ big) = true := by simp [big_eq]; omega
  simp only [D_ref12_Twin, N_ref12_Twin, h, if_true, hb]
  rfl
theorem P_ref11_Same (t : List Rec) (h : t.length ≤ maxLen) : D_ref11_Same t t = b1 true := by
  have hs : loopO D_ref11_Same_l1 (t, (t, ((0 : Int), ()))) = some (true, ()) := by
    refine loopO_for (fun k => (t, (t, ((k : Int), ())))) t.length _ (fun k hk => ?_) ?_
    · simp only [D_ref11_Same_l1, wrap_succ (Nat.lt_of_lt_of_le hk h), Int.toNat_natCast, beq_self_eq_true, Bool.and_self, Bool.not_true]
      grind
    · simp [D_ref11_Same_l1]
  simp [D_ref11_Same, hs, b1]
theorem P_ref12_Same (m : Meta) : D_ref12_Same m m = b1 true := by
  simp [D_ref12_Same, N_ref11_Same, b1]
end Go.Cat

namespace Go.Cat
open Go
theorem P_ring_at (r : Round) (n : Int) (h : r.all.length ≠ 0) : D_ring_round_byte_at r n = N_ring_round_byte_at (r, (n, ())) := by
  simp only [D_ring_round_byte_at, N_ring_round_byte_at, h, if_false, e1]
  grind
theorem queue_iff (q : Queue) : mayQueue q = true ↔ 1 ≤ q.items.length ∧ q.items.length ≤ 64 ∧ 0 ≤ q.head ∧ q.head < (q.items.length : Int) ∧ 0 ≤ q.many ∧ q.many ≤ (q.items.length : Int) ∧
    (List.range' q.many.toNat (q.items.length - q.many.toNat)).all (fun k => (nth q.items (place q k)).length == 0) = true := by
  simp only [mayQueue, Bool.and_eq_true, decide_eq_true_eq, and_assoc]
theorem place_mod (q : Queue) (k : Nat) (h1 : q.items.length ≤ 64) (h2 : 0 ≤ q.head) (h3 : q.head < (q.items.length : Int)) (hk : k ≤ 64) :
    Int.tmod (IntKind.wrap .i64 (q.head + (k : Int))) (q.items.length : Int) = ((place q k : Nat) : Int) ∧ place q k < q.items.length := by
  refine ⟨?_, Nat.mod_lt _ (by omega)⟩
  rw [wrap_i64 (by omega) (by omega), Int.tmod_eq_emod_of_nonneg (by omega)]
  unfold place
  rw [Int.natCast_emod, Int.natCast_add, Int.toNat_of_nonneg h2]
theorem P_ring_Check (q : Queue) : D_ring_Check q = N_ring_Check (q, ()) := by
  have hmin : (Decidable.rec (fun _ => q.head) (fun _ => q.many) (Int.decLt q.many q.head) : Int) = if q.many < q.head then q.many else q.head := by
    unfold ite
    show _ = (Decidable.casesOn (Int.decLt q.many q.head) (fun _ => q.head) (fun _ => q.many) : Int)
    rfl
  by_cases hq : 1 ≤ q.items.length ∧ q.items.length ≤ 64 ∧ 0 ≤ q.head ∧ q.head < (q.items.length : Int) ∧ 0 ≤ q.many ∧ q.many ≤ (q.items.length : Int)
  · obtain ⟨h1, h2, h3, h4, h5, h6⟩ := hq
    have hm : ((q.many.toNat : Nat) : Int) = q.many := Int.toNat_of_nonneg h5
    have hs : loopO (D_ring_Check_l1 q) ((q.items.length : Int), (q.many, ())) = if ((List.range' q.many.toNat (q.items.length - q.many.toNat)).all fun k => (nth q.items (place q k)).length == 0) = true then some (0, ()) else some (8, ()) := by
      have := loopO_allN (step := D_ring_Check_l1 q) q.many.toNat q.items.length (fun k => (nth q.items (place q k)).length == 0) (fun k => ((q.items.length : Int), ((k : Int), ()))) (some (8, ())) (some (0, ())) (by omega) (fun k _ hk => by
        obtain ⟨p1, p2⟩ := place_mod q k h2 h3 h4 (by omega)
        have hne : q.items.length ≠ 0 := by omega
        simp only [D_ring_Check_l1, wrap_succ (k := k) (by rw [maxLen_eq]; omega), N_ring_round_byte_at, hne, if_false, e1, Option.bind_some, p1, Int.toNat_natCast]
        grind) (by simp [D_ring_Check_l1])
      simp only [hm] at this
      exact this
    simp only [D_ring_Check, hs, N_ring_Check, mayQueue, e1, hmin]
    grind
  · have hmq : ¬ mayQueue q = true := fun h => hq (by obtain ⟨a, b, c, d, e, f, _⟩ := (queue_iff q).1 h; exact ⟨a, b, c, d, e, f⟩)
    simp only [D_ring_Check, N_ring_Check, hmq, e1, hmin]
    grind (splits := 30)
theorem fitAll_iff (l : List (List Int)) : fitAll l = true ↔ l.length ≤ 1000000 ∧ ∀ b ∈ l, b.length ≤ 1000000 := by
  simp only [fitAll, Bool.and_eq_true, decide_eq_true_eq, List.all_eq_true]
theorem P_ref04_TwinAll (l : List (List Int)) (hf : fitAll l = true) : D_ref04_TwinAll l = N_ref04_TwinAll (l, ()) := by
  obtain ⟨f1, f2⟩ := (fitAll_iff _).1 hf
  have hs : loopO D_ref04_TwinAll_l1 (l, ([], ((0 : Int), ()))) = some (l, ()) := by
    refine loopO_for (fun k => (l, (l.take k, ((k : Int), ())))) l.length _ (fun k hk => ?_) ?_
    · have := f2 _ (List.getElem_mem hk)
      have hb := big_eq
      simp only [D_ref04_TwinAll_l1, wrap_succ (k := k) (by rw [maxLen_eq]; omega), Int.toNat_natCast, nth_lt hk, List.nil_append, List.length_take, List.length_singleton, take_succ_len hk]
      grind
    · simp [D_ref04_TwinAll_l1]
  simp only [D_ref04_TwinAll, hs, N_ref04_TwinAll, hf, if_true]
theorem P_ref04_SameAll (l : List (List Int)) (h : l.length ≤ maxLen) : D_ref04_SameAll l l = b1 true := by
  have hs : loopO D_ref04_SameAll_l1 (l, (l, ((0 : Int), ()))) = some (true, ()) := by
    refine loopO_for (fun k => (l, (l, ((k : Int), ())))) l.length _ (fun k hk => ?_) ?_
    · simp only [D_ref04_SameAll_l1, wrap_succ (Nat.lt_of_lt_of_le hk h), Int.toNat_natCast]
      grind
    · simp [D_ref04_SameAll_l1]
  simp [D_ref04_SameAll, hs, b1]
theorem P_ref04_Same (q : Queue) : D_ref04_Same q q = b1 true := by
  simp [D_ref04_Same, N_ref04_SameAll, b1]
theorem P_ref17_Same (e : End) : D_ref17_Same e e = b1 true := by
  simp [D_ref17_Same, N_ref04_Same, b1]
theorem P_ref17_Twin (e : End) (hf : fitAll e.out.items = true) : D_ref17_Twin e = N_ref17_Twin (e, ()) := by
  simp [D_ref17_Twin, N_ref17_Twin, N_ref04_TwinAll, hf]
end Go.Cat

namespace Go.Cat
open Go
theorem end_iff (c : Config) (e : End) : mayEnd c e = true ↔ mayConf c = true ∧ mayQueue e.out = true ∧ e.me ≠ 0 ∧ e.out.items.length = 64 ∧ e.done ≤ e.sent ∧ IntKind.wrap .u32 (e.sent - e.done) = IntKind.wrap .u32 e.out.many ∧ mayTexts (queueList e.out) = true ∧ 0 ≤ e.quiet ∧ e.quiet < c.quiet ∧
    ¬ (e.you = 0 ∧ e.up = true) ∧ ¬ (e.dead = true ∧ e.you ≠ 0) ∧ (e.up = true ∨ (e.sent = 0 ∧ e.done = 0 ∧ e.got = 0)) := by
  simp only [mayEnd, Bool.and_eq_true, Bool.or_eq_true, Bool.not_eq_true', decide_eq_true_eq, decide_eq_false_iff_not, beq_iff_eq, and_assoc, ne_eq, Bool.and_eq_false_imp]
  grind
theorem list_len (q : Queue) (h : mayQueue q = true) : (queueList q).length = q.many.toNat ∧ (queueList q).length ≤ 64 ∧ ((queueList q).length : Int) = q.many := by
  obtain ⟨h1, h2, h3, h4, h5, h6, _⟩ := (queue_iff q).1 h
  have : (queueList q).length = q.many.toNat := by simp [queueList]
  omega
theorem P_sess_Check (c : Config) (e : End) (hf : fitAll e.out.items = true) : D_sess_Check c e = N_sess_Check (c, (e, ())) := by
  have h := end_iff c e
  simp only [N_sess_Check, hf, if_true, e1]
  by_cases hq : mayQueue e.out = true
  · obtain ⟨g1, g2, g3⟩ := list_len e.out hq
    have hs : loopO D_sess_Check_l2 (queueList e.out, (((queueList e.out).length : Int), ((0 : Int), ()))) = if mayTexts (queueList e.out) = true then some (0, ()) else some (8, ()) := by
      refine loopO_all (queueList e.out) (fun b => decide (1 ≤ b.length) && decide (b.length ≤ 64)) (fun k => (queueList e.out, (((queueList e.out).length : Int), ((k : Int), ())))) (some (8, ())) _ (fun k hk => ?_) ?_
      · simp only [D_sess_Check_l2, D_sess_Check_t1, wrap_succ (k := k) (by rw [maxLen_eq]; omega), Int.toNat_natCast, nth_lt hk]
        grind
      · simp [D_sess_Check_l2]
    simp only [D_sess_Check, N_ring_List, N_ref04_List, N_place_Check, hf, e1, hq, if_true, Option.bind_some, hs, g3]
    generalize mayEnd c e = b at h
    cases b with
    | true =>
      have h' := h.1 rfl
      grind (splits := 40)
    | false =>
      have h' := fun x => Bool.false_ne_true (h.2 x)
      grind (splits := 40)
  · have hb : mayEnd c e = false := by
      cases hm : mayEnd c e with
      | false => rfl
      | true => exact absurd (h.1 hm).2.1 hq
    simp only [D_sess_Check, N_ring_List, N_ref04_List, N_place_Check, hf, e1, hq, hb, if_true, Option.bind_some]
    grind
end Go.Cat

namespace Go.Cat
open Go
theorem all_1 : D_bits_All 1 = some ([1], (0, ())) :=
  (show D_bits_All 1 = loopO (D_bits_All_l2 1) ([255], (1, ())) by kernel_rfl).trans (loopO_exit (t := some ([1], (0, ()))) (by kernel_rfl))
theorem all_2 : D_bits_All 2 = some ([3], (0, ())) :=
  (show D_bits_All 2 = loopO (D_bits_All_l2 2) ([255], (1, ())) by kernel_rfl).trans (loopO_exit (t := some ([3], (0, ()))) (by kernel_rfl))
theorem all_3 : D_bits_All 3 = some ([7], (0, ())) :=
  (show D_bits_All 3 = loopO (D_bits_All_l2 3) ([255], (1, ())) by kernel_rfl).trans (loopO_exit (t := some ([7], (0, ()))) (by kernel_rfl))
theorem all_4 : D_bits_All 4 = some ([15], (0, ())) :=
  (show D_bits_All 4 = loopO (D_bits_All_l2 4) ([255], (1, ())) by kernel_rfl).trans (loopO_exit (t := some ([15], (0, ()))) (by kernel_rfl))
theorem all_5 : D_bits_All 5 = some ([31], (0, ())) :=
  (show D_bits_All 5 = loopO (D_bits_All_l2 5) ([255], (1, ())) by kernel_rfl).trans (loopO_exit (t := some ([31], (0, ()))) (by kernel_rfl))
theorem all_6 : D_bits_All 6 = some ([63], (0, ())) :=
  (show D_bits_All 6 = loopO (D_bits_All_l2 6) ([255], (1, ())) by kernel_rfl).trans (loopO_exit (t := some ([63], (0, ()))) (by kernel_rfl))
theorem all_7 : D_bits_All 7 = some ([127], (0, ())) :=
  (show D_bits_All 7 = loopO (D_bits_All_l2 7) ([255], (1, ())) by kernel_rfl).trans (loopO_exit (t := some ([127], (0, ()))) (by kernel_rfl))
theorem all_8 : D_bits_All 8 = some ([255], (0, ())) :=
  (show D_bits_All 8 = loopO (D_bits_All_l2 8) ([255], (1, ())) by kernel_rfl).trans (loopO_exit (t := some ([255], (0, ()))) (by kernel_rfl))
theorem all_9 : D_bits_All 9 = some ([255,1], (0, ())) :=
  (show D_bits_All 9 = loopO (D_bits_All_l2 9) ([255, 0], (1, ())) by kernel_rfl).trans ((loopO_inl (l' := ([255, 255], (2, ()))) (by kernel_rfl)).trans (loopO_exit (t := some ([255,1], (0, ()))) (by kernel_rfl)))
theorem all_10 : D_bits_All 10 = some ([255,3], (0, ())) :=
  (show D_bits_All 10 = loopO (D_bits_All_l2 10) ([255, 0], (1, ())) by kernel_rfl).trans ((loopO_inl (l' := ([255, 255], (2, ()))) (by kernel_rfl)).trans (loopO_exit (t := some ([255,3], (0, ()))) (by kernel_rfl)))
theorem all_11 : D_bits_All 11 = some ([255,7], (0, ())) :=
  (show D_bits_All 11 = loopO (D_bits_All_l2 11) ([255, 0], (1, ())) by kernel_rfl).trans ((loopO_inl (l' := ([255, 255], (2, ()))) (by kernel_rfl)).trans (loopO_exit (t := some ([255,7], (0, ()))) (by kernel_rfl)))
theorem all_12 : D_bits_All 12 = some ([255,15], (0, ())) :=
  (show D_bits_All 12 = loopO (D_bits_All_l2 12) ([255, 0], (1, ())) by kernel_rfl).trans ((loopO_inl (l' := ([255, 255], (2, ()))) (by kernel_rfl)).trans (loopO_exit (t := some ([255,15], (0, ()))) (by kernel_rfl)))
theorem all_13 : D_bits_All 13 = some ([255,31], (0, ())) :=
  (show D_bits_All 13 = loopO (D_bits_All_l2 13) ([255, 0], (1, ())) by kernel_rfl).trans ((loopO_inl (l' := ([255, 255], (2, ()))) (by kernel_rfl)).trans (loopO_exit (t := some ([255,31], (0, ()))) (by kernel_rfl)))
theorem all_14 : D_bits_All 14 = some ([255,63], (0, ())) :=
  (show D_bits_All 14 = loopO (D_bits_All_l2 14) ([255, 0], (1, ())) by kernel_rfl).trans ((loopO_inl (l' := ([255, 255], (2, ()))) (by kernel_rfl)).trans (loopO_exit (t := some ([255,63], (0, ()))) (by kernel_rfl)))
theorem all_15 : D_bits_All 15 = some ([255,127], (0, ())) :=
  (show D_bits_All 15 = loopO (D_bits_All_l2 15) ([255, 0], (1, ())) by kernel_rfl).trans ((loopO_inl (l' := ([255, 255], (2, ()))) (by kernel_rfl)).trans (loopO_exit (t := some ([255,127], (0, ()))) (by kernel_rfl)))
theorem all_16 : D_bits_All 16 = some ([255,255], (0, ())) :=
  (show D_bits_All 16 = loopO (D_bits_All_l2 16) ([255, 0], (1, ())) by kernel_rfl).trans ((loopO_inl (l' := ([255, 255], (2, ()))) (by kernel_rfl)).trans (loopO_exit (t := some ([255,255], (0, ()))) (by kernel_rfl)))
theorem mayN_iff (n : Int) : mayN n = true ↔ 1 ≤ n ∧ n ≤ 16 := by simp [mayN]
theorem n_cases {n : Int} (h : mayN n = true) : n = 1 ∨ n = 2 ∨ n = 3 ∨ n = 4 ∨ n = 5 ∨ n = 6 ∨ n = 7 ∨ n = 8 ∨ n = 9 ∨ n = 10 ∨ n = 11 ∨ n = 12 ∨ n = 13 ∨ n = 14 ∨ n = 15 ∨ n = 16 := by
  have := (mayN_iff n).1 h; omega
theorem P_bits_All (n : Int) : D_bits_All n = N_bits_All (n, ()) := by
  by_cases h : mayN n = true
  · simp only [N_bits_All, h, if_true]
    rcases n_cases h with h | h | h | h | h | h | h | h | h | h | h | h | h | h | h | h <;> subst h
    · exact all_1
    · exact all_2
    · exact all_3
    · exact all_4
    · exact all_5
    · exact all_6
    · exact all_7
    · exact all_8
    · exact all_9
    · exact all_10
    · exact all_11
    · exact all_12
    · exact all_13
    · exact all_14
    · exact all_15
    · exact all_16
  · have h' : ¬ (1 ≤ n ∧ n ≤ 16) := fun x => h ((mayN_iff n).2 x)
    simp only [N_bits_All, h, D_bits_All]
    by_cases h1 : 1 ≤ n
    · have : ¬ n ≤ 16 := fun x => h' ⟨h1, x⟩
      simp [h1, this]
    · simp [h1]
theorem P_bits_Check (n : Int) (s : List Int) (hs : s.length ≤ maxLen) : D_bits_Check n s = N_bits_Check (n, (s, ())) := by
  by_cases h : mayN n = true
  · by_cases hl : s.length = (allBytes n).length
    · have hloop : loopO D_bits_Check_l1 (allBytes n, (s, ((s.length : Int), ((0 : Int), ())))) = if ((List.range' 0 (s.length - 0)).all fun i => ibits .andNot .u8 (nth s i) (nth (allBytes n) i) == 0) = true then some (0, ()) else some (8, ()) := by
        refine loopO_allN 0 s.length (fun i => ibits .andNot .u8 (nth s i) (nth (allBytes n) i) == 0) (fun k => (allBytes n, (s, ((s.length : Int), ((k : Int), ()))))) (some (8, ())) (some (0, ())) (by omega) (fun k _ hk => ?_) ?_
        · simp only [D_bits_Check_l1, wrap_succ (Nat.lt_of_lt_of_le hk hs), Int.toNat_natCast]
          grind
        · simp [D_bits_Check_l1]
      simp only [Nat.sub_zero] at hloop
      simp only [D_bits_Check, N_bits_All, N_bits_Check, h, if_true, Option.bind_some, hloop, bitsOk, e1, hl, Bool.true_and, beq_self_eq_true]
      rw [hl] at hloop
      grind
    · simp only [D_bits_Check, N_bits_All, N_bits_Check, h, if_true, Option.bind_some, bitsOk, e1]
      grind
  · simp only [D_bits_Check, N_bits_All, N_bits_Check, h, Option.bind_some, e1]
    grind
end Go.Cat

namespace Go.Cat
open Go
theorem cb1 (n : Nat) : (((n : Int)) == 1) = (n == 1) := by rw [Bool.eq_iff_iff]; simp; omega
theorem cb2 (n : Nat) : (((n : Int)) == 2) = (n == 2) := by rw [Bool.eq_iff_iff]; simp; omega
theorem cb28 (n : Nat) : (((n : Int)) == 28) = (n == 28) := by rw [Bool.eq_iff_iff]; simp; omega
theorem cb32 (n : Nat) : (((n : Int)) == 32) = (n == 32) := by rw [Bool.eq_iff_iff]; simp; omega
theorem P_msg_marks (l : List Int) : D_msg_marks l = N_msg_marks (l, ()) := by
  simp only [D_msg_marks, N_msg_marks, markB, b1, cb1, cb2]
  grind
theorem P_msg_of (m : Msg) : D_msg_of m = N_msg_of (m, ()) := rfl
theorem rec_eq (a b : Rec) : a = b ↔ a.pair = b.pair ∧ a.born = b.born ∧ a.epoch = b.epoch ∧ a.lead = b.lead ∧ a.phase = b.phase ∧ a.from_ = b.from_ ∧ a.quick = b.quick ∧ a.alone = b.alone := by
  cases a; cases b; simp
theorem msg_eq (a b : Msg) : a = b ↔ a.kind = b.kind ∧ a.pair = b.pair ∧ a.has = b.has ∧ a.rec_ = b.rec_ ∧ a.op = b.op ∧ a.born = b.born ∧ a.epoch = b.epoch ∧ a.track = b.track ∧ a.n = b.n ∧ a.code = b.code ∧ a.marks = b.marks ∧ a.bytes = b.bytes := by
  cases a; cases b; simp
theorem P_msg_Same (a b : Msg) : D_msg_Same a b = N_msg_Same (a, (b, ())) := by
  have h := msg_eq a b
  have h2 := rec_eq a.rec_ b.rec_
  simp only [D_msg_Same, N_msg_Same, N_msg_of, N_bytes_Equal, b1, Option.bind_some]
  by_cases hab : a = b
  · subst hab; simp
  · have h3 : ¬ _ := fun x => hab (h.2 x)
    rw [h2] at h3
    rw [decide_eq_false hab]
    grind (splits := 40)
theorem kind_cases (n : Int) : n = 1 ∨ n = 2 ∨ n = 3 ∨ n = 4 ∨ n = 5 ∨ n = 6 ∨ n = 7 ∨ n = 8 ∨ (n ≠ 1 ∧ n ≠ 2 ∧ n ≠ 3 ∧ n ≠ 4 ∧ n ≠ 5 ∧ n ≠ 6 ∧ n ≠ 7 ∧ n ≠ 8) := by omega
theorem P_msg_used (m : Msg) : D_msg_used m = N_msg_used (m, ()) := by
  obtain ⟨kind, pair, has, rc, op, born, epoch, track, n, code, marks, bytes⟩ := m
  simp only [D_msg_used, N_msg_used, usedOf, N_rec_Check, N_msg_marks, e1, b1, rec0, Option.bind_some, cb28]
  rcases kind_cases kind with h | h | h | h | h | h | h | h | h
  all_goals first | subst h | skip
  all_goals simp
  all_goals grind
structure MsgR (m : Msg) : Prop where
  born : 0 ≤ m.born
  epoch : 0 ≤ m.epoch
theorem used_may (m : Msg) (hr : MsgR m) : mayMsg m = true ↔ (usedOf m).2 = true ∧ (usedOf m).1 = m ∧ 0 ≤ m.pair ∧ m.pair < 3 ∧ 0 ≤ m.track ∧ m.track < 16 := by
  obtain ⟨kind, pair, has, rc, op, born, epoch, track, n, code, marks, bytes⟩ := m
  have b1 := hr.born
  have b2 := hr.epoch
  simp only at b1 b2
  rw [msg_eq]
  simp only [mayMsg, usedOf, mayKind, Bool.and_eq_true, decide_eq_true_eq]
  rcases kind_cases kind with h | h | h | h | h | h | h | h | h
  all_goals first | subst h | skip
  all_goals (try cases has)
  all_goals simp [zl, z]
  all_goals (try simp [h])
  all_goals (try grind)
theorem P_msg_Check (m : Msg) (hr : MsgR m) : D_msg_Check m = N_msg_Check (m, ()) := by
  have h := used_may m hr
  simp only [D_msg_Check, N_msg_Check, N_msg_used, N_msg_Same, b1, e1, Option.bind_some]
  generalize mayMsg m = b at h
  cases b with
  | true =>
    have h' := h.1 rfl
    grind (splits := 40)
  | false =>
    have h' := fun x => Bool.false_ne_true (h.2 x)
    grind (splits := 40)
end Go.Cat

namespace Go.Cat
open Go
theorem P_act_limits_pair (c : Config) (p : Int) : D_act_limits_pair c p = N_act_limits_pair (c, (p, ())) := by
  simp only [D_act_limits_pair, N_act_limits_pair, pairB, b1]
  grind
theorem P_act_limits_message (c : Config) (m : Msg) : D_act_limits_message c m = N_act_limits_message (c, (m, ())) := by
  simp only [D_act_limits_message, N_act_limits_message, N_msg_Check, N_act_limits_pair, mayMsgC, b1, e1, Option.bind_some]
  grind
theorem P_act_limits_act (c : Config) (a : Act) (n : Int) : D_act_limits_act c a n = N_act_limits_act (c, (a, (n, ()))) := by
  simp only [D_act_limits_act, N_act_limits_act, N_act_limits_message, N_act_limits_pair, mayAct, b1, Option.bind_some, cb32]
  grind
theorem P_act_limits_mail (c : Config) (m : Mail) : D_act_limits_mail c m = N_act_limits_mail (c, (m, ())) := by
  simp only [D_act_limits_mail, N_act_limits_mail, N_act_limits_message, mayMail, b1, Option.bind_some]
  grind
end Go.Cat

namespace Go.Cat
open Go
theorem bits_ne (n : Int) (s : List Int) : (((if mayN n = true then (if bitsOk n s = true then (0 : Int) else 8) else 2) != 0)) = !bitsOk n s := by
  have : bitsOk n s = true → mayN n = true := by
    intro h
    simp only [bitsOk, Bool.and_eq_true] at h
    exact h.1.1
  by_cases h1 : mayN n = true
  · by_cases h2 : bitsOk n s = true
    · simp [h1, h2]
    · simp [h1, h2]
  · have h2 : ¬ bitsOk n s = true := fun x => h1 (this x)
    simp [h1, h2]
theorem P_act_limits_side (c : Config) (x : Side) (h1 : x.out.length ≤ maxLen) (h2 : x.waits.length ≤ maxLen) : D_act_limits_side c x = N_act_limits_side (c, (x, ())) := by
  have ht : D_act_limits_side_t2 c x = b1 ((decide (x.first = -1) || thereB c x.first) && thereB c x.next && (decide (x.op = 0) || (decide (2 ≤ x.op) && decide (x.op ≤ 8)))) := by
    simp only [D_act_limits_side_t2, thereB, b1]
    grind
  have hw : loopO (D_act_limits_side_l3 c x) (x.waits, ((x.waits.length : Int), ((0 : Int), ()))) = if x.waits.all (fun s => thereB c s.track) = true then D_act_limits_side_t2 c x else some (false, ()) := by
    refine loopO_all x.waits (fun s => thereB c s.track) (fun k => (x.waits, ((x.waits.length : Int), ((k : Int), ())))) (some (false, ())) _ (fun k h => ?_) ?_
    · have et : D_act_limits_side_t1 c x (x.waits, ((x.waits.length : Int), ((k : Int), ()))) = some (false, ()) := by simp [D_act_limits_side_t1]
      simp only [D_act_limits_side_l3, et, wrap_succ (Nat.lt_of_lt_of_le h h2), Int.toNat_natCast, nth_lt h, thereB]
      grind
    · simp [D_act_limits_side_l3]
  have ho : loopO (D_act_limits_side_l6 c x) (x.out, ((x.out.length : Int), ((0 : Int), ()))) = if x.out.all (fun s => thereB c s.track) = true then (if x.waits.all (fun s => thereB c s.track) = true then D_act_limits_side_t2 c x else some (false, ())) else some (false, ()) := by
    refine loopO_all x.out (fun s => thereB c s.track) (fun k => (x.out, ((x.out.length : Int), ((k : Int), ())))) (some (false, ())) _ (fun k h => ?_) ?_
    · have et : D_act_limits_side_t4 c x (x.out, ((x.out.length : Int), ((k : Int), ()))) = some (false, ()) := by simp [D_act_limits_side_t4]
      simp only [D_act_limits_side_l6, et, wrap_succ (Nat.lt_of_lt_of_le h h1), Int.toNat_natCast, nth_lt h, thereB]
      grind
    · simp [D_act_limits_side_l6, D_act_limits_side_t5, hw]
  simp only [D_act_limits_side, ho, ht, N_act_limits_side, maySide, N_bits_Check, b1, e1, Option.bind_some, bits_ne]
  generalize bitsOk c.tracks x.marks = m1
  generalize bitsOk c.tracks x.work = m2
  generalize bitsOk c.tracks x.need = m3
  cases m1 <;> cases m2 <;> cases m3 <;> simp
  grind
theorem site_iff (c : Config) (s : Site) : maySite c s = true ↔ mayVol c s.disk = true ∧ 0 ≤ s.id ∧ s.id ≤ 1 ∧ mayMeta c s.met = true ∧ mayEnd c s.end_ = true ∧ (s.sides.length : Int) = c.pairs ∧ s.born ≤ 64 ∧ s.met.table.all (fun r => pairB c r.pair) = true ∧ s.sides.all (maySide c) = true ∧ mayLists c s = true := by
  simp only [maySite, Bool.and_eq_true, decide_eq_true_eq, beq_iff_eq, and_assoc]
structure SmallR (s : Site) : Prop where
  table : s.met.table.length ≤ 100
  sides : s.sides.length ≤ 10
  plan : s.plan.length ≤ 200
  mail : s.mail.length ≤ 200
  asks : s.asks.length ≤ 200
  replies : s.replies.length ≤ 2000
  syncs : s.syncs.length ≤ 2000
  items : fitAll s.end_.out.items = true
  side : ∀ x ∈ s.sides, smallSide x = true
  acts : ∀ a ∈ s.plan, smallAct a = true
  mails : ∀ m ∈ s.mail, smallMail m = true
  words : smallWords s = true
  disk : smallDisk 300 s.disk = true
theorem small_r {s : Site} (h : smallSite s = true) : SmallR s := by
  simp only [smallSite, smallLens, Bool.and_eq_true, decide_eq_true_eq, List.all_eq_true] at h
  obtain ⟨⟨⟨⟨⟨⟨hd, ⟨⟨⟨⟨⟨⟨⟨a1, a2⟩, a3⟩, a4⟩, a5⟩, a6⟩, a7⟩, a8⟩⟩, hs⟩, hp⟩, hm⟩, hi⟩, hw⟩ := h
  refine ⟨a1, a2, a3, a4, a5, a6, a7, (fitAll_iff _).2 ⟨by omega, fun b hb => ?_⟩, hs, hp, hm, hw, hd⟩
  have := hi b hb
  omega
structure FitR (s : Site) : Prop where
  table : s.met.table.length ≤ 1000000
  sides : s.sides.length ≤ 1000000
  plan : s.plan.length ≤ 1000000
  mail : s.mail.length ≤ 1000000
  asks : s.asks.length ≤ 1000000
  replies : s.replies.length ≤ 1000000
  syncs : s.syncs.length ≤ 1000000
  items : fitAll s.end_.out.items = true
  side : ∀ x ∈ s.sides, fitSide x = true
  acts : ∀ a ∈ s.plan, fitAct a = true
  mails : ∀ m ∈ s.mail, fitMail m = true
  words : fitWords s = true
  disk : fitDisk s.disk = true
theorem fit_r {s : Site} (h : fitSite s = true) : FitR s := by
  simp only [fitSite, fitLens, Bool.and_eq_true, decide_eq_true_eq, List.all_eq_true] at h
  obtain ⟨⟨⟨⟨⟨⟨hd, ⟨⟨⟨⟨⟨⟨a1, a2⟩, a3⟩, a4⟩, a5⟩, a6⟩, a7⟩⟩, hs⟩, hp⟩, hm⟩, hi⟩, hw⟩ := h
  exact ⟨a1, a2, a3, a4, a5, a6, a7, hi, hs, hp, hm, hw, hd⟩
theorem fit_of {s : Site} (q : FitR s) : fitSite s = true := by
  simp only [fitSite, fitLens, Bool.and_eq_true, decide_eq_true_eq, List.all_eq_true]
  exact ⟨⟨⟨⟨⟨⟨q.disk, ⟨⟨⟨⟨⟨⟨q.table, q.sides⟩, q.plan⟩, q.mail⟩, q.asks⟩, q.replies⟩, q.syncs⟩⟩, q.side⟩, q.acts⟩, q.mails⟩, q.items⟩, q.words⟩
theorem fit_small {s : Site} (h : smallSite s = true) : fitSite s = true := by
  have q := small_r h
  have hw := q.words
  simp only [smallWords, Bool.and_eq_true, List.all_eq_true, decide_eq_true_eq] at hw
  refine fit_of ⟨by have := q.table; omega, by have := q.sides; omega, by have := q.plan; omega, by have := q.mail; omega, by have := q.asks; omega, by have := q.replies; omega, by have := q.syncs; omega, q.items,
    fun x hx => ?_, fun x hx => ?_, fun x hx => ?_, ?_, ?_⟩
  · have := q.side x hx
    simp only [smallSide, fitSide, Bool.and_eq_true, decide_eq_true_eq] at this ⊢
    omega
  · have := q.acts x hx
    simp only [smallAct, fitAct, Bool.and_eq_true, decide_eq_true_eq] at this ⊢
    omega
  · have := q.mails x hx
    simp only [smallMail, fitMail, Bool.and_eq_true, decide_eq_true_eq] at this ⊢
    omega
  · simp only [fitWords, Bool.and_eq_true, List.all_eq_true, decide_eq_true_eq]
    exact ⟨fun x hx => by have := hw.1 x hx; omega, fun x hx => by have := hw.2 x hx; omega⟩
  · have := q.disk
    simp only [smallDisk, Bool.and_eq_true, decide_eq_true_eq, List.all_eq_true] at this
    rw [fit_iff]
    refine ⟨by omega, by omega, fun x hx => ?_, fun x hx => ?_⟩
    · have := this.1.2 x hx; omega
    · have := this.2 x hx; omega
end Go.Cat

namespace Go.Cat
open Go
theorem err_ne (b : Bool) : (((if b = true then (0 : Int) else 8) != 0)) = !b := by cases b <;> rfl
theorem P_act_Check (c : Config) (s : Site) (h : fitSite s = true) (hk : ∀ m ∈ s.mail, 0 ≤ m.kind) : D_act_Check c s = N_act_Check (c, (s, ())) := by
  have q := fit_r h
  have ha : loopO D_act_Check_l2 (s.asks, ((s.asks.length : Int), ((0 : Int), ()))) = if s.asks.all mayAsk = true then some (0, ()) else some (8, ()) := by
    refine loopO_all s.asks mayAsk (fun k => (s.asks, ((s.asks.length : Int), ((k : Int), ())))) (some (8, ())) (some (0, ())) (fun k hk => ?_) ?_
    · have et : D_act_Check_t1 (s.asks, ((s.asks.length : Int), ((k : Int), ()))) = some (8, ()) := by simp [D_act_Check_t1]
      simp only [D_act_Check_l2, et, wrap_succ (k := k) (by rw [maxLen_eq]; have := q.asks; omega), Int.toNat_natCast, nth_lt hk, mayAsk]
      grind
    · simp [D_act_Check_l2]
  have hm : loopO (D_act_Check_l5 c s) (s.mail, ((s.mail.length : Int), ((0 : Int), ()))) = if s.mail.all (mayMail c) = true then (if s.asks.all mayAsk = true then some (0, ()) else some (8, ())) else some (8, ()) := by
    refine loopO_all s.mail (mayMail c) (fun k => (s.mail, ((s.mail.length : Int), ((k : Int), ())))) (some (8, ())) _ (fun k hk => ?_) ?_
    · have et : D_act_Check_t3 s (s.mail, ((s.mail.length : Int), ((k : Int), ()))) = some (8, ()) := by simp [D_act_Check_t3]
      simp only [D_act_Check_l5, et, wrap_succ (k := k) (by rw [maxLen_eq]; have := q.mail; omega), Int.toNat_natCast, nth_lt hk, N_act_limits_mail, b1, Option.bind_some]
      grind
    · simp [D_act_Check_l5, D_act_Check_t4, ha]
  have hp : loopO (D_act_Check_l8 c s) (s.plan, ((s.plan.length : Int), ((0 : Int), ()))) = if s.plan.all (mayAct c s.disk.sectors.length) = true then (if s.mail.all (mayMail c) = true then (if s.asks.all mayAsk = true then some (0, ()) else some (8, ())) else some (8, ())) else some (8, ()) := by
    refine loopO_all s.plan (mayAct c s.disk.sectors.length) (fun k => (s.plan, ((s.plan.length : Int), ((k : Int), ())))) (some (8, ())) _ (fun k hk => ?_) ?_
    · have et : D_act_Check_t6 c s (s.plan, ((s.plan.length : Int), ((k : Int), ()))) = some (8, ()) := by simp [D_act_Check_t6]
      simp only [D_act_Check_l8, et, wrap_succ (k := k) (by rw [maxLen_eq]; have := q.plan; omega), Int.toNat_natCast, nth_lt hk, N_act_limits_act, b1, Option.bind_some]
      grind
    · simp [D_act_Check_l8, D_act_Check_t7, hm]
  have hl : (if s.plan.all (mayAct c s.disk.sectors.length) = true then (if s.mail.all (mayMail c) = true then (if s.asks.all mayAsk = true then some ((0 : Int), ()) else some (8, ())) else some (8, ())) else some (8, ())) = if mayLists c s = true then some (0, ()) else some (8, ()) := by
    simp only [mayLists]
    grind
  rw [hl] at hp
  have hs : loopO (D_act_Check_l11 c s) (s.sides, ((s.sides.length : Int), ((0 : Int), ()))) = if s.sides.all (maySide c) = true then (if mayLists c s = true then some (0, ()) else some (8, ())) else some (8, ()) := by
    refine loopO_all s.sides (maySide c) (fun k => (s.sides, ((s.sides.length : Int), ((k : Int), ())))) (some (8, ())) _ (fun k hk => ?_) ?_
    · have et : D_act_Check_t9 c s (s.sides, ((s.sides.length : Int), ((k : Int), ()))) = some (8, ()) := by simp [D_act_Check_t9]
      simp only [D_act_Check_l11, et, wrap_succ (k := k) (by rw [maxLen_eq]; have := q.sides; omega), Int.toNat_natCast, nth_lt hk, N_act_limits_side, b1, Option.bind_some]
      grind
    · simp [D_act_Check_l11, D_act_Check_t10, hp]
  have hb : loopO (D_act_Check_l14 c s) (s.met.table, ((s.met.table.length : Int), ((0 : Int), ()))) = if s.met.table.all (fun r => pairB c r.pair) = true then (if s.sides.all (maySide c) = true then (if mayLists c s = true then some (0, ()) else some (8, ())) else some (8, ())) else some (8, ()) := by
    refine loopO_all s.met.table (fun r => pairB c r.pair) (fun k => (s.met.table, ((s.met.table.length : Int), ((k : Int), ())))) (some (8, ())) _ (fun k hk => ?_) ?_
    · have et : D_act_Check_t12 c s (s.met.table, ((s.met.table.length : Int), ((k : Int), ()))) = some (8, ()) := by simp [D_act_Check_t12]
      simp only [D_act_Check_l14, et, wrap_succ (k := k) (by rw [maxLen_eq]; have := q.table; omega), Int.toNat_natCast, nth_lt hk, N_act_limits_pair, b1, Option.bind_some]
      grind
    · simp [D_act_Check_l14, D_act_Check_t13, hs]
  have hconf : mayVol c s.disk = true → mayConf c = true := by
    intro hv
    simp only [mayVol, Bool.and_eq_true] at hv
    exact hv.1.1
  have htab : s.met.table.length ≤ 1000000 := by have := q.table; omega
  simp only [D_act_Check, hb, N_act_Check, h, if_true, N_place_Check, N_track_Check, N_meta_Check, N_sess_Check, q.items, htab, e1, Option.bind_some, err_ne]
  have hi := site_iff c s
  generalize maySite c s = b at hi
  cases b with
  | true =>
    have h' := hi.1 rfl
    have hc := hconf h'.1
    grind (splits := 40)
  | false =>
    have h' := fun x => Bool.false_ne_true (hi.2 x)
    grind (splits := 40)
theorem P_ref21_greatWords (s : Site) (h1 : s.asks.length ≤ maxLen) (h2 : s.replies.length ≤ maxLen) : D_ref21_greatWords s = N_ref21_greatWords (s, ()) := by
  have hr : loopO (D_ref21_greatWords_l1 s) ((0 : Int), ()) = if s.replies.all (fun a => decide (a.bytes.length ≤ 100)) = true then some (false, ()) else some (true, ()) := by
    refine loopO_all s.replies (fun a => decide (a.bytes.length ≤ 100)) (fun k => ((k : Int), ())) (some (true, ())) _ (fun k hk => ?_) ?_
    · simp only [D_ref21_greatWords_l1, wrap_succ (Nat.lt_of_lt_of_le hk h2), Int.toNat_natCast, nth_lt hk]
      grind
    · simp [D_ref21_greatWords_l1]
  have hs : loopO (D_ref21_greatWords_l2 s) ((0 : Int), ()) = if s.asks.all (fun a => decide (a.bytes.length ≤ 100)) = true then (if s.replies.all (fun a => decide (a.bytes.length ≤ 100)) = true then some (false, ()) else some (true, ())) else some (true, ()) := by
    refine loopO_all s.asks (fun a => decide (a.bytes.length ≤ 100)) (fun k => ((k : Int), ())) (some (true, ())) _ (fun k hk => ?_) ?_
    · simp only [D_ref21_greatWords_l2, wrap_succ (Nat.lt_of_lt_of_le hk h1), Int.toNat_natCast, nth_lt hk]
      grind
    · simp [D_ref21_greatWords_l2, hr]
  simp only [D_ref21_greatWords, hs, N_ref21_greatWords, smallWords, b1]
  grind
theorem P_ref21_Great (s : Site) : D_ref21_Great s = N_ref21_Great (s, ()) := by
  have g300 : (0 : Int) ≤ 300 ∧ (300 : Int) ≤ 1000 := by omega
  by_cases hl : smallLens s = true
  · simp only [smallLens, Bool.and_eq_true, decide_eq_true_eq] at hl
    obtain ⟨⟨⟨⟨⟨⟨⟨a1, a2⟩, a3⟩, a4⟩, a5⟩, a6⟩, a7⟩, a8⟩ := hl
    have ht : D_ref21_Great_t1 s = some (!smallWords s, ()) := by simp [D_ref21_Great_t1, N_ref21_greatWords, b1]
    have hi : loopO (D_ref21_Great_l2 s) ((0 : Int), ()) = if s.end_.out.items.all (fun b => decide (b.length ≤ 100)) = true then some (!smallWords s, ()) else some (true, ()) := by
      refine loopO_all s.end_.out.items (fun b => decide (b.length ≤ 100)) (fun k => ((k : Int), ())) (some (true, ())) _ (fun k hk => ?_) ?_
      · simp only [D_ref21_Great_l2, wrap_succ (k := k) (by rw [maxLen_eq]; omega), Int.toNat_natCast, nth_lt hk]
        grind
      · simp [D_ref21_Great_l2, ht]
    have hm : loopO (D_ref21_Great_l3 s) ((0 : Int), ()) = if s.mail.all smallMail = true then (if s.end_.out.items.all (fun b => decide (b.length ≤ 100)) = true then some (!smallWords s, ()) else some (true, ())) else some (true, ()) := by
      refine loopO_all s.mail smallMail (fun k => ((k : Int), ())) (some (true, ())) _ (fun k hk => ?_) ?_
      · simp only [D_ref21_Great_l3, wrap_succ (k := k) (by rw [maxLen_eq]; omega), Int.toNat_natCast, nth_lt hk, smallMail]
        grind
      · simp [D_ref21_Great_l3, hi]
    have hp : loopO (D_ref21_Great_l4 s) ((0 : Int), ()) = if s.plan.all smallAct = true then (if s.mail.all smallMail = true then (if s.end_.out.items.all (fun b => decide (b.length ≤ 100)) = true then some (!smallWords s, ()) else some (true, ())) else some (true, ())) else some (true, ()) := by
      refine loopO_all s.plan smallAct (fun k => ((k : Int), ())) (some (true, ())) _ (fun k hk => ?_) ?_
      · simp only [D_ref21_Great_l4, wrap_succ (k := k) (by rw [maxLen_eq]; omega), Int.toNat_natCast, nth_lt hk, smallAct]
        grind
      · simp [D_ref21_Great_l4, hm]
    have hs : loopO (D_ref21_Great_l5 s) ((0 : Int), ()) = if s.sides.all smallSide = true then (if s.plan.all smallAct = true then (if s.mail.all smallMail = true then (if s.end_.out.items.all (fun b => decide (b.length ≤ 100)) = true then some (!smallWords s, ()) else some (true, ())) else some (true, ())) else some (true, ())) else some (true, ()) := by
      refine loopO_all s.sides smallSide (fun k => ((k : Int), ())) (some (true, ())) _ (fun k hk => ?_) ?_
      · simp only [D_ref21_Great_l5, wrap_succ (k := k) (by rw [maxLen_eq]; omega), Int.toNat_natCast, nth_lt hk, smallSide]
        grind
      · simp [D_ref21_Great_l5, hp]
    have hlens : smallLens s = true := by simp only [smallLens, Bool.and_eq_true, decide_eq_true_eq]; exact ⟨⟨⟨⟨⟨⟨⟨a1, a2⟩, a3⟩, a4⟩, a5⟩, a6⟩, a7⟩, a8⟩
    simp only [D_ref21_Great, N_ref05_Great, g300, and_self, if_true, b1, Option.bind_some, hs, N_ref21_Great, smallSite, hlens]
    grind (splits := 30)
  · have hf : smallSite s = false := by simp only [smallSite]; simp [hl]
    simp only [smallLens, Bool.and_eq_true, decide_eq_true_eq] at hl
    simp only [D_ref21_Great, N_ref05_Great, g300, and_self, if_true, b1, Option.bind_some, N_ref21_Great, hf]
    grind (splits := 30)
end Go.Cat

namespace Go.Cat
open Go
theorem P_ref21_bytes (l : List Int) (h : l.length ≤ 1000000) : D_ref21_bytes l = N_ref21_bytes (l, ()) := by
  have hb : decide (0 + l.length ≤ big) = true := by have := big_eq; simp; omega
  simp only [D_ref21_bytes, N_ref21_bytes, h, if_true, hb]
  rfl
theorem P_ref20_Twin (m : Msg) (h : fitMsg m = true) : D_ref20_Twin m = N_ref20_Twin (m, ()) := by
  have h' := h
  simp only [fitMsg, Bool.and_eq_true, decide_eq_true_eq] at h'
  have hb : decide (0 + m.marks.length ≤ big) = true := by have := big_eq; simp; omega
  have hc : decide (0 + m.bytes.length ≤ big) = true := by have := big_eq; simp; omega
  simp only [D_ref20_Twin, N_ref20_Twin, h, if_true, hb, hc]
  rfl
theorem side_iff (x : Side) : fitSide x = true ↔ x.marks.length ≤ 1000000 ∧ x.work.length ≤ 1000000 ∧ x.need.length ≤ 1000000 ∧ x.out.length ≤ 1000000 ∧ x.waits.length ≤ 1000000 := by
  simp only [fitSide, Bool.and_eq_true, decide_eq_true_eq, and_assoc]
theorem P_ref21_TwinSide (x : Side) (h : fitSide x = true) : D_ref21_TwinSide x = N_ref21_TwinSide (x, ()) := by
  obtain ⟨h1, h2, h3, h4, h5⟩ := (side_iff x).1 h
  have hb : decide (0 + x.out.length ≤ big) = true := by have := big_eq; simp; omega
  have hc : decide (0 + x.waits.length ≤ big) = true := by have := big_eq; simp; omega
  have c1 : x.marks.length ≤ 1000000 := by omega
  have c2 : x.work.length ≤ 1000000 := by omega
  have c3 : x.need.length ≤ 1000000 := by omega
  simp only [D_ref21_TwinSide, N_ref21_TwinSide, N_ref21_bytes, c1, c2, c3, h, if_true, hb, hc, Option.bind_some]
  rfl
def siteT (s : Site) (sides : List Side) (plan : List Act) (mail : List Mail) (asks : List Ask) (replies : List Reply) : ((Int × ((List Sector) × ((List Pend) × (Int × (Int × (Int × (Int × (Int × ((List Rec) × ((List Side) × (Int × (Int × (Bool × (Bool × (Int × (Int × ((List (List Int)) × (Int × (Int × (Int × (Int × ((List Act) × ((List Mail) × ((List Ask) × ((List Reply) × ((List Int) × (Int × (Bool × Unit))))))))))))))))))))))))))))) :=
  (s.id, (s.disk.sectors, (s.disk.cache, (s.met.super.boot, (s.met.super.area, (s.met.super.gen, (s.met.count, (s.met.turn, (s.met.table, (sides, (s.end_.me, (s.end_.you, (s.end_.up, (s.end_.dead, (s.end_.sent, (s.end_.done, (s.end_.out.items, (s.end_.out.head, (s.end_.out.many, (s.end_.got, (s.end_.quiet, (plan, (mail, (asks, (replies, (s.syncs, (s.born, (s.ready, ()))))))))))))))))))))))))))))
theorem P_ref21_Twin (s : Site) (h : fitSite s = true) : D_ref21_Twin s = N_ref21_Twin (s, ()) := by
  have q := fit_r h
  have hw := q.words
  simp only [fitWords, Bool.and_eq_true, List.all_eq_true, decide_eq_true_eq] at hw
  have hbig := big_eq
  have h_replies : loopO (D_ref21_Twin_l1 s) (siteT s s.sides s.plan s.mail s.asks [], ((0 : Int), ())) = some (s, ()) := by
    refine loopO_for (fun k => (siteT s s.sides s.plan s.mail s.asks (s.replies.take k), ((k : Int), ()))) s.replies.length _ (fun k hk => ?_) ?_
    · have hq := q.replies
      have := hw.2 _ (List.getElem_mem hk)
      have c1 : s.replies[k].bytes.length ≤ 1000000 := by omega
      have hd : decide ((k : Int) < (s.replies.length : Int)) = true := by simp; omega
      have hd2 : decide ((0 : Int) ≤ (k : Int) ∧ (k : Int) < (s.replies.length : Int)) = true := by simp; omega
      have hd3 : decide ((s.replies.take k).length + 1 ≤ big) = true := by simp; omega
      have ht := take_succ_len hk
      simp only [D_ref21_Twin_l1, siteT, hd, hd2, if_true, wrap_succ (k := k) (by rw [maxLen_eq]; omega), Int.toNat_natCast, nth_lt hk, N_ref21_bytes, c1, Option.bind_some, List.length_singleton, hd3, ht]
    · have hd : ¬ (decide ((s.replies.length : Int) < (s.replies.length : Int)) = true) := by simp
      simp only [D_ref21_Twin_l1, siteT, hd, List.take_length]
      rfl
  have h_asks : loopO (D_ref21_Twin_l3 s) (siteT s s.sides s.plan s.mail [] [], ((0 : Int), ())) = some (s, ()) := by
    refine loopO_for (fun k => (siteT s s.sides s.plan s.mail (s.asks.take k) [], ((k : Int), ()))) s.asks.length _ (fun k hk => ?_) ?_
    · have hq := q.asks
      have := hw.1 _ (List.getElem_mem hk)
      have c1 : s.asks[k].bytes.length ≤ 1000000 := by omega
      have hd : decide ((k : Int) < (s.asks.length : Int)) = true := by simp; omega
      have hd2 : decide ((0 : Int) ≤ (k : Int) ∧ (k : Int) < (s.asks.length : Int)) = true := by simp; omega
      have hd3 : decide ((s.asks.take k).length + 1 ≤ big) = true := by simp; omega
      have ht := take_succ_len hk
      simp only [D_ref21_Twin_l3, siteT, hd, hd2, if_true, wrap_succ (k := k) (by rw [maxLen_eq]; omega), Int.toNat_natCast, nth_lt hk, N_ref21_bytes, c1, Option.bind_some, List.length_singleton, hd3, ht]
    · have hd : ¬ (decide ((s.asks.length : Int) < (s.asks.length : Int)) = true) := by simp
      simp only [D_ref21_Twin_l3, siteT, hd, List.take_length]
      exact congrArg (Option.map Sum.inr) h_replies
  have h_mail : loopO (D_ref21_Twin_l5 s) (siteT s s.sides s.plan [] [] [], ((0 : Int), ())) = some (s, ()) := by
    refine loopO_for (fun k => (siteT s s.sides s.plan (s.mail.take k) [] [], ((k : Int), ()))) s.mail.length _ (fun k hk => ?_) ?_
    · have hq := q.mail
      have := q.mails _ (List.getElem_mem hk)
      simp only [fitMail, Bool.and_eq_true, decide_eq_true_eq] at this
      have c1 : fitMsg s.mail[k].msg = true := by simp only [fitMsg, Bool.and_eq_true, decide_eq_true_eq]; omega
      have hd : decide ((k : Int) < (s.mail.length : Int)) = true := by simp; omega
      have hd2 : decide ((0 : Int) ≤ (k : Int) ∧ (k : Int) < (s.mail.length : Int)) = true := by simp; omega
      have hd3 : decide ((s.mail.take k).length + 1 ≤ big) = true := by simp; omega
      have ht := take_succ_len hk
      simp only [D_ref21_Twin_l5, siteT, hd, hd2, if_true, wrap_succ (k := k) (by rw [maxLen_eq]; omega), Int.toNat_natCast, nth_lt hk, N_ref20_Twin, c1, Option.bind_some, List.length_singleton, hd3, ht]
    · have hd : ¬ (decide ((s.mail.length : Int) < (s.mail.length : Int)) = true) := by simp
      simp only [D_ref21_Twin_l5, siteT, hd, List.take_length]
      exact congrArg (Option.map Sum.inr) h_asks
  have h_plan : loopO (D_ref21_Twin_l7 s) (siteT s s.sides [] [] [] [], ((0 : Int), ())) = some (s, ()) := by
    refine loopO_for (fun k => (siteT s s.sides (s.plan.take k) [] [] [], ((k : Int), ()))) s.plan.length _ (fun k hk => ?_) ?_
    · have hq := q.plan
      have := q.acts _ (List.getElem_mem hk)
      simp only [fitAct, Bool.and_eq_true, decide_eq_true_eq] at this
      have c1 : fitMsg s.plan[k].msg = true := by simp only [fitMsg, Bool.and_eq_true, decide_eq_true_eq]; omega
      have c2 : s.plan[k].bytes.length ≤ 1000000 := by omega
      have c3 : s.plan[k].reply.bytes.length ≤ 1000000 := by omega
      have hd : decide ((k : Int) < (s.plan.length : Int)) = true := by simp; omega
      have hd2 : decide ((0 : Int) ≤ (k : Int) ∧ (k : Int) < (s.plan.length : Int)) = true := by simp; omega
      have hd3 : decide ((s.plan.take k).length + 1 ≤ big) = true := by simp; omega
      have ht := take_succ_len hk
      simp only [D_ref21_Twin_l7, siteT, hd, hd2, if_true, wrap_succ (k := k) (by rw [maxLen_eq]; omega), Int.toNat_natCast, nth_lt hk, N_ref20_Twin, N_ref21_bytes, c1, c2, c3, Option.bind_some, List.length_singleton, hd3, ht]
    · have hd : ¬ (decide ((s.plan.length : Int) < (s.plan.length : Int)) = true) := by simp
      simp only [D_ref21_Twin_l7, siteT, hd, List.take_length]
      exact congrArg (Option.map Sum.inr) h_mail
  have h_sides : loopO (D_ref21_Twin_l9 s) (siteT s [] [] [] [] [], ((0 : Int), ())) = some (s, ()) := by
    refine loopO_for (fun k => (siteT s (s.sides.take k) [] [] [] [], ((k : Int), ()))) s.sides.length _ (fun k hk => ?_) ?_
    · have hq := q.sides
      have c1 := q.side _ (List.getElem_mem hk)
      have hd : decide ((k : Int) < (s.sides.length : Int)) = true := by simp; omega
      have hd2 : decide ((0 : Int) ≤ (k : Int) ∧ (k : Int) < (s.sides.length : Int)) = true := by simp; omega
      have hd3 : decide ((s.sides.take k).length + 1 ≤ big) = true := by simp; omega
      have ht := take_succ_len hk
      simp only [D_ref21_Twin_l9, siteT, hd, hd2, if_true, wrap_succ (k := k) (by rw [maxLen_eq]; omega), Int.toNat_natCast, nth_lt hk, N_ref21_TwinSide, c1, Option.bind_some, List.length_singleton, hd3, ht]
      exact if_pos hd3
    · have hd : ¬ (decide ((s.sides.length : Int) < (s.sides.length : Int)) = true) := by simp
      simp only [D_ref21_Twin_l9, siteT, hd, List.take_length]
      exact congrArg (Option.map Sum.inr) h_plan
  have hfit := q.disk
  have htab : s.met.table.length ≤ 1000000 := by have := q.table; omega
  have hsync : decide (0 + s.syncs.length ≤ big) = true := by have := q.syncs; simp; omega
  simp only [D_ref21_Twin, N_ref05_Twin, hfit, N_ref12_Twin, htab, N_ref17_Twin, q.items, if_true, Option.bind_some, hsync, N_ref21_Twin, h]
  exact h_sides
end Go.Cat

namespace Go.Cat
open Go
theorem P_ref20_Same (m : Msg) : D_ref20_Same m m = b1 true := by
  simp [D_ref20_Same, b1]
theorem P_ref21_SameReply (r : Reply) : D_ref21_SameReply r r = b1 true := by
  simp [D_ref21_SameReply, b1]
theorem P_ref21_SameReplies (l : List Reply) (h : l.length ≤ maxLen) : D_ref21_SameReplies l l = b1 true := by
  have hs : loopO D_ref21_SameReplies_l1 (l, (l, ((0 : Int), ()))) = some (true, ()) := by
    refine loopO_for (fun k => (l, (l, ((k : Int), ())))) l.length _ (fun k hk => ?_) ?_
    · simp only [D_ref21_SameReplies_l1, wrap_succ (Nat.lt_of_lt_of_le hk h), Int.toNat_natCast, N_ref21_SameReply, b1, Option.bind_some, if_true]
      grind
    · simp [D_ref21_SameReplies_l1]
  simp [D_ref21_SameReplies, hs, b1]
theorem P_ref21_samePlan (l : List Act) (h : l.length ≤ maxLen) : D_ref21_samePlan l l = b1 true := by
  have hs : loopO D_ref21_samePlan_l1 (l, (l, ((0 : Int), ()))) = some (true, ()) := by
    refine loopO_for (fun k => (l, (l, ((k : Int), ())))) l.length _ (fun k hk => ?_) ?_
    · simp only [D_ref21_samePlan_l1, wrap_succ (Nat.lt_of_lt_of_le hk h), Int.toNat_natCast, N_ref21_SameReply, N_ref20_Same, b1, Option.bind_some, if_true]
      grind
    · simp [D_ref21_samePlan_l1]
  simp [D_ref21_samePlan, hs, b1]
theorem P_ref21_sameCome (s : Site) (h1 : s.mail.length ≤ maxLen) (h2 : s.asks.length ≤ maxLen) : D_ref21_sameCome s s = b1 true := by
  have ha : loopO (D_ref21_sameCome_l1 s s) ((0 : Int), ()) = some (true, ()) := by
    refine loopO_for (fun k => ((k : Int), ())) s.asks.length _ (fun k hk => ?_) ?_
    · simp only [D_ref21_sameCome_l1, wrap_succ (Nat.lt_of_lt_of_le hk h2), Int.toNat_natCast]
      grind
    · simp [D_ref21_sameCome_l1]
  have hm : loopO (D_ref21_sameCome_l2 s s) ((0 : Int), ()) = some (true, ()) := by
    refine loopO_for (fun k => ((k : Int), ())) s.mail.length _ (fun k hk => ?_) ?_
    · simp only [D_ref21_sameCome_l2, wrap_succ (Nat.lt_of_lt_of_le hk h1), Int.toNat_natCast, N_ref20_Same, b1, Option.bind_some, if_true]
      grind
    · simp [D_ref21_sameCome_l2, ha]
  simp [D_ref21_sameCome, hm, b1]
theorem P_ref21_SameSide (x : Side) (h1 : x.out.length ≤ maxLen) (h2 : x.waits.length ≤ maxLen) : D_ref21_SameSide x x = b1 true := by
  have ht : D_ref21_SameSide_t1 x x = some (true, ()) := by simp [D_ref21_SameSide_t1]
  have hw : loopO (D_ref21_SameSide_l2 x x) ((0 : Int), ()) = some (true, ()) := by
    refine loopO_for (fun k => ((k : Int), ())) x.waits.length _ (fun k hk => ?_) ?_
    · simp only [D_ref21_SameSide_l2, wrap_succ (Nat.lt_of_lt_of_le hk h2), Int.toNat_natCast]
      grind
    · simp [D_ref21_SameSide_l2, ht]
  have ho : loopO (D_ref21_SameSide_l3 x x) ((0 : Int), ()) = some (true, ()) := by
    refine loopO_for (fun k => ((k : Int), ())) x.out.length _ (fun k hk => ?_) ?_
    · simp only [D_ref21_SameSide_l3, wrap_succ (Nat.lt_of_lt_of_le hk h1), Int.toNat_natCast]
      grind
    · simp [D_ref21_SameSide_l3, hw]
  simp [D_ref21_SameSide, ho, b1]
theorem P_ref21_Same (s : Site) (h1 : s.sides.length ≤ maxLen) (h2 : s.syncs.length ≤ maxLen) : D_ref21_Same s s = b1 true := by
  have ht : D_ref21_Same_t1 s s = some (true, ()) := by
    simp [D_ref21_Same_t1, N_ref05_Same, N_ref12_Same, N_ref17_Same, N_ref21_samePlan, N_ref21_sameCome, N_ref21_SameReplies, b1]
  have hy : loopO (D_ref21_Same_l2 s s) ((0 : Int), ()) = some (true, ()) := by
    refine loopO_for (fun k => ((k : Int), ())) s.syncs.length _ (fun k hk => ?_) ?_
    · simp only [D_ref21_Same_l2, wrap_succ (Nat.lt_of_lt_of_le hk h2), Int.toNat_natCast]
      grind
    · simp [D_ref21_Same_l2, ht]
  have ho : loopO (D_ref21_Same_l3 s s) ((0 : Int), ()) = some (true, ()) := by
    refine loopO_for (fun k => ((k : Int), ())) s.sides.length _ (fun k hk => ?_) ?_
    · simp only [D_ref21_Same_l3, wrap_succ (Nat.lt_of_lt_of_le hk h1), Int.toNat_natCast, N_ref21_SameSide, b1, Option.bind_some, if_true]
      grind
    · simp [D_ref21_Same_l3, hy]
  simp [D_ref21_Same, ho, b1]
end Go.Cat

namespace Go.Cat
open Go
def N_ring_text (x : List Int × Unit) : Option (List Int × Unit) := if x.1.length ≤ 1000000 then some x else none
noncomputable def D_ring_text (p1 : (List Int)) : Option ((List Int) × Unit) :=
  if (decide (((0 : Int) ≤ (((List.length p1) : Nat) : Int)) ∧ (((((List.length p1) : Nat) : Int) ≤ (((List.length p1) : Nat) : Int)) ∧ ((((List.length p1) : Nat) : Int) ≤ ((big : Nat) : Int))))) then
  some (((List.take (List.length (List.replicate (Int.toNat (((List.length p1) : Nat) : Int)) (0 : Int))) p1) ++ (List.drop (min (List.length p1) (List.length (List.replicate (Int.toNat (((List.length p1) : Nat) : Int)) (0 : Int)))) (List.replicate (Int.toNat (((List.length p1) : Nat) : Int)) (0 : Int)))), ())
  else none
theorem Q_ring_text (x : TT [(.sl (.int .u8))]) (r : TT [(.sl (.int .u8))]) (_ : OkTT [(.sl (.int .u8))] x) (hn : N_ring_text x = some r) : D_ring_text x.1 = some r := by
  obtain ⟨l, ⟨⟩⟩ := x
  unfold N_ring_text at hn
  split at hn
  · rename_i h
    cases hn
    have h' : l.length ≤ 1000000 := h
    have hb : l.length ≤ big := Nat.le_trans h' (by decide)
    have hd : (decide (((0 : Int) ≤ (l.length : Int)) ∧ ((l.length : Int) ≤ (l.length : Int)) ∧ ((l.length : Int) ≤ (big : Int)))) = true := by
      rw [decide_eq_true_eq]; omega
    simp only [D_ring_text, hd, if_true, Int.toNat_natCast, List.length_replicate, List.take_length, Nat.min_self]
    rw [List.drop_of_length_le (by simp)]
    simp
    rfl
  · cases hn
end Go.Cat

namespace Go.Cat
open Go
theorem ite_some {c : Prop} [Decidable c] {α : Type} {a : Option α} {r : α} (h : (if c then a else none) = some r) : c := by
  by_cases hc : c
  · exact hc
  · simp [hc] at h
theorem ite_some2 {c : Prop} [Decidable c] {α : Type} {a : Option α} {r : α} (h : (if c then none else a) = some r) : ¬ c := by
  intro hc
  simp [hc] at h
theorem okSl {e : EN} {l : List (T e)} (h : OkT (.sl e) l) : l.length ≤ maxLen := (okT_sl h).1
theorem okU8 {l : List Int} (h : OkT (.sl (.int .u8)) l) : ∀ x ∈ l, 0 ≤ x ∧ x ≤ 255 := by
  intro x hx
  have := (okT_sl (e := .int .u8) h).2 x hx
  exact okL_u8 (this (.int .u8 x) (List.mem_singleton.2 rfl))
theorem okDisk {d : Disk} (h : OkT (.st .Disk) d) : d.sectors.length ≤ maxLen ∧ d.cache.length ≤ maxLen :=
  ⟨okL_len (e := .st .Sector) (h (.sl (.st .Sector) d.sectors) (by simp [cells, stCells])), okL_len (e := .st .Pend) (h (.sl (.st .Pend) d.cache) (by simp [cells, stCells]))⟩
theorem okSide {x : Side} (h : OkT (.st .Side) x) : x.out.length ≤ maxLen ∧ x.waits.length ≤ maxLen :=
  ⟨okL_len (e := .st .Sent) (h (.sl (.st .Sent) x.out) (by simp [cells, stCells])), okL_len (e := .st .Wait) (h (.sl (.st .Wait) x.waits) (by simp [cells, stCells]))⟩
theorem okRec {r : Rec} (h : OkT (.st .Rec) r) : RecR r :=
  ⟨okL_u32 (h (.int .u32 r.born) (by simp [cells, stCells])), okL_u32 (h (.int .u32 r.epoch) (by simp [cells, stCells]))⟩
theorem okMsg {m : Msg} (h : OkT (.st .Msg) m) : MsgR m :=
  ⟨(okL_u32 (h (.int .u32 m.born) (by simp [cells, stCells]))).1, (okL_u32 (h (.int .u32 m.epoch) (by simp [cells, stCells]))).1⟩
structure SiteR (s : Site) : Prop where
  sides : s.sides.length ≤ maxLen
  plan : s.plan.length ≤ maxLen
  mail : s.mail.length ≤ maxLen
  asks : s.asks.length ≤ maxLen
  replies : s.replies.length ≤ maxLen
  syncs : s.syncs.length ≤ maxLen
  kinds : ∀ m ∈ s.mail, 0 ≤ m.kind
theorem okSite {s : Site} (h : OkT (.st .Site) s) : SiteR s := by
  have hm : OkL (.sl (.st .Mail) s.mail) := h _ (by simp [cells, stCells])
  refine ⟨okL_len (e := .st .Side) (h (.sl (.st .Side) s.sides) (by simp [cells, stCells])), okL_len (e := .st .Act) (h (.sl (.st .Act) s.plan) (by simp [cells, stCells])), okL_len hm, okL_len (e := .st .Ask) (h (.sl (.st .Ask) s.asks) (by simp [cells, stCells])),
    okL_len (e := .st .Reply) (h (.sl (.st .Reply) s.replies) (by simp [cells, stCells])), okL_len (e := .int .i64) (h (.sl (.int .i64) s.syncs) (by simp [cells, stCells])), fun m hmm => ?_⟩
  have := okL_elem hm hmm
  exact (okL_u8 (this (.int .u8 m.kind) (by simp [cells, stCells]))).1
theorem Q_ref21_Great (x : TT [(.st .Site)]) (r : TT [.bool]) (h : OkTT [(.st .Site)] x) (hn : N_ref21_Great x = some r) : D_ref21_Great x.1 = some r := (P_ref21_Great x.1).trans hn
theorem Q_ref05_Great (x : TT [(.st .Disk), (.int .i64)]) (r : TT [.bool]) (h : OkTT [(.st .Disk), (.int .i64)] x) (hn : N_ref05_Great x = some r) : D_ref05_Great x.1 x.2.1 = some r := (P_ref05_Great x.1 x.2.1 (ite_some hn)).trans hn
theorem Q_ref21_greatWords (x : TT [(.st .Site)]) (r : TT [.bool]) (h : OkTT [(.st .Site)] x) (hn : N_ref21_greatWords x = some r) : D_ref21_greatWords x.1 = some r := (P_ref21_greatWords x.1 (okSite h.1).asks (okSite h.1).replies).trans hn
theorem Q_ref21_Twin (x : TT [(.st .Site)]) (r : TT [(.st .Site)]) (h : OkTT [(.st .Site)] x) (hn : N_ref21_Twin x = some r) : D_ref21_Twin x.1 = some r := (P_ref21_Twin x.1 (ite_some hn)).trans hn
theorem Q_ref05_Twin (x : TT [(.st .Disk)]) (r : TT [(.st .Disk)]) (h : OkTT [(.st .Disk)] x) (hn : N_ref05_Twin x = some r) : D_ref05_Twin x.1 = some r := (P_ref05_Twin x.1 (ite_some hn)).trans hn
theorem Q_ref12_Twin (x : TT [(.st .Meta)]) (r : TT [(.st .Meta)]) (h : OkTT [(.st .Meta)] x) (hn : N_ref12_Twin x = some r) : D_ref12_Twin x.1 = some r := (P_ref12_Twin x.1 (ite_some hn)).trans hn
theorem Q_ref17_Twin (x : TT [(.st .End)]) (r : TT [(.st .End)]) (h : OkTT [(.st .End)] x) (hn : N_ref17_Twin x = some r) : D_ref17_Twin x.1 = some r := (P_ref17_Twin x.1 (ite_some hn)).trans hn
theorem Q_ref04_TwinAll (x : TT [(.sl (.sl (.int .u8)))]) (r : TT [(.sl (.sl (.int .u8)))]) (h : OkTT [(.sl (.sl (.int .u8)))] x) (hn : N_ref04_TwinAll x = some r) : D_ref04_TwinAll x.1 = some r := (P_ref04_TwinAll x.1 (ite_some hn)).trans hn
theorem Q_ref21_TwinSide (x : TT [(.st .Side)]) (r : TT [(.st .Side)]) (h : OkTT [(.st .Side)] x) (hn : N_ref21_TwinSide x = some r) : D_ref21_TwinSide x.1 = some r := (P_ref21_TwinSide x.1 (ite_some hn)).trans hn
theorem Q_ref21_bytes (x : TT [(.sl (.int .u8))]) (r : TT [(.sl (.int .u8))]) (h : OkTT [(.sl (.int .u8))] x) (hn : N_ref21_bytes x = some r) : D_ref21_bytes x.1 = some r := (P_ref21_bytes x.1 (ite_some hn)).trans hn
theorem Q_ref20_Twin (x : TT [(.st .Msg)]) (r : TT [(.st .Msg)]) (h : OkTT [(.st .Msg)] x) (hn : N_ref20_Twin x = some r) : D_ref20_Twin x.1 = some r := (P_ref20_Twin x.1 (ite_some hn)).trans hn
theorem Q_ref05_Same (x : TT [(.st .Disk), (.st .Disk)]) (r : TT [.bool]) (h : OkTT [(.st .Disk), (.st .Disk)] x) (hn : N_ref05_Same x = some r) : D_ref05_Same x.1 x.2.1 = some r := by
  obtain ⟨a, b, _⟩ := x
  have e : a = b := ite_some hn
  subst e
  have e2 : b1 true = some r := (if_pos rfl).symm.trans hn
  exact (P_ref05_Same a (okDisk h.1).1 (okDisk h.1).2).trans e2
theorem Q_ref21_Same (x : TT [(.st .Site), (.st .Site)]) (r : TT [.bool]) (h : OkTT [(.st .Site), (.st .Site)] x) (hn : N_ref21_Same x = some r) : D_ref21_Same x.1 x.2.1 = some r := by
  obtain ⟨a, b, _⟩ := x
  have e : a = b := ite_some hn
  subst e
  have e2 : b1 true = some r := (if_pos rfl).symm.trans hn
  exact (P_ref21_Same a (okSite h.1).sides (okSite h.1).syncs).trans e2
theorem Q_ref21_SameSide (x : TT [(.st .Side), (.st .Side)]) (r : TT [.bool]) (h : OkTT [(.st .Side), (.st .Side)] x) (hn : N_ref21_SameSide x = some r) : D_ref21_SameSide x.1 x.2.1 = some r := by
  obtain ⟨a, b, _⟩ := x
  have e : a = b := ite_some hn
  subst e
  have e2 : b1 true = some r := (if_pos rfl).symm.trans hn
  exact (P_ref21_SameSide a (okSide h.1).1 (okSide h.1).2).trans e2
theorem Q_ref21_SameReply (x : TT [(.st .Reply), (.st .Reply)]) (r : TT [.bool]) (h : OkTT [(.st .Reply), (.st .Reply)] x) (hn : N_ref21_SameReply x = some r) : D_ref21_SameReply x.1 x.2.1 = some r := by
  obtain ⟨a, b, _⟩ := x
  have e : a = b := ite_some hn
  subst e
  have e2 : b1 true = some r := (if_pos rfl).symm.trans hn
  exact (P_ref21_SameReply a).trans e2
theorem Q_ref21_SameReplies (x : TT [(.sl (.st .Reply)), (.sl (.st .Reply))]) (r : TT [.bool]) (h : OkTT [(.sl (.st .Reply)), (.sl (.st .Reply))] x) (hn : N_ref21_SameReplies x = some r) : D_ref21_SameReplies x.1 x.2.1 = some r := by
  obtain ⟨a, b, _⟩ := x
  have e : a = b := ite_some hn
  subst e
  have e2 : b1 true = some r := (if_pos rfl).symm.trans hn
  exact (P_ref21_SameReplies a (okSl h.1)).trans e2
theorem Q_ref21_samePlan (x : TT [(.sl (.st .Act)), (.sl (.st .Act))]) (r : TT [.bool]) (h : OkTT [(.sl (.st .Act)), (.sl (.st .Act))] x) (hn : N_ref21_samePlan x = some r) : D_ref21_samePlan x.1 x.2.1 = some r := by
  obtain ⟨a, b, _⟩ := x
  have e : a = b := ite_some hn
  subst e
  have e2 : b1 true = some r := (if_pos rfl).symm.trans hn
  exact (P_ref21_samePlan a (okSl h.1)).trans e2
theorem Q_ref21_sameCome (x : TT [(.st .Site), (.st .Site)]) (r : TT [.bool]) (h : OkTT [(.st .Site), (.st .Site)] x) (hn : N_ref21_sameCome x = some r) : D_ref21_sameCome x.1 x.2.1 = some r := by
  obtain ⟨a, b, _⟩ := x
  have e : a = b := ite_some hn
  subst e
  have e2 : b1 true = some r := (if_pos rfl).symm.trans hn
  exact (P_ref21_sameCome a (okSite h.1).mail (okSite h.1).asks).trans e2
theorem Q_ref12_Same (x : TT [(.st .Meta), (.st .Meta)]) (r : TT [.bool]) (h : OkTT [(.st .Meta), (.st .Meta)] x) (hn : N_ref12_Same x = some r) : D_ref12_Same x.1 x.2.1 = some r := by
  obtain ⟨a, b, _⟩ := x
  have e : a = b := ite_some hn
  subst e
  have e2 : b1 true = some r := (if_pos rfl).symm.trans hn
  exact (P_ref12_Same a).trans e2
theorem Q_ref11_Same (x : TT [(.sl (.st .Rec)), (.sl (.st .Rec))]) (r : TT [.bool]) (h : OkTT [(.sl (.st .Rec)), (.sl (.st .Rec))] x) (hn : N_ref11_Same x = some r) : D_ref11_Same x.1 x.2.1 = some r := by
  obtain ⟨a, b, _⟩ := x
  have e : a = b := ite_some hn
  subst e
  have e2 : b1 true = some r := (if_pos rfl).symm.trans hn
  exact (P_ref11_Same a (okSl h.1)).trans e2
theorem Q_ref17_Same (x : TT [(.st .End), (.st .End)]) (r : TT [.bool]) (h : OkTT [(.st .End), (.st .End)] x) (hn : N_ref17_Same x = some r) : D_ref17_Same x.1 x.2.1 = some r := by
  obtain ⟨a, b, _⟩ := x
  have e : a = b := ite_some hn
  subst e
  have e2 : b1 true = some r := (if_pos rfl).symm.trans hn
  exact (P_ref17_Same a).trans e2
theorem Q_ref04_Same (x : TT [(.st .Queue), (.st .Queue)]) (r : TT [.bool]) (h : OkTT [(.st .Queue), (.st .Queue)] x) (hn : N_ref04_Same x = some r) : D_ref04_Same x.1 x.2.1 = some r := by
  obtain ⟨a, b, _⟩ := x
  have e : a = b := ite_some hn
  subst e
  have e2 : b1 true = some r := (if_pos rfl).symm.trans hn
  exact (P_ref04_Same a).trans e2
theorem Q_ref04_SameAll (x : TT [(.sl (.sl (.int .u8))), (.sl (.sl (.int .u8)))]) (r : TT [.bool]) (h : OkTT [(.sl (.sl (.int .u8))), (.sl (.sl (.int .u8)))] x) (hn : N_ref04_SameAll x = some r) : D_ref04_SameAll x.1 x.2.1 = some r := by
  obtain ⟨a, b, _⟩ := x
  have e : a = b := ite_some hn
  subst e
  have e2 : b1 true = some r := (if_pos rfl).symm.trans hn
  exact (P_ref04_SameAll a (okSl h.1)).trans e2
theorem Q_ref20_Same (x : TT [(.st .Msg), (.st .Msg)]) (r : TT [.bool]) (h : OkTT [(.st .Msg), (.st .Msg)] x) (hn : N_ref20_Same x = some r) : D_ref20_Same x.1 x.2.1 = some r := by
  obtain ⟨a, b, _⟩ := x
  have e : a = b := ite_some hn
  subst e
  have e2 : b1 true = some r := (if_pos rfl).symm.trans hn
  exact (P_ref20_Same a).trans e2
theorem Q_act_Check (x : TT [(.st .Config), (.st .Site)]) (r : TT [(.int .i64)]) (h : OkTT [(.st .Config), (.st .Site)] x) (hn : N_act_Check x = some r) : D_act_Check x.1 x.2.1 = some r := (P_act_Check x.1 x.2.1 (ite_some hn) (okSite h.2.1).kinds).trans hn
theorem Q_disk_Crash (x : TT [(.st .Disk), (.sl (.int .u8))]) (r : TT [(.st .Disk), (.int .i64)]) (h : OkTT [(.st .Disk), (.sl (.int .u8))] x) (hn : N_disk_Crash x = some r) : D_disk_Crash x.1 x.2.1 = some r := (P_disk_Crash x.1 x.2.1 (okU8 h.2.1)).trans hn
theorem Q_disk_Check (x : TT [(.st .Disk)]) (r : TT [(.int .i64)]) (h : OkTT [(.st .Disk)] x) (hn : N_disk_Check x = some r) : D_disk_Check x.1 = some r := (P_disk_Check x.1 (okDisk h.1).1 (okDisk h.1).2).trans hn
theorem Q_place_within (x : TT [(.sl (.st .Bound))]) (r : TT [.bool]) (h : OkTT [(.sl (.st .Bound))] x) (hn : N_place_within x = some r) : D_place_within x.1 = some r := (P_place_within x.1 (okSl h.1)).trans hn
theorem Q_place_Check (x : TT [(.st .Config)]) (r : TT [(.int .i64)]) (h : OkTT [(.st .Config)] x) (hn : N_place_Check x = some r) : D_place_Check x.1 = some r := (P_place_Check x.1).trans hn
theorem Q_place_Sectors (x : TT [(.st .Config)]) (r : TT [(.int .i64), (.int .i64)]) (h : OkTT [(.st .Config)] x) (hn : N_place_Sectors x = some r) : D_place_Sectors x.1 = some r := (P_place_Sectors x.1).trans hn
theorem Q_track_Check (x : TT [(.st .Config), (.st .Disk)]) (r : TT [(.int .i64)]) (h : OkTT [(.st .Config), (.st .Disk)] x) (hn : N_track_Check x = some r) : D_track_Check x.1 x.2.1 = some r := (P_track_Check x.1 x.2.1).trans hn
theorem Q_meta_Check (x : TT [(.st .Config), (.st .Meta)]) (r : TT [(.int .i64)]) (h : OkTT [(.st .Config), (.st .Meta)] x) (hn : N_meta_Check x = some r) : D_meta_Check x.1 x.2.1 = some r := (P_meta_Check x.1 x.2.1 (ite_some hn)).trans hn
theorem Q_rec_Notes (x : TT [(.sl (.st .Rec))]) (r : TT [(.sl (.sl (.int .u8))), (.int .i64)]) (h : OkTT [(.sl (.st .Rec))] x) (hn : N_rec_Notes x = some r) : D_rec_Notes x.1 = some r := (P_rec_Notes x.1 (ite_some hn)).trans hn
theorem Q_rec_Note (x : TT [(.st .Rec)]) (r : TT [(.sl (.int .u8)), (.int .i64)]) (h : OkTT [(.st .Rec)] x) (hn : N_rec_Note x = some r) : D_rec_Note x.1 = some r := (P_rec_Note x.1 (okRec h.1)).trans hn
theorem Q_rec_Check (x : TT [(.st .Rec)]) (r : TT [(.int .i64)]) (h : OkTT [(.st .Rec)] x) (hn : N_rec_Check x = some r) : D_rec_Check x.1 = some r := (P_rec_Check x.1).trans hn
theorem Q_num_Write (x : TT [(.sl (.int .u64)), (.sl (.int .i64))]) (r : TT [(.sl (.int .u8)), (.int .i64)]) (h : OkTT [(.sl (.int .u64)), (.sl (.int .i64))] x) (hn : N_num_Write x = some r) : D_num_Write x.1 x.2.1 = some r := (P_num_Write x.1 x.2.1 (ite_some hn)).trans hn
theorem Q_sess_Check (x : TT [(.st .Config), (.st .End)]) (r : TT [(.int .i64)]) (h : OkTT [(.st .Config), (.st .End)] x) (hn : N_sess_Check x = some r) : D_sess_Check x.1 x.2.1 = some r := (P_sess_Check x.1 x.2.1 (ite_some hn)).trans hn
theorem Q_ring_Check (x : TT [(.st .Queue)]) (r : TT [(.int .i64)]) (h : OkTT [(.st .Queue)] x) (hn : N_ring_Check x = some r) : D_ring_Check x.1 = some r := (P_ring_Check x.1).trans hn
theorem Q_bits_Check (x : TT [(.int .i64), (.sl (.int .u8))]) (r : TT [(.int .i64)]) (h : OkTT [(.int .i64), (.sl (.int .u8))] x) (hn : N_bits_Check x = some r) : D_bits_Check x.1 x.2.1 = some r := (P_bits_Check x.1 x.2.1 (okSl h.2.1)).trans hn
theorem Q_act_limits_side (x : TT [(.st .Config), (.st .Side)]) (r : TT [.bool]) (h : OkTT [(.st .Config), (.st .Side)] x) (hn : N_act_limits_side x = some r) : D_act_limits_side x.1 x.2.1 = some r := (P_act_limits_side x.1 x.2.1 (okSide h.2.1).1 (okSide h.2.1).2).trans hn
theorem Q_act_limits_act (x : TT [(.st .Config), (.st .Act), (.int .i64)]) (r : TT [.bool]) (h : OkTT [(.st .Config), (.st .Act), (.int .i64)] x) (hn : N_act_limits_act x = some r) : D_act_limits_act x.1 x.2.1 x.2.2.1 = some r := (P_act_limits_act x.1 x.2.1 x.2.2.1).trans hn
theorem Q_act_limits_mail (x : TT [(.st .Config), (.st .Mail)]) (r : TT [.bool]) (h : OkTT [(.st .Config), (.st .Mail)] x) (hn : N_act_limits_mail x = some r) : D_act_limits_mail x.1 x.2.1 = some r := (P_act_limits_mail x.1 x.2.1).trans hn
theorem Q_msg_Check (x : TT [(.st .Msg)]) (r : TT [(.int .i64)]) (h : OkTT [(.st .Msg)] x) (hn : N_msg_Check x = some r) : D_msg_Check x.1 = some r := (P_msg_Check x.1 (okMsg h.1)).trans hn
theorem Q_msg_used (x : TT [(.st .Msg)]) (r : TT [(.st .Msg), .bool]) (h : OkTT [(.st .Msg)] x) (hn : N_msg_used x = some r) : D_msg_used x.1 = some r := (P_msg_used x.1).trans hn
theorem Q_msg_Same (x : TT [(.st .Msg), (.st .Msg)]) (r : TT [.bool]) (h : OkTT [(.st .Msg), (.st .Msg)] x) (hn : N_msg_Same x = some r) : D_msg_Same x.1 x.2.1 = some r := (P_msg_Same x.1 x.2.1).trans hn
theorem Q_disk_none (x : TT []) (r : TT [(.sl (.int .u8))]) (h : OkTT [] x) (hn : N_disk_none x = some r) : D_disk_none = some r := (P_disk_none).trans hn
theorem Q_bytes_Equal (x : TT [(.sl (.int .u8)), (.sl (.int .u8))]) (r : TT [.bool]) (h : OkTT [(.sl (.int .u8)), (.sl (.int .u8))] x) (hn : N_bytes_Equal x = some r) : D_bytes_Equal x.1 x.2.1 = some r := (P_bytes_Equal x.1 x.2.1).trans hn
theorem Q_disk_sized (x : TT [(.sl (.sl (.int .u8)))]) (r : TT [.bool]) (h : OkTT [(.sl (.sl (.int .u8)))] x) (hn : N_disk_sized x = some r) : D_disk_sized x.1 = some r := (P_disk_sized x.1 (okSl h.1)).trans hn
theorem Q_rec_site (x : TT [(.sl (.int .i64))]) (r : TT [.bool]) (h : OkTT [(.sl (.int .i64))] x) (hn : N_rec_site x = some r) : D_rec_site x.1 = some r := (P_rec_site x.1 (okSl h.1)).trans hn
theorem Q_msg_marks (x : TT [(.sl (.int .u8))]) (r : TT [.bool]) (h : OkTT [(.sl (.int .u8))] x) (hn : N_msg_marks x = some r) : D_msg_marks x.1 = some r := (P_msg_marks x.1).trans hn
theorem Q_msg_of (x : TT [(.st .Msg)]) (r : TT [(.st .Plain)]) (h : OkTT [(.st .Msg)] x) (hn : N_msg_of x = some r) : D_msg_of x.1 = some r := (P_msg_of x.1).trans hn
theorem Q_rec_sizes (x : TT []) (r : TT [(.sl (.int .i64))]) (h : OkTT [] x) (hn : N_rec_sizes x = some r) : D_rec_sizes = some r := (P_rec_sizes).trans hn
theorem Q_ring_round_byte_at (x : TT [(.st .Round), (.int .i64)]) (r : TT [(.int .i64)]) (h : OkTT [(.st .Round), (.int .i64)] x) (hn : N_ring_round_byte_at x = some r) : D_ring_round_byte_at x.1 x.2.1 = some r := (P_ring_at x.1 x.2.1 (ite_some2 hn)).trans hn
theorem Q_place_pages (x : TT [(.st .Config)]) (r : TT [(.int .i64)]) (h : OkTT [(.st .Config)] x) (hn : N_place_pages x = some r) : D_place_pages x.1 = some r := (P_place_pages x.1 (ite_some hn)).trans hn
theorem Q_act_limits_message (x : TT [(.st .Config), (.st .Msg)]) (r : TT [.bool]) (h : OkTT [(.st .Config), (.st .Msg)] x) (hn : N_act_limits_message x = some r) : D_act_limits_message x.1 x.2.1 = some r := (P_act_limits_message x.1 x.2.1).trans hn
theorem Q_act_limits_pair (x : TT [(.st .Config), (.int .i64)]) (r : TT [.bool]) (h : OkTT [(.st .Config), (.int .i64)] x) (hn : N_act_limits_pair x = some r) : D_act_limits_pair x.1 x.2.1 = some r := (P_act_limits_pair x.1 x.2.1).trans hn
theorem Q_place_part_size (x : TT [(.st .Part)]) (r : TT [(.int .i64)]) (h : OkTT [(.st .Part)] x) (hn : N_place_part_size x = some r) : D_place_part_size x.1 = some r := (P_place_part_size x.1).trans hn
theorem Q_bits_All (x : TT [(.int .i64)]) (r : TT [(.sl (.int .u8)), (.int .i64)]) (h : OkTT [(.int .i64)] x) (hn : N_bits_All x = some r) : D_bits_All x.1 = some r := (P_bits_All x.1).trans hn
end Go.Cat

namespace Go.Cat
open Go
def N_ring_Twin (x : Queue × Unit) : Option (Queue × Unit) := if fitAll x.1.items = true then some x else none
def N_sess_Twin (x : End × Unit) : Option (End × Unit) := if fitAll x.1.out.items = true then some x else none
def N_disk_Twin (x : Disk × Unit) : Option (Disk × Unit) := if fitDisk x.1 = true then some x else none
def N_msg_Twin (x : Msg × Unit) : Option (Msg × Unit) := if fitMsg x.1 = true then some x else none
def N_act_reply (x : Reply × Unit) : Option (Reply × Unit) := if x.1.bytes.length ≤ 1000000 then some x else none
def N_slices_Clone_api_Rec_api_Rec (x : List Rec × Unit) : Option (List Rec × Unit) := if x.1.length ≤ big then some x else none
def N_slices_Clone_int_int (x : List Int × Unit) : Option (List Int × Unit) := if x.1.length ≤ big then some x else none
def N_slices_Clone_api_Sent_api_Sent (x : List Sent × Unit) : Option (List Sent × Unit) := if x.1.length ≤ big then some x else none
def N_slices_Clone_api_Wait_api_Wait (x : List Wait × Unit) : Option (List Wait × Unit) := if x.1.length ≤ big then some x else none
def N_bytes_Clone (x : List Int × Unit) : Option (List Int × Unit) := if x.1.length ≤ big then some x else none
def N_act_Twin (x : Site × Unit) : Option (Site × Unit) := if fitSite x.1 = true then some x else none
def noRec : Rec := ⟨0, 0, 0, 0, 0, 0, false, false⟩
def noMsg : Msg := ⟨0, 0, false, noRec, 0, 0, 0, 0, 0, 0, [], []⟩
def noSite : Site := ⟨0, ⟨[], []⟩, ⟨⟨0, 0, 0⟩, 0, 0, []⟩, [], ⟨0, 0, false, false, 0, 0, ⟨[], 0, 0⟩, 0, 0⟩, [], [], [], [], [], 0, false⟩
end Go.Cat

set_option linter.unusedVariables false
namespace Go.Cat
open Go
noncomputable def D_act_Twin_l1 (p1 : Site) (r1 : (Disk × Unit)) (r2 : (End × Unit)) (r3 : ((List Rec) × Unit)) (r4 : ((List Int) × Unit)) (l5 : ((List Side) × ((List Side) × (Int × (Int × Unit))))) (l6 : ((List Act) × ((List Act) × (Int × (Int × Unit))))) (l7 : ((List Mail) × ((List Mail) × (Int × (Int × Unit))))) (l8 : ((List Ask) × ((List Ask) × (Int × (Int × Unit))))) (l9 : ((List Reply) × ((List Reply) × (Int × (Int × Unit))))) : Option (((List Reply) × ((List Reply) × (Int × (Int × Unit)))) ⊕ (Site × Unit)) :=
    if (decide (l9.2.2.2.1 < l9.2.2.1)) then
    if (decide (((0 : Int) ≤ l9.2.2.2.1) ∧ (l9.2.2.2.1 < (((List.length l9.2.1) : Nat) : Int)))) then
    Option.bind (N_act_reply ((nth l9.2.1 (Int.toNat l9.2.2.2.1)), ())) fun r10 =>
      if (decide (((List.length l9.1) + (List.length (r10.1 :: []))) ≤ big)) then
      some (Sum.inl ((l9.1 ++ (r10.1 :: [])), (l9.2.1, (l9.2.2.1, ((IntKind.wrap IntKind.i64 (l9.2.2.2.1 + (1 : Int))), ())))))
      else none
    else none
  else
    some (Sum.inr ((Site.mk p1.id r1.1 (Meta.mk p1.met.super p1.met.count p1.met.turn r3.1) l5.1 r2.1 l6.1 l7.1 l8.1 l9.1 r4.1 p1.born p1.ready), ()))
noncomputable def D_act_Twin_t2 (p1 : Site) (r1 : (Disk × Unit)) (r2 : (End × Unit)) (r3 : ((List Rec) × Unit)) (r4 : ((List Int) × Unit)) (l5 : ((List Side) × ((List Side) × (Int × (Int × Unit))))) (l6 : ((List Act) × ((List Act) × (Int × (Int × Unit))))) (l7 : ((List Mail) × ((List Mail) × (Int × (Int × Unit))))) (l8 : ((List Ask) × ((List Ask) × (Int × (Int × Unit))))) : Option (Site × Unit) :=
    loopO (D_act_Twin_l1 p1 r1 r2 r3 r4 l5 l6 l7 l8) ([], (p1.replies, ((((List.length p1.replies) : Nat) : Int), ((0 : Int), ()))))
noncomputable def D_act_Twin_l3 (p1 : Site) (r1 : (Disk × Unit)) (r2 : (End × Unit)) (r3 : ((List Rec) × Unit)) (r4 : ((List Int) × Unit)) (l5 : ((List Side) × ((List Side) × (Int × (Int × Unit))))) (l6 : ((List Act) × ((List Act) × (Int × (Int × Unit))))) (l7 : ((List Mail) × ((List Mail) × (Int × (Int × Unit))))) (l8 : ((List Ask) × ((List Ask) × (Int × (Int × Unit))))) : Option (((List Ask) × ((List Ask) × (Int × (Int × Unit)))) ⊕ (Site × Unit)) :=
    if (decide (l8.2.2.2.1 < l8.2.2.1)) then
    if (decide (((0 : Int) ≤ l8.2.2.2.1) ∧ (l8.2.2.2.1 < (((List.length l8.2.1) : Nat) : Int)))) then
    Option.bind (N_bytes_Clone ((nth l8.2.1 (Int.toNat l8.2.2.2.1)).bytes, ())) fun r9 =>
      if (decide (((List.length l8.1) + (List.length ((Ask.mk (nth l8.2.1 (Int.toNat l8.2.2.2.1)).id (nth l8.2.1 (Int.toNat l8.2.2.2.1)).kind (nth l8.2.1 (Int.toNat l8.2.2.2.1)).pair (nth l8.2.1 (Int.toNat l8.2.2.2.1)).track (nth l8.2.1 (Int.toNat l8.2.2.2.1)).op r9.1) :: []))) ≤ big)) then
      some (Sum.inl ((l8.1 ++ ((Ask.mk (nth l8.2.1 (Int.toNat l8.2.2.2.1)).id (nth l8.2.1 (Int.toNat l8.2.2.2.1)).kind (nth l8.2.1 (Int.toNat l8.2.2.2.1)).pair (nth l8.2.1 (Int.toNat l8.2.2.2.1)).track (nth l8.2.1 (Int.toNat l8.2.2.2.1)).op r9.1) :: [])), (l8.2.1, (l8.2.2.1, ((IntKind.wrap IntKind.i64 (l8.2.2.2.1 + (1 : Int))), ())))))
      else none
    else none
  else
    Option.map Sum.inr (D_act_Twin_t2 p1 r1 r2 r3 r4 l5 l6 l7 l8)
noncomputable def D_act_Twin_t4 (p1 : Site) (r1 : (Disk × Unit)) (r2 : (End × Unit)) (r3 : ((List Rec) × Unit)) (r4 : ((List Int) × Unit)) (l5 : ((List Side) × ((List Side) × (Int × (Int × Unit))))) (l6 : ((List Act) × ((List Act) × (Int × (Int × Unit))))) (l7 : ((List Mail) × ((List Mail) × (Int × (Int × Unit))))) : Option (Site × Unit) :=
    loopO (D_act_Twin_l3 p1 r1 r2 r3 r4 l5 l6 l7) ([], (p1.asks, ((((List.length p1.asks) : Nat) : Int), ((0 : Int), ()))))
noncomputable def D_act_Twin_l5 (p1 : Site) (r1 : (Disk × Unit)) (r2 : (End × Unit)) (r3 : ((List Rec) × Unit)) (r4 : ((List Int) × Unit)) (l5 : ((List Side) × ((List Side) × (Int × (Int × Unit))))) (l6 : ((List Act) × ((List Act) × (Int × (Int × Unit))))) (l7 : ((List Mail) × ((List Mail) × (Int × (Int × Unit))))) : Option (((List Mail) × ((List Mail) × (Int × (Int × Unit)))) ⊕ (Site × Unit)) :=
    if (decide (l7.2.2.2.1 < l7.2.2.1)) then
    if (decide (((0 : Int) ≤ l7.2.2.2.1) ∧ (l7.2.2.2.1 < (((List.length l7.2.1) : Nat) : Int)))) then
    Option.bind (N_msg_Twin ((nth l7.2.1 (Int.toNat l7.2.2.2.1)).msg, ())) fun r8 =>
      if (decide (((List.length l7.1) + (List.length ((Mail.mk (nth l7.2.1 (Int.toNat l7.2.2.2.1)).kind (nth l7.2.1 (Int.toNat l7.2.2.2.1)).me (nth l7.2.1 (Int.toNat l7.2.2.2.1)).you r8.1) :: []))) ≤ big)) then
      some (Sum.inl ((l7.1 ++ ((Mail.mk (nth l7.2.1 (Int.toNat l7.2.2.2.1)).kind (nth l7.2.1 (Int.toNat l7.2.2.2.1)).me (nth l7.2.1 (Int.toNat l7.2.2.2.1)).you r8.1) :: [])), (l7.2.1, (l7.2.2.1, ((IntKind.wrap IntKind.i64 (l7.2.2.2.1 + (1 : Int))), ())))))
      else none
    else none
  else
    Option.map Sum.inr (D_act_Twin_t4 p1 r1 r2 r3 r4 l5 l6 l7)
noncomputable def D_act_Twin_t6 (p1 : Site) (r1 : (Disk × Unit)) (r2 : (End × Unit)) (r3 : ((List Rec) × Unit)) (r4 : ((List Int) × Unit)) (l5 : ((List Side) × ((List Side) × (Int × (Int × Unit))))) (l6 : ((List Act) × ((List Act) × (Int × (Int × Unit))))) : Option (Site × Unit) :=
    loopO (D_act_Twin_l5 p1 r1 r2 r3 r4 l5 l6) ([], (p1.mail, ((((List.length p1.mail) : Nat) : Int), ((0 : Int), ()))))
noncomputable def D_act_Twin_l7 (p1 : Site) (r1 : (Disk × Unit)) (r2 : (End × Unit)) (r3 : ((List Rec) × Unit)) (r4 : ((List Int) × Unit)) (l5 : ((List Side) × ((List Side) × (Int × (Int × Unit))))) (l6 : ((List Act) × ((List Act) × (Int × (Int × Unit))))) : Option (((List Act) × ((List Act) × (Int × (Int × Unit)))) ⊕ (Site × Unit)) :=
    if (decide (l6.2.2.2.1 < l6.2.2.1)) then
    if (decide (((0 : Int) ≤ l6.2.2.2.1) ∧ (l6.2.2.2.1 < (((List.length l6.2.1) : Nat) : Int)))) then
    Option.bind (N_bytes_Clone ((nth l6.2.1 (Int.toNat l6.2.2.2.1)).bytes, ())) fun r7 =>
      Option.bind (N_msg_Twin ((nth l6.2.1 (Int.toNat l6.2.2.2.1)).msg, ())) fun r8 =>
        Option.bind (N_act_reply ((nth l6.2.1 (Int.toNat l6.2.2.2.1)).reply, ())) fun r9 =>
          if (decide (((List.length l6.1) + (List.length ((Act.mk (nth l6.2.1 (Int.toNat l6.2.2.2.1)).kind (nth l6.2.1 (Int.toNat l6.2.2.2.1)).at_ r7.1 (nth l6.2.1 (Int.toNat l6.2.2.2.1)).me (nth l6.2.1 (Int.toNat l6.2.2.2.1)).you r8.1 r9.1 (nth l6.2.1 (Int.toNat l6.2.2.2.1)).pair) :: []))) ≤ big)) then
          some (Sum.inl ((l6.1 ++ ((Act.mk (nth l6.2.1 (Int.toNat l6.2.2.2.1)).kind (nth l6.2.1 (Int.toNat l6.2.2.2.1)).at_ r7.1 (nth l6.2.1 (Int.toNat l6.2.2.2.1)).me (nth l6.2.1 (Int.toNat l6.2.2.2.1)).you r8.1 r9.1 (nth l6.2.1 (Int.toNat l6.2.2.2.1)).pair) :: [])), (l6.2.1, (l6.2.2.1, ((IntKind.wrap IntKind.i64 (l6.2.2.2.1 + (1 : Int))), ())))))
          else none
    else none
  else
    Option.map Sum.inr (D_act_Twin_t6 p1 r1 r2 r3 r4 l5 l6)
noncomputable def D_act_Twin_t8 (p1 : Site) (r1 : (Disk × Unit)) (r2 : (End × Unit)) (r3 : ((List Rec) × Unit)) (r4 : ((List Int) × Unit)) (l5 : ((List Side) × ((List Side) × (Int × (Int × Unit))))) : Option (Site × Unit) :=
    loopO (D_act_Twin_l7 p1 r1 r2 r3 r4 l5) ([], (p1.plan, ((((List.length p1.plan) : Nat) : Int), ((0 : Int), ()))))
noncomputable def D_act_Twin_l9 (p1 : Site) (r1 : (Disk × Unit)) (r2 : (End × Unit)) (r3 : ((List Rec) × Unit)) (r4 : ((List Int) × Unit)) (l5 : ((List Side) × ((List Side) × (Int × (Int × Unit))))) : Option (((List Side) × ((List Side) × (Int × (Int × Unit)))) ⊕ (Site × Unit)) :=
    if (decide (l5.2.2.2.1 < l5.2.2.1)) then
    if (decide (((0 : Int) ≤ l5.2.2.2.1) ∧ (l5.2.2.2.1 < (((List.length l5.2.1) : Nat) : Int)))) then
    Option.bind (N_bytes_Clone ((nth l5.2.1 (Int.toNat l5.2.2.2.1)).marks, ())) fun r6 =>
      Option.bind (N_bytes_Clone ((nth l5.2.1 (Int.toNat l5.2.2.2.1)).work, ())) fun r7 =>
        Option.bind (N_bytes_Clone ((nth l5.2.1 (Int.toNat l5.2.2.2.1)).need, ())) fun r8 =>
          Option.bind (N_slices_Clone_api_Sent_api_Sent ((nth l5.2.1 (Int.toNat l5.2.2.2.1)).out, ())) fun r9 =>
            Option.bind (N_slices_Clone_api_Wait_api_Wait ((nth l5.2.1 (Int.toNat l5.2.2.2.1)).waits, ())) fun r10 =>
              if (decide (((List.length l5.1) + (List.length ((Side.mk r6.1 r7.1 r9.1 (nth l5.2.1 (Int.toNat l5.2.2.2.1)).n r10.1 r8.1 (nth l5.2.1 (Int.toNat l5.2.2.2.1)).first (nth l5.2.1 (Int.toNat l5.2.2.2.1)).next (nth l5.2.1 (Int.toNat l5.2.2.2.1)).op (nth l5.2.1 (Int.toNat l5.2.2.2.1)).ask (nth l5.2.1 (Int.toNat l5.2.2.2.1)).knows (nth l5.2.1 (Int.toNat l5.2.2.2.1)).over (nth l5.2.1 (Int.toNat l5.2.2.2.1)).clean (nth l5.2.1 (Int.toNat l5.2.2.2.1)).again) :: []))) ≤ big)) then
              some (Sum.inl ((l5.1 ++ ((Side.mk r6.1 r7.1 r9.1 (nth l5.2.1 (Int.toNat l5.2.2.2.1)).n r10.1 r8.1 (nth l5.2.1 (Int.toNat l5.2.2.2.1)).first (nth l5.2.1 (Int.toNat l5.2.2.2.1)).next (nth l5.2.1 (Int.toNat l5.2.2.2.1)).op (nth l5.2.1 (Int.toNat l5.2.2.2.1)).ask (nth l5.2.1 (Int.toNat l5.2.2.2.1)).knows (nth l5.2.1 (Int.toNat l5.2.2.2.1)).over (nth l5.2.1 (Int.toNat l5.2.2.2.1)).clean (nth l5.2.1 (Int.toNat l5.2.2.2.1)).again) :: [])), (l5.2.1, (l5.2.2.1, ((IntKind.wrap IntKind.i64 (l5.2.2.2.1 + (1 : Int))), ())))))
              else none
    else none
  else
    Option.map Sum.inr (D_act_Twin_t8 p1 r1 r2 r3 r4 l5)
noncomputable def D_act_Twin (p1 : Site) : Option (Site × Unit) :=
  Option.bind (N_disk_Twin (p1.disk, ())) fun r1 =>
    Option.bind (N_sess_Twin (p1.end_, ())) fun r2 =>
      Option.bind (N_slices_Clone_api_Rec_api_Rec (p1.met.table, ())) fun r3 =>
        Option.bind (N_slices_Clone_int_int (p1.syncs, ())) fun r4 =>
          loopO (D_act_Twin_l9 p1 r1 r2 r3 r4) ([], (p1.sides, ((((List.length p1.sides) : Nat) : Int), ((0 : Int), ()))))
noncomputable def D_sess_Twin (p1 : End) : Option (End × Unit) :=
  Option.bind (N_ring_Twin (p1.out, ())) fun r1 =>
    some ((End.mk p1.me p1.you p1.up p1.dead p1.sent p1.done r1.1 p1.got p1.quiet), ())
noncomputable def D_disk_Twin_l1  (l1 : (((List Sector) × ((List Pend) × Unit)) × ((List Pend) × (Int × (Int × Unit))))) : Option ((((List Sector) × ((List Pend) × Unit)) × ((List Pend) × (Int × (Int × Unit)))) ⊕ (Disk × Unit)) :=
    if (decide (l1.2.2.2.1 < l1.2.2.1)) then
    if (decide (((0 : Int) ≤ l1.2.2.2.1) ∧ (l1.2.2.2.1 < (((List.length l1.2.1) : Nat) : Int)))) then
    Option.bind (N_slices_Clone_byte_byte ((nth l1.2.1 (Int.toNat l1.2.2.2.1)).bytes, ())) fun r2 =>
      if (decide (((List.length l1.1.2.1) + (List.length ((Pend.mk (nth l1.2.1 (Int.toNat l1.2.2.2.1)).at_ r2.1) :: []))) ≤ big)) then
      some (Sum.inl ((l1.1.1, ((l1.1.2.1 ++ ((Pend.mk (nth l1.2.1 (Int.toNat l1.2.2.2.1)).at_ r2.1) :: [])), ())), (l1.2.1, (l1.2.2.1, ((IntKind.wrap IntKind.i64 (l1.2.2.2.1 + (1 : Int))), ())))))
      else none
    else none
  else
    some (Sum.inr ((Disk.mk l1.1.1 l1.1.2.1), ()))
noncomputable def D_disk_Twin_t2 (p1 : Disk) (l1 : (((List Sector) × ((List Pend) × Unit)) × ((List Sector) × (Int × (Int × Unit))))) : Option (Disk × Unit) :=
    loopO (D_disk_Twin_l1 ) ((l1.1.1, (l1.1.2.1, ())), (p1.cache, ((((List.length p1.cache) : Nat) : Int), ((0 : Int), ()))))
noncomputable def D_disk_Twin_l3 (p1 : Disk) (l1 : (((List Sector) × ((List Pend) × Unit)) × ((List Sector) × (Int × (Int × Unit))))) : Option ((((List Sector) × ((List Pend) × Unit)) × ((List Sector) × (Int × (Int × Unit)))) ⊕ (Disk × Unit)) :=
    if (decide (l1.2.2.2.1 < l1.2.2.1)) then
    if (decide (((0 : Int) ≤ l1.2.2.2.1) ∧ (l1.2.2.2.1 < (((List.length l1.2.1) : Nat) : Int)))) then
    Option.bind (N_slices_Clone_byte_byte ((nth l1.2.1 (Int.toNat l1.2.2.2.1)).bytes, ())) fun r2 =>
      if (decide (((List.length l1.1.1) + (List.length ((Sector.mk r2.1 (nth l1.2.1 (Int.toNat l1.2.2.2.1)).bad) :: []))) ≤ big)) then
      some (Sum.inl (((l1.1.1 ++ ((Sector.mk r2.1 (nth l1.2.1 (Int.toNat l1.2.2.2.1)).bad) :: [])), (l1.1.2.1, ())), (l1.2.1, (l1.2.2.1, ((IntKind.wrap IntKind.i64 (l1.2.2.2.1 + (1 : Int))), ())))))
      else none
    else none
  else
    Option.map Sum.inr (D_disk_Twin_t2 p1 l1)
noncomputable def D_disk_Twin (p1 : Disk) : Option (Disk × Unit) :=
  loopO (D_disk_Twin_l3 p1) (([], ([], ())), (p1.sectors, ((((List.length p1.sectors) : Nat) : Int), ((0 : Int), ()))))
noncomputable def D_msg_Twin (p1 : Msg) : Option (Msg × Unit) :=
  Option.bind (N_slices_Clone_byte_byte (p1.marks, ())) fun r1 =>
    Option.bind (N_slices_Clone_byte_byte (p1.bytes, ())) fun r2 =>
      some ((Msg.mk p1.kind p1.pair p1.has p1.rec_ p1.op p1.born p1.epoch p1.track p1.n p1.code r1.1 r2.1), ())
noncomputable def D_ring_Twin_l1  (l1 : (((List (List Int)) × (Int × (Int × Unit))) × ((List (List Int)) × (Int × (Int × Unit))))) : Option ((((List (List Int)) × (Int × (Int × Unit))) × ((List (List Int)) × (Int × (Int × Unit)))) ⊕ (Queue × Unit)) :=
    if (decide (l1.2.2.2.1 < l1.2.2.1)) then
    if (decide (((0 : Int) ≤ l1.2.2.2.1) ∧ (l1.2.2.2.1 < (((List.length l1.2.1) : Nat) : Int)))) then
    Option.bind (N_ring_text ((nth l1.2.1 (Int.toNat l1.2.2.2.1)), ())) fun r2 =>
      if (decide (((0 : Int) ≤ l1.2.2.2.1) ∧ (l1.2.2.2.1 < (((List.length l1.1.1) : Nat) : Int)))) then
      some (Sum.inl (((List.set l1.1.1 (Int.toNat l1.2.2.2.1) r2.1), l1.1.2), (l1.2.1, (l1.2.2.1, ((IntKind.wrap IntKind.i64 (l1.2.2.2.1 + (1 : Int))), ())))))
      else none
    else none
  else
    some (Sum.inr ((Queue.mk l1.1.1 l1.1.2.1 l1.1.2.2.1), ()))
noncomputable def D_ring_Twin (p1 : Queue) : Option (Queue × Unit) :=
  if (decide (((0 : Int) ≤ (((List.length p1.items) : Nat) : Int)) ∧ (((((List.length p1.items) : Nat) : Int) ≤ (((List.length p1.items) : Nat) : Int)) ∧ ((((List.length p1.items) : Nat) : Int) ≤ ((big : Nat) : Int))))) then
  loopO (D_ring_Twin_l1 ) (((List.replicate (Int.toNat (((List.length p1.items) : Nat) : Int)) []), (p1.head, (p1.many, ()))), (p1.items, ((((List.length p1.items) : Nat) : Int), ((0 : Int), ()))))
  else none
noncomputable def D_act_reply (p1 : Reply) : Option (Reply × Unit) :=
  Option.bind (N_slices_Clone_byte_byte (p1.bytes, ())) fun r1 =>
    some ((Reply.mk p1.ask p1.code p1.state r1.1), ())
end Go.Cat

namespace Go.Cat
open Go
theorem wrapm_u32 (n : Int) : IntKind.wrap .u32 n = n % 4294967296 := by
  simp [IntKind.wrap, IntKind.signed, IntKind.bits]
end Go.Cat

set_option linter.unusedSimpArgs false
set_option linter.unusedVariables false
namespace Go.Cat
open Go
end Go.Cat

set_option linter.unusedSimpArgs false
set_option linter.unusedVariables false
namespace Go.Cat
open Go
theorem le_big {n : Nat} (h : n ≤ 1000000) : n ≤ big := by have := big_eq; omega
theorem P_msg_Twin (m : Msg) (h : fitMsg m = true) : D_msg_Twin m = N_msg_Twin (m, ()) := by
  have h' := h
  simp only [fitMsg, Bool.and_eq_true, decide_eq_true_eq] at h'
  simp only [D_msg_Twin, N_msg_Twin, N_slices_Clone_byte_byte, le_big h'.1, le_big h'.2, h, if_true, Option.bind_some]
theorem P_act_reply (r : Reply) (h : r.bytes.length ≤ 1000000) : D_act_reply r = N_act_reply (r, ()) := by
  simp only [D_act_reply, N_act_reply, N_slices_Clone_byte_byte, le_big h, h, if_true, Option.bind_some]
theorem set_mid {α : Type} (a : List α) (d x : α) (m : Nat) : (a ++ List.replicate (m + 1) d).set a.length x = (a ++ [x]) ++ List.replicate m d := by
  rw [List.set_append_right _ _ (Nat.le_refl _)]
  simp [List.replicate_succ]
theorem P_ring_Twin (q : Queue) (h : fitAll q.items = true) : D_ring_Twin q = N_ring_Twin (q, ()) := by
  have hb := big_eq
  have h' := h
  simp only [fitAll, Bool.and_eq_true, decide_eq_true_eq, List.all_eq_true] at h'
  have hg : (decide (((0 : Int) ≤ (((List.length q.items) : Nat) : Int)) ∧ (((((List.length q.items) : Nat) : Int) ≤ (((List.length q.items) : Nat) : Int)) ∧ ((((List.length q.items) : Nat) : Int) ≤ ((big : Nat) : Int))))) = true := by simp; omega
  simp only [D_ring_Twin, hg, if_true, N_ring_Twin, h, Int.toNat_natCast]
  refine loopO_for (step := D_ring_Twin_l1) (fun k => ((q.items.take k ++ List.replicate (q.items.length - k) [], (q.head, (q.many, ()))), (q.items, ((q.items.length : Int), ((k : Int), ()))))) q.items.length _ (fun k hk => ?_) ?_
  · have hd : decide ((k : Int) < (q.items.length : Int)) = true := by simp; omega
    have hd2 : decide ((0 : Int) ≤ (k : Int) ∧ (k : Int) < (q.items.length : Int)) = true := by simp; omega
    have hlen : (q.items.take k ++ List.replicate (q.items.length - k) ([] : List Int)).length = q.items.length := by simp; omega
    have ht := h'.2 _ (List.getElem_mem hk)
    have hset : (q.items.take k ++ List.replicate (q.items.length - k) ([] : List Int)).set k q.items[k] = q.items.take (k + 1) ++ List.replicate (q.items.length - (k + 1)) [] := by
      have e1 : q.items.length - k = (q.items.length - (k + 1)) + 1 := by omega
      have e2 : (q.items.take k).length = k := by simp; omega
      have := set_mid (q.items.take k) [] q.items[k] (q.items.length - (k + 1))
      rw [e2, take_succ_len hk] at this
      rw [e1]; exact this
    simp only [D_ring_Twin_l1, hd, hd2, hlen, if_true, wrap_succ (k := k) (by rw [maxLen_eq]; omega), Int.toNat_natCast, nth_lt hk, N_ring_text, ht, Option.bind_some, hset]
  · have hd : ¬ (decide ((q.items.length : Int) < (q.items.length : Int)) = true) := by simp
    simp only [D_ring_Twin_l1, hd, List.take_length, Nat.sub_self, List.replicate_zero, List.append_nil]
    rfl
theorem P_sess_Twin (e : End) (h : fitAll e.out.items = true) : D_sess_Twin e = N_sess_Twin (e, ()) := by
  simp only [D_sess_Twin, N_ring_Twin, N_sess_Twin, h, if_true, Option.bind_some]
theorem P_disk_Twin (d : Disk) (h : fitDisk d = true) : D_disk_Twin d = N_disk_Twin (d, ()) := by
  obtain ⟨h1, h2, h3, h4⟩ := (fit_iff d).1 h
  have hb := big_eq
  have hc : ∀ l, loopO D_disk_Twin_l1 ((l, ([], ())), (d.cache, ((d.cache.length : Int), ((0 : Int), ())))) = some (⟨l, d.cache⟩, ()) := by
    intro l
    refine loopO_for (fun k => ((l, (d.cache.take k, ())), (d.cache, ((d.cache.length : Int), ((k : Int), ()))))) d.cache.length _ (fun k hk => ?_) ?_
    · have c1 := le_big (h4 _ (List.getElem_mem hk))
      have hd : decide ((k : Int) < (d.cache.length : Int)) = true := by simp; omega
      have hd2 : decide ((0 : Int) ≤ (k : Int) ∧ (k : Int) < (d.cache.length : Int)) = true := by simp; omega
      have hd3 : decide ((d.cache.take k).length + 1 ≤ big) = true := by simp; omega
      simp only [D_disk_Twin_l1, hd, hd2, if_true, wrap_succ (k := k) (by rw [maxLen_eq]; omega), Int.toNat_natCast, nth_lt hk, N_slices_Clone_byte_byte, c1, Option.bind_some, List.length_singleton, hd3, take_succ_len hk]
    · have hd : ¬ (decide ((d.cache.length : Int) < (d.cache.length : Int)) = true) := by simp
      simp only [D_disk_Twin_l1, hd, List.take_length]
      rfl
  have hs : loopO (D_disk_Twin_l3 d) (([], ([], ())), (d.sectors, ((d.sectors.length : Int), ((0 : Int), ())))) = some (d, ()) := by
    refine loopO_for (fun k => ((d.sectors.take k, ([], ())), (d.sectors, ((d.sectors.length : Int), ((k : Int), ()))))) d.sectors.length _ (fun k hk => ?_) ?_
    · have c1 := le_big (h3 _ (List.getElem_mem hk))
      have hd : decide ((k : Int) < (d.sectors.length : Int)) = true := by simp; omega
      have hd2 : decide ((0 : Int) ≤ (k : Int) ∧ (k : Int) < (d.sectors.length : Int)) = true := by simp; omega
      have hd3 : decide ((d.sectors.take k).length + 1 ≤ big) = true := by simp; omega
      simp only [D_disk_Twin_l3, hd, hd2, if_true, wrap_succ (k := k) (by rw [maxLen_eq]; omega), Int.toNat_natCast, nth_lt hk, N_slices_Clone_byte_byte, c1, Option.bind_some, List.length_singleton, hd3, take_succ_len hk]
    · have hd : ¬ (decide ((d.sectors.length : Int) < (d.sectors.length : Int)) = true) := by simp
      simp only [D_disk_Twin_l3, hd, List.take_length]
      exact congrArg (Option.map Sum.inr) (hc d.sectors)
  simp only [D_disk_Twin, hs, N_disk_Twin, h, if_true]
theorem P_act_Twin (s : Site) (h : fitSite s = true) : D_act_Twin s = N_act_Twin (s, ()) := by
  have q := fit_r h
  have hw := q.words
  simp only [fitWords, Bool.and_eq_true, List.all_eq_true, decide_eq_true_eq] at hw
  have hbig := big_eq
  have h_replies : ∀ a : Unit, D_act_Twin_t2 s (s.disk, ()) (s.end_, ()) (s.met.table, ()) (s.syncs, ()) (s.sides, (s.sides, ((s.sides.length : Int), ((s.sides.length : Int), ())))) (s.plan, (s.plan, ((s.plan.length : Int), ((s.plan.length : Int), ())))) (s.mail, (s.mail, ((s.mail.length : Int), ((s.mail.length : Int), ())))) (s.asks, (s.asks, ((s.asks.length : Int), ((s.asks.length : Int), ())))) = some (s, ()) := by
    intro _
    unfold D_act_Twin_t2
    refine loopO_for (fun k => (s.replies.take k, (s.replies, ((s.replies.length : Int), ((k : Int), ()))))) s.replies.length _ (fun k hk => ?_) ?_
    · have hq := q.replies
      have := hw.2 _ (List.getElem_mem hk)
      have c1 : s.replies[k].bytes.length ≤ 1000000 := by omega
      have hd : decide ((k : Int) < (s.replies.length : Int)) = true := by simp; omega
      have hd2 : decide ((0 : Int) ≤ (k : Int) ∧ (k : Int) < (s.replies.length : Int)) = true := by simp; omega
      have hd3 : decide ((s.replies.take k).length + 1 ≤ big) = true := by simp; omega
      have ht := take_succ_len hk
      simp only [D_act_Twin_l1, hd, hd2, if_true, wrap_succ (k := k) (by rw [maxLen_eq]; omega), Int.toNat_natCast, nth_lt hk, N_act_reply, c1, Option.bind_some, List.length_singleton, hd3, ht]
    · have hd : ¬ (decide ((s.replies.length : Int) < (s.replies.length : Int)) = true) := by simp
      simp only [D_act_Twin_l1, hd, List.take_length]
      rfl
  have h_asks : ∀ a : Unit, D_act_Twin_t4 s (s.disk, ()) (s.end_, ()) (s.met.table, ()) (s.syncs, ()) (s.sides, (s.sides, ((s.sides.length : Int), ((s.sides.length : Int), ())))) (s.plan, (s.plan, ((s.plan.length : Int), ((s.plan.length : Int), ())))) (s.mail, (s.mail, ((s.mail.length : Int), ((s.mail.length : Int), ())))) = some (s, ()) := by
    intro _
    unfold D_act_Twin_t4
    refine loopO_for (fun k => (s.asks.take k, (s.asks, ((s.asks.length : Int), ((k : Int), ()))))) s.asks.length _ (fun k hk => ?_) ?_
    · have hq := q.asks
      have := hw.1 _ (List.getElem_mem hk)
      have c1 : s.asks[k].bytes.length ≤ big := by omega
      have hd : decide ((k : Int) < (s.asks.length : Int)) = true := by simp; omega
      have hd2 : decide ((0 : Int) ≤ (k : Int) ∧ (k : Int) < (s.asks.length : Int)) = true := by simp; omega
      have hd3 : decide ((s.asks.take k).length + 1 ≤ big) = true := by simp; omega
      have ht := take_succ_len hk
      simp only [D_act_Twin_l3, hd, hd2, if_true, wrap_succ (k := k) (by rw [maxLen_eq]; omega), Int.toNat_natCast, nth_lt hk, N_bytes_Clone, c1, Option.bind_some, List.length_singleton, hd3, ht]
    · have hd : ¬ (decide ((s.asks.length : Int) < (s.asks.length : Int)) = true) := by simp
      simp only [D_act_Twin_l3, hd, List.take_length]
      exact congrArg (Option.map Sum.inr) (h_replies ())
  have h_mail : ∀ a : Unit, D_act_Twin_t6 s (s.disk, ()) (s.end_, ()) (s.met.table, ()) (s.syncs, ()) (s.sides, (s.sides, ((s.sides.length : Int), ((s.sides.length : Int), ())))) (s.plan, (s.plan, ((s.plan.length : Int), ((s.plan.length : Int), ())))) = some (s, ()) := by
    intro _
    unfold D_act_Twin_t6
    refine loopO_for (fun k => (s.mail.take k, (s.mail, ((s.mail.length : Int), ((k : Int), ()))))) s.mail.length _ (fun k hk => ?_) ?_
    · have hq := q.mail
      have := q.mails _ (List.getElem_mem hk)
      simp only [fitMail, Bool.and_eq_true, decide_eq_true_eq] at this
      have c1 : fitMsg s.mail[k].msg = true := by simp only [fitMsg, Bool.and_eq_true, decide_eq_true_eq]; omega
      have hd : decide ((k : Int) < (s.mail.length : Int)) = true := by simp; omega
      have hd2 : decide ((0 : Int) ≤ (k : Int) ∧ (k : Int) < (s.mail.length : Int)) = true := by simp; omega
      have hd3 : decide ((s.mail.take k).length + 1 ≤ big) = true := by simp; omega
      have ht := take_succ_len hk
      simp only [D_act_Twin_l5, hd, hd2, if_true, wrap_succ (k := k) (by rw [maxLen_eq]; omega), Int.toNat_natCast, nth_lt hk, N_msg_Twin, c1, Option.bind_some, List.length_singleton, hd3, ht]
    · have hd : ¬ (decide ((s.mail.length : Int) < (s.mail.length : Int)) = true) := by simp
      simp only [D_act_Twin_l5, hd, List.take_length]
      exact congrArg (Option.map Sum.inr) (h_asks ())
  have h_plan : ∀ a : Unit, D_act_Twin_t8 s (s.disk, ()) (s.end_, ()) (s.met.table, ()) (s.syncs, ()) (s.sides, (s.sides, ((s.sides.length : Int), ((s.sides.length : Int), ())))) = some (s, ()) := by
    intro _
    unfold D_act_Twin_t8
    refine loopO_for (fun k => (s.plan.take k, (s.plan, ((s.plan.length : Int), ((k : Int), ()))))) s.plan.length _ (fun k hk => ?_) ?_
    · have hq := q.plan
      have := q.acts _ (List.getElem_mem hk)
      simp only [fitAct, Bool.and_eq_true, decide_eq_true_eq] at this
      have c1 : fitMsg s.plan[k].msg = true := by simp only [fitMsg, Bool.and_eq_true, decide_eq_true_eq]; omega
      have c2 : s.plan[k].bytes.length ≤ big := by omega
      have c3 : s.plan[k].reply.bytes.length ≤ 1000000 := by omega
      have hd : decide ((k : Int) < (s.plan.length : Int)) = true := by simp; omega
      have hd2 : decide ((0 : Int) ≤ (k : Int) ∧ (k : Int) < (s.plan.length : Int)) = true := by simp; omega
      have hd3 : decide ((s.plan.take k).length + 1 ≤ big) = true := by simp; omega
      have ht := take_succ_len hk
      simp only [D_act_Twin_l7, hd, hd2, if_true, wrap_succ (k := k) (by rw [maxLen_eq]; omega), Int.toNat_natCast, nth_lt hk, N_msg_Twin, N_bytes_Clone, N_act_reply, c1, c2, c3, Option.bind_some, List.length_singleton, hd3, ht]
    · have hd : ¬ (decide ((s.plan.length : Int) < (s.plan.length : Int)) = true) := by simp
      simp only [D_act_Twin_l7, hd, List.take_length]
      exact congrArg (Option.map Sum.inr) (h_mail ())
  have h_sides : loopO (D_act_Twin_l9 s (s.disk, ()) (s.end_, ()) (s.met.table, ()) (s.syncs, ())) ([], (s.sides, ((((List.length s.sides) : Nat) : Int), ((0 : Int), ())))) = some (s, ()) := by
    refine loopO_for (fun k => (s.sides.take k, (s.sides, ((s.sides.length : Int), ((k : Int), ()))))) s.sides.length _ (fun k hk => ?_) ?_
    · have hq := q.sides
      obtain ⟨g1, g2, g3, g4, g5⟩ := (side_iff _).1 (q.side _ (List.getElem_mem hk))
      have c1 : s.sides[k].marks.length ≤ big := by omega
      have c2 : s.sides[k].work.length ≤ big := by omega
      have c3 : s.sides[k].need.length ≤ big := by omega
      have c4 : s.sides[k].out.length ≤ big := by omega
      have c5 : s.sides[k].waits.length ≤ big := by omega
      have hd : decide ((k : Int) < (s.sides.length : Int)) = true := by simp; omega
      have hd2 : decide ((0 : Int) ≤ (k : Int) ∧ (k : Int) < (s.sides.length : Int)) = true := by simp; omega
      have hd3 : decide ((s.sides.take k).length + 1 ≤ big) = true := by simp; omega
      have ht := take_succ_len hk
      simp only [D_act_Twin_l9, hd, hd2, if_true, wrap_succ (k := k) (by rw [maxLen_eq]; omega), Int.toNat_natCast, nth_lt hk, N_bytes_Clone, N_slices_Clone_api_Sent_api_Sent, N_slices_Clone_api_Wait_api_Wait, c1, c2, c3, c4, c5, Option.bind_some, List.length_singleton, hd3, ht]
    · have hd : ¬ (decide ((s.sides.length : Int) < (s.sides.length : Int)) = true) := by simp
      simp only [D_act_Twin_l9, hd, List.take_length]
      exact congrArg (Option.map Sum.inr) (h_plan ())
  have hfit := q.disk
  have htab : s.met.table.length ≤ big := by have := q.table; omega
  have hsync : s.syncs.length ≤ big := by have := q.syncs; omega
  simp only [D_act_Twin, N_disk_Twin, hfit, N_slices_Clone_api_Rec_api_Rec, htab, N_slices_Clone_int_int, N_sess_Twin, q.items, if_true, Option.bind_some, hsync, N_act_Twin, h]
  exact h_sides
end Go.Cat

set_option linter.unusedSimpArgs false
set_option linter.unusedVariables false
namespace Go.Cat
open Go
theorem e_ok (b : Bool) : ((if b = true then (0 : Int) else 8) != 0) = !b := by cases b <;> rfl
end Go.Cat

set_option linter.unusedSimpArgs false
set_option linter.unusedVariables false
namespace Go.Cat
open Go
end Go.Cat

set_option linter.unusedVariables false
namespace Go.Cat
open Go
theorem Q_act_Twin (x : TT [(.st .Site)]) (r : TT [(.st .Site)]) (h : OkTT [(.st .Site)] x) (hn : N_act_Twin x = some r) : D_act_Twin x.1 = some r := (P_act_Twin x.1 (ite_some hn)).trans hn
theorem Q_sess_Twin (x : TT [(.st .End)]) (r : TT [(.st .End)]) (h : OkTT [(.st .End)] x) (hn : N_sess_Twin x = some r) : D_sess_Twin x.1 = some r := (P_sess_Twin x.1 (ite_some hn)).trans hn
theorem Q_disk_Twin (x : TT [(.st .Disk)]) (r : TT [(.st .Disk)]) (h : OkTT [(.st .Disk)] x) (hn : N_disk_Twin x = some r) : D_disk_Twin x.1 = some r := (P_disk_Twin x.1 (ite_some hn)).trans hn
theorem Q_msg_Twin (x : TT [(.st .Msg)]) (r : TT [(.st .Msg)]) (h : OkTT [(.st .Msg)] x) (hn : N_msg_Twin x = some r) : D_msg_Twin x.1 = some r := (P_msg_Twin x.1 (ite_some hn)).trans hn
theorem Q_ring_Twin (x : TT [(.st .Queue)]) (r : TT [(.st .Queue)]) (h : OkTT [(.st .Queue)] x) (hn : N_ring_Twin x = some r) : D_ring_Twin x.1 = some r := (P_ring_Twin x.1 (ite_some hn)).trans hn
theorem Q_act_reply (x : TT [(.st .Reply)]) (r : TT [(.st .Reply)]) (h : OkTT [(.st .Reply)] x) (hn : N_act_reply x = some r) : D_act_reply x.1 = some r := (P_act_reply x.1 (ite_some hn)).trans hn
end Go.Cat

namespace Go.Cat
open Go
def N_slices_Concat_byte_byte (x : List (List Int) × Unit) : Option (List Int × Unit) := if x.1.length ≤ 16 ∧ (x.1.all fun b => decide (b.length ≤ 1000000)) = true then some (x.1.flatten, ()) else none
def N_slices_Repeat_uint8_uint8 (x : List Int × (Int × Unit)) : Option (List Int × Unit) := if x.1.length = 1 ∧ 0 ≤ x.2.1 ∧ x.2.1 ≤ 1000 then some (List.replicate x.2.1.toNat (nth x.1 0), ()) else none
def msgSizes : List Int := [1, 1, 1, 1, 4, 4, 1, 4, 2, 1]
def N_msg_sizes (_ : Unit) : Option (List Int × Unit) := some (msgSizes, ())
def msgRow (m : Msg) : List Int := [m.kind, m.pair, if m.has = true then 1 else 0, m.op, m.born, m.epoch, m.track, m.n, m.code, (m.marks.length : Int)]
def textOf (m : Msg) : List Int := rowOf (msgRow m) msgSizes ++ m.marks ++ (if m.has = true then noteOf m.rec_ else []) ++ m.bytes
def N_msg_Write (x : Msg × Unit) : Option (List Int × (Int × Unit)) := if mayMsg x.1 = true then some (textOf x.1, (0, ())) else some ([], (200, ()))
def newDisk (n : Nat) : Disk := ⟨List.replicate n ⟨List.replicate 32 0, false⟩, []⟩
def noDisk : Disk := ⟨[], []⟩
def N_disk_New (x : Int × Unit) : Option (Disk × (Int × Unit)) := if x.1 < 1 ∨ 1024 < x.1 then some (noDisk, (2, ())) else some (newDisk x.1.toNat, (0, ()))
def N_disk_asked (x : Disk × (Int × Unit)) : Option (Int × Unit) := e1 (if mayDisk x.1 = true then (if 0 ≤ x.2.1 ∧ x.2.1 < (x.1.sectors.length : Int) then 0 else 2) else 8)
def written (d : Disk) (at_ : Int) (b : List Int) : Disk := ⟨d.sectors, d.cache ++ [⟨at_, b⟩]⟩
def writeT (d : Disk) (at_ : Int) (b : List Int) : Disk × Int :=
  if mayDisk d = true then (if 0 ≤ at_ ∧ at_ < (d.sectors.length : Int) then (if b.length = 32 then (if d.cache.length = 64 then (noDisk, 9) else (written d at_ b, 0)) else (noDisk, 2)) else (noDisk, 2)) else (noDisk, 8)
def N_disk_Write (x : Disk × (Int × (List Int × Unit))) : Option (Disk × (Int × Unit)) := if fitDisk x.1 = true then some ((writeT x.1 x.2.1 x.2.2.1).1, ((writeT x.1 x.2.1 x.2.2.1).2, ())) else none
def flushed (d : Disk) : Disk := behind d (List.replicate d.cache.length 1)
def N_disk_Flush (x : Disk × Unit) : Option (Disk × (Int × Unit)) := if x.1.cache.length ≤ 1000 then (if mayDisk x.1 = true then some (flushed x.1, (0, ())) else some (noDisk, (8, ()))) else none
def noQueue : Queue := ⟨[], 0, 0⟩
def newQueue : Queue := ⟨List.replicate 64 [], 0, 0⟩
def N_ring_New (x : Int × Unit) : Option (Queue × (Int × Unit)) := if x.1 < 1 ∨ 64 < x.1 then some (noQueue, (2, ())) else some (⟨List.replicate x.1.toNat [], 0, 0⟩, (0, ()))
def pushed (q : Queue) (b : List Int) : Queue := ⟨q.items.set (place q q.many.toNat) b, q.head, q.many + 1⟩
def pushT (q : Queue) (b : List Int) : Queue × Int := if mayQueue q = true then (if q.many = (q.items.length : Int) then (noQueue, 9) else (pushed q b, 0)) else (noQueue, 8)
def N_ring_Push (x : Queue × (List Int × Unit)) : Option (Queue × (Int × Unit)) := if fitAll x.1.items = true ∧ x.2.1.length ≤ 1000000 then some ((pushT x.1 x.2.1).1, ((pushT x.1 x.2.1).2, ())) else none
def noEnd : End := ⟨0, 0, false, false, 0, 0, noQueue, 0, 0⟩
def N_sess_New (x : Int × Unit) : Option (End × (Int × Unit)) := if x.1 < 1 ∨ 1048575 < x.1 then some (noEnd, (2, ())) else some (⟨x.1 * 4096, 0, false, false, 0, 0, newQueue, 0, 0⟩, (0, ()))
def putOn (e : End) (b : List Int) : End := ⟨e.me, e.you, e.up, e.dead, e.sent + 1, e.done, pushed e.out b, e.got, e.quiet⟩
def putT (c : Config) (e : End) (b : List Int) : End × Int :=
  if mayEnd c e = true then
    (if e.up = false then (noEnd, 170) else if b.length < 1 ∨ 64 < b.length then (noEnd, 4) else if e.sent = 4294967295 then (noEnd, 9) else if e.out.many = (e.out.items.length : Int) then (noEnd, 9) else (putOn e b, 0))
  else (noEnd, 8)
def N_sess_Put (x : Config × (End × (List Int × Unit))) : Option (End × (Int × Unit)) := if fitAll x.2.1.out.items = true then some ((putT x.1 x.2.1 x.2.2.1).1, ((putT x.1 x.2.1 x.2.2.1).2, ())) else none
def emptyBits (n : Int) : List Int := List.replicate (allBytes n).length 0
def N_bits_Of (x : Int × (List Int × Unit)) : Option (List Int × (Int × Unit)) := if x.2.1 = [] then (if mayN x.1 = true then some (emptyBits x.1, (0, ())) else some ([], (2, ()))) else none
def noSide : Side := ⟨[], [], [], 0, [], [], 0, 0, 0, 0, false, false, false, false⟩
def newSide (c : Config) : Side := ⟨emptyBits c.tracks, emptyBits c.tracks, [], 0, [], emptyBits c.tracks, -1, 0, 0, -1, false, false, false, false⟩
def N_act_Side (x : Config × Unit) : Option (Side × (Int × Unit)) := if mayConf x.1 = true then some (newSide x.1, (0, ())) else some (noSide, (8, ()))
def setDisk (s : Site) (d : Disk) : Site := ⟨s.id, d, s.met, s.sides, s.end_, s.plan, s.mail, s.asks, s.replies, s.syncs, s.born, s.ready⟩
def setEnd (s : Site) (e : End) : Site := ⟨s.id, s.disk, s.met, s.sides, e, s.plan, s.mail, s.asks, s.replies, s.syncs, s.born, s.ready⟩
def rested (s : Site) : Site := ⟨s.id, s.disk, s.met, s.sides, s.end_, s.plan.drop 1, s.mail, s.asks, s.replies, s.syncs, s.born, s.ready⟩
def linkConf : Config := ⟨1, 1, 3, 1, 1, 64⟩
def downEnd (e : End) : End := if (e.me + 1) % 4294967296 % 4096 = 0 then ⟨e.me, 0, false, true, 0, 0, newQueue, 0, 0⟩ else ⟨e.me + 1, 0, false, false, 0, 0, newQueue, 0, 0⟩
def downMail : Mail := ⟨3, 0, 0, noMsg⟩
def sentOn (s : Site) (a : Act) : Site :=
  if s.end_.up = true ∧ s.end_.me = a.me ∧ s.end_.you = a.you then
    (if (putT linkConf s.end_ (textOf a.msg)).2 = 0 then setEnd s (putT linkConf s.end_ (textOf a.msg)).1
     else ⟨s.id, s.disk, s.met, s.sides, downEnd s.end_, s.plan, s.mail ++ [downMail], s.asks, s.replies, s.syncs, s.born, s.ready⟩)
  else s
def doneOn (s : Site) (a : Act) : Site :=
  if a.kind = 1 then setDisk s (written (if s.disk.cache.length = 64 then flushed s.disk else s.disk) a.at_ a.bytes)
  else if a.kind = 2 then setDisk s (flushed s.disk)
  else if a.kind = 3 then sentOn s a
  else if a.kind = 4 then ⟨s.id, s.disk, s.met, s.sides, s.end_, s.plan, s.mail, s.asks, s.replies ++ [a.reply], s.syncs, s.born, s.ready⟩
  else if a.kind = 5 then ⟨s.id, s.disk, s.met, s.sides, s.end_, s.plan, s.mail, s.asks, s.replies, s.syncs ++ [a.pair], s.born, s.ready⟩
  else ⟨s.id, s.disk, s.met, s.sides, s.end_, s.plan, s.mail, s.asks, s.replies, s.syncs, s.born, s.ready || (a.kind == 6)⟩
def did (s : Site) : Site := doneOn (rested s) (nth s.plan 0)
def doT (c : Config) (s : Site) : Site × Int := if maySite c s = true then (if s.plan = [] then (noSite, 6) else (did s, 0)) else (noSite, 8)
def N_act_Do (x : Config × (Site × Unit)) : Option (Site × (Int × Unit)) := if fitSite x.2.1 = true then some ((doT x.1 x.2.1).1, ((doT x.1 x.2.1).2, ())) else none
def two : Config := ⟨2, 9, 4, 2, 2, 8⟩
def N_law21_two (_ : Unit) : Option (Config × Unit) := some (two, ())
def blankSite : Site := ⟨0, newDisk 86, ⟨⟨0, 0, 0⟩, 0, 0, []⟩, [newSide two, newSide two], ⟨4096, 0, false, false, 0, 0, newQueue, 0, 0⟩, [], [], [], [], [], 0, false⟩
def N_law21_blank (_ : Unit) : Option (Site × (Bool × Unit)) := some (blankSite, (true, ()))
def N_law21_alive (_ : Unit) : Option (Bool × Unit) := b1 true
end Go.Cat
