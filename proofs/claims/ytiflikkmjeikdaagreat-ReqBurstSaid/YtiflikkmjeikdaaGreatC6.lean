/-
  My own text: a part of the proof.
  My own text: a part of the proof.
  My own text: a part of the proof.
  My own text: a part of the proof.
  My own text: a part of the proof.
  My own text: a part of the proof.
  My own text: a part of the proof.
  My own text: a part of the proof.
  My own text: a part of the proof.
  My own text: a part of the proof.
  My own text: a part of the proof.
  My own text: a part of the proof.
  My own text: a part of the proof.
  My own text: a part of the proof.
  My own text: a part of the proof.
  My own text: a part of the proof.
  My own text: a part of the proof.
  My own text: a part of the proof.
  My own text: a part of the proof.
-/
import Derived.Test.YtiflikkmjeikdaaGreatC5
import Derived.KernelRfl
set_option linter.unusedVariables false
set_option linter.unusedSimpArgs false
namespace Go.Cat
open Go
theorem ite_b1 (b : Bool) : (if b = true then some (true, ()) else some (false, ())) = b1 b := by cases b <;> rfl
theorem maxLen_eq : maxLen = 9223372036854775807 := rfl
theorem big_eq : big = 1073741824 := rfl
theorem P_ref05_blank (l : List Int) (hl : l.length ≤ maxLen) : D_ref05_blank l = N_ref05_blank (l, ()) := by
  refine (loopO_all l (fun b => b == 0) (fun k => (l, ((k : Int), ()))) (some (false, ())) (some (true, ())) (fun k h => ?_) ?_).trans (ite_b1 _)
  · simp only [D_ref05_blank_l1, wrap_succ (Nat.lt_of_lt_of_le h hl), Int.toNat_natCast, nth_lt h]
    grind
  · simp [D_ref05_blank_l1]
theorem P_place_within (l : List Bound) (hl : l.length ≤ maxLen) : D_place_within l = N_place_within (l, ()) := by
  refine (loopO_all l (fun b => !(decide (b.a < b.b)) && !(decide (b.a > b.c))) (fun k => (l, ((l.length : Int), ((k : Int), ())))) (some (false, ())) (some (true, ())) (fun k h => ?_) ?_).trans (ite_b1 _)
  · simp only [D_place_within_l1, wrap_succ (Nat.lt_of_lt_of_le h hl), Int.toNat_natCast, nth_lt h]
    grind
  · simp [D_place_within_l1]
theorem P_ref05_May (d : Disk) (h1 : d.sectors.length ≤ maxLen) (h2 : d.cache.length ≤ maxLen) : D_ref05_May d = N_ref05_May (d, ()) := by
  have hc : loopO (D_ref05_May_l1 d) ((d.sectors.length : Int), ((0 : Int), ())) = b1 (d.cache.all (mayPend d.sectors.length)) := by
    refine (loopO_all d.cache (mayPend d.sectors.length) (fun k => ((d.sectors.length : Int), ((k : Int), ()))) (some (false, ())) (some (true, ())) (fun k h => ?_) ?_).trans (ite_b1 _)
    · simp only [D_ref05_May_l1, wrap_succ (Nat.lt_of_lt_of_le h h2), Int.toNat_natCast, nth_lt h, mayPend]
      grind
    · simp [D_ref05_May_l1]
  have hs : loopO (D_ref05_May_l2 d) ((d.sectors.length : Int), ((0 : Int), ())) = if d.sectors.all maySector = true then b1 (d.cache.all (mayPend d.sectors.length)) else some (false, ()) := by
    refine loopO_all d.sectors maySector (fun k => ((d.sectors.length : Int), ((k : Int), ()))) (some (false, ())) _ (fun k h => ?_) ?_
    · simp only [D_ref05_May_l2, wrap_succ (Nat.lt_of_lt_of_le h h1), Int.toNat_natCast, nth_lt h, maySector, N_ref05_blank, b1]
      grind
    · simp [D_ref05_May_l2, hc]
  simp only [D_ref05_May, hs, N_ref05_May, mayDisk, b1]
  grind
theorem P_disk_Check (d : Disk) (h1 : d.sectors.length ≤ maxLen) (h2 : d.cache.length ≤ maxLen) : D_disk_Check d = N_disk_Check (d, ()) := by
  have hc : loopO (D_disk_Check_l1 d) (d.cache, ((d.cache.length : Int), ((0 : Int), ()))) = if d.cache.all (mayPend d.sectors.length) = true then some (0, ()) else some (8, ()) := by
    refine loopO_all d.cache (mayPend d.sectors.length) (fun k => (d.cache, ((d.cache.length : Int), ((k : Int), ())))) (some (8, ())) (some (0, ())) (fun k h => ?_) ?_
    · simp only [D_disk_Check_l1, wrap_succ (Nat.lt_of_lt_of_le h h2), Int.toNat_natCast, nth_lt h, mayPend, N_disk_sized, b1]
      grind
    · simp [D_disk_Check_l1]
  have hs : loopO (D_disk_Check_l3 d) (d.sectors, ((d.sectors.length : Int), ((0 : Int), ()))) = if d.sectors.all maySector = true then (if d.cache.all (mayPend d.sectors.length) = true then some (0, ()) else some (8, ())) else some (8, ()) := by
    refine loopO_all d.sectors maySector (fun k => (d.sectors, ((d.sectors.length : Int), ((k : Int), ())))) (some (8, ())) _ (fun k h => ?_) ?_
    · have hz : ∀ b : List Int, b.length = 32 → (b == List.replicate 32 0) = b.all fun x => x == 0 := by
        intro b hb
        rw [Bool.eq_iff_iff, beq_iff_eq, List.eq_replicate_iff, List.all_eq_true]
        simp only [hb, true_and, beq_iff_eq]
      simp only [D_disk_Check_l3, wrap_succ (Nat.lt_of_lt_of_le h h1), Int.toNat_natCast, nth_lt h, maySector, N_disk_sized, N_disk_none, N_bytes_Equal, b1]
      have := hz d.sectors[k].bytes
      grind
    · simp [D_disk_Check_l3, D_disk_Check_t2, hc]
  simp only [D_disk_Check, hs, N_disk_Check, mayDisk, e1]
  grind
end Go.Cat

namespace Go.Cat
open Go
theorem P_ref07_in (a b c : Int) : D_ref07_in a b c = N_ref07_in (a, (b, (c, ()))) := by
  simp only [D_ref07_in, N_ref07_in, b1]
  grind
theorem conf_iff (c : Config) : mayConf c = true ↔ 1 ≤ c.pairs ∧ c.pairs ≤ 3 ∧ 1 ≤ c.tracks ∧ c.tracks ≤ 16 ∧ c.pairs + 2 ≤ c.area ∧ c.area ≤ 32 ∧ 1 ≤ c.most ∧ c.most ≤ c.pairs ∧ 1 ≤ c.window ∧ c.window ≤ 4 ∧ 4 ≤ c.quiet ∧ c.quiet ≤ 64 := by
  simp only [mayConf, Bool.and_eq_true, decide_eq_true_eq]
  omega
theorem P_ref07_May (c : Config) : D_ref07_May c = N_ref07_May (c, ()) := by
  simp only [D_ref07_May, N_ref07_May, N_ref07_in, b1, Option.bind_some]
  by_cases hp : 1 ≤ c.pairs ∧ c.pairs ≤ 3
  · rw [wrap_i64 (n := c.pairs + 2) (by omega) (by omega)]
    simp only [mayConf]
    grind
  · simp only [mayConf]
    grind
theorem P_place_Check (c : Config) : D_place_Check c = N_place_Check (c, ()) := by
  simp only [D_place_Check, N_place_Check, N_place_within, b1, e1, Option.bind_some]
  by_cases hp : 1 ≤ c.pairs ∧ c.pairs ≤ 3
  · rw [wrap_i64 (n := c.pairs + 2) (by omega) (by omega)]
    simp only [mayConf, List.all_cons, List.all_nil]
    grind
  · simp only [mayConf, List.all_cons, List.all_nil]
    grind
theorem P_ref07_Many (c : Config) : D_ref07_Many c = N_ref07_Many (c, ()) := by
  simp only [D_ref07_Many, N_ref07_Many, e1, many]
  grind
theorem many_le (c : Config) : 1 ≤ many c ∧ many c ≤ 2 := by unfold many; split <;> omega
theorem P_place_pages (c : Config) (h : mayConf c = true) : D_place_pages c = N_place_pages (c, ()) := by
  have hc := (conf_iff c).1 h
  simp only [D_place_pages, N_place_pages, e1, h, if_true, many]
  rw [wrap_i64 (n := c.tracks + 8) (by omega) (by omega), wrap_i64 (n := c.tracks + 8 - 1) (by omega) (by omega), Int.tdiv_eq_ediv_of_nonneg (by omega), wrap_i64 (by omega) (by omega)]
  simp only [bne_iff_ne, ne_eq, Option.some.injEq, Prod.mk.injEq, and_true]
  rw [if_pos (by decide)]
  simp only [Option.some.injEq, Prod.mk.injEq, and_true]
  split <;> omega
theorem P_place_part_size (p : Part) : D_place_part_size p = N_place_part_size (p, ()) := rfl
theorem mul_le {a b m n : Int} (ha : 0 ≤ a) (hb : 0 ≤ b) (h1 : a ≤ m) (h2 : b ≤ n) : 0 ≤ a * b ∧ a * b ≤ m * n := ⟨Int.mul_nonneg ha hb, Int.mul_le_mul h1 h2 hb (by omega)⟩
theorem P_ref07_first (c : Config) (h : mayConf c = true) : D_ref07_first c = N_ref07_first (c, ()) := by
  have hc := (conf_iff c).1 h
  have hm := many_le c
  have m1 := mul_le (a := c.pairs) (b := many c) (m := 3) (n := 2) (by omega) (by omega) (by omega) (by omega)
  have m2 := mul_le (a := 4 * c.pairs) (b := c.tracks) (m := 12) (n := 16) (by omega) (by omega) (by omega) (by omega)
  simp only [D_ref07_first, N_ref07_first, N_ref07_Many, e1, h, if_true, Option.bind_some, sizeC]
  simp (disch := omega) only [wrap_i64]
theorem P_ref07_Size (c : Config) (h : mayConf c = true) : D_ref07_Size c = N_ref07_Size (c, ()) := by
  simp only [D_ref07_Size, N_ref07_Size, N_ref07_first, h, if_true, Option.bind_some, e1]
theorem P_place_Sectors (c : Config) : D_place_Sectors c = N_place_Sectors (c, ()) := by
  simp only [D_place_Sectors, N_place_Sectors, N_place_Check, N_place_pages, N_place_part_size, e1, Option.bind_some]
  cases h : mayConf c with
  | false => simp
  | true =>
    have hc := (conf_iff c).1 h
    have hm := many_le c
    have m1 := mul_le (a := c.pairs) (b := many c) (m := 3) (n := 2) (by omega) (by omega) (by omega) (by omega)
    have m2 := mul_le (a := c.pairs) (b := c.tracks) (m := 3) (n := 16) (by omega) (by omega) (by omega) (by omega)
    have e : 4 * c.pairs * c.tracks = 4 * (c.pairs * c.tracks) := by rw [Int.mul_assoc]
    simp only [if_true, Option.bind_some, sizeC, Int.mul_one, Int.one_mul, Int.zero_add, e]
    simp (disch := omega) only [wrap_i64]
    simp only [bne_self_eq_false, Bool.false_eq_true, if_false, Option.some.injEq, Prod.mk.injEq, and_true]
    omega
theorem P_ref08_May (c : Config) (d : Disk) : D_ref08_May c d = N_ref08_May (c, (d, ())) := by
  simp only [D_ref08_May, N_ref08_May, N_ref07_May, N_ref07_Size, N_ref05_May, b1, e1, Option.bind_some, mayVol]
  cases h : mayConf c with
  | false => simp
  | true => simp only [if_true, Option.bind_some]; grind
theorem P_track_Check (c : Config) (d : Disk) : D_track_Check c d = N_track_Check (c, (d, ())) := by
  simp only [D_track_Check, N_track_Check, N_place_Sectors, N_disk_Check, e1, mayVol]
  by_cases h : mayConf c = true
  · simp only [h, if_true, Option.bind_some]; grind
  · simp only [h, if_false, Option.bind_some]; grind
theorem P_disk_sized (l : List (List Int)) (hl : l.length ≤ maxLen) : D_disk_sized l = N_disk_sized (l, ()) := by
  refine (loopO_all l (fun b => b.length == 32) (fun k => (l, ((l.length : Int), ((k : Int), ())))) (some (false, ())) (some (true, ())) (fun k h => ?_) ?_).trans (ite_b1 _)
  · simp only [D_disk_sized_l1, wrap_succ (Nat.lt_of_lt_of_le h hl), Int.toNat_natCast, nth_lt h]
    grind
  · simp [D_disk_sized_l1]
theorem P_disk_none : D_disk_none = N_disk_none () := by
  simp only [D_disk_none, N_disk_none, big_eq]
  rfl
theorem P_bytes_Equal (a b : List Int) : D_bytes_Equal a b = N_bytes_Equal (a, (b, ())) := rfl
end Go.Cat

namespace Go.Cat
open Go
theorem take_succ_len {α : Type} [Inhabited α] {l : List α} {k : Nat} (h : k < l.length) : l.take k ++ [l[k]] = l.take (k + 1) := by
  rw [List.take_add_one, List.getElem?_eq_getElem h]; rfl
theorem fit_iff (d : Disk) : fitDisk d = true ↔ d.sectors.length ≤ 1000000 ∧ d.cache.length ≤ 1000000 ∧ (∀ s ∈ d.sectors, s.bytes.length ≤ 1000000) ∧ ∀ p ∈ d.cache, p.bytes.length ≤ 1000000 := by
  simp only [fitDisk, Bool.and_eq_true, decide_eq_true_eq, List.all_eq_true]
  grind
theorem P_ref05_Twin (d : Disk) (h : fitDisk d = true) : D_ref05_Twin d = N_ref05_Twin (d, ()) := by
  obtain ⟨h1, h2, h3, h4⟩ := (fit_iff d).1 h
  have hc : ∀ l, loopO (D_ref05_Twin_l1 d) ((l, ([], ())), ((0 : Int), ())) = some (⟨l, d.cache⟩, ()) := by
    intro l
    refine loopO_for (fun k => ((l, (d.cache.take k, ())), ((k : Int), ()))) d.cache.length _ (fun k hk => ?_) ?_
    · have := h4 _ (List.getElem_mem hk)
      simp only [D_ref05_Twin_l1, wrap_succ (k := k) (by rw [maxLen_eq]; omega), Int.toNat_natCast, nth_lt hk, big_eq, List.nil_append, List.length_take, List.length_singleton, take_succ_len hk]
      grind
    · simp [D_ref05_Twin_l1]
  have hs : loopO (D_ref05_Twin_l3 d) (([], ([], ())), ((0 : Int), ())) = some (d, ()) := by
    refine loopO_for (fun k => ((d.sectors.take k, ([], ())), ((k : Int), ()))) d.sectors.length _ (fun k hk => ?_) ?_
    · have := h3 _ (List.getElem_mem hk)
      simp only [D_ref05_Twin_l3, wrap_succ (k := k) (by rw [maxLen_eq]; omega), Int.toNat_natCast, nth_lt hk, big_eq, List.nil_append, List.length_take, List.length_singleton, take_succ_len hk]
      grind
    · simp [D_ref05_Twin_l3, D_ref05_Twin_t2, hc]
  simp only [D_ref05_Twin, hs, N_ref05_Twin, h, if_true]
theorem range_all {α : Type} [Inhabited α] (xs : List α) (q : α → Bool) : (List.range' 0 xs.length).all (fun k => q (nth xs k)) = xs.all q := by
  rw [Bool.eq_iff_iff, List.all_eq_true, List.all_eq_true]
  constructor
  · intro h x hx
    obtain ⟨i, hi, rfl⟩ := List.getElem_of_mem hx
    have := h i (by simp [List.mem_range'_1, hi])
    rwa [nth_lt hi] at this
  · intro h k hk
    simp only [List.mem_range'_1] at hk
    have hk' : k < xs.length := by omega
    simp only [nth_lt hk']
    exact h _ (List.getElem_mem hk')
theorem P_ref05_Great (d : Disk) (m : Int) (hm : 0 ≤ m ∧ m ≤ 1000) : D_ref05_Great d m = N_ref05_Great (d, (m, ())) := by
  have hc : loopO (D_ref05_Great_l2 d) (m, ((0 : Int), ())) = if (List.range' 0 (min d.cache.length 100 - 0)).all (fun k => decide ((nth d.cache k).bytes.length ≤ 100)) = true then D_ref05_Great_t1 d (m, (0, ())) else some (true, ()) := by
    refine loopO_allN 0 (min d.cache.length 100) (fun k => decide ((nth d.cache k).bytes.length ≤ 100)) (fun k => (m, ((k : Int), ()))) (some (true, ())) _ (by omega) (fun k _ hk => ?_) ?_
    · simp only [D_ref05_Great_l2, wrap_succ (k := k) (by rw [maxLen_eq]; omega), Int.toNat_natCast]
      grind
    · simp only [D_ref05_Great_l2, D_ref05_Great_t1]
      grind
  have hs : loopO (D_ref05_Great_l3 d) (m, ((0 : Int), ())) = if (List.range' 0 (min d.sectors.length m.toNat - 0)).all (fun k => decide ((nth d.sectors k).bytes.length ≤ 100)) = true then loopO (D_ref05_Great_l2 d) (m, ((0 : Int), ())) else some (true, ()) := by
    refine loopO_allN 0 (min d.sectors.length m.toNat) (fun k => decide ((nth d.sectors k).bytes.length ≤ 100)) (fun k => (m, ((k : Int), ()))) (some (true, ())) _ (by omega) (fun k _ hk => ?_) ?_
    · simp only [D_ref05_Great_l3, wrap_succ (k := k) (by rw [maxLen_eq]; omega), Int.toNat_natCast]
      grind
    · simp only [D_ref05_Great_l3]
      grind
  simp only [D_ref05_Great, hs, hc, N_ref05_Great, hm, and_self, if_true, D_ref05_Great_t1, smallDisk, b1, Nat.sub_zero]
  by_cases h1 : (d.sectors.length : Int) ≤ m
  · by_cases h2 : d.cache.length ≤ 100
    · have e1 := range_all d.cache (fun p => decide (p.bytes.length ≤ 100))
      have e2 := range_all d.sectors (fun p => decide (p.bytes.length ≤ 100))
      simp only [show min d.cache.length 100 = d.cache.length by omega, show min d.sectors.length m.toNat = d.sectors.length by omega, Nat.sub_zero, e1, e2]
      grind
    · grind
  · grind
theorem P_ref05_Same (d : Disk) (h1 : d.sectors.length ≤ maxLen) (h2 : d.cache.length ≤ maxLen) : D_ref05_Same d d = b1 true := by
  have hc : loopO (D_ref05_Same_l1 d d) ((0 : Int), ()) = some (true, ()) := by
    refine loopO_for (fun k => ((k : Int), ())) d.cache.length _ (fun k hk => ?_) ?_
    · simp only [D_ref05_Same_l1, wrap_succ (Nat.lt_of_lt_of_le hk h2), Int.toNat_natCast]
      grind
    · simp [D_ref05_Same_l1]
  have hs : loopO (D_ref05_Same_l2 d d) ((0 : Int), ()) = some (true, ()) := by
    refine loopO_for (fun k => ((k : Int), ())) d.sectors.length _ (fun k hk => ?_) ?_
    · simp only [D_ref05_Same_l2, wrap_succ (Nat.lt_of_lt_of_le hk h1), Int.toNat_natCast]
      grind
    · simp [D_ref05_Same_l2, hc]
  simp [D_ref05_Same, hs, b1]
end Go.Cat

namespace Go.Cat
open Go
end Go.Cat

namespace Go.Cat
open Go
theorem P_rec_site (l : List Int) (hl : l.length ≤ maxLen) : D_rec_site l = N_rec_site (l, ()) := by
  refine (loopO_all l (fun n => n == 0 || n == 1) (fun k => (l, ((l.length : Int), ((k : Int), ())))) (some (false, ())) (some (true, ())) (fun k h => ?_) ?_).trans (ite_b1 _)
  · simp only [D_rec_site_l1, wrap_succ (Nat.lt_of_lt_of_le h hl), Int.toNat_natCast, nth_lt h]
    grind
  · simp [D_rec_site_l1]
theorem rec_iff (r : Rec) : mayRec r = true ↔ 0 ≤ r.pair ∧ r.pair ≤ 2 ∧ 1 ≤ r.born ∧ 1 ≤ r.epoch ∧ (r.lead = 0 ∨ r.lead = 1) ∧ (r.from_ = 0 ∨ r.from_ = 1) ∧ 1 ≤ r.phase ∧ r.phase ≤ 3 ∧ (r.phase = 1 ∨ r.from_ = r.lead) ∧ (r.quick = false ∨ (r.phase = 1 ∧ r.from_ ≠ r.lead)) := by
  simp only [mayRec, Bool.and_eq_true, Bool.or_eq_true, decide_eq_true_eq, Bool.not_eq_true', decide_eq_false_iff_not, and_assoc, ne_eq]
theorem P_ref11_May (r : Rec) : D_ref11_May r = N_ref11_May (r, ()) := by
  have h := rec_iff r
  simp only [D_ref11_May, N_ref11_May, b1]
  generalize mayRec r = b at h
  cases b with
  | true =>
    have h' := h.1 rfl
    grind (splits := 40)
  | false =>
    have h' := fun x => Bool.false_ne_true (h.2 x)
    grind (splits := 40)
theorem P_rec_Check (r : Rec) : D_rec_Check r = N_rec_Check (r, ()) := by
  have h := rec_iff r
  simp only [D_rec_Check, N_rec_Check, e1, N_rec_site, b1, Option.bind_some, List.all_cons, List.all_nil]
  generalize mayRec r = b at h
  by_cases hb : b = true
  · rw [if_pos hb]
    have h' := h.1 hb
    grind (splits := 40)
  · rw [if_neg hb]
    have h' := fun x => hb (h.2 x)
    grind (splits := 40)
theorem row_iff (t : List Rec) (i : Nat) : mayRow t i = true ↔ mayRec (nth t i) = true ∧ (i = 0 ∨ (nth t (i - 1)).pair < (nth t i).pair) := by
  simp only [mayRow, Bool.and_eq_true, Bool.or_eq_true, decide_eq_true_eq, beq_iff_eq]
theorem wrap_pred {k : Nat} (h : k < maxLen) (h0 : 0 < k) : IntKind.wrap .i64 ((k : Int) - 1) = ((k - 1 : Nat) : Int) := by
  rw [maxLen_eq] at h
  rw [wrap_i64 (by omega) (by omega)]
  omega
theorem P_ref11_MayAll (t : List Rec) (ht : t.length ≤ maxLen) : D_ref11_MayAll t = N_ref11_MayAll (t, ()) := by
  refine (loopO_allN 0 t.length (mayRow t) (fun k => (t, ((k : Int), ()))) (some (false, ())) (some (true, ())) (by omega) (fun k _ h => ?_) ?_).trans (ite_b1 _)
  · have hm := Nat.lt_of_lt_of_le h ht
    simp only [D_ref11_MayAll_l1, wrap_succ hm, Int.toNat_natCast, N_ref11_May, b1, Option.bind_some, mayRow]
    rcases Nat.eq_zero_or_pos k with h0 | h0
    · subst h0; grind
    · simp only [wrap_pred hm h0, Int.toNat_natCast]
      grind
  · simp [D_ref11_MayAll_l1]
theorem wrap_u8_mod (n : Int) : IntKind.wrap .u8 n = n % 256 := by
  simp [IntKind.wrap, IntKind.signed, IntKind.bits]
theorem be_len (n : Int) (s : Nat) : (be n s).length = s := by simp [be]
theorem rows_len (l ss : List Int) : ∀ k, (rows l ss k).length = offs ss k
  | 0 => rfl
  | k + 1 => by simp [rows, offs, rows_len l ss k, be_len]
theorem offs_le (ss : List Int) (h : ∀ k, k < ss.length → 1 ≤ nth ss k ∧ nth ss k ≤ 8) : ∀ k, k ≤ ss.length → offs ss k ≤ 8 * k
  | 0, _ => Nat.le_refl _
  | k + 1, hk => by
    have := offs_le ss h k (by omega)
    have := h k (by omega)
    simp only [offs]
    omega
theorem offs_mono (ss : List Int) {a b : Nat} (h : a ≤ b) : offs ss a ≤ offs ss b := by
  induction b with
  | zero => have : a = 0 := by omega
            subst this; exact Nat.le_refl _
  | succ b ih =>
    rcases Nat.eq_or_lt_of_le h with h1 | h1
    · rw [h1]; exact Nat.le_refl _
    · have := ih (by omega)
      simp only [offs]; omega
theorem set_tail (B : List Int) {m : Nat} (h : m < B.length) : (List.replicate (m + 1) (0 : Int) ++ B.drop (m + 1)).set m B[m] = List.replicate m 0 ++ B.drop m := by
  rw [List.replicate_succ', List.append_assoc, List.set_append_right _ _ (by simp), List.length_replicate, Nat.sub_self, List.drop_eq_getElem_cons h]
  rfl
theorem shr8 {n : Int} (h : 0 ≤ n) : shrI .u64 n 8 = n / 256 := by
  unfold shrI
  rw [show (2 : Int) ^ (min (8 : Int).toNat IntKind.u64.bits) = 256 by decide, Int.fdiv_eq_ediv_of_nonneg _ (by omega)]
theorem P_num_digits (l ss A : List Int) (k R s : Nat) (n : Int) (out : List Int) (len : Int) (hs : nth ss k = (s : Int)) (h1 : 1 ≤ s) (h8 : s ≤ 8) (hn : 0 ≤ n) (hlt : n < 256 ^ s) (hA : A.length ≤ 1000) (hk : k < ss.length) (hk2 : k < 1000) :
    loopO (D_num_Write_l2 (l, (ss, (out, ((A.length : Int), (len, ((k : Int), ()))))))) ((A ++ (List.replicate s 0 ++ List.replicate R 0)), (n, ((s : Int), ((0 : Int), ())))) =
      some (.inl (l, (ss, ((A ++ (be n s ++ List.replicate R 0)), (((A.length + s : Nat) : Int), (len, (((k + 1 : Nat) : Int), ()))))))) := by
  have w1 : IntKind.wrap .i64 ((A.length : Int) + (s : Int)) = ((A.length + s : Nat) : Int) := by rw [wrap_i64 (by omega) (by omega)]; omega
  have start : ((A ++ (List.replicate s 0 ++ List.replicate R 0), (n, ((s : Int), ((0 : Int), ())))) : List Int × (Int × (Int × (Int × Unit)))) =
      (fun i : Nat => ((A ++ ((List.replicate (s - i) 0 ++ (be n s).drop (s - i)) ++ List.replicate R 0)), (n / 256 ^ i, ((s : Int), ((i : Int), ()))))) 0 := by
    simp only [Nat.sub_zero, Int.pow_zero, Int.ediv_one, List.drop_eq_nil_of_le (Nat.le_of_eq (be_len n s)), List.append_nil]
    rfl
  rw [start]
  refine loopO_for (fun i : Nat => ((A ++ ((List.replicate (s - i) 0 ++ (be n s).drop (s - i)) ++ List.replicate R 0)), (n / 256 ^ i, ((s : Int), ((i : Int), ()))))) s _ (fun i hi => ?_) ?_
  · have e1 : IntKind.wrap .i64 (IntKind.wrap .i64 ((s : Int) - 1) - (i : Int)) = ((s - 1 - i : Nat) : Int) := by
      rw [wrap_i64 (n := (s : Int) - 1) (by omega) (by omega), wrap_i64 (by omega) (by omega)]; omega
    have hm : s - 1 - i < (be n s).length := by rw [be_len]; omega
    have e2 : (be n s)[s - 1 - i] = (n / 256 ^ i) % 256 := by
      simp only [be, List.getElem_map, List.getElem_range]
      rw [show s - 1 - (s - 1 - i) = i by omega]
    have e3 : s - i = (s - 1 - i) + 1 := by omega
    have e4 : s - (i + 1) = s - 1 - i := by omega
    have e5 : (A ++ ((List.replicate (s - i) 0 ++ (be n s).drop (s - i)) ++ List.replicate R 0)).set (A.length + (s - 1 - i)) ((n / 256 ^ i) % 256) = A ++ ((List.replicate (s - (i + 1)) 0 ++ (be n s).drop (s - (i + 1))) ++ List.replicate R 0) := by
      rw [List.set_append_right _ _ (by omega), Nat.add_sub_cancel_left, List.set_append_left _ _ (by simp [be_len]; omega), e3, ← e2, set_tail _ hm, e4]
    have e6 : n / 256 ^ i / 256 = n / 256 ^ (i + 1) := by rw [Int.ediv_ediv_of_nonneg (Int.pow_nonneg (by omega)), Int.pow_succ]
    have p0 : 0 ≤ n / 256 ^ i := Int.ediv_nonneg hn (Int.pow_nonneg (by omega))
    simp only [D_num_Write_l2, Int.toNat_natCast, hs, w1, Nat.add_sub_cancel_left, e1, wrap_u8_mod, wrap_succ (k := i) (by rw [maxLen_eq]; omega), e5, shr8 p0, e6]
    grind
  · have e7 : n / 256 ^ s = 0 := Int.ediv_eq_zero_of_lt hn hlt
    simp only [D_num_Write_l2, D_num_Write_t1, e7, Int.toNat_natCast, hs, w1, wrap_succ (k := k) (by rw [maxLen_eq]; omega), Nat.sub_self, List.replicate_zero, List.drop_zero, List.nil_append]
    grind
end Go.Cat

namespace Go.Cat
open Go
theorem fits_iff (l ss : List Int) : fitsRow l ss = true ↔ l.length = ss.length ∧ ss.length ≤ 16 ∧ ∀ k, k < l.length → 1 ≤ nth ss k ∧ nth ss k ≤ 8 ∧ 0 ≤ nth l k ∧ nth l k < 256 ^ (nth ss k).toNat := by
  simp only [fitsRow, fitsAt, Bool.and_eq_true, beq_iff_eq, decide_eq_true_eq, List.all_eq_true, List.mem_range'_1]
  grind
theorem rep_split {a b : Nat} (h : b ≤ a) : List.replicate a (0 : Int) = List.replicate b 0 ++ List.replicate (a - b) 0 := by
  rw [List.replicate_append_replicate]; congr 1; omega
theorem P_num_Write (l ss : List Int) (h : fitsRow l ss = true) : D_num_Write l ss = N_num_Write (l, (ss, ())) := by
  obtain ⟨h1, h2, h3⟩ := (fits_iff l ss).1 h
  have hb : ∀ k, k ≤ ss.length → offs ss k ≤ 8 * k := offs_le ss fun k hk => ⟨(h3 k (by omega)).1, (h3 k (by omega)).2.1⟩
  have hrow : loopO D_num_Write_l3 (l, (ss, (List.replicate (offs ss ss.length) 0, ((0 : Int), ((l.length : Int), ((0 : Int), ())))))) = some (rowOf l ss, ((0 : Int), ())) := by
    refine loopO_for (fun k => (l, (ss, (rows l ss k ++ List.replicate (offs ss ss.length - offs ss k) 0, (((offs ss k : Nat) : Int), ((l.length : Int), ((k : Int), ()))))))) l.length _ (fun k hk => ?_) ?_
    · obtain ⟨q1, q2, q3, q4⟩ := h3 k hk
      have hb1 := hb k (by omega)
      have hb2 := hb ss.length (Nat.le_refl _)
      have hm : offs ss (k + 1) ≤ offs ss ss.length := offs_mono ss (by omega)
      have ho : offs ss (k + 1) = offs ss k + (nth ss k).toNat := rfl
      have hA := rows_len l ss k
      have hn : nth ss k = (((nth ss k).toNat : Nat) : Int) := by omega
      have w1 : IntKind.wrap .i64 (((offs ss k : Nat) : Int) + nth ss k) = ((offs ss k + (nth ss k).toNat : Nat) : Int) := by rw [wrap_i64 (by omega) (by omega)]; omega
      have e1 : rows l ss k ++ List.replicate (offs ss ss.length - offs ss k) 0 = rows l ss k ++ (List.replicate (nth ss k).toNat 0 ++ List.replicate (offs ss ss.length - offs ss (k + 1)) 0) := by
        rw [rep_split (a := offs ss ss.length - offs ss k) (b := (nth ss k).toNat) (by omega)]
        congr 3; omega
      have dig := P_num_digits l ss (rows l ss k) k (offs ss ss.length - offs ss (k + 1)) (nth ss k).toNat (nth l k) (rows l ss k ++ List.replicate (offs ss ss.length - offs ss k) 0) (l.length : Int) hn (by omega) (by omega) q3 q4 (by omega) (by omega) (by omega)
      rw [hA] at dig
      have e2 : rows l ss (k + 1) ++ List.replicate (offs ss ss.length - offs ss (k + 1)) 0 = rows l ss k ++ (be (nth l k) (nth ss k).toNat ++ List.replicate (offs ss ss.length - offs ss (k + 1)) 0) := by
        simp only [rows, List.append_assoc]
      have e3 : (rows l ss k ++ List.replicate (offs ss ss.length - offs ss k) 0 : List Int).length = offs ss ss.length := by simp only [List.length_append, hA, List.length_replicate]; omega
      have c1 : decide ((k : Int) < (l.length : Int)) = true := by simp; omega
      have c2 : decide ((0 : Int) ≤ (k : Int) ∧ (k : Int) < (ss.length : Int)) = true := by simp; omega
      have c3 : decide ((0 : Int) ≤ (k : Int) ∧ (k : Int) < (l.length : Int)) = true := by simp; omega
      have c4 : decide ((0 : Int) ≤ ((offs ss k : Nat) : Int) ∧ ((offs ss k : Nat) : Int) ≤ ((offs ss k + (nth ss k).toNat : Nat) : Int) ∧ ((offs ss k + (nth ss k).toNat : Nat) : Int) ≤ ((offs ss k + (nth ss k).toNat : Nat) : Int) ∧ ((offs ss k + (nth ss k).toNat : Nat) : Int) ≤ ((offs ss ss.length : Nat) : Int)) = true := by simp; omega
      simp only [D_num_Write_l3, Int.toNat_natCast, w1, e3, c1, c2, c3, c4, if_true, and_self, decide_true, Nat.add_sub_cancel_left]
      rw [e2, ho]
      rw [← e1] at dig
      exact dig
    · have c1 : ¬ (decide ((l.length : Int) < (l.length : Int)) = true) := by simp
      simp only [D_num_Write_l3, c1, if_false, rowOf, h1, Nat.sub_self, List.replicate_zero, List.append_nil]
      simp
  have hsum : loopO (D_num_Write_l5 l ss) ((0 : Int), (ss, ((ss.length : Int), ((0 : Int), ())))) = some (rowOf l ss, ((0 : Int), ())) := by
    refine loopO_for (fun k => (((offs ss k : Nat) : Int), (ss, ((ss.length : Int), ((k : Int), ()))))) ss.length _ (fun k hk => ?_) ?_
    · obtain ⟨q1, q2, q3, q4⟩ := h3 k (by omega)
      have hb1 := hb k (by omega)
      have w1 : IntKind.wrap .i64 (((offs ss k : Nat) : Int) + nth ss k) = ((offs ss (k + 1) : Nat) : Int) := by rw [wrap_i64 (by omega) (by omega)]; simp only [offs]; omega
      simp only [D_num_Write_l5, Int.toNat_natCast, w1, wrap_succ (k := k) (by rw [maxLen_eq]; omega)]
      grind
    · have hb2 := hb ss.length (Nat.le_refl _)
      have e : D_num_Write_t4 l ss (((offs ss ss.length : Nat) : Int), (ss, ((ss.length : Int), ((ss.length : Int), ())))) = some (rowOf l ss, ((0 : Int), ())) := by
        simp only [D_num_Write_t4, Int.toNat_natCast, hrow, big_eq]
        grind
      simp only [D_num_Write_l5, e]
      grind
  simp only [D_num_Write, hsum, N_num_Write, h, if_true]
  grind
end Go.Cat

namespace Go.Cat
open Go
theorem P_rec_sizes : D_rec_sizes = N_rec_sizes () := rfl
theorem wrapu (n : Int) (h : 0 ≤ n ∧ n ≤ 18446744073709551615) : IntKind.wrap .u64 n = n := wrap_u64 h.1 h.2
structure RecR (r : Rec) : Prop where
  born : 0 ≤ r.born ∧ r.born ≤ 4294967295
  epoch : 0 ≤ r.epoch ∧ r.epoch ≤ 4294967295
theorem fits_note (r : Rec) (hr : RecR r) (h : mayRec r = true) (f : Int) (hf : 0 ≤ f ∧ f ≤ 3) : fitsRow [1, r.pair, r.born, r.epoch, r.lead, r.phase, r.from_, f] [1, 1, 4, 4, 1, 1, 1, 1] = true := by
  have q := (rec_iff r).1 h
  have b1 := hr.born
  have b2 := hr.epoch
  rw [fits_iff]
  refine ⟨rfl, by decide, fun k hk => ?_⟩
  simp only [List.length_cons, List.length_nil] at hk
  match k, hk with
  | 0, _ => refine ⟨by decide, by decide, ?_, ?_⟩ <;> simp [nth]
  | 1, _ => refine ⟨by decide, by decide, ?_, ?_⟩ <;> simp [nth] <;> omega
  | 2, _ => refine ⟨by decide, by decide, ?_, ?_⟩ <;> simp [nth] <;> omega
  | 3, _ => refine ⟨by decide, by decide, ?_, ?_⟩ <;> simp [nth] <;> omega
  | 4, _ => refine ⟨by decide, by decide, ?_, ?_⟩ <;> simp [nth] <;> omega
  | 5, _ => refine ⟨by decide, by decide, ?_, ?_⟩ <;> simp [nth] <;> omega
  | 6, _ => refine ⟨by decide, by decide, ?_, ?_⟩ <;> simp [nth] <;> omega
  | 7, _ => refine ⟨by decide, by decide, ?_, ?_⟩ <;> simp [nth] <;> omega
  | k + 8, hk => omega
theorem P_rec_Note (r : Rec) (hr : RecR r) : D_rec_Note r = N_rec_Note (r, ()) := by
  cases h : mayRec r with
  | false => simp [D_rec_Note, N_rec_Check, e1, h, N_rec_Note]
  | true =>
    have q := (rec_iff r).1 h
    have b1 := hr.born
    have b2 := hr.epoch
    have i1 : ibits .or .u64 2 1 = 3 := by decide
    have i2 : ibits .or .u64 0 2 = 2 := by decide
    have i3 : ibits .or .u64 0 1 = 1 := by decide
    have f0 := fits_note r hr h 0 (by omega)
    have f1 := fits_note r hr h 1 (by omega)
    have f2 := fits_note r hr h 2 (by omega)
    have f3 := fits_note r hr h 3 (by omega)
    simp only [D_rec_Note, N_rec_Check, e1, h, if_true, Option.bind_some, N_rec_sizes, wrapu r.pair (by omega), wrapu r.born (by omega), wrapu r.epoch (by omega), wrapu r.lead (by omega), wrapu r.phase (by omega), wrapu r.from_ (by omega), i1, i2, i3, N_num_Write, f0, f1, f2, f3, N_rec_Note, noteOf, flagsOf]
    cases r.quick <;> cases r.alone <;> simp
theorem P_rec_Notes (t : List Rec) (ht : t.length ≤ 1000000) : D_rec_Notes t = N_rec_Notes (t, ()) := by
  have hl : (∀ r ∈ t, mayRec r = true) → loopO D_rec_Notes_l1 ([], (t, ((t.length : Int), ((0 : Int), ())))) = some (t.map noteOf, ((0 : Int), ())) := by
    intro hall
    refine loopO_for (fun k => ((t.take k).map noteOf, (t, ((t.length : Int), ((k : Int), ()))))) t.length _ (fun k hk => ?_) ?_
    · have q := hall _ (List.getElem_mem hk)
      have e : (t.take k).map noteOf ++ [noteOf t[k]] = (t.take (k + 1)).map noteOf := by rw [← take_succ_len hk, List.map_append]; rfl
      simp only [D_rec_Notes_l1, wrap_succ (k := k) (by rw [maxLen_eq]; omega), Int.toNat_natCast, nth_lt hk, N_rec_Note, q, if_true, Option.bind_some, e, big_eq, List.length_map, List.length_take, List.length_singleton]
      grind
    · simp [D_rec_Notes_l1]
  have hs : loopO (D_rec_Notes_l3 t) (t, (t, ((t.length : Int), ((0 : Int), ())))) = if mayTable t = true then some (t.map noteOf, ((0 : Int), ())) else some ([], ((110 : Int), ())) := by
    by_cases hm : mayTable t = true
    · have hall : ∀ r ∈ t, mayRec r = true := by
        intro r hr
        obtain ⟨i, hi, rfl⟩ := List.getElem_of_mem hr
        have := List.all_eq_true.1 hm i (by simp [List.mem_range'_1, hi])
        have := ((row_iff t i).1 this).1
        rwa [nth_lt hi] at this
      have e := hl hall
      refine loopO_allN 0 t.length (mayRow t) (fun k => (t, (t, ((t.length : Int), ((k : Int), ()))))) (some ([], ((110 : Int), ()))) _ (by omega) (fun k _ h => ?_) ?_
      · have hmx : k < maxLen := by rw [maxLen_eq]; omega
        simp only [D_rec_Notes_l3, wrap_succ hmx, Int.toNat_natCast, N_rec_Check, e1, Option.bind_some, mayRow]
        rcases Nat.eq_zero_or_pos k with h0 | h0
        · subst h0; grind
        · simp only [wrap_pred hmx h0, Int.toNat_natCast]
          grind
      · simp [D_rec_Notes_l3, D_rec_Notes_t2, e]
    · rw [if_neg hm]
      have := loopO_allN (step := D_rec_Notes_l3 t) 0 t.length (mayRow t) (fun k => (t, (t, ((t.length : Int), ((k : Int), ()))))) (some ([], ((110 : Int), ()))) (D_rec_Notes_t2 t) (by omega) (fun k _ h => by
        have hmx : k < maxLen := by rw [maxLen_eq]; omega
        simp only [D_rec_Notes_l3, wrap_succ hmx, Int.toNat_natCast, N_rec_Check, e1, Option.bind_some, mayRow]
        rcases Nat.eq_zero_or_pos k with h0 | h0
        · subst h0; grind
        · simp only [wrap_pred hmx h0, Int.toNat_natCast]
          grind) (by simp [D_rec_Notes_l3])
      refine this.trans ?_
      rw [if_neg]
      exact hm
  simp only [D_rec_Notes, hs, N_rec_Notes, ht, if_true]
theorem P_ref12_May (c : Config) (m : Meta) : D_ref12_May c m = N_ref12_May (c, (m, ())) := by
  simp only [D_ref12_May, N_ref12_May, N_ref07_May, N_ref11_MayAll, b1, Option.bind_some, mayMeta]
  grind
theorem P_meta_Check (c : Config) (m : Meta) (h : m.table.length ≤ 1000000) : D_meta_Check c m = N_meta_Check (c, (m, ())) := by
  simp only [D_meta_Check, N_meta_Check, N_rec_Notes, N_place_Check, e1, h, if_true, Option.bind_some, mayMeta]
  by_cases h1 : mayTable m.table = true <;> by_cases h2 : mayConf c = true <;> simp only [h1, h2, if_true, if_false, Option.bind_some] <;> grind
theorem P_ref12_Twin (m : Meta) (h : m.table.length ≤ 1000000) : D_ref12_Twin m = N_ref12_Twin (m, ()) := by
  have hb : decide (0 + m.table.length ≤ big) = true := by simp [big_eq]; omega
  simp only [D_ref12_Twin, N_ref12_Twin, h, if_true, hb]
  rfl
theorem P_ref11_Same (t : List Rec) (h : t.length ≤ maxLen) : D_ref11_Same t t = b1 true := by
  have hs : loopO D_ref11_Same_l1 (t, (t, ((0 : Int), ()))) = some (true, ()) := by
    refine loopO_for (fun k => (t, (t, ((k : Int), ())))) t.length _ (fun k hk => ?_) ?_
    · simp only [D_ref11_Same_l1, wrap_succ (Nat.lt_of_lt_of_le hk h), Int.toNat_natCast, beq_self_eq_true, Bool.and_self, Bool.not_true]
      grind
    · simp [D_ref11_Same_l1]
  simp [D_ref11_Same, hs, b1]
theorem P_ref12_Same (m : Meta) : D_ref12_Same m m = b1 true := by
  simp [D_ref12_Same, N_ref11_Same, b1]
end Go.Cat

namespace Go.Cat
open Go
theorem P_ring_at (r : Round) (n : Int) (h : r.all.length ≠ 0) : D_ring_round_byte_at r n = N_ring_round_byte_at (r, (n, ())) := by
  simp only [D_ring_round_byte_at, N_ring_round_byte_at, h, if_false, e1]
  grind
theorem queue_iff (q : Queue) : mayQueue q = true ↔ 1 ≤ q.items.length ∧ q.items.length ≤ 64 ∧ 0 ≤ q.head ∧ q.head < (q.items.length : Int) ∧ 0 ≤ q.many ∧ q.many ≤ (q.items.length : Int) ∧
    (List.range' q.many.toNat (q.items.length - q.many.toNat)).all (fun k => (nth q.items (place q k)).length == 0) = true := by
  simp only [mayQueue, Bool.and_eq_true, decide_eq_true_eq, and_assoc]
theorem place_mod (q : Queue) (k : Nat) (h1 : q.items.length ≤ 64) (h2 : 0 ≤ q.head) (h3 : q.head < (q.items.length : Int)) (hk : k ≤ 64) :
    Int.tmod (IntKind.wrap .i64 (q.head + (k : Int))) (q.items.length : Int) = ((place q k : Nat) : Int) ∧ place q k < q.items.length := by
  refine ⟨?_, Nat.mod_lt _ (by omega)⟩
  rw [wrap_i64 (by omega) (by omega), Int.tmod_eq_emod_of_nonneg (by omega)]
  unfold place
  rw [Int.natCast_emod, Int.natCast_add, Int.toNat_of_nonneg h2]
theorem P_ref04_May (q : Queue) : D_ref04_May q = N_ref04_May (q, ()) := by
  by_cases hq : 1 ≤ q.items.length ∧ q.items.length ≤ 64 ∧ 0 ≤ q.head ∧ q.head < (q.items.length : Int) ∧ 0 ≤ q.many ∧ q.many ≤ (q.items.length : Int)
  · obtain ⟨h1, h2, h3, h4, h5, h6⟩ := hq
    have hm : ((q.many.toNat : Nat) : Int) = q.many := Int.toNat_of_nonneg h5
    have hs : loopO (D_ref04_May_l1 q) ((q.items.length : Int), (q.many, ())) = b1 ((List.range' q.many.toNat (q.items.length - q.many.toNat)).all fun k => (nth q.items (place q k)).length == 0) := by
      have := loopO_allN (step := D_ref04_May_l1 q) q.many.toNat q.items.length (fun k => (nth q.items (place q k)).length == 0) (fun k => ((q.items.length : Int), ((k : Int), ()))) (some (false, ())) (some (true, ())) (by omega) (fun k _ hk => by
        obtain ⟨p1, p2⟩ := place_mod q k h2 h3 h4 (by omega)
        simp only [D_ref04_May_l1, wrap_succ (k := k) (by rw [maxLen_eq]; omega), p1, Int.toNat_natCast]
        grind) (by simp [D_ref04_May_l1])
      simp only [hm] at this
      exact this.trans (ite_b1 _)
    simp only [D_ref04_May, hs, N_ref04_May, mayQueue, b1]
    grind
  · simp only [D_ref04_May, N_ref04_May, mayQueue, b1]
    grind
theorem P_ring_Check (q : Queue) : D_ring_Check q = N_ring_Check (q, ()) := by
  have hmin : (Decidable.rec (fun _ => q.head) (fun _ => q.many) (Int.decLt q.many q.head) : Int) = if q.many < q.head then q.many else q.head := by
    unfold ite
    show _ = (Decidable.casesOn (Int.decLt q.many q.head) (fun _ => q.head) (fun _ => q.many) : Int)
    rfl
  by_cases hq : 1 ≤ q.items.length ∧ q.items.length ≤ 64 ∧ 0 ≤ q.head ∧ q.head < (q.items.length : Int) ∧ 0 ≤ q.many ∧ q.many ≤ (q.items.length : Int)
  · obtain ⟨h1, h2, h3, h4, h5, h6⟩ := hq
    have hm : ((q.many.toNat : Nat) : Int) = q.many := Int.toNat_of_nonneg h5
    have hs : loopO (D_ring_Check_l1 q) ((q.items.length : Int), (q.many, ())) = if ((List.range' q.many.toNat (q.items.length - q.many.toNat)).all fun k => (nth q.items (place q k)).length == 0) = true then some (0, ()) else some (8, ()) := by
      have := loopO_allN (step := D_ring_Check_l1 q) q.many.toNat q.items.length (fun k => (nth q.items (place q k)).length == 0) (fun k => ((q.items.length : Int), ((k : Int), ()))) (some (8, ())) (some (0, ())) (by omega) (fun k _ hk => by
        obtain ⟨p1, p2⟩ := place_mod q k h2 h3 h4 (by omega)
        have hne : q.items.length ≠ 0 := by omega
        simp only [D_ring_Check_l1, wrap_succ (k := k) (by rw [maxLen_eq]; omega), N_ring_round_byte_at, hne, if_false, e1, Option.bind_some, p1, Int.toNat_natCast]
        grind) (by simp [D_ring_Check_l1])
      simp only [hm] at this
      exact this
    simp only [D_ring_Check, hs, N_ring_Check, mayQueue, e1, hmin]
    grind
  · have hmq : ¬ mayQueue q = true := fun h => hq (by obtain ⟨a, b, c, d, e, f, _⟩ := (queue_iff q).1 h; exact ⟨a, b, c, d, e, f⟩)
    simp only [D_ring_Check, N_ring_Check, hmq, e1, hmin]
    grind (splits := 30)
theorem fitAll_iff (l : List (List Int)) : fitAll l = true ↔ l.length ≤ 1000000 ∧ ∀ b ∈ l, b.length ≤ 1000000 := by
  simp only [fitAll, Bool.and_eq_true, decide_eq_true_eq, List.all_eq_true]
theorem P_ref04_List (q : Queue) (hf : fitAll q.items = true) : D_ref04_List q = N_ref04_List (q, ()) := by
  obtain ⟨f1, f2⟩ := (fitAll_iff _).1 hf
  cases hq : mayQueue q with
  | false => simp [D_ref04_List, N_ref04_May, b1, hq, N_ref04_List, hf]
  | true =>
    obtain ⟨h1, h2, h3, h4, h5, h6, _⟩ := (queue_iff q).1 hq
    have hm : ((q.many.toNat : Nat) : Int) = q.many := Int.toNat_of_nonneg h5
    have hs : loopO (D_ref04_List_l1 q) ([], ((0 : Int), ())) = some (queueList q, ((0 : Int), ())) := by
      refine loopO_for (fun k => ((List.range k).map (fun k => nth q.items (place q k)), ((k : Int), ()))) q.many.toNat _ (fun k hk => ?_) ?_
      · obtain ⟨p1, p2⟩ := place_mod q k h2 h3 h4 (by omega)
        have e : (List.range k).map (fun k => nth q.items (place q k)) ++ [nth q.items (place q k)] = (List.range (k + 1)).map (fun k => nth q.items (place q k)) := by rw [List.range_succ, List.map_append]; rfl
        have fb : (nth q.items (place q k)).length ≤ 1000000 := by rw [nth_lt p2]; exact f2 _ (List.getElem_mem p2)
        simp only [D_ref04_List_l1, wrap_succ (k := k) (by rw [maxLen_eq]; omega), p1, Int.toNat_natCast, List.nil_append, e, List.length_map, List.length_range, List.length_singleton]
        have := big_eq
        grind
      · have : ¬ (decide (((q.many.toNat : Nat) : Int) < q.many) = true) := by rw [hm]; simp
        simp only [D_ref04_List_l1, this, queueList]
        rfl
    simp [D_ref04_List, N_ref04_May, b1, hq, N_ref04_List, hf, hs]
theorem P_ref04_TwinAll (l : List (List Int)) (hf : fitAll l = true) : D_ref04_TwinAll l = N_ref04_TwinAll (l, ()) := by
  obtain ⟨f1, f2⟩ := (fitAll_iff _).1 hf
  have hs : loopO D_ref04_TwinAll_l1 (l, ([], ((0 : Int), ()))) = some (l, ()) := by
    refine loopO_for (fun k => (l, (l.take k, ((k : Int), ())))) l.length _ (fun k hk => ?_) ?_
    · have := f2 _ (List.getElem_mem hk)
      have hb := big_eq
      simp only [D_ref04_TwinAll_l1, wrap_succ (k := k) (by rw [maxLen_eq]; omega), Int.toNat_natCast, nth_lt hk, List.nil_append, List.length_take, List.length_singleton, take_succ_len hk]
      grind
    · simp [D_ref04_TwinAll_l1]
  simp only [D_ref04_TwinAll, hs, N_ref04_TwinAll, hf, if_true]
theorem P_ref04_SameAll (l : List (List Int)) (h : l.length ≤ maxLen) : D_ref04_SameAll l l = b1 true := by
  have hs : loopO D_ref04_SameAll_l1 (l, (l, ((0 : Int), ()))) = some (true, ()) := by
    refine loopO_for (fun k => (l, (l, ((k : Int), ())))) l.length _ (fun k hk => ?_) ?_
    · simp only [D_ref04_SameAll_l1, wrap_succ (Nat.lt_of_lt_of_le hk h), Int.toNat_natCast]
      grind
    · simp [D_ref04_SameAll_l1]
  simp [D_ref04_SameAll, hs, b1]
theorem P_ref04_Same (q : Queue) : D_ref04_Same q q = b1 true := by
  simp [D_ref04_Same, N_ref04_SameAll, b1]
theorem P_ref17_Same (e : End) : D_ref17_Same e e = b1 true := by
  simp [D_ref17_Same, N_ref04_Same, b1]
theorem P_ref17_Twin (e : End) (hf : fitAll e.out.items = true) : D_ref17_Twin e = N_ref17_Twin (e, ()) := by
  simp [D_ref17_Twin, N_ref17_Twin, N_ref04_TwinAll, hf]
end Go.Cat

namespace Go.Cat
open Go
theorem end_iff (c : Config) (e : End) : mayEnd c e = true ↔ mayConf c = true ∧ mayQueue e.out = true ∧ e.me ≠ 0 ∧ e.out.items.length = 64 ∧ e.done ≤ e.sent ∧ IntKind.wrap .u32 (e.sent - e.done) = IntKind.wrap .u32 e.out.many ∧ mayTexts (queueList e.out) = true ∧ 0 ≤ e.quiet ∧ e.quiet < c.quiet ∧
    ¬ (e.you = 0 ∧ e.up = true) ∧ ¬ (e.dead = true ∧ e.you ≠ 0) ∧ (e.up = true ∨ (e.sent = 0 ∧ e.done = 0 ∧ e.got = 0)) := by
  simp only [mayEnd, Bool.and_eq_true, Bool.or_eq_true, Bool.not_eq_true', decide_eq_true_eq, decide_eq_false_iff_not, beq_iff_eq, and_assoc, ne_eq, Bool.and_eq_false_imp]
  grind
theorem list_len (q : Queue) (h : mayQueue q = true) : (queueList q).length = q.many.toNat ∧ (queueList q).length ≤ 64 ∧ ((queueList q).length : Int) = q.many := by
  obtain ⟨h1, h2, h3, h4, h5, h6, _⟩ := (queue_iff q).1 h
  have : (queueList q).length = q.many.toNat := by simp [queueList]
  omega
theorem P_ref17_May (c : Config) (e : End) (hf : fitAll e.out.items = true) : D_ref17_May c e = N_ref17_May (c, (e, ())) := by
  have h := end_iff c e
  simp only [N_ref17_May, hf, if_true, b1]
  by_cases hc : mayConf c = true
  · by_cases hq : mayQueue e.out = true
    · obtain ⟨g1, g2, g3⟩ := list_len e.out hq
      have hs : loopO (D_ref17_May_l2 c e) (queueList e.out, ((0 : Int), ())) = if mayTexts (queueList e.out) = true then D_ref17_May_t1 c e else some (false, ()) := by
        refine loopO_all (queueList e.out) (fun b => decide (1 ≤ b.length) && decide (b.length ≤ 64)) (fun k => (queueList e.out, ((k : Int), ()))) (some (false, ())) _ (fun k hk => ?_) ?_
        · simp only [D_ref17_May_l2, wrap_succ (k := k) (by rw [maxLen_eq]; omega), Int.toNat_natCast, nth_lt hk]
          grind
        · simp [D_ref17_May_l2]
      simp only [D_ref17_May, N_ref07_May, N_ref04_May, N_ref04_List, hf, b1, hc, hq, if_true, Option.bind_some, hs, D_ref17_May_t1]
      generalize mayEnd c e = b at h
      cases b with
      | true =>
        have h' := h.1 rfl
        grind (splits := 40)
      | false =>
        have h' := fun x => Bool.false_ne_true (h.2 x)
        grind (splits := 40)
    · have hb : mayEnd c e = false := by
        cases hm : mayEnd c e with
        | false => rfl
        | true => exact absurd (h.1 hm).2.1 hq
      simp only [D_ref17_May, N_ref07_May, N_ref04_May, b1, hc, hq, hb, Option.bind_some]
      grind
  · have hb : mayEnd c e = false := by
      cases hm : mayEnd c e with
      | false => rfl
      | true => exact absurd (h.1 hm).1 hc
    simp only [D_ref17_May, N_ref07_May, b1, hc, hb, Option.bind_some]
    grind
theorem P_sess_Check (c : Config) (e : End) (hf : fitAll e.out.items = true) : D_sess_Check c e = N_sess_Check (c, (e, ())) := by
  have h := end_iff c e
  simp only [N_sess_Check, hf, if_true, e1]
  by_cases hq : mayQueue e.out = true
  · obtain ⟨g1, g2, g3⟩ := list_len e.out hq
    have hs : loopO D_sess_Check_l2 (queueList e.out, (((queueList e.out).length : Int), ((0 : Int), ()))) = if mayTexts (queueList e.out) = true then some (0, ()) else some (8, ()) := by
      refine loopO_all (queueList e.out) (fun b => decide (1 ≤ b.length) && decide (b.length ≤ 64)) (fun k => (queueList e.out, (((queueList e.out).length : Int), ((k : Int), ())))) (some (8, ())) _ (fun k hk => ?_) ?_
      · simp only [D_sess_Check_l2, D_sess_Check_t1, wrap_succ (k := k) (by rw [maxLen_eq]; omega), Int.toNat_natCast, nth_lt hk]
        grind
      · simp [D_sess_Check_l2]
    simp only [D_sess_Check, N_ring_List, N_ref04_List, N_place_Check, hf, e1, hq, if_true, Option.bind_some, hs, g3]
    generalize mayEnd c e = b at h
    cases b with
    | true =>
      have h' := h.1 rfl
      grind (splits := 40)
    | false =>
      have h' := fun x => Bool.false_ne_true (h.2 x)
      grind (splits := 40)
  · have hb : mayEnd c e = false := by
      cases hm : mayEnd c e with
      | false => rfl
      | true => exact absurd (h.1 hm).2.1 hq
    simp only [D_sess_Check, N_ring_List, N_ref04_List, N_place_Check, hf, e1, hq, hb, if_true, Option.bind_some]
    grind
end Go.Cat

namespace Go.Cat
open Go
theorem all_1 : D_bits_All 1 = some ([1], (0, ())) :=
  (show D_bits_All 1 = loopO (D_bits_All_l2 1) ([255], (1, ())) by kernel_rfl).trans (loopO_exit (t := some ([1], (0, ()))) (by kernel_rfl))
theorem all_2 : D_bits_All 2 = some ([3], (0, ())) :=
  (show D_bits_All 2 = loopO (D_bits_All_l2 2) ([255], (1, ())) by kernel_rfl).trans (loopO_exit (t := some ([3], (0, ()))) (by kernel_rfl))
theorem all_3 : D_bits_All 3 = some ([7], (0, ())) :=
  (show D_bits_All 3 = loopO (D_bits_All_l2 3) ([255], (1, ())) by kernel_rfl).trans (loopO_exit (t := some ([7], (0, ()))) (by kernel_rfl))
theorem all_4 : D_bits_All 4 = some ([15], (0, ())) :=
  (show D_bits_All 4 = loopO (D_bits_All_l2 4) ([255], (1, ())) by kernel_rfl).trans (loopO_exit (t := some ([15], (0, ()))) (by kernel_rfl))
theorem all_5 : D_bits_All 5 = some ([31], (0, ())) :=
  (show D_bits_All 5 = loopO (D_bits_All_l2 5) ([255], (1, ())) by kernel_rfl).trans (loopO_exit (t := some ([31], (0, ()))) (by kernel_rfl))
theorem all_6 : D_bits_All 6 = some ([63], (0, ())) :=
  (show D_bits_All 6 = loopO (D_bits_All_l2 6) ([255], (1, ())) by kernel_rfl).trans (loopO_exit (t := some ([63], (0, ()))) (by kernel_rfl))
theorem all_7 : D_bits_All 7 = some ([127], (0, ())) :=
  (show D_bits_All 7 = loopO (D_bits_All_l2 7) ([255], (1, ())) by kernel_rfl).trans (loopO_exit (t := some ([127], (0, ()))) (by kernel_rfl))
theorem all_8 : D_bits_All 8 = some ([255], (0, ())) :=
  (show D_bits_All 8 = loopO (D_bits_All_l2 8) ([255], (1, ())) by kernel_rfl).trans (loopO_exit (t := some ([255], (0, ()))) (by kernel_rfl))
theorem all_9 : D_bits_All 9 = some ([255,1], (0, ())) :=
  (show D_bits_All 9 = loopO (D_bits_All_l2 9) ([255, 0], (1, ())) by kernel_rfl).trans ((loopO_inl (l' := ([255, 255], (2, ()))) (by kernel_rfl)).trans (loopO_exit (t := some ([255,1], (0, ()))) (by kernel_rfl)))
theorem all_10 : D_bits_All 10 = some ([255,3], (0, ())) :=
  (show D_bits_All 10 = loopO (D_bits_All_l2 10) ([255, 0], (1, ())) by kernel_rfl).trans ((loopO_inl (l' := ([255, 255], (2, ()))) (by kernel_rfl)).trans (loopO_exit (t := some ([255,3], (0, ()))) (by kernel_rfl)))
theorem all_11 : D_bits_All 11 = some ([255,7], (0, ())) :=
  (show D_bits_All 11 = loopO (D_bits_All_l2 11) ([255, 0], (1, ())) by kernel_rfl).trans ((loopO_inl (l' := ([255, 255], (2, ()))) (by kernel_rfl)).trans (loopO_exit (t := some ([255,7], (0, ()))) (by kernel_rfl)))
theorem all_12 : D_bits_All 12 = some ([255,15], (0, ())) :=
  (show D_bits_All 12 = loopO (D_bits_All_l2 12) ([255, 0], (1, ())) by kernel_rfl).trans ((loopO_inl (l' := ([255, 255], (2, ()))) (by kernel_rfl)).trans (loopO_exit (t := some ([255,15], (0, ()))) (by kernel_rfl)))
theorem all_13 : D_bits_All 13 = some ([255,31], (0, ())) :=
  (show D_bits_All 13 = loopO (D_bits_All_l2 13) ([255, 0], (1, ())) by kernel_rfl).trans ((loopO_inl (l' := ([255, 255], (2, ()))) (by kernel_rfl)).trans (loopO_exit (t := some ([255,31], (0, ()))) (by kernel_rfl)))
theorem all_14 : D_bits_All 14 = some ([255,63], (0, ())) :=
  (show D_bits_All 14 = loopO (D_bits_All_l2 14) ([255, 0], (1, ())) by kernel_rfl).trans ((loopO_inl (l' := ([255, 255], (2, ()))) (by kernel_rfl)).trans (loopO_exit (t := some ([255,63], (0, ()))) (by kernel_rfl)))
theorem all_15 : D_bits_All 15 = some ([255,127], (0, ())) :=
  (show D_bits_All 15 = loopO (D_bits_All_l2 15) ([255, 0], (1, ())) by kernel_rfl).trans ((loopO_inl (l' := ([255, 255], (2, ()))) (by kernel_rfl)).trans (loopO_exit (t := some ([255,127], (0, ()))) (by kernel_rfl)))
theorem all_16 : D_bits_All 16 = some ([255,255], (0, ())) :=
  (show D_bits_All 16 = loopO (D_bits_All_l2 16) ([255, 0], (1, ())) by kernel_rfl).trans ((loopO_inl (l' := ([255, 255], (2, ()))) (by kernel_rfl)).trans (loopO_exit (t := some ([255,255], (0, ()))) (by kernel_rfl)))
theorem mayN_iff (n : Int) : mayN n = true ↔ 1 ≤ n ∧ n ≤ 16 := by simp [mayN]
theorem n_cases {n : Int} (h : mayN n = true) : n = 1 ∨ n = 2 ∨ n = 3 ∨ n = 4 ∨ n = 5 ∨ n = 6 ∨ n = 7 ∨ n = 8 ∨ n = 9 ∨ n = 10 ∨ n = 11 ∨ n = 12 ∨ n = 13 ∨ n = 14 ∨ n = 15 ∨ n = 16 := by
  have := (mayN_iff n).1 h; omega
theorem P_bits_All (n : Int) : D_bits_All n = N_bits_All (n, ()) := by
  by_cases h : mayN n = true
  · simp only [N_bits_All, h, if_true]
    rcases n_cases h with h | h | h | h | h | h | h | h | h | h | h | h | h | h | h | h <;> subst h
    · exact all_1
    · exact all_2
    · exact all_3
    · exact all_4
    · exact all_5
    · exact all_6
    · exact all_7
    · exact all_8
    · exact all_9
    · exact all_10
    · exact all_11
    · exact all_12
    · exact all_13
    · exact all_14
    · exact all_15
    · exact all_16
  · have h' : ¬ (1 ≤ n ∧ n ≤ 16) := fun x => h ((mayN_iff n).2 x)
    simp only [N_bits_All, h, D_bits_All]
    by_cases h1 : 1 ≤ n
    · have : ¬ n ≤ 16 := fun x => h' ⟨h1, x⟩
      simp [h1, this]
    · simp [h1]
theorem allBytes_len {n : Int} (h : mayN n = true) : (allBytes n).length = if n ≤ 8 then 1 else 2 := by
  have := (mayN_iff n).1 h
  unfold allBytes
  split
  · rw [if_pos (by omega)]; rfl
  · split
    · rw [if_pos (by omega)]; rfl
    · rw [if_neg (by omega)]; rfl
theorem P_bits_Check (n : Int) (s : List Int) (hs : s.length ≤ maxLen) : D_bits_Check n s = N_bits_Check (n, (s, ())) := by
  by_cases h : mayN n = true
  · by_cases hl : s.length = (allBytes n).length
    · have hloop : loopO D_bits_Check_l1 (allBytes n, (s, ((s.length : Int), ((0 : Int), ())))) = if ((List.range' 0 (s.length - 0)).all fun i => ibits .andNot .u8 (nth s i) (nth (allBytes n) i) == 0) = true then some (0, ()) else some (8, ()) := by
        refine loopO_allN 0 s.length (fun i => ibits .andNot .u8 (nth s i) (nth (allBytes n) i) == 0) (fun k => (allBytes n, (s, ((s.length : Int), ((k : Int), ()))))) (some (8, ())) (some (0, ())) (by omega) (fun k _ hk => ?_) ?_
        · simp only [D_bits_Check_l1, wrap_succ (Nat.lt_of_lt_of_le hk hs), Int.toNat_natCast]
          grind
        · simp [D_bits_Check_l1]
      simp only [Nat.sub_zero] at hloop
      simp only [D_bits_Check, N_bits_All, N_bits_Check, h, if_true, Option.bind_some, hloop, bitsOk, e1, hl, Bool.true_and, beq_self_eq_true]
      rw [hl] at hloop
      grind
    · simp only [D_bits_Check, N_bits_All, N_bits_Check, h, if_true, Option.bind_some, bitsOk, e1]
      grind
  · simp only [D_bits_Check, N_bits_All, N_bits_Check, h, Option.bind_some, e1]
    grind
theorem P_ref03_In (s : List Int) (t : Int) (ht : 0 ≤ t ∧ t ≤ 1000) (hs : ∀ x ∈ s, 0 ≤ x ∧ x ≤ 255) : D_ref03_In s t = N_ref03_In (s, (t, ())) := by
  obtain ⟨T, rfl⟩ : ∃ T : Nat, t = (T : Int) := ⟨t.toNat, by omega⟩
  have hT : T ≤ 1000 := by omega
  have d1 : Int.tdiv (T : Int) 8 = ((T / 8 : Nat) : Int) := by rw [Int.tdiv_eq_ediv_of_nonneg (by omega)]; omega
  have d2 : Int.tmod (T : Int) 8 = ((T % 8 : Nat) : Int) := by rw [Int.tmod_eq_emod_of_nonneg (by omega)]; omega
  have w1 : IntKind.wrap .i64 ((T / 8 : Nat) : Int) = ((T / 8 : Nat) : Int) := wrap_i64 (by omega) (by omega)
  have c1 : ((8 : Int) != 0) = true := by decide
  simp only [N_ref03_In, ht, and_self, if_true, b1, hasBit, Int.toNat_natCast]
  by_cases hl : T / 8 < s.length
  · have hb : 0 ≤ nth s (T / 8) ∧ nth s (T / 8) ≤ 255 := by rw [nth_lt hl]; exact hs _ (List.getElem_mem hl)
    have hlt : T % 8 < 8 := Nat.mod_lt _ (by omega)
    have hpow : ∀ k : Nat, k ≤ 8 → (1 : Int) ≤ 2 ^ k ∧ (2 : Int) ^ k ≤ 256 := by
      intro k hk
      have : ∀ k : Fin 9, (1 : Int) ≤ 2 ^ k.val ∧ (2 : Int) ^ k.val ≤ 256 := by decide
      exact this ⟨k, by omega⟩
    have hloop : loopO (D_ref03_In_l2 s (T : Int)) (((T % 8 : Nat) : Int), ((1 : Int), ((0 : Int), ()))) = some ((nth s (T / 8) / 2 ^ (T % 8)) % 2 == 1, ()) := by
      refine loopO_for (fun k => (((T % 8 : Nat) : Int), ((2 : Int) ^ k, ((k : Int), ())))) (T % 8) _ (fun k hk => ?_) ?_
      · have hp := hpow k (by omega)
        have e1 : IntKind.wrap .i64 (2 * (2 : Int) ^ k) = 2 ^ (k + 1) := by rw [wrap_i64 (by omega) (by omega), Int.pow_succ, Int.mul_comm]
        simp only [D_ref03_In_l2, e1, wrap_succ (k := k) (by rw [maxLen_eq]; omega)]
        grind
      · have hp := hpow (T % 8) (by omega)
        have hne : (2 : Int) ^ (T % 8) ≠ 0 := by omega
        have q0 : 0 ≤ nth s (T / 8) / 2 ^ (T % 8) := Int.ediv_nonneg hb.1 (by omega)
        have q1 : nth s (T / 8) / 2 ^ (T % 8) ≤ 255 := Int.le_trans (Int.ediv_le_self _ hb.1) hb.2
        have e : D_ref03_In_t1 s (T : Int) (((T % 8 : Nat) : Int), ((2 : Int) ^ (T % 8), (((T % 8 : Nat) : Int), ()))) = some ((nth s (T / 8) / 2 ^ (T % 8)) % 2 == 1, ()) := by
          simp only [D_ref03_In_t1, d1, w1, Int.toNat_natCast]
          rw [wrap_i64 (n := nth s (T / 8)) (by omega) (by omega), Int.tdiv_eq_ediv_of_nonneg hb.1, wrap_i64 (by omega) (by omega), Int.tmod_eq_emod_of_nonneg q0]
          have c2 : ((2 : Int) ^ (T % 8) != 0) = true := by simp [hne]
          rw [if_pos c2]
          rfl
        simp only [D_ref03_In_l2, e]
        simp
    simp only [D_ref03_In, d1, d2, w1, c1, if_true, hloop]
    grind
  · simp only [D_ref03_In, d1, d2, w1, c1, if_true]
    grind
def chk1 (n b : Nat) : Bool := ((List.range' n (8 - n)).all fun t => !hasBit [(b : Int)] t) == (ibits .andNot .u8 (b : Int) ((2 : Int) ^ n - 1) == 0)
def chk2 (n b : Nat) : Bool := ((List.range' n (16 - n)).all fun t => !hasBit [0, (b : Int)] t) == (ibits .andNot .u8 (b : Int) ((2 : Int) ^ (n - 8) - 1) == 0)
theorem chk1_ok : ((List.range' 1 8).all fun n => (List.range 256).all fun b => chk1 n b) = true := by decide +kernel
theorem chk2_ok : ((List.range' 9 8).all fun n => (List.range 256).all fun b => chk2 n b) = true := by decide +kernel
theorem chk3_ok : ((List.range 256).all fun b => ibits .andNot .u8 (b : Int) 255 == 0) = true := by decide +kernel
theorem bits_same {n : Int} {s : List Int} (h : mayN n = true) (hl : s.length = (allBytes n).length) (hs : ∀ x ∈ s, 0 ≤ x ∧ x ≤ 255) :
    ((List.range' n.toNat (8 * s.length - n.toNat)).all fun t => !hasBit s t) = (List.range' 0 s.length).all fun i => ibits .andNot .u8 (nth s i) (nth (allBytes n) i) == 0 := by
  have hn := (mayN_iff n).1 h
  have hlen := allBytes_len h
  rw [hlen] at hl
  by_cases h8 : n ≤ 8
  · rw [if_pos h8] at hl
    obtain ⟨b, rfl⟩ := List.length_eq_one_iff.1 hl
    have hb := hs b (by simp)
    obtain ⟨B, rfl⟩ : ∃ B : Nat, b = (B : Int) := ⟨b.toNat, by omega⟩
    have hc := List.all_eq_true.1 (List.all_eq_true.1 chk1_ok n.toNat (by simp [List.mem_range'_1]; omega)) B (by simp; omega)
    simp only [chk1, beq_iff_eq] at hc
    have ha : allBytes n = [(2 : Int) ^ n.toNat - 1] := by
      unfold allBytes
      by_cases h7 : n < 8
      · rw [if_pos h7]
      · have : n = 8 := by omega
        subst this; rfl
    rw [ha]
    simp only [List.length_singleton, Nat.mul_one, hc]
    simp [nth, List.range']
  · rw [if_neg h8] at hl
    obtain ⟨a, b, rfl⟩ : ∃ a b, s = [a, b] := by
      match s, hl with
      | [a, b], _ => exact ⟨a, b, rfl⟩
    have ha := hs a (by simp)
    have hb := hs b (by simp)
    obtain ⟨A, rfl⟩ : ∃ A : Nat, a = (A : Int) := ⟨a.toNat, by omega⟩
    obtain ⟨B, rfl⟩ : ∃ B : Nat, b = (B : Int) := ⟨b.toNat, by omega⟩
    have hc := List.all_eq_true.1 (List.all_eq_true.1 chk2_ok n.toNat (by simp [List.mem_range'_1]; omega)) B (by simp; omega)
    have hd := List.all_eq_true.1 chk3_ok A (by simp; omega)
    simp only [chk2, beq_iff_eq] at hc
    have hall : allBytes n = [255, (2 : Int) ^ (n.toNat - 8) - 1] := by
      unfold allBytes
      rw [if_neg (by omega), if_neg (by omega), show (n - 8).toNat = n.toNat - 8 by omega]
    have hsame : ((List.range' n.toNat (8 * [(A : Int), (B : Int)].length - n.toNat)).all fun t => !hasBit [(A : Int), (B : Int)] t) = ((List.range' n.toNat (16 - n.toNat)).all fun t => !hasBit [0, (B : Int)] t) := by
      rw [Bool.eq_iff_iff, List.all_eq_true, List.all_eq_true]
      have e : ∀ t, t ∈ List.range' n.toNat (16 - n.toNat) → hasBit [(A : Int), (B : Int)] t = hasBit [0, (B : Int)] t := by
        intro t ht
        simp only [List.mem_range'_1] at ht
        have h1 : t / 8 = 1 := by omega
        simp only [hasBit, h1]
        rfl
      constructor
      · intro hh t ht; have := hh t ht; rwa [e t ht] at this
      · intro hh t ht; have := hh t ht; rwa [← e t ht] at this
    rw [hsame, hc, hall]
    simp only [beq_iff_eq] at hd
    simp [nth, List.range', hd]
theorem P_ref03_May (n : Int) (s : List Int) (hs : ∀ x ∈ s, 0 ≤ x ∧ x ≤ 255) : D_ref03_May n s = N_ref03_May (n, (s, ())) := by
  by_cases h : mayN n = true
  · have hn := (mayN_iff n).1 h
    have w1 : IntKind.wrap .i64 (Int.tdiv (IntKind.wrap .i64 (IntKind.wrap .i64 (n + 8) - 1)) 8) = ((allBytes n).length : Int) := by
      rw [wrap_i64 (n := n + 8) (by omega) (by omega), wrap_i64 (n := n + 8 - 1) (by omega) (by omega), Int.tdiv_eq_ediv_of_nonneg (by omega), wrap_i64 (by omega) (by omega), allBytes_len h]
      split <;> omega
    by_cases hl : s.length = (allBytes n).length
    · have hlen := allBytes_len h
      have hloop : loopO D_ref03_May_l1 (s, (n, ())) = b1 ((List.range' n.toNat (8 * s.length - n.toNat)).all fun t => !hasBit s t) := by
        have hle : n.toNat ≤ 8 * s.length := by rw [hl, hlen]; split <;> omega
        have hle2 : 8 * s.length ≤ 16 := by rw [hl, hlen]; split <;> omega
        have w2 : IntKind.wrap .i64 (8 * (s.length : Int)) = ((8 * s.length : Nat) : Int) := by rw [wrap_i64 (by omega) (by omega)]; omega
        have := loopO_allN (step := D_ref03_May_l1) n.toNat (8 * s.length) (fun t => !hasBit s t) (fun k => (s, ((k : Int), ()))) (some (false, ())) (some (true, ())) hle (fun k _ hk => by
          simp only [D_ref03_May_l1, w2, N_ref03_In, show (0 : Int) ≤ (k : Int) ∧ (k : Int) ≤ 1000 by omega, and_self, if_true, b1, Option.bind_some, wrap_succ (k := k) (by rw [maxLen_eq]; omega), Int.toNat_natCast]
          grind) (by
          simp only [D_ref03_May_l1, w2]
          simp)
        simp only [Int.toNat_of_nonneg (show 0 ≤ n by omega)] at this
        exact this.trans (ite_b1 _)
      have hn1 : decide (n ≥ 1) = true := by simp; omega
      have hn2 : (!decide (n ≤ 16)) = false := by simp; omega
      rw [bits_same h hl hs] at hloop
      have hl' : ((s.length : Int) != ((allBytes n).length : Int)) = false := by simp [hl]
      have hl2 : (s.length == (allBytes n).length) = true := by simp [hl]
      simp only [D_ref03_May, w1, hl', hl2, hloop, N_ref03_May, bitsOk, h, hn1, hn2, if_true]
      simp [b1]
    · have hn1 : decide (n ≥ 1) = true := by simp; omega
      have hn2 : (!decide (n ≤ 16)) = false := by simp; omega
      simp only [D_ref03_May, w1, N_ref03_May, bitsOk, h, hn1, hn2, if_true, b1]
      grind
  · have h' : ¬ (1 ≤ n ∧ n ≤ 16) := fun x => h ((mayN_iff n).2 x)
    simp only [D_ref03_May, N_ref03_May, bitsOk, h, b1]
    grind
end Go.Cat

namespace Go.Cat
open Go
theorem cb1 (n : Nat) : (((n : Int)) == 1) = (n == 1) := by rw [Bool.eq_iff_iff]; simp; omega
theorem cb2 (n : Nat) : (((n : Int)) == 2) = (n == 2) := by rw [Bool.eq_iff_iff]; simp; omega
theorem cb0 (n : Nat) : (((n : Int)) == 0) = (n == 0) := by rw [Bool.eq_iff_iff]; simp
theorem cb28 (n : Nat) : (((n : Int)) == 28) = (n == 28) := by rw [Bool.eq_iff_iff]; simp; omega
theorem cb32 (n : Nat) : (((n : Int)) == 32) = (n == 32) := by rw [Bool.eq_iff_iff]; simp; omega
theorem P_msg_marks (l : List Int) : D_msg_marks l = N_msg_marks (l, ()) := by
  simp only [D_msg_marks, N_msg_marks, markB, b1, cb1, cb2]
  grind
theorem P_msg_of (m : Msg) : D_msg_of m = N_msg_of (m, ()) := rfl
theorem rec_eq (a b : Rec) : a = b ↔ a.pair = b.pair ∧ a.born = b.born ∧ a.epoch = b.epoch ∧ a.lead = b.lead ∧ a.phase = b.phase ∧ a.from_ = b.from_ ∧ a.quick = b.quick ∧ a.alone = b.alone := by
  cases a; cases b; simp
theorem msg_eq (a b : Msg) : a = b ↔ a.kind = b.kind ∧ a.pair = b.pair ∧ a.has = b.has ∧ a.rec_ = b.rec_ ∧ a.op = b.op ∧ a.born = b.born ∧ a.epoch = b.epoch ∧ a.track = b.track ∧ a.n = b.n ∧ a.code = b.code ∧ a.marks = b.marks ∧ a.bytes = b.bytes := by
  cases a; cases b; simp
theorem P_msg_Same (a b : Msg) : D_msg_Same a b = N_msg_Same (a, (b, ())) := by
  have h := msg_eq a b
  have h2 := rec_eq a.rec_ b.rec_
  simp only [D_msg_Same, N_msg_Same, N_msg_of, N_bytes_Equal, b1, Option.bind_some]
  by_cases hab : a = b
  · subst hab; simp
  · have h3 : ¬ _ := fun x => hab (h.2 x)
    rw [h2] at h3
    rw [decide_eq_false hab]
    grind (splits := 40)
theorem kind_cases (n : Int) : n = 1 ∨ n = 2 ∨ n = 3 ∨ n = 4 ∨ n = 5 ∨ n = 6 ∨ n = 7 ∨ n = 8 ∨ (n ≠ 1 ∧ n ≠ 2 ∧ n ≠ 3 ∧ n ≠ 4 ∧ n ≠ 5 ∧ n ≠ 6 ∧ n ≠ 7 ∧ n ≠ 8) := by omega
theorem P_msg_used (m : Msg) : D_msg_used m = N_msg_used (m, ()) := by
  obtain ⟨kind, pair, has, rc, op, born, epoch, track, n, code, marks, bytes⟩ := m
  simp only [D_msg_used, N_msg_used, usedOf, N_rec_Check, N_msg_marks, e1, b1, rec0, Option.bind_some, cb28]
  rcases kind_cases kind with h | h | h | h | h | h | h | h | h
  all_goals first | subst h | skip
  all_goals simp
  all_goals grind
structure MsgR (m : Msg) : Prop where
  born : 0 ≤ m.born
  epoch : 0 ≤ m.epoch
theorem used_may (m : Msg) (hr : MsgR m) : mayMsg m = true ↔ (usedOf m).2 = true ∧ (usedOf m).1 = m ∧ 0 ≤ m.pair ∧ m.pair < 3 ∧ 0 ≤ m.track ∧ m.track < 16 := by
  obtain ⟨kind, pair, has, rc, op, born, epoch, track, n, code, marks, bytes⟩ := m
  have b1 := hr.born
  have b2 := hr.epoch
  simp only at b1 b2
  rw [msg_eq]
  simp only [mayMsg, usedOf, mayKind, Bool.and_eq_true, decide_eq_true_eq]
  rcases kind_cases kind with h | h | h | h | h | h | h | h | h
  all_goals first | subst h | skip
  all_goals (try cases has)
  all_goals simp [zl, z]
  all_goals (try simp [h])
  all_goals (try grind)
theorem P_msg_Check (m : Msg) (hr : MsgR m) : D_msg_Check m = N_msg_Check (m, ()) := by
  have h := used_may m hr
  simp only [D_msg_Check, N_msg_Check, N_msg_used, N_msg_Same, b1, e1, Option.bind_some]
  generalize mayMsg m = b at h
  cases b with
  | true =>
    have h' := h.1 rfl
    grind (splits := 40)
  | false =>
    have h' := fun x => Bool.false_ne_true (h.2 x)
    grind (splits := 40)
end Go.Cat

namespace Go.Cat
open Go
theorem cbn0 (n : Nat) : decide ((n : Int) > 0) = !(n == 0) := by rw [Bool.eq_iff_iff]; simp; omega
theorem P_ref20_May (m : Msg) : D_ref20_May m = N_ref20_May (m, ()) := by
  obtain ⟨kind, pair, has, rc, op, born, epoch, track, n, code, marks, bytes⟩ := m
  have hr := rec_eq rc rec0
  have hz : ((rc.pair == 0) && ((rc.born == 0) && ((rc.epoch == 0) && ((rc.lead == 0) && ((rc.phase == 0) && ((rc.from_ == 0) && ((rc.quick == false) && ((rc.alone == false) && true)))))))) = decide (rc = rec0) := by
    rw [Bool.eq_iff_iff, decide_eq_true_iff, hr]
    simp [rec0]
  simp only [D_ref20_May, N_ref20_May, mayMsg, mayKind, N_ref11_May, b1, Option.bind_some, hz, cb0, cb1, cb2, cb28, cbn0, markB, z, zl]
  generalize decide (rc = rec0) = bz
  generalize marks.length = ml
  generalize bytes.length = bl
  generalize mayRec rc = mr
  by_cases hp : 0 ≤ pair ∧ pair ≤ 2
  · have q1 : decide (pair < 0) = false := by simp; omega
    have q2 : decide (pair > 2) = false := by simp; omega
    have q3 : decide (0 ≤ pair) = true := by simp; omega
    have q4 : decide (pair ≤ 2) = true := by simp; omega
    simp only [q1, q2, q3, q4]
    rcases kind_cases kind with h | h | h | h | h | h | h | h | h
    all_goals first | subst h | skip
    all_goals cases has <;> cases bz <;> simp
    all_goals (try simp [h])
    all_goals (try grind (splits := 30))
  · grind
theorem P_act_limits_pair (c : Config) (p : Int) : D_act_limits_pair c p = N_act_limits_pair (c, (p, ())) := by
  simp only [D_act_limits_pair, N_act_limits_pair, pairB, b1]
  grind
theorem P_ref21_pair (c : Config) (p : Int) : D_ref21_pair c p = N_ref21_pair (c, (p, ())) := by
  simp only [D_ref21_pair, N_ref21_pair, pairB, b1]
  grind
theorem P_ref21_there (c : Config) (p : Int) : D_ref21_there c p = N_ref21_there (c, (p, ())) := by
  simp only [D_ref21_there, N_ref21_there, thereB, b1]
  grind
theorem P_act_limits_message (c : Config) (m : Msg) : D_act_limits_message c m = N_act_limits_message (c, (m, ())) := by
  simp only [D_act_limits_message, N_act_limits_message, N_msg_Check, N_act_limits_pair, mayMsgC, b1, e1, Option.bind_some]
  grind
theorem P_ref21_mayMsg (c : Config) (m : Msg) : D_ref21_mayMsg c m = N_ref21_mayMsg (c, (m, ())) := by
  simp only [D_ref21_mayMsg, N_ref21_mayMsg, N_ref20_May, N_ref21_pair, mayMsgC, b1, Option.bind_some]
  grind
theorem P_act_limits_act (c : Config) (a : Act) (n : Int) : D_act_limits_act c a n = N_act_limits_act (c, (a, (n, ()))) := by
  simp only [D_act_limits_act, N_act_limits_act, N_act_limits_message, N_act_limits_pair, mayAct, b1, Option.bind_some, cb32]
  grind
theorem P_ref21_mayAct (c : Config) (s : Site) (a : Act) : D_ref21_mayAct c s a = N_ref21_mayAct (c, (s, (a, ()))) := by
  simp only [D_ref21_mayAct, N_ref21_mayAct, N_ref21_mayMsg, N_ref21_pair, mayAct, b1, Option.bind_some, cb32]
  grind
theorem P_act_limits_mail (c : Config) (m : Mail) : D_act_limits_mail c m = N_act_limits_mail (c, (m, ())) := by
  simp only [D_act_limits_mail, N_act_limits_mail, N_act_limits_message, mayMail, b1, Option.bind_some]
  grind
theorem P_ref21_mayLists (c : Config) (s : Site) (h1 : s.plan.length ≤ maxLen) (h2 : s.mail.length ≤ maxLen) (h3 : s.asks.length ≤ maxLen) (hk : ∀ m ∈ s.mail, 0 ≤ m.kind) : D_ref21_mayLists c s = N_ref21_mayLists (c, (s, ())) := by
  have ha : loopO (D_ref21_mayLists_l1 s) ((0 : Int), ()) = b1 (s.asks.all mayAsk) := by
    refine (loopO_all s.asks mayAsk (fun k => ((k : Int), ())) (some (false, ())) (some (true, ())) (fun k h => ?_) ?_).trans (ite_b1 _)
    · simp only [D_ref21_mayLists_l1, wrap_succ (Nat.lt_of_lt_of_le h h3), Int.toNat_natCast, nth_lt h, mayAsk]
      grind
    · simp [D_ref21_mayLists_l1]
  have hm : loopO (D_ref21_mayLists_l2 c s) ((0 : Int), ()) = if s.mail.all (mayMail c) = true then b1 (s.asks.all mayAsk) else some (false, ()) := by
    refine loopO_all s.mail (mayMail c) (fun k => ((k : Int), ())) (some (false, ())) _ (fun k h => ?_) ?_
    · have := hk _ (List.getElem_mem h)
      simp only [D_ref21_mayLists_l2, wrap_succ (Nat.lt_of_lt_of_le h h2), Int.toNat_natCast, nth_lt h, mayMail, N_ref21_mayMsg, b1, Option.bind_some]
      grind
    · simp [D_ref21_mayLists_l2, ha]
  have hp : loopO (D_ref21_mayLists_l3 c s) ((0 : Int), ()) = if s.plan.all (mayAct c s.disk.sectors.length) = true then (if s.mail.all (mayMail c) = true then b1 (s.asks.all mayAsk) else some (false, ())) else some (false, ()) := by
    refine loopO_all s.plan (mayAct c s.disk.sectors.length) (fun k => ((k : Int), ())) (some (false, ())) _ (fun k h => ?_) ?_
    · simp only [D_ref21_mayLists_l3, wrap_succ (Nat.lt_of_lt_of_le h h1), Int.toNat_natCast, nth_lt h, N_ref21_mayAct, b1, Option.bind_some]
      grind
    · simp [D_ref21_mayLists_l3, hm]
  simp only [D_ref21_mayLists, hp, N_ref21_mayLists, mayLists, b1]
  grind
theorem P_ref21_maySide (c : Config) (x : Side) (h1 : x.out.length ≤ maxLen) (h2 : x.waits.length ≤ maxLen) : D_ref21_maySide c x = N_ref21_maySide (c, (x, ())) := by
  have hw : loopO (D_ref21_maySide_l2 c x) ((0 : Int), ()) = if x.waits.all (fun s => thereB c s.track) = true then D_ref21_maySide_t1 c x else some (false, ()) := by
    refine loopO_all x.waits (fun s => thereB c s.track) (fun k => ((k : Int), ())) (some (false, ())) _ (fun k h => ?_) ?_
    · simp only [D_ref21_maySide_l2, wrap_succ (Nat.lt_of_lt_of_le h h2), Int.toNat_natCast, nth_lt h, N_ref21_there, b1, Option.bind_some]
      grind
    · simp [D_ref21_maySide_l2]
  have ho : loopO (D_ref21_maySide_l3 c x) ((0 : Int), ()) = if x.out.all (fun s => thereB c s.track) = true then (if x.waits.all (fun s => thereB c s.track) = true then D_ref21_maySide_t1 c x else some (false, ())) else some (false, ()) := by
    refine loopO_all x.out (fun s => thereB c s.track) (fun k => ((k : Int), ())) (some (false, ())) _ (fun k h => ?_) ?_
    · simp only [D_ref21_maySide_l3, wrap_succ (Nat.lt_of_lt_of_le h h1), Int.toNat_natCast, nth_lt h, N_ref21_there, b1, Option.bind_some]
      grind
    · simp [D_ref21_maySide_l3, hw]
  have ht : D_ref21_maySide_t1 c x = b1 ((decide (x.first = -1) || thereB c x.first) && thereB c x.next && (decide (x.op = 0) || (decide (2 ≤ x.op) && decide (x.op ≤ 8)))) := by
    simp only [D_ref21_maySide_t1, N_ref21_there, b1, Option.bind_some]
    grind
  simp only [D_ref21_maySide, ho, ht, N_ref21_maySide, maySide, N_ref03_May, b1, Option.bind_some]
  generalize bitsOk c.tracks x.marks = m1
  generalize bitsOk c.tracks x.work = m2
  generalize bitsOk c.tracks x.need = m3
  cases m1 <;> cases m2 <;> cases m3 <;> simp
  grind
end Go.Cat

namespace Go.Cat
open Go
theorem bits_ne (n : Int) (s : List Int) : (((if mayN n = true then (if bitsOk n s = true then (0 : Int) else 8) else 2) != 0)) = !bitsOk n s := by
  have : bitsOk n s = true → mayN n = true := by
    intro h
    simp only [bitsOk, Bool.and_eq_true] at h
    exact h.1.1
  by_cases h1 : mayN n = true
  · by_cases h2 : bitsOk n s = true
    · simp [h1, h2]
    · simp [h1, h2]
  · have h2 : ¬ bitsOk n s = true := fun x => h1 (this x)
    simp [h1, h2]
theorem P_act_limits_side (c : Config) (x : Side) (h1 : x.out.length ≤ maxLen) (h2 : x.waits.length ≤ maxLen) : D_act_limits_side c x = N_act_limits_side (c, (x, ())) := by
  have ht : D_act_limits_side_t2 c x = b1 ((decide (x.first = -1) || thereB c x.first) && thereB c x.next && (decide (x.op = 0) || (decide (2 ≤ x.op) && decide (x.op ≤ 8)))) := by
    simp only [D_act_limits_side_t2, thereB, b1]
    grind
  have hw : loopO (D_act_limits_side_l3 c x) (x.waits, ((x.waits.length : Int), ((0 : Int), ()))) = if x.waits.all (fun s => thereB c s.track) = true then D_act_limits_side_t2 c x else some (false, ()) := by
    refine loopO_all x.waits (fun s => thereB c s.track) (fun k => (x.waits, ((x.waits.length : Int), ((k : Int), ())))) (some (false, ())) _ (fun k h => ?_) ?_
    · have et : D_act_limits_side_t1 c x (x.waits, ((x.waits.length : Int), ((k : Int), ()))) = some (false, ()) := by simp [D_act_limits_side_t1]
      simp only [D_act_limits_side_l3, et, wrap_succ (Nat.lt_of_lt_of_le h h2), Int.toNat_natCast, nth_lt h, thereB]
      grind
    · simp [D_act_limits_side_l3]
  have ho : loopO (D_act_limits_side_l6 c x) (x.out, ((x.out.length : Int), ((0 : Int), ()))) = if x.out.all (fun s => thereB c s.track) = true then (if x.waits.all (fun s => thereB c s.track) = true then D_act_limits_side_t2 c x else some (false, ())) else some (false, ()) := by
    refine loopO_all x.out (fun s => thereB c s.track) (fun k => (x.out, ((x.out.length : Int), ((k : Int), ())))) (some (false, ())) _ (fun k h => ?_) ?_
    · have et : D_act_limits_side_t4 c x (x.out, ((x.out.length : Int), ((k : Int), ()))) = some (false, ()) := by simp [D_act_limits_side_t4]
      simp only [D_act_limits_side_l6, et, wrap_succ (Nat.lt_of_lt_of_le h h1), Int.toNat_natCast, nth_lt h, thereB]
      grind
    · simp [D_act_limits_side_l6, D_act_limits_side_t5, hw]
  simp only [D_act_limits_side, ho, ht, N_act_limits_side, maySide, N_bits_Check, b1, e1, Option.bind_some, bits_ne]
  generalize bitsOk c.tracks x.marks = m1
  generalize bitsOk c.tracks x.work = m2
  generalize bitsOk c.tracks x.need = m3
  cases m1 <;> cases m2 <;> cases m3 <;> simp
  grind
theorem site_iff (c : Config) (s : Site) : maySite c s = true ↔ mayVol c s.disk = true ∧ 0 ≤ s.id ∧ s.id ≤ 1 ∧ mayMeta c s.met = true ∧ mayEnd c s.end_ = true ∧ (s.sides.length : Int) = c.pairs ∧ s.born ≤ 64 ∧ s.met.table.all (fun r => pairB c r.pair) = true ∧ s.sides.all (maySide c) = true ∧ mayLists c s = true := by
  simp only [maySite, Bool.and_eq_true, decide_eq_true_eq, beq_iff_eq, and_assoc]
structure SmallR (s : Site) : Prop where
  table : s.met.table.length ≤ 100
  sides : s.sides.length ≤ 10
  plan : s.plan.length ≤ 200
  mail : s.mail.length ≤ 200
  asks : s.asks.length ≤ 200
  replies : s.replies.length ≤ 2000
  syncs : s.syncs.length ≤ 2000
  items : fitAll s.end_.out.items = true
  side : ∀ x ∈ s.sides, smallSide x = true
  acts : ∀ a ∈ s.plan, smallAct a = true
  mails : ∀ m ∈ s.mail, smallMail m = true
  words : smallWords s = true
  disk : smallDisk 300 s.disk = true
theorem small_r {s : Site} (h : smallSite s = true) : SmallR s := by
  simp only [smallSite, smallLens, Bool.and_eq_true, decide_eq_true_eq, List.all_eq_true] at h
  obtain ⟨⟨⟨⟨⟨⟨hd, ⟨⟨⟨⟨⟨⟨⟨a1, a2⟩, a3⟩, a4⟩, a5⟩, a6⟩, a7⟩, a8⟩⟩, hs⟩, hp⟩, hm⟩, hi⟩, hw⟩ := h
  refine ⟨a1, a2, a3, a4, a5, a6, a7, (fitAll_iff _).2 ⟨by omega, fun b hb => ?_⟩, hs, hp, hm, hw, hd⟩
  have := hi b hb
  omega
theorem P_ref21_May (c : Config) (s : Site) (h : smallSite s = true) : D_ref21_May c s = N_ref21_May (c, (s, ())) := by
  have q := small_r h
  have ht : D_ref21_May_t1 c s = b1 (mayLists c s) := by simp [D_ref21_May_t1, N_ref21_mayLists, b1]
  have hs : loopO (D_ref21_May_l2 c s) ((0 : Int), ()) = if s.sides.all (maySide c) = true then b1 (mayLists c s) else some (false, ()) := by
    refine loopO_all s.sides (maySide c) (fun k => ((k : Int), ())) (some (false, ())) _ (fun k hk => ?_) ?_
    · simp only [D_ref21_May_l2, wrap_succ (k := k) (by rw [maxLen_eq]; have := q.sides; omega), Int.toNat_natCast, nth_lt hk, N_ref21_maySide, b1, Option.bind_some]
      grind
    · simp [D_ref21_May_l2, ht]
  have hb : loopO (D_ref21_May_l3 c s) ((0 : Int), ()) = if s.met.table.all (fun r => pairB c r.pair) = true then (if s.sides.all (maySide c) = true then b1 (mayLists c s) else some (false, ())) else some (false, ()) := by
    refine loopO_all s.met.table (fun r => pairB c r.pair) (fun k => ((k : Int), ())) (some (false, ())) _ (fun k hk => ?_) ?_
    · simp only [D_ref21_May_l3, wrap_succ (k := k) (by rw [maxLen_eq]; have := q.table; omega), Int.toNat_natCast, nth_lt hk, N_ref21_pair, b1, Option.bind_some]
      grind
    · simp [D_ref21_May_l3, hs]
  simp only [D_ref21_May, hb, N_ref21_May, h, if_true, N_ref08_May, N_ref12_May, N_ref17_May, q.items, b1, Option.bind_some]
  have hi := site_iff c s
  generalize maySite c s = b at hi
  cases b with
  | true =>
    have h' := hi.1 rfl
    grind (splits := 40)
  | false =>
    have h' := fun x => Bool.false_ne_true (hi.2 x)
    grind (splits := 40)
end Go.Cat

namespace Go.Cat
open Go
theorem err_ne (b : Bool) : (((if b = true then (0 : Int) else 8) != 0)) = !b := by cases b <;> rfl
theorem P_act_Check (c : Config) (s : Site) (h : smallSite s = true) (hk : ∀ m ∈ s.mail, 0 ≤ m.kind) : D_act_Check c s = N_act_Check (c, (s, ())) := by
  have q := small_r h
  have ha : loopO D_act_Check_l2 (s.asks, ((s.asks.length : Int), ((0 : Int), ()))) = if s.asks.all mayAsk = true then some (0, ()) else some (8, ()) := by
    refine loopO_all s.asks mayAsk (fun k => (s.asks, ((s.asks.length : Int), ((k : Int), ())))) (some (8, ())) (some (0, ())) (fun k hk => ?_) ?_
    · have et : D_act_Check_t1 (s.asks, ((s.asks.length : Int), ((k : Int), ()))) = some (8, ()) := by simp [D_act_Check_t1]
      simp only [D_act_Check_l2, et, wrap_succ (k := k) (by rw [maxLen_eq]; have := q.asks; omega), Int.toNat_natCast, nth_lt hk, mayAsk]
      grind
    · simp [D_act_Check_l2]
  have hm : loopO (D_act_Check_l5 c s) (s.mail, ((s.mail.length : Int), ((0 : Int), ()))) = if s.mail.all (mayMail c) = true then (if s.asks.all mayAsk = true then some (0, ()) else some (8, ())) else some (8, ()) := by
    refine loopO_all s.mail (mayMail c) (fun k => (s.mail, ((s.mail.length : Int), ((k : Int), ())))) (some (8, ())) _ (fun k hk => ?_) ?_
    · have et : D_act_Check_t3 s (s.mail, ((s.mail.length : Int), ((k : Int), ()))) = some (8, ()) := by simp [D_act_Check_t3]
      simp only [D_act_Check_l5, et, wrap_succ (k := k) (by rw [maxLen_eq]; have := q.mail; omega), Int.toNat_natCast, nth_lt hk, N_act_limits_mail, b1, Option.bind_some]
      grind
    · simp [D_act_Check_l5, D_act_Check_t4, ha]
  have hp : loopO (D_act_Check_l8 c s) (s.plan, ((s.plan.length : Int), ((0 : Int), ()))) = if s.plan.all (mayAct c s.disk.sectors.length) = true then (if s.mail.all (mayMail c) = true then (if s.asks.all mayAsk = true then some (0, ()) else some (8, ())) else some (8, ())) else some (8, ()) := by
    refine loopO_all s.plan (mayAct c s.disk.sectors.length) (fun k => (s.plan, ((s.plan.length : Int), ((k : Int), ())))) (some (8, ())) _ (fun k hk => ?_) ?_
    · have et : D_act_Check_t6 c s (s.plan, ((s.plan.length : Int), ((k : Int), ()))) = some (8, ()) := by simp [D_act_Check_t6]
      simp only [D_act_Check_l8, et, wrap_succ (k := k) (by rw [maxLen_eq]; have := q.plan; omega), Int.toNat_natCast, nth_lt hk, N_act_limits_act, b1, Option.bind_some]
      grind
    · simp [D_act_Check_l8, D_act_Check_t7, hm]
  have hl : (if s.plan.all (mayAct c s.disk.sectors.length) = true then (if s.mail.all (mayMail c) = true then (if s.asks.all mayAsk = true then some ((0 : Int), ()) else some (8, ())) else some (8, ())) else some (8, ())) = if mayLists c s = true then some (0, ()) else some (8, ()) := by
    simp only [mayLists]
    grind
  rw [hl] at hp
  have hs : loopO (D_act_Check_l11 c s) (s.sides, ((s.sides.length : Int), ((0 : Int), ()))) = if s.sides.all (maySide c) = true then (if mayLists c s = true then some (0, ()) else some (8, ())) else some (8, ()) := by
    refine loopO_all s.sides (maySide c) (fun k => (s.sides, ((s.sides.length : Int), ((k : Int), ())))) (some (8, ())) _ (fun k hk => ?_) ?_
    · have et : D_act_Check_t9 c s (s.sides, ((s.sides.length : Int), ((k : Int), ()))) = some (8, ()) := by simp [D_act_Check_t9]
      simp only [D_act_Check_l11, et, wrap_succ (k := k) (by rw [maxLen_eq]; have := q.sides; omega), Int.toNat_natCast, nth_lt hk, N_act_limits_side, b1, Option.bind_some]
      grind
    · simp [D_act_Check_l11, D_act_Check_t10, hp]
  have hb : loopO (D_act_Check_l14 c s) (s.met.table, ((s.met.table.length : Int), ((0 : Int), ()))) = if s.met.table.all (fun r => pairB c r.pair) = true then (if s.sides.all (maySide c) = true then (if mayLists c s = true then some (0, ()) else some (8, ())) else some (8, ())) else some (8, ()) := by
    refine loopO_all s.met.table (fun r => pairB c r.pair) (fun k => (s.met.table, ((s.met.table.length : Int), ((k : Int), ())))) (some (8, ())) _ (fun k hk => ?_) ?_
    · have et : D_act_Check_t12 c s (s.met.table, ((s.met.table.length : Int), ((k : Int), ()))) = some (8, ()) := by simp [D_act_Check_t12]
      simp only [D_act_Check_l14, et, wrap_succ (k := k) (by rw [maxLen_eq]; have := q.table; omega), Int.toNat_natCast, nth_lt hk, N_act_limits_pair, b1, Option.bind_some]
      grind
    · simp [D_act_Check_l14, D_act_Check_t13, hs]
  have hconf : mayVol c s.disk = true → mayConf c = true := by
    intro hv
    simp only [mayVol, Bool.and_eq_true] at hv
    exact hv.1.1
  have htab : s.met.table.length ≤ 1000000 := by have := q.table; omega
  simp only [D_act_Check, hb, N_act_Check, h, if_true, N_place_Check, N_track_Check, N_meta_Check, N_sess_Check, q.items, htab, e1, Option.bind_some, err_ne]
  have hi := site_iff c s
  generalize maySite c s = b at hi
  cases b with
  | true =>
    have h' := hi.1 rfl
    have hc := hconf h'.1
    grind (splits := 40)
  | false =>
    have h' := fun x => Bool.false_ne_true (hi.2 x)
    grind (splits := 40)
theorem P_ref21_greatWords (s : Site) (h1 : s.asks.length ≤ maxLen) (h2 : s.replies.length ≤ maxLen) : D_ref21_greatWords s = N_ref21_greatWords (s, ()) := by
  have hr : loopO (D_ref21_greatWords_l1 s) ((0 : Int), ()) = if s.replies.all (fun a => decide (a.bytes.length ≤ 100)) = true then some (false, ()) else some (true, ()) := by
    refine loopO_all s.replies (fun a => decide (a.bytes.length ≤ 100)) (fun k => ((k : Int), ())) (some (true, ())) _ (fun k hk => ?_) ?_
    · simp only [D_ref21_greatWords_l1, wrap_succ (Nat.lt_of_lt_of_le hk h2), Int.toNat_natCast, nth_lt hk]
      grind
    · simp [D_ref21_greatWords_l1]
  have hs : loopO (D_ref21_greatWords_l2 s) ((0 : Int), ()) = if s.asks.all (fun a => decide (a.bytes.length ≤ 100)) = true then (if s.replies.all (fun a => decide (a.bytes.length ≤ 100)) = true then some (false, ()) else some (true, ())) else some (true, ()) := by
    refine loopO_all s.asks (fun a => decide (a.bytes.length ≤ 100)) (fun k => ((k : Int), ())) (some (true, ())) _ (fun k hk => ?_) ?_
    · simp only [D_ref21_greatWords_l2, wrap_succ (Nat.lt_of_lt_of_le hk h1), Int.toNat_natCast, nth_lt hk]
      grind
    · simp [D_ref21_greatWords_l2, hr]
  simp only [D_ref21_greatWords, hs, N_ref21_greatWords, smallWords, b1]
  grind
theorem P_ref21_Great (s : Site) : D_ref21_Great s = N_ref21_Great (s, ()) := by
  have g300 : (0 : Int) ≤ 300 ∧ (300 : Int) ≤ 1000 := by omega
  by_cases hl : smallLens s = true
  · simp only [smallLens, Bool.and_eq_true, decide_eq_true_eq] at hl
    obtain ⟨⟨⟨⟨⟨⟨⟨a1, a2⟩, a3⟩, a4⟩, a5⟩, a6⟩, a7⟩, a8⟩ := hl
    have ht : D_ref21_Great_t1 s = some (!smallWords s, ()) := by simp [D_ref21_Great_t1, N_ref21_greatWords, b1]
    have hi : loopO (D_ref21_Great_l2 s) ((0 : Int), ()) = if s.end_.out.items.all (fun b => decide (b.length ≤ 100)) = true then some (!smallWords s, ()) else some (true, ()) := by
      refine loopO_all s.end_.out.items (fun b => decide (b.length ≤ 100)) (fun k => ((k : Int), ())) (some (true, ())) _ (fun k hk => ?_) ?_
      · simp only [D_ref21_Great_l2, wrap_succ (k := k) (by rw [maxLen_eq]; omega), Int.toNat_natCast, nth_lt hk]
        grind
      · simp [D_ref21_Great_l2, ht]
    have hm : loopO (D_ref21_Great_l3 s) ((0 : Int), ()) = if s.mail.all smallMail = true then (if s.end_.out.items.all (fun b => decide (b.length ≤ 100)) = true then some (!smallWords s, ()) else some (true, ())) else some (true, ()) := by
      refine loopO_all s.mail smallMail (fun k => ((k : Int), ())) (some (true, ())) _ (fun k hk => ?_) ?_
      · simp only [D_ref21_Great_l3, wrap_succ (k := k) (by rw [maxLen_eq]; omega), Int.toNat_natCast, nth_lt hk, smallMail]
        grind
      · simp [D_ref21_Great_l3, hi]
    have hp : loopO (D_ref21_Great_l4 s) ((0 : Int), ()) = if s.plan.all smallAct = true then (if s.mail.all smallMail = true then (if s.end_.out.items.all (fun b => decide (b.length ≤ 100)) = true then some (!smallWords s, ()) else some (true, ())) else some (true, ())) else some (true, ()) := by
      refine loopO_all s.plan smallAct (fun k => ((k : Int), ())) (some (true, ())) _ (fun k hk => ?_) ?_
      · simp only [D_ref21_Great_l4, wrap_succ (k := k) (by rw [maxLen_eq]; omega), Int.toNat_natCast, nth_lt hk, smallAct]
        grind
      · simp [D_ref21_Great_l4, hm]
    have hs : loopO (D_ref21_Great_l5 s) ((0 : Int), ()) = if s.sides.all smallSide = true then (if s.plan.all smallAct = true then (if s.mail.all smallMail = true then (if s.end_.out.items.all (fun b => decide (b.length ≤ 100)) = true then some (!smallWords s, ()) else some (true, ())) else some (true, ())) else some (true, ())) else some (true, ()) := by
      refine loopO_all s.sides smallSide (fun k => ((k : Int), ())) (some (true, ())) _ (fun k hk => ?_) ?_
      · simp only [D_ref21_Great_l5, wrap_succ (k := k) (by rw [maxLen_eq]; omega), Int.toNat_natCast, nth_lt hk, smallSide]
        grind
      · simp [D_ref21_Great_l5, hp]
    have hlens : smallLens s = true := by simp only [smallLens, Bool.and_eq_true, decide_eq_true_eq]; exact ⟨⟨⟨⟨⟨⟨⟨a1, a2⟩, a3⟩, a4⟩, a5⟩, a6⟩, a7⟩, a8⟩
    simp only [D_ref21_Great, N_ref05_Great, g300, and_self, if_true, b1, Option.bind_some, hs, N_ref21_Great, smallSite, hlens]
    grind (splits := 30)
  · have hf : smallSite s = false := by simp only [smallSite]; simp [hl]
    simp only [smallLens, Bool.and_eq_true, decide_eq_true_eq] at hl
    simp only [D_ref21_Great, N_ref05_Great, g300, and_self, if_true, b1, Option.bind_some, N_ref21_Great, hf]
    grind (splits := 30)
end Go.Cat

namespace Go.Cat
open Go
theorem P_ref21_bytes (l : List Int) (h : l.length ≤ 1000000) : D_ref21_bytes l = N_ref21_bytes (l, ()) := by
  have hb : decide (0 + l.length ≤ big) = true := by have := big_eq; simp; omega
  simp only [D_ref21_bytes, N_ref21_bytes, h, if_true, hb]
  rfl
theorem P_ref20_Twin (m : Msg) (h : fitMsg m = true) : D_ref20_Twin m = N_ref20_Twin (m, ()) := by
  have h' := h
  simp only [fitMsg, Bool.and_eq_true, decide_eq_true_eq] at h'
  have hb : decide (0 + m.marks.length ≤ big) = true := by have := big_eq; simp; omega
  have hc : decide (0 + m.bytes.length ≤ big) = true := by have := big_eq; simp; omega
  simp only [D_ref20_Twin, N_ref20_Twin, h, if_true, hb, hc]
  rfl
theorem side_iff (x : Side) : smallSide x = true ↔ x.marks.length ≤ 100 ∧ x.work.length ≤ 100 ∧ x.need.length ≤ 100 ∧ x.out.length ≤ 100 ∧ x.waits.length ≤ 100 := by
  simp only [smallSide, Bool.and_eq_true, decide_eq_true_eq, and_assoc]
theorem P_ref21_TwinSide (x : Side) (h : smallSide x = true) : D_ref21_TwinSide x = N_ref21_TwinSide (x, ()) := by
  obtain ⟨h1, h2, h3, h4, h5⟩ := (side_iff x).1 h
  have hb : decide (0 + x.out.length ≤ big) = true := by have := big_eq; simp; omega
  have hc : decide (0 + x.waits.length ≤ big) = true := by have := big_eq; simp; omega
  have c1 : x.marks.length ≤ 1000000 := by omega
  have c2 : x.work.length ≤ 1000000 := by omega
  have c3 : x.need.length ≤ 1000000 := by omega
  simp only [D_ref21_TwinSide, N_ref21_TwinSide, N_ref21_bytes, c1, c2, c3, h, if_true, hb, hc, Option.bind_some]
  rfl
def siteT (s : Site) (sides : List Side) (plan : List Act) (mail : List Mail) (asks : List Ask) (replies : List Reply) : ((Int × ((List Sector) × ((List Pend) × (Int × (Int × (Int × (Int × (Int × ((List Rec) × ((List Side) × (Int × (Int × (Bool × (Bool × (Int × (Int × ((List (List Int)) × (Int × (Int × (Int × (Int × ((List Act) × ((List Mail) × ((List Ask) × ((List Reply) × ((List Int) × (Int × (Bool × Unit))))))))))))))))))))))))))))) :=
  (s.id, (s.disk.sectors, (s.disk.cache, (s.met.super.boot, (s.met.super.area, (s.met.super.gen, (s.met.count, (s.met.turn, (s.met.table, (sides, (s.end_.me, (s.end_.you, (s.end_.up, (s.end_.dead, (s.end_.sent, (s.end_.done, (s.end_.out.items, (s.end_.out.head, (s.end_.out.many, (s.end_.got, (s.end_.quiet, (plan, (mail, (asks, (replies, (s.syncs, (s.born, (s.ready, ()))))))))))))))))))))))))))))
theorem P_ref21_Twin (s : Site) (h : smallSite s = true) : D_ref21_Twin s = N_ref21_Twin (s, ()) := by
  have q := small_r h
  have hw := q.words
  simp only [smallWords, Bool.and_eq_true, List.all_eq_true, decide_eq_true_eq] at hw
  have hbig := big_eq
  have h_replies : loopO (D_ref21_Twin_l1 s) (siteT s s.sides s.plan s.mail s.asks [], ((0 : Int), ())) = some (s, ()) := by
    refine loopO_for (fun k => (siteT s s.sides s.plan s.mail s.asks (s.replies.take k), ((k : Int), ()))) s.replies.length _ (fun k hk => ?_) ?_
    · have hq := q.replies
      have := hw.2 _ (List.getElem_mem hk)
      have c1 : s.replies[k].bytes.length ≤ 1000000 := by omega
      have hd : decide ((k : Int) < (s.replies.length : Int)) = true := by simp; omega
      have hd2 : decide ((0 : Int) ≤ (k : Int) ∧ (k : Int) < (s.replies.length : Int)) = true := by simp; omega
      have hd3 : decide ((s.replies.take k).length + 1 ≤ big) = true := by simp; omega
      have ht := take_succ_len hk
      simp only [D_ref21_Twin_l1, siteT, hd, hd2, if_true, wrap_succ (k := k) (by rw [maxLen_eq]; omega), Int.toNat_natCast, nth_lt hk, N_ref21_bytes, c1, Option.bind_some, List.length_singleton, hd3, ht]
    · have hd : ¬ (decide ((s.replies.length : Int) < (s.replies.length : Int)) = true) := by simp
      simp only [D_ref21_Twin_l1, siteT, hd, List.take_length]
      rfl
  have h_asks : loopO (D_ref21_Twin_l3 s) (siteT s s.sides s.plan s.mail [] [], ((0 : Int), ())) = some (s, ()) := by
    refine loopO_for (fun k => (siteT s s.sides s.plan s.mail (s.asks.take k) [], ((k : Int), ()))) s.asks.length _ (fun k hk => ?_) ?_
    · have hq := q.asks
      have := hw.1 _ (List.getElem_mem hk)
      have c1 : s.asks[k].bytes.length ≤ 1000000 := by omega
      have hd : decide ((k : Int) < (s.asks.length : Int)) = true := by simp; omega
      have hd2 : decide ((0 : Int) ≤ (k : Int) ∧ (k : Int) < (s.asks.length : Int)) = true := by simp; omega
      have hd3 : decide ((s.asks.take k).length + 1 ≤ big) = true := by simp; omega
      have ht := take_succ_len hk
      simp only [D_ref21_Twin_l3, siteT, hd, hd2, if_true, wrap_succ (k := k) (by rw [maxLen_eq]; omega), Int.toNat_natCast, nth_lt hk, N_ref21_bytes, c1, Option.bind_some, List.length_singleton, hd3, ht]
    · have hd : ¬ (decide ((s.asks.length : Int) < (s.asks.length : Int)) = true) := by simp
      simp only [D_ref21_Twin_l3, siteT, hd, List.take_length]
      exact congrArg (Option.map Sum.inr) h_replies
  have h_mail : loopO (D_ref21_Twin_l5 s) (siteT s s.sides s.plan [] [] [], ((0 : Int), ())) = some (s, ()) := by
    refine loopO_for (fun k => (siteT s s.sides s.plan (s.mail.take k) [] [], ((k : Int), ()))) s.mail.length _ (fun k hk => ?_) ?_
    · have hq := q.mail
      have := q.mails _ (List.getElem_mem hk)
      simp only [smallMail, Bool.and_eq_true, decide_eq_true_eq] at this
      have c1 : fitMsg s.mail[k].msg = true := by simp only [fitMsg, Bool.and_eq_true, decide_eq_true_eq]; omega
      have hd : decide ((k : Int) < (s.mail.length : Int)) = true := by simp; omega
      have hd2 : decide ((0 : Int) ≤ (k : Int) ∧ (k : Int) < (s.mail.length : Int)) = true := by simp; omega
      have hd3 : decide ((s.mail.take k).length + 1 ≤ big) = true := by simp; omega
      have ht := take_succ_len hk
      simp only [D_ref21_Twin_l5, siteT, hd, hd2, if_true, wrap_succ (k := k) (by rw [maxLen_eq]; omega), Int.toNat_natCast, nth_lt hk, N_ref20_Twin, c1, Option.bind_some, List.length_singleton, hd3, ht]
    · have hd : ¬ (decide ((s.mail.length : Int) < (s.mail.length : Int)) = true) := by simp
      simp only [D_ref21_Twin_l5, siteT, hd, List.take_length]
      exact congrArg (Option.map Sum.inr) h_asks
  have h_plan : loopO (D_ref21_Twin_l7 s) (siteT s s.sides [] [] [] [], ((0 : Int), ())) = some (s, ()) := by
    refine loopO_for (fun k => (siteT s s.sides (s.plan.take k) [] [] [], ((k : Int), ()))) s.plan.length _ (fun k hk => ?_) ?_
    · have hq := q.plan
      have := q.acts _ (List.getElem_mem hk)
      simp only [smallAct, Bool.and_eq_true, decide_eq_true_eq] at this
      have c1 : fitMsg s.plan[k].msg = true := by simp only [fitMsg, Bool.and_eq_true, decide_eq_true_eq]; omega
      have c2 : s.plan[k].bytes.length ≤ 1000000 := by omega
      have c3 : s.plan[k].reply.bytes.length ≤ 1000000 := by omega
      have hd : decide ((k : Int) < (s.plan.length : Int)) = true := by simp; omega
      have hd2 : decide ((0 : Int) ≤ (k : Int) ∧ (k : Int) < (s.plan.length : Int)) = true := by simp; omega
      have hd3 : decide ((s.plan.take k).length + 1 ≤ big) = true := by simp; omega
      have ht := take_succ_len hk
      simp only [D_ref21_Twin_l7, siteT, hd, hd2, if_true, wrap_succ (k := k) (by rw [maxLen_eq]; omega), Int.toNat_natCast, nth_lt hk, N_ref20_Twin, N_ref21_bytes, c1, c2, c3, Option.bind_some, List.length_singleton, hd3, ht]
    · have hd : ¬ (decide ((s.plan.length : Int) < (s.plan.length : Int)) = true) := by simp
      simp only [D_ref21_Twin_l7, siteT, hd, List.take_length]
      exact congrArg (Option.map Sum.inr) h_mail
  have h_sides : loopO (D_ref21_Twin_l9 s) (siteT s [] [] [] [] [], ((0 : Int), ())) = some (s, ()) := by
    refine loopO_for (fun k => (siteT s (s.sides.take k) [] [] [] [], ((k : Int), ()))) s.sides.length _ (fun k hk => ?_) ?_
    · have hq := q.sides
      have c1 := q.side _ (List.getElem_mem hk)
      have hd : decide ((k : Int) < (s.sides.length : Int)) = true := by simp; omega
      have hd2 : decide ((0 : Int) ≤ (k : Int) ∧ (k : Int) < (s.sides.length : Int)) = true := by simp; omega
      have hd3 : decide ((s.sides.take k).length + 1 ≤ big) = true := by simp; omega
      have ht := take_succ_len hk
      simp only [D_ref21_Twin_l9, siteT, hd, hd2, if_true, wrap_succ (k := k) (by rw [maxLen_eq]; omega), Int.toNat_natCast, nth_lt hk, N_ref21_TwinSide, c1, Option.bind_some, List.length_singleton, hd3, ht]
      exact if_pos hd3
    · have hd : ¬ (decide ((s.sides.length : Int) < (s.sides.length : Int)) = true) := by simp
      simp only [D_ref21_Twin_l9, siteT, hd, List.take_length]
      exact congrArg (Option.map Sum.inr) h_plan
  have hfit : fitDisk s.disk = true := by
    have := q.disk
    simp only [smallDisk, Bool.and_eq_true, decide_eq_true_eq, List.all_eq_true] at this
    rw [fit_iff]
    refine ⟨by omega, by omega, fun x hx => ?_, fun x hx => ?_⟩
    · have := this.1.2 x hx; omega
    · have := this.2 x hx; omega
  have htab : s.met.table.length ≤ 1000000 := by have := q.table; omega
  have hsync : decide (0 + s.syncs.length ≤ big) = true := by have := q.syncs; simp; omega
  simp only [D_ref21_Twin, N_ref05_Twin, hfit, N_ref12_Twin, htab, N_ref17_Twin, q.items, if_true, Option.bind_some, hsync, N_ref21_Twin, h]
  exact h_sides
end Go.Cat

namespace Go.Cat
open Go
theorem P_ref20_Same (m : Msg) : D_ref20_Same m m = b1 true := by
  simp [D_ref20_Same, b1]
theorem P_ref21_SameReply (r : Reply) : D_ref21_SameReply r r = b1 true := by
  simp [D_ref21_SameReply, b1]
theorem P_ref21_SameReplies (l : List Reply) (h : l.length ≤ maxLen) : D_ref21_SameReplies l l = b1 true := by
  have hs : loopO D_ref21_SameReplies_l1 (l, (l, ((0 : Int), ()))) = some (true, ()) := by
    refine loopO_for (fun k => (l, (l, ((k : Int), ())))) l.length _ (fun k hk => ?_) ?_
    · simp only [D_ref21_SameReplies_l1, wrap_succ (Nat.lt_of_lt_of_le hk h), Int.toNat_natCast, N_ref21_SameReply, b1, Option.bind_some, if_true]
      grind
    · simp [D_ref21_SameReplies_l1]
  simp [D_ref21_SameReplies, hs, b1]
theorem P_ref21_samePlan (l : List Act) (h : l.length ≤ maxLen) : D_ref21_samePlan l l = b1 true := by
  have hs : loopO D_ref21_samePlan_l1 (l, (l, ((0 : Int), ()))) = some (true, ()) := by
    refine loopO_for (fun k => (l, (l, ((k : Int), ())))) l.length _ (fun k hk => ?_) ?_
    · simp only [D_ref21_samePlan_l1, wrap_succ (Nat.lt_of_lt_of_le hk h), Int.toNat_natCast, N_ref21_SameReply, N_ref20_Same, b1, Option.bind_some, if_true]
      grind
    · simp [D_ref21_samePlan_l1]
  simp [D_ref21_samePlan, hs, b1]
theorem P_ref21_sameCome (s : Site) (h1 : s.mail.length ≤ maxLen) (h2 : s.asks.length ≤ maxLen) : D_ref21_sameCome s s = b1 true := by
  have ha : loopO (D_ref21_sameCome_l1 s s) ((0 : Int), ()) = some (true, ()) := by
    refine loopO_for (fun k => ((k : Int), ())) s.asks.length _ (fun k hk => ?_) ?_
    · simp only [D_ref21_sameCome_l1, wrap_succ (Nat.lt_of_lt_of_le hk h2), Int.toNat_natCast]
      grind
    · simp [D_ref21_sameCome_l1]
  have hm : loopO (D_ref21_sameCome_l2 s s) ((0 : Int), ()) = some (true, ()) := by
    refine loopO_for (fun k => ((k : Int), ())) s.mail.length _ (fun k hk => ?_) ?_
    · simp only [D_ref21_sameCome_l2, wrap_succ (Nat.lt_of_lt_of_le hk h1), Int.toNat_natCast, N_ref20_Same, b1, Option.bind_some, if_true]
      grind
    · simp [D_ref21_sameCome_l2, ha]
  simp [D_ref21_sameCome, hm, b1]
theorem P_ref21_SameSide (x : Side) (h1 : x.out.length ≤ maxLen) (h2 : x.waits.length ≤ maxLen) : D_ref21_SameSide x x = b1 true := by
  have ht : D_ref21_SameSide_t1 x x = some (true, ()) := by simp [D_ref21_SameSide_t1]
  have hw : loopO (D_ref21_SameSide_l2 x x) ((0 : Int), ()) = some (true, ()) := by
    refine loopO_for (fun k => ((k : Int), ())) x.waits.length _ (fun k hk => ?_) ?_
    · simp only [D_ref21_SameSide_l2, wrap_succ (Nat.lt_of_lt_of_le hk h2), Int.toNat_natCast]
      grind
    · simp [D_ref21_SameSide_l2, ht]
  have ho : loopO (D_ref21_SameSide_l3 x x) ((0 : Int), ()) = some (true, ()) := by
    refine loopO_for (fun k => ((k : Int), ())) x.out.length _ (fun k hk => ?_) ?_
    · simp only [D_ref21_SameSide_l3, wrap_succ (Nat.lt_of_lt_of_le hk h1), Int.toNat_natCast]
      grind
    · simp [D_ref21_SameSide_l3, hw]
  simp [D_ref21_SameSide, ho, b1]
theorem P_ref21_Same (s : Site) (h1 : s.sides.length ≤ maxLen) (h2 : s.syncs.length ≤ maxLen) : D_ref21_Same s s = b1 true := by
  have ht : D_ref21_Same_t1 s s = some (true, ()) := by
    simp [D_ref21_Same_t1, N_ref05_Same, N_ref12_Same, N_ref17_Same, N_ref21_samePlan, N_ref21_sameCome, N_ref21_SameReplies, b1]
  have hy : loopO (D_ref21_Same_l2 s s) ((0 : Int), ()) = some (true, ()) := by
    refine loopO_for (fun k => ((k : Int), ())) s.syncs.length _ (fun k hk => ?_) ?_
    · simp only [D_ref21_Same_l2, wrap_succ (Nat.lt_of_lt_of_le hk h2), Int.toNat_natCast]
      grind
    · simp [D_ref21_Same_l2, ht]
  have ho : loopO (D_ref21_Same_l3 s s) ((0 : Int), ()) = some (true, ()) := by
    refine loopO_for (fun k => ((k : Int), ())) s.sides.length _ (fun k hk => ?_) ?_
    · simp only [D_ref21_Same_l3, wrap_succ (Nat.lt_of_lt_of_le hk h1), Int.toNat_natCast, N_ref21_SameSide, b1, Option.bind_some, if_true]
      grind
    · simp [D_ref21_Same_l3, hy]
  simp [D_ref21_Same, ho, b1]
end Go.Cat

namespace Go.Cat
open Go
def N_ring_text (x : List Int × Unit) : Option (List Int × Unit) := if x.1.length ≤ 1000000 then some x else none
noncomputable def D_ring_text (p1 : (List Int)) : Option ((List Int) × Unit) :=
  if (decide (((0 : Int) ≤ (((List.length p1) : Nat) : Int)) ∧ (((((List.length p1) : Nat) : Int) ≤ (((List.length p1) : Nat) : Int)) ∧ ((((List.length p1) : Nat) : Int) ≤ ((big : Nat) : Int))))) then
  some (((List.take (List.length (List.replicate (Int.toNat (((List.length p1) : Nat) : Int)) (0 : Int))) p1) ++ (List.drop (min (List.length p1) (List.length (List.replicate (Int.toNat (((List.length p1) : Nat) : Int)) (0 : Int)))) (List.replicate (Int.toNat (((List.length p1) : Nat) : Int)) (0 : Int)))), ())
  else none
theorem Q_ring_text (x : TT [(.sl (.int .u8))]) (r : TT [(.sl (.int .u8))]) (_ : OkTT [(.sl (.int .u8))] x) (hn : N_ring_text x = some r) : D_ring_text x.1 = some r := by
  obtain ⟨l, ⟨⟩⟩ := x
  unfold N_ring_text at hn
  split at hn
  · rename_i h
    cases hn
    have h' : l.length ≤ 1000000 := h
    have hb : l.length ≤ big := Nat.le_trans h' (by decide)
    have hd : (decide (((0 : Int) ≤ (l.length : Int)) ∧ ((l.length : Int) ≤ (l.length : Int)) ∧ ((l.length : Int) ≤ (big : Int)))) = true := by
      rw [decide_eq_true_eq]; omega
    simp only [D_ring_text, hd, if_true, Int.toNat_natCast, List.length_replicate, List.take_length, Nat.min_self]
    rw [List.drop_of_length_le (by simp)]
    simp
    rfl
  · cases hn
end Go.Cat

namespace Go.Cat
open Go
theorem ite_some {c : Prop} [Decidable c] {α : Type} {a : Option α} {r : α} (h : (if c then a else none) = some r) : c := by
  by_cases hc : c
  · exact hc
  · simp [hc] at h
theorem ite_some2 {c : Prop} [Decidable c] {α : Type} {a : Option α} {r : α} (h : (if c then none else a) = some r) : ¬ c := by
  intro hc
  simp [hc] at h
theorem okSl {e : EN} {l : List (T e)} (h : OkT (.sl e) l) : l.length ≤ maxLen := (okT_sl h).1
theorem okU8 {l : List Int} (h : OkT (.sl (.int .u8)) l) : ∀ x ∈ l, 0 ≤ x ∧ x ≤ 255 := by
  intro x hx
  have := (okT_sl (e := .int .u8) h).2 x hx
  exact okL_u8 (this (.int .u8 x) (List.mem_singleton.2 rfl))
theorem okDisk {d : Disk} (h : OkT (.st .Disk) d) : d.sectors.length ≤ maxLen ∧ d.cache.length ≤ maxLen :=
  ⟨okL_len (e := .st .Sector) (h (.sl (.st .Sector) d.sectors) (by simp [cells, stCells])), okL_len (e := .st .Pend) (h (.sl (.st .Pend) d.cache) (by simp [cells, stCells]))⟩
theorem okSide {x : Side} (h : OkT (.st .Side) x) : x.out.length ≤ maxLen ∧ x.waits.length ≤ maxLen :=
  ⟨okL_len (e := .st .Sent) (h (.sl (.st .Sent) x.out) (by simp [cells, stCells])), okL_len (e := .st .Wait) (h (.sl (.st .Wait) x.waits) (by simp [cells, stCells]))⟩
theorem okRec {r : Rec} (h : OkT (.st .Rec) r) : RecR r :=
  ⟨okL_u32 (h (.int .u32 r.born) (by simp [cells, stCells])), okL_u32 (h (.int .u32 r.epoch) (by simp [cells, stCells]))⟩
theorem okMsg {m : Msg} (h : OkT (.st .Msg) m) : MsgR m :=
  ⟨(okL_u32 (h (.int .u32 m.born) (by simp [cells, stCells]))).1, (okL_u32 (h (.int .u32 m.epoch) (by simp [cells, stCells]))).1⟩
structure SiteR (s : Site) : Prop where
  sides : s.sides.length ≤ maxLen
  plan : s.plan.length ≤ maxLen
  mail : s.mail.length ≤ maxLen
  asks : s.asks.length ≤ maxLen
  replies : s.replies.length ≤ maxLen
  syncs : s.syncs.length ≤ maxLen
  kinds : ∀ m ∈ s.mail, 0 ≤ m.kind
theorem okSite {s : Site} (h : OkT (.st .Site) s) : SiteR s := by
  have hm : OkL (.sl (.st .Mail) s.mail) := h _ (by simp [cells, stCells])
  refine ⟨okL_len (e := .st .Side) (h (.sl (.st .Side) s.sides) (by simp [cells, stCells])), okL_len (e := .st .Act) (h (.sl (.st .Act) s.plan) (by simp [cells, stCells])), okL_len hm, okL_len (e := .st .Ask) (h (.sl (.st .Ask) s.asks) (by simp [cells, stCells])),
    okL_len (e := .st .Reply) (h (.sl (.st .Reply) s.replies) (by simp [cells, stCells])), okL_len (e := .int .i64) (h (.sl (.int .i64) s.syncs) (by simp [cells, stCells])), fun m hmm => ?_⟩
  have := okL_elem hm hmm
  exact (okL_u8 (this (.int .u8 m.kind) (by simp [cells, stCells]))).1
theorem Q_ref21_Great (x : TT [(.st .Site)]) (r : TT [.bool]) (h : OkTT [(.st .Site)] x) (hn : N_ref21_Great x = some r) : D_ref21_Great x.1 = some r := (P_ref21_Great x.1).trans hn
theorem Q_ref05_Great (x : TT [(.st .Disk), (.int .i64)]) (r : TT [.bool]) (h : OkTT [(.st .Disk), (.int .i64)] x) (hn : N_ref05_Great x = some r) : D_ref05_Great x.1 x.2.1 = some r := (P_ref05_Great x.1 x.2.1 (ite_some hn)).trans hn
theorem Q_ref21_greatWords (x : TT [(.st .Site)]) (r : TT [.bool]) (h : OkTT [(.st .Site)] x) (hn : N_ref21_greatWords x = some r) : D_ref21_greatWords x.1 = some r := (P_ref21_greatWords x.1 (okSite h.1).asks (okSite h.1).replies).trans hn
theorem Q_ref21_Twin (x : TT [(.st .Site)]) (r : TT [(.st .Site)]) (h : OkTT [(.st .Site)] x) (hn : N_ref21_Twin x = some r) : D_ref21_Twin x.1 = some r := (P_ref21_Twin x.1 (ite_some hn)).trans hn
theorem Q_ref05_Twin (x : TT [(.st .Disk)]) (r : TT [(.st .Disk)]) (h : OkTT [(.st .Disk)] x) (hn : N_ref05_Twin x = some r) : D_ref05_Twin x.1 = some r := (P_ref05_Twin x.1 (ite_some hn)).trans hn
theorem Q_ref12_Twin (x : TT [(.st .Meta)]) (r : TT [(.st .Meta)]) (h : OkTT [(.st .Meta)] x) (hn : N_ref12_Twin x = some r) : D_ref12_Twin x.1 = some r := (P_ref12_Twin x.1 (ite_some hn)).trans hn
theorem Q_ref17_Twin (x : TT [(.st .End)]) (r : TT [(.st .End)]) (h : OkTT [(.st .End)] x) (hn : N_ref17_Twin x = some r) : D_ref17_Twin x.1 = some r := (P_ref17_Twin x.1 (ite_some hn)).trans hn
theorem Q_ref04_TwinAll (x : TT [(.sl (.sl (.int .u8)))]) (r : TT [(.sl (.sl (.int .u8)))]) (h : OkTT [(.sl (.sl (.int .u8)))] x) (hn : N_ref04_TwinAll x = some r) : D_ref04_TwinAll x.1 = some r := (P_ref04_TwinAll x.1 (ite_some hn)).trans hn
theorem Q_ref21_TwinSide (x : TT [(.st .Side)]) (r : TT [(.st .Side)]) (h : OkTT [(.st .Side)] x) (hn : N_ref21_TwinSide x = some r) : D_ref21_TwinSide x.1 = some r := (P_ref21_TwinSide x.1 (ite_some hn)).trans hn
theorem Q_ref21_bytes (x : TT [(.sl (.int .u8))]) (r : TT [(.sl (.int .u8))]) (h : OkTT [(.sl (.int .u8))] x) (hn : N_ref21_bytes x = some r) : D_ref21_bytes x.1 = some r := (P_ref21_bytes x.1 (ite_some hn)).trans hn
theorem Q_ref20_Twin (x : TT [(.st .Msg)]) (r : TT [(.st .Msg)]) (h : OkTT [(.st .Msg)] x) (hn : N_ref20_Twin x = some r) : D_ref20_Twin x.1 = some r := (P_ref20_Twin x.1 (ite_some hn)).trans hn
theorem Q_ref05_Same (x : TT [(.st .Disk), (.st .Disk)]) (r : TT [.bool]) (h : OkTT [(.st .Disk), (.st .Disk)] x) (hn : N_ref05_Same x = some r) : D_ref05_Same x.1 x.2.1 = some r := by
  obtain ⟨a, b, _⟩ := x
  have e : a = b := ite_some hn
  subst e
  have e2 : b1 true = some r := (if_pos rfl).symm.trans hn
  exact (P_ref05_Same a (okDisk h.1).1 (okDisk h.1).2).trans e2
theorem Q_ref21_Same (x : TT [(.st .Site), (.st .Site)]) (r : TT [.bool]) (h : OkTT [(.st .Site), (.st .Site)] x) (hn : N_ref21_Same x = some r) : D_ref21_Same x.1 x.2.1 = some r := by
  obtain ⟨a, b, _⟩ := x
  have e : a = b := ite_some hn
  subst e
  have e2 : b1 true = some r := (if_pos rfl).symm.trans hn
  exact (P_ref21_Same a (okSite h.1).sides (okSite h.1).syncs).trans e2
theorem Q_ref21_SameSide (x : TT [(.st .Side), (.st .Side)]) (r : TT [.bool]) (h : OkTT [(.st .Side), (.st .Side)] x) (hn : N_ref21_SameSide x = some r) : D_ref21_SameSide x.1 x.2.1 = some r := by
  obtain ⟨a, b, _⟩ := x
  have e : a = b := ite_some hn
  subst e
  have e2 : b1 true = some r := (if_pos rfl).symm.trans hn
  exact (P_ref21_SameSide a (okSide h.1).1 (okSide h.1).2).trans e2
theorem Q_ref21_SameReply (x : TT [(.st .Reply), (.st .Reply)]) (r : TT [.bool]) (h : OkTT [(.st .Reply), (.st .Reply)] x) (hn : N_ref21_SameReply x = some r) : D_ref21_SameReply x.1 x.2.1 = some r := by
  obtain ⟨a, b, _⟩ := x
  have e : a = b := ite_some hn
  subst e
  have e2 : b1 true = some r := (if_pos rfl).symm.trans hn
  exact (P_ref21_SameReply a).trans e2
theorem Q_ref21_SameReplies (x : TT [(.sl (.st .Reply)), (.sl (.st .Reply))]) (r : TT [.bool]) (h : OkTT [(.sl (.st .Reply)), (.sl (.st .Reply))] x) (hn : N_ref21_SameReplies x = some r) : D_ref21_SameReplies x.1 x.2.1 = some r := by
  obtain ⟨a, b, _⟩ := x
  have e : a = b := ite_some hn
  subst e
  have e2 : b1 true = some r := (if_pos rfl).symm.trans hn
  exact (P_ref21_SameReplies a (okSl h.1)).trans e2
theorem Q_ref21_samePlan (x : TT [(.sl (.st .Act)), (.sl (.st .Act))]) (r : TT [.bool]) (h : OkTT [(.sl (.st .Act)), (.sl (.st .Act))] x) (hn : N_ref21_samePlan x = some r) : D_ref21_samePlan x.1 x.2.1 = some r := by
  obtain ⟨a, b, _⟩ := x
  have e : a = b := ite_some hn
  subst e
  have e2 : b1 true = some r := (if_pos rfl).symm.trans hn
  exact (P_ref21_samePlan a (okSl h.1)).trans e2
theorem Q_ref21_sameCome (x : TT [(.st .Site), (.st .Site)]) (r : TT [.bool]) (h : OkTT [(.st .Site), (.st .Site)] x) (hn : N_ref21_sameCome x = some r) : D_ref21_sameCome x.1 x.2.1 = some r := by
  obtain ⟨a, b, _⟩ := x
  have e : a = b := ite_some hn
  subst e
  have e2 : b1 true = some r := (if_pos rfl).symm.trans hn
  exact (P_ref21_sameCome a (okSite h.1).mail (okSite h.1).asks).trans e2
theorem Q_ref12_Same (x : TT [(.st .Meta), (.st .Meta)]) (r : TT [.bool]) (h : OkTT [(.st .Meta), (.st .Meta)] x) (hn : N_ref12_Same x = some r) : D_ref12_Same x.1 x.2.1 = some r := by
  obtain ⟨a, b, _⟩ := x
  have e : a = b := ite_some hn
  subst e
  have e2 : b1 true = some r := (if_pos rfl).symm.trans hn
  exact (P_ref12_Same a).trans e2
theorem Q_ref11_Same (x : TT [(.sl (.st .Rec)), (.sl (.st .Rec))]) (r : TT [.bool]) (h : OkTT [(.sl (.st .Rec)), (.sl (.st .Rec))] x) (hn : N_ref11_Same x = some r) : D_ref11_Same x.1 x.2.1 = some r := by
  obtain ⟨a, b, _⟩ := x
  have e : a = b := ite_some hn
  subst e
  have e2 : b1 true = some r := (if_pos rfl).symm.trans hn
  exact (P_ref11_Same a (okSl h.1)).trans e2
theorem Q_ref17_Same (x : TT [(.st .End), (.st .End)]) (r : TT [.bool]) (h : OkTT [(.st .End), (.st .End)] x) (hn : N_ref17_Same x = some r) : D_ref17_Same x.1 x.2.1 = some r := by
  obtain ⟨a, b, _⟩ := x
  have e : a = b := ite_some hn
  subst e
  have e2 : b1 true = some r := (if_pos rfl).symm.trans hn
  exact (P_ref17_Same a).trans e2
theorem Q_ref04_Same (x : TT [(.st .Queue), (.st .Queue)]) (r : TT [.bool]) (h : OkTT [(.st .Queue), (.st .Queue)] x) (hn : N_ref04_Same x = some r) : D_ref04_Same x.1 x.2.1 = some r := by
  obtain ⟨a, b, _⟩ := x
  have e : a = b := ite_some hn
  subst e
  have e2 : b1 true = some r := (if_pos rfl).symm.trans hn
  exact (P_ref04_Same a).trans e2
theorem Q_ref04_SameAll (x : TT [(.sl (.sl (.int .u8))), (.sl (.sl (.int .u8)))]) (r : TT [.bool]) (h : OkTT [(.sl (.sl (.int .u8))), (.sl (.sl (.int .u8)))] x) (hn : N_ref04_SameAll x = some r) : D_ref04_SameAll x.1 x.2.1 = some r := by
  obtain ⟨a, b, _⟩ := x
  have e : a = b := ite_some hn
  subst e
  have e2 : b1 true = some r := (if_pos rfl).symm.trans hn
  exact (P_ref04_SameAll a (okSl h.1)).trans e2
theorem Q_ref20_Same (x : TT [(.st .Msg), (.st .Msg)]) (r : TT [.bool]) (h : OkTT [(.st .Msg), (.st .Msg)] x) (hn : N_ref20_Same x = some r) : D_ref20_Same x.1 x.2.1 = some r := by
  obtain ⟨a, b, _⟩ := x
  have e : a = b := ite_some hn
  subst e
  have e2 : b1 true = some r := (if_pos rfl).symm.trans hn
  exact (P_ref20_Same a).trans e2
theorem Q_ref21_May (x : TT [(.st .Config), (.st .Site)]) (r : TT [.bool]) (h : OkTT [(.st .Config), (.st .Site)] x) (hn : N_ref21_May x = some r) : D_ref21_May x.1 x.2.1 = some r := (P_ref21_May x.1 x.2.1 (ite_some hn)).trans hn
theorem Q_ref05_May (x : TT [(.st .Disk)]) (r : TT [.bool]) (h : OkTT [(.st .Disk)] x) (hn : N_ref05_May x = some r) : D_ref05_May x.1 = some r := (P_ref05_May x.1 (okDisk h.1).1 (okDisk h.1).2).trans hn
theorem Q_ref05_blank (x : TT [(.sl (.int .u8))]) (r : TT [.bool]) (h : OkTT [(.sl (.int .u8))] x) (hn : N_ref05_blank x = some r) : D_ref05_blank x.1 = some r := (P_ref05_blank x.1 (okSl h.1)).trans hn
theorem Q_ref07_May (x : TT [(.st .Config)]) (r : TT [.bool]) (h : OkTT [(.st .Config)] x) (hn : N_ref07_May x = some r) : D_ref07_May x.1 = some r := (P_ref07_May x.1).trans hn
theorem Q_ref07_Size (x : TT [(.st .Config)]) (r : TT [(.int .i64)]) (h : OkTT [(.st .Config)] x) (hn : N_ref07_Size x = some r) : D_ref07_Size x.1 = some r := (P_ref07_Size x.1 (ite_some hn)).trans hn
theorem Q_ref08_May (x : TT [(.st .Config), (.st .Disk)]) (r : TT [.bool]) (h : OkTT [(.st .Config), (.st .Disk)] x) (hn : N_ref08_May x = some r) : D_ref08_May x.1 x.2.1 = some r := (P_ref08_May x.1 x.2.1).trans hn
theorem Q_ref12_May (x : TT [(.st .Config), (.st .Meta)]) (r : TT [.bool]) (h : OkTT [(.st .Config), (.st .Meta)] x) (hn : N_ref12_May x = some r) : D_ref12_May x.1 x.2.1 = some r := (P_ref12_May x.1 x.2.1).trans hn
theorem Q_ref11_May (x : TT [(.st .Rec)]) (r : TT [.bool]) (h : OkTT [(.st .Rec)] x) (hn : N_ref11_May x = some r) : D_ref11_May x.1 = some r := (P_ref11_May x.1).trans hn
theorem Q_ref11_MayAll (x : TT [(.sl (.st .Rec))]) (r : TT [.bool]) (h : OkTT [(.sl (.st .Rec))] x) (hn : N_ref11_MayAll x = some r) : D_ref11_MayAll x.1 = some r := (P_ref11_MayAll x.1 (okSl h.1)).trans hn
theorem Q_ref17_May (x : TT [(.st .Config), (.st .End)]) (r : TT [.bool]) (h : OkTT [(.st .Config), (.st .End)] x) (hn : N_ref17_May x = some r) : D_ref17_May x.1 x.2.1 = some r := (P_ref17_May x.1 x.2.1 (ite_some hn)).trans hn
theorem Q_ref04_May (x : TT [(.st .Queue)]) (r : TT [.bool]) (h : OkTT [(.st .Queue)] x) (hn : N_ref04_May x = some r) : D_ref04_May x.1 = some r := (P_ref04_May x.1).trans hn
theorem Q_ref04_List (x : TT [(.st .Queue)]) (r : TT [(.sl (.sl (.int .u8))), (.int .i64)]) (h : OkTT [(.st .Queue)] x) (hn : N_ref04_List x = some r) : D_ref04_List x.1 = some r := (P_ref04_List x.1 (ite_some hn)).trans hn
theorem Q_ref03_May (x : TT [(.int .i64), (.sl (.int .u8))]) (r : TT [.bool]) (h : OkTT [(.int .i64), (.sl (.int .u8))] x) (hn : N_ref03_May x = some r) : D_ref03_May x.1 x.2.1 = some r := (P_ref03_May x.1 x.2.1 (okU8 h.2.1)).trans hn
theorem Q_ref03_In (x : TT [(.sl (.int .u8)), (.int .i64)]) (r : TT [.bool]) (h : OkTT [(.sl (.int .u8)), (.int .i64)] x) (hn : N_ref03_In x = some r) : D_ref03_In x.1 x.2.1 = some r := (P_ref03_In x.1 x.2.1 (ite_some hn) (okU8 h.1)).trans hn
theorem Q_ref21_maySide (x : TT [(.st .Config), (.st .Side)]) (r : TT [.bool]) (h : OkTT [(.st .Config), (.st .Side)] x) (hn : N_ref21_maySide x = some r) : D_ref21_maySide x.1 x.2.1 = some r := (P_ref21_maySide x.1 x.2.1 (okSide h.2.1).1 (okSide h.2.1).2).trans hn
theorem Q_ref21_mayLists (x : TT [(.st .Config), (.st .Site)]) (r : TT [.bool]) (h : OkTT [(.st .Config), (.st .Site)] x) (hn : N_ref21_mayLists x = some r) : D_ref21_mayLists x.1 x.2.1 = some r := (P_ref21_mayLists x.1 x.2.1 (okSite h.2.1).plan (okSite h.2.1).mail (okSite h.2.1).asks (okSite h.2.1).kinds).trans hn
theorem Q_ref21_mayAct (x : TT [(.st .Config), (.st .Site), (.st .Act)]) (r : TT [.bool]) (h : OkTT [(.st .Config), (.st .Site), (.st .Act)] x) (hn : N_ref21_mayAct x = some r) : D_ref21_mayAct x.1 x.2.1 x.2.2.1 = some r := (P_ref21_mayAct x.1 x.2.1 x.2.2.1).trans hn
theorem Q_ref21_mayMsg (x : TT [(.st .Config), (.st .Msg)]) (r : TT [.bool]) (h : OkTT [(.st .Config), (.st .Msg)] x) (hn : N_ref21_mayMsg x = some r) : D_ref21_mayMsg x.1 x.2.1 = some r := (P_ref21_mayMsg x.1 x.2.1).trans hn
theorem Q_ref20_May (x : TT [(.st .Msg)]) (r : TT [.bool]) (h : OkTT [(.st .Msg)] x) (hn : N_ref20_May x = some r) : D_ref20_May x.1 = some r := (P_ref20_May x.1).trans hn
theorem Q_act_Check (x : TT [(.st .Config), (.st .Site)]) (r : TT [(.int .i64)]) (h : OkTT [(.st .Config), (.st .Site)] x) (hn : N_act_Check x = some r) : D_act_Check x.1 x.2.1 = some r := (P_act_Check x.1 x.2.1 (ite_some hn) (okSite h.2.1).kinds).trans hn
theorem Q_disk_Check (x : TT [(.st .Disk)]) (r : TT [(.int .i64)]) (h : OkTT [(.st .Disk)] x) (hn : N_disk_Check x = some r) : D_disk_Check x.1 = some r := (P_disk_Check x.1 (okDisk h.1).1 (okDisk h.1).2).trans hn
theorem Q_place_within (x : TT [(.sl (.st .Bound))]) (r : TT [.bool]) (h : OkTT [(.sl (.st .Bound))] x) (hn : N_place_within x = some r) : D_place_within x.1 = some r := (P_place_within x.1 (okSl h.1)).trans hn
theorem Q_place_Check (x : TT [(.st .Config)]) (r : TT [(.int .i64)]) (h : OkTT [(.st .Config)] x) (hn : N_place_Check x = some r) : D_place_Check x.1 = some r := (P_place_Check x.1).trans hn
theorem Q_place_Sectors (x : TT [(.st .Config)]) (r : TT [(.int .i64), (.int .i64)]) (h : OkTT [(.st .Config)] x) (hn : N_place_Sectors x = some r) : D_place_Sectors x.1 = some r := (P_place_Sectors x.1).trans hn
theorem Q_track_Check (x : TT [(.st .Config), (.st .Disk)]) (r : TT [(.int .i64)]) (h : OkTT [(.st .Config), (.st .Disk)] x) (hn : N_track_Check x = some r) : D_track_Check x.1 x.2.1 = some r := (P_track_Check x.1 x.2.1).trans hn
theorem Q_meta_Check (x : TT [(.st .Config), (.st .Meta)]) (r : TT [(.int .i64)]) (h : OkTT [(.st .Config), (.st .Meta)] x) (hn : N_meta_Check x = some r) : D_meta_Check x.1 x.2.1 = some r := (P_meta_Check x.1 x.2.1 (ite_some hn)).trans hn
theorem Q_rec_Notes (x : TT [(.sl (.st .Rec))]) (r : TT [(.sl (.sl (.int .u8))), (.int .i64)]) (h : OkTT [(.sl (.st .Rec))] x) (hn : N_rec_Notes x = some r) : D_rec_Notes x.1 = some r := (P_rec_Notes x.1 (ite_some hn)).trans hn
theorem Q_rec_Note (x : TT [(.st .Rec)]) (r : TT [(.sl (.int .u8)), (.int .i64)]) (h : OkTT [(.st .Rec)] x) (hn : N_rec_Note x = some r) : D_rec_Note x.1 = some r := (P_rec_Note x.1 (okRec h.1)).trans hn
theorem Q_rec_Check (x : TT [(.st .Rec)]) (r : TT [(.int .i64)]) (h : OkTT [(.st .Rec)] x) (hn : N_rec_Check x = some r) : D_rec_Check x.1 = some r := (P_rec_Check x.1).trans hn
theorem Q_num_Write (x : TT [(.sl (.int .u64)), (.sl (.int .i64))]) (r : TT [(.sl (.int .u8)), (.int .i64)]) (h : OkTT [(.sl (.int .u64)), (.sl (.int .i64))] x) (hn : N_num_Write x = some r) : D_num_Write x.1 x.2.1 = some r := (P_num_Write x.1 x.2.1 (ite_some hn)).trans hn
theorem Q_sess_Check (x : TT [(.st .Config), (.st .End)]) (r : TT [(.int .i64)]) (h : OkTT [(.st .Config), (.st .End)] x) (hn : N_sess_Check x = some r) : D_sess_Check x.1 x.2.1 = some r := (P_sess_Check x.1 x.2.1 (ite_some hn)).trans hn
theorem Q_ring_Check (x : TT [(.st .Queue)]) (r : TT [(.int .i64)]) (h : OkTT [(.st .Queue)] x) (hn : N_ring_Check x = some r) : D_ring_Check x.1 = some r := (P_ring_Check x.1).trans hn
theorem Q_bits_Check (x : TT [(.int .i64), (.sl (.int .u8))]) (r : TT [(.int .i64)]) (h : OkTT [(.int .i64), (.sl (.int .u8))] x) (hn : N_bits_Check x = some r) : D_bits_Check x.1 x.2.1 = some r := (P_bits_Check x.1 x.2.1 (okSl h.2.1)).trans hn
theorem Q_act_limits_side (x : TT [(.st .Config), (.st .Side)]) (r : TT [.bool]) (h : OkTT [(.st .Config), (.st .Side)] x) (hn : N_act_limits_side x = some r) : D_act_limits_side x.1 x.2.1 = some r := (P_act_limits_side x.1 x.2.1 (okSide h.2.1).1 (okSide h.2.1).2).trans hn
theorem Q_act_limits_act (x : TT [(.st .Config), (.st .Act), (.int .i64)]) (r : TT [.bool]) (h : OkTT [(.st .Config), (.st .Act), (.int .i64)] x) (hn : N_act_limits_act x = some r) : D_act_limits_act x.1 x.2.1 x.2.2.1 = some r := (P_act_limits_act x.1 x.2.1 x.2.2.1).trans hn
theorem Q_act_limits_mail (x : TT [(.st .Config), (.st .Mail)]) (r : TT [.bool]) (h : OkTT [(.st .Config), (.st .Mail)] x) (hn : N_act_limits_mail x = some r) : D_act_limits_mail x.1 x.2.1 = some r := (P_act_limits_mail x.1 x.2.1).trans hn
theorem Q_msg_Check (x : TT [(.st .Msg)]) (r : TT [(.int .i64)]) (h : OkTT [(.st .Msg)] x) (hn : N_msg_Check x = some r) : D_msg_Check x.1 = some r := (P_msg_Check x.1 (okMsg h.1)).trans hn
theorem Q_msg_used (x : TT [(.st .Msg)]) (r : TT [(.st .Msg), .bool]) (h : OkTT [(.st .Msg)] x) (hn : N_msg_used x = some r) : D_msg_used x.1 = some r := (P_msg_used x.1).trans hn
theorem Q_msg_Same (x : TT [(.st .Msg), (.st .Msg)]) (r : TT [.bool]) (h : OkTT [(.st .Msg), (.st .Msg)] x) (hn : N_msg_Same x = some r) : D_msg_Same x.1 x.2.1 = some r := (P_msg_Same x.1 x.2.1).trans hn
theorem Q_disk_none (x : TT []) (r : TT [(.sl (.int .u8))]) (h : OkTT [] x) (hn : N_disk_none x = some r) : D_disk_none = some r := (P_disk_none).trans hn
theorem Q_bytes_Equal (x : TT [(.sl (.int .u8)), (.sl (.int .u8))]) (r : TT [.bool]) (h : OkTT [(.sl (.int .u8)), (.sl (.int .u8))] x) (hn : N_bytes_Equal x = some r) : D_bytes_Equal x.1 x.2.1 = some r := (P_bytes_Equal x.1 x.2.1).trans hn
theorem Q_disk_sized (x : TT [(.sl (.sl (.int .u8)))]) (r : TT [.bool]) (h : OkTT [(.sl (.sl (.int .u8)))] x) (hn : N_disk_sized x = some r) : D_disk_sized x.1 = some r := (P_disk_sized x.1 (okSl h.1)).trans hn
theorem Q_rec_site (x : TT [(.sl (.int .i64))]) (r : TT [.bool]) (h : OkTT [(.sl (.int .i64))] x) (hn : N_rec_site x = some r) : D_rec_site x.1 = some r := (P_rec_site x.1 (okSl h.1)).trans hn
theorem Q_ref07_Many (x : TT [(.st .Config)]) (r : TT [(.int .i64)]) (h : OkTT [(.st .Config)] x) (hn : N_ref07_Many x = some r) : D_ref07_Many x.1 = some r := (P_ref07_Many x.1).trans hn
theorem Q_ref07_first (x : TT [(.st .Config)]) (r : TT [(.int .i64), (.int .i64), (.int .i64), (.int .i64)]) (h : OkTT [(.st .Config)] x) (hn : N_ref07_first x = some r) : D_ref07_first x.1 = some r := (P_ref07_first x.1 (ite_some hn)).trans hn
theorem Q_msg_marks (x : TT [(.sl (.int .u8))]) (r : TT [.bool]) (h : OkTT [(.sl (.int .u8))] x) (hn : N_msg_marks x = some r) : D_msg_marks x.1 = some r := (P_msg_marks x.1).trans hn
theorem Q_msg_of (x : TT [(.st .Msg)]) (r : TT [(.st .Plain)]) (h : OkTT [(.st .Msg)] x) (hn : N_msg_of x = some r) : D_msg_of x.1 = some r := (P_msg_of x.1).trans hn
theorem Q_rec_sizes (x : TT []) (r : TT [(.sl (.int .i64))]) (h : OkTT [] x) (hn : N_rec_sizes x = some r) : D_rec_sizes = some r := (P_rec_sizes).trans hn
theorem Q_ring_round_byte_at (x : TT [(.st .Round), (.int .i64)]) (r : TT [(.int .i64)]) (h : OkTT [(.st .Round), (.int .i64)] x) (hn : N_ring_round_byte_at x = some r) : D_ring_round_byte_at x.1 x.2.1 = some r := (P_ring_at x.1 x.2.1 (ite_some2 hn)).trans hn
theorem Q_place_pages (x : TT [(.st .Config)]) (r : TT [(.int .i64)]) (h : OkTT [(.st .Config)] x) (hn : N_place_pages x = some r) : D_place_pages x.1 = some r := (P_place_pages x.1 (ite_some hn)).trans hn
theorem Q_act_limits_message (x : TT [(.st .Config), (.st .Msg)]) (r : TT [.bool]) (h : OkTT [(.st .Config), (.st .Msg)] x) (hn : N_act_limits_message x = some r) : D_act_limits_message x.1 x.2.1 = some r := (P_act_limits_message x.1 x.2.1).trans hn
theorem Q_act_limits_pair (x : TT [(.st .Config), (.int .i64)]) (r : TT [.bool]) (h : OkTT [(.st .Config), (.int .i64)] x) (hn : N_act_limits_pair x = some r) : D_act_limits_pair x.1 x.2.1 = some r := (P_act_limits_pair x.1 x.2.1).trans hn
theorem Q_place_part_size (x : TT [(.st .Part)]) (r : TT [(.int .i64)]) (h : OkTT [(.st .Part)] x) (hn : N_place_part_size x = some r) : D_place_part_size x.1 = some r := (P_place_part_size x.1).trans hn
theorem Q_ref21_pair (x : TT [(.st .Config), (.int .i64)]) (r : TT [.bool]) (h : OkTT [(.st .Config), (.int .i64)] x) (hn : N_ref21_pair x = some r) : D_ref21_pair x.1 x.2.1 = some r := (P_ref21_pair x.1 x.2.1).trans hn
theorem Q_ref21_there (x : TT [(.st .Config), (.int .i64)]) (r : TT [.bool]) (h : OkTT [(.st .Config), (.int .i64)] x) (hn : N_ref21_there x = some r) : D_ref21_there x.1 x.2.1 = some r := (P_ref21_there x.1 x.2.1).trans hn
theorem Q_ref07_in (x : TT [(.int .i64), (.int .i64), (.int .i64)]) (r : TT [.bool]) (h : OkTT [(.int .i64), (.int .i64), (.int .i64)] x) (hn : N_ref07_in x = some r) : D_ref07_in x.1 x.2.1 x.2.2.1 = some r := (P_ref07_in x.1 x.2.1 x.2.2.1).trans hn
theorem Q_bits_All (x : TT [(.int .i64)]) (r : TT [(.sl (.int .u8)), (.int .i64)]) (h : OkTT [(.int .i64)] x) (hn : N_bits_All x = some r) : D_bits_All x.1 = some r := (P_bits_All x.1).trans hn
end Go.Cat

namespace Go.Cat
open Go
def bvI (a : BitVec 32) : Int := (a.toNat : Int)
def crcStep (a : BitVec 32) : BitVec 32 := if a &&& 1#32 = 0#32 then a >>> 1 else (a >>> 1) ^^^ 3988292384#32
def crcSteps (a : BitVec 32) : Nat → BitVec 32
  | 0 => a
  | k + 1 => crcStep (crcSteps a k)
def crcT (a : BitVec 32) (c : Int) : BitVec 32 := crcSteps (a ^^^ BitVec.ofInt 32 c) 8
def crcFold (a : BitVec 32) (l : List Int) : BitVec 32 := l.foldl crcT a
def crcSum (l : List Int) : BitVec 32 := BitVec.allOnes 32 ^^^ crcFold (BitVec.allOnes 32) l
def byteAt (s : BitVec 32) (k : Nat) : Int := ((s.toNat / 2 ^ k % 256 : Nat) : Int)
def tailOf (s : BitVec 32) : List Int := [byteAt s 0, byteAt s 8, byteAt s 16, byteAt s 24]
def sealed_ (l : List Int) : List Int := l ++ tailOf (crcSum l)
def N_crc_sum_take (x : Int × (Int × Unit)) : Option (Int × Unit) := e1 (bvI (crcT (BitVec.ofInt 32 x.1) x.2.1))
def N_crc_More (x : Int × (List Int × Unit)) : Option (Int × Unit) := e1 (bvI (BitVec.allOnes 32 ^^^ crcFold (BitVec.allOnes 32 ^^^ BitVec.ofInt 32 x.1) x.2.1))
def N_crc_Sum (x : List Int × Unit) : Option (Int × Unit) := e1 (bvI (crcSum x.1))
def N_crc_Seal (x : List Int × Unit) : Option (List Int × (Int × Unit)) := if x.1.length ≤ 4096 then some (sealed_ x.1, (0, ())) else some ([], (4, ()))
def N_ref02_Taken (x : Int × (Int × Unit)) : Option (Int × Unit) := N_crc_sum_take x
def N_ref02_Behind (x : Int × (List Int × Unit)) : Option (Int × Unit) := e1 (bvI (crcFold (BitVec.ofInt 32 x.1) x.2.1))
def N_ref02_Sum (x : List Int × Unit) : Option (Int × Unit) := N_crc_Sum x
def N_ref02_Sealed (x : List Int × Unit) : Option (List Int × Unit) := if x.1.length ≤ 1000000 then some (sealed_ x.1, ()) else none
def N_crc_Open (x : List Int × Unit) : Option (List Int × (Int × Unit)) :=
  if x.1.length < 4 then some ([], (10, ())) else if x.1.length - 4 > 4096 then some ([], (4, ()))
  else if sealed_ (x.1.take (x.1.length - 4)) = x.1 then some (x.1.take (x.1.length - 4), (0, ())) else some ([], (20, ()))
def readT (t : List Int) : Int × (Int × Int) :=
  if t.length < 8 then (0, (0, 10)) else if t.length > 8 then (0, (0, 4)) else if sealed_ (t.take 4) ≠ t then (0, (0, 20)) else if nth t 0 ≠ 199 then (0, (0, 280)) else if nth t 1 ≠ 1 then (0, (0, 281)) else (nth t 2, (nth t 3, 0))
def N_req_Read (x : List Int × Unit) : Option (Int × (Int × (Int × Unit))) := some ((readT x.1).1, ((readT x.1).2.1, ((readT x.1).2.2, ())))
def N_ref28_Read (x : List Int × Unit) : Option (Int × (Int × (Int × Unit))) := N_req_Read x
def N_req_Write (x : Int × (Int × Unit)) : Option (List Int × Unit) := some (sealed_ [199, 1, x.1, x.2.1], ())
def N_ring_Twin (x : Queue × Unit) : Option (Queue × Unit) := if fitAll x.1.items = true then some x else none
def N_sess_Twin (x : End × Unit) : Option (End × Unit) := if fitAll x.1.out.items = true then some x else none
def N_disk_Twin (x : Disk × Unit) : Option (Disk × Unit) := if fitDisk x.1 = true then some x else none
def N_msg_Twin (x : Msg × Unit) : Option (Msg × Unit) := if fitMsg x.1 = true then some x else none
def N_act_reply (x : Reply × Unit) : Option (Reply × Unit) := if x.1.bytes.length ≤ 1000000 then some x else none
def N_slices_Clone_api_Rec_api_Rec (x : List Rec × Unit) : Option (List Rec × Unit) := if x.1.length ≤ big then some x else none
def N_slices_Clone_int_int (x : List Int × Unit) : Option (List Int × Unit) := if x.1.length ≤ big then some x else none
def N_slices_Clone_api_Sent_api_Sent (x : List Sent × Unit) : Option (List Sent × Unit) := if x.1.length ≤ big then some x else none
def N_slices_Clone_api_Wait_api_Wait (x : List Wait × Unit) : Option (List Wait × Unit) := if x.1.length ≤ big then some x else none
def N_bytes_Clone (x : List Int × Unit) : Option (List Int × Unit) := if x.1.length ≤ big then some x else none
def N_act_Twin (x : Site × Unit) : Option (Site × Unit) := if smallSite x.1 = true then some x else none
def noRec : Rec := ⟨0, 0, 0, 0, 0, 0, false, false⟩
def noMsg : Msg := ⟨0, 0, false, noRec, 0, 0, 0, 0, 0, 0, [], []⟩
def noSite : Site := ⟨0, ⟨[], []⟩, ⟨⟨0, 0, 0⟩, 0, 0, []⟩, [], ⟨0, 0, false, false, 0, 0, ⟨[], 0, 0⟩, 0, 0⟩, [], [], [], [], [], 0, false⟩
def planned (s : Site) (a : Act) : Site := ⟨s.id, s.disk, s.met, s.sides, s.end_, s.plan ++ [a], s.mail, s.asks, s.replies, s.syncs, s.born, s.ready⟩
def answered (s : Site) (r : Reply) : Site := planned s ⟨4, 0, [], 0, 0, noMsg, r, 0⟩
def asked (s : Site) (a : Ask) : Site := ⟨s.id, s.disk, s.met, s.sides, s.end_, s.plan, s.mail, s.asks ++ [a], s.replies, s.syncs, s.born, s.ready⟩
def N_host_Answer (x : Config × (Site × (Reply × Unit))) : Option (Site × (Int × Unit)) :=
  if smallSite x.2.1 = true ∧ x.2.2.1.bytes.length ≤ 1000000 then (if maySite x.1 x.2.1 = true then some (answered x.2.1 x.2.2.1, (0, ())) else some (noSite, (8, ()))) else none
def N_site_Ask (x : Config × (Site × (Ask × Unit))) : Option (Site × (Int × Unit)) :=
  if smallSite x.2.1 = true ∧ x.2.2.1.bytes.length ≤ 1000000 then
    (if maySite x.1 x.2.1 = true then (if x.2.2.1.kind < 1 ∨ 3 < x.2.2.1.kind then some (noSite, (2, ())) else if 64 ≤ x.2.1.asks.length then some (noSite, (9, ())) else some (asked x.2.1 x.2.2.1, (0, ()))) else some (noSite, (8, ()))) else none
def N_ref22_Answered (x : Site × (Reply × Unit)) : Option (Site × Unit) := if x.1.plan.length ≤ 1000000 then some (answered x.1 x.2.1, ()) else none
def N_ref22_Code (x : Site × (Int × (Int × Unit))) : Option (Site × Unit) := if x.1.plan.length ≤ 1000000 then some (answered x.1 ⟨x.2.1, x.2.2.1, 0, []⟩, ()) else none
def N_ref27_Asked (x : Site × (Ask × Unit)) : Option (Site × (Bool × Unit)) := if 64 ≤ x.1.asks.length then some (x.1, (false, ())) else some (asked x.1 x.2.1, (true, ()))
def submitT (c : Config) (s : Site) (id : Int) (t : List Int) : Site × Int :=
  if maySite c s = true then
    (if t.length > 4096 then (noSite, 4)
     else if (readT t).2.2 ≠ 0 then (answered s ⟨id, (readT t).2.2, 0, []⟩, 0)
     else if 64 ≤ s.asks.length then (noSite, 9) else (asked s ⟨id, 3, (readT t).2.1, 0, (readT t).1, []⟩, 0))
  else (noSite, 8)
def N_ref28_Submitted (x : Site × (Int × (List Int × Unit))) : Option (Site × (Bool × Unit)) :=
  if x.1.plan.length ≤ 1000000 then
    (if (readT x.2.2.1).2.2 ≠ 0 then some (answered x.1 ⟨x.2.1, (readT x.2.2.1).2.2, 0, []⟩, (true, ()))
     else if 64 ≤ x.1.asks.length then some (x.1, (false, ())) else some (asked x.1 ⟨x.2.1, 3, (readT x.2.2.1).2.1, 0, (readT x.2.2.1).1, []⟩, (true, ())))
  else none
def N_req_Submit (x : Config × (Site × (Int × (List Int × Unit)))) : Option (Site × (Int × Unit)) :=
  if smallSite x.2.1 = true then some ((submitT x.1 x.2.1 x.2.2.1 x.2.2.2.1).1, ((submitT x.1 x.2.1 x.2.2.1 x.2.2.2.1).2, ())) else none
def N_ref28_Submit (x : Config × (Site × (Int × (List Int × Unit)))) : Option (Site × (Int × Unit)) := N_req_Submit x
def N_law28_alive (_ : Unit) : Option (Bool × Unit) := b1 true
end Go.Cat
