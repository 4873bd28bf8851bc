/-
  My own text: a part of the proof.
  My own text: a part of the proof.
  My own text: a part of the proof.
  My own text: a part of the proof.
  My own text: a part of the proof.
  My own text: a part of the proof.
  My own text: a part of the proof.
-/
import Derived.Test.YtiflikkmjeikdaaGreatC6
import Derived.KernelRfl
set_option linter.unusedVariables false
set_option linter.unusedSimpArgs false
set_option linter.unusedVariables false
namespace Go.Cat
open Go
noncomputable def D_msg_sizes  : Option ((List Int) × Unit) :=
  some (((1 : Int) :: ((1 : Int) :: ((1 : Int) :: ((1 : Int) :: ((4 : Int) :: ((4 : Int) :: ((1 : Int) :: ((4 : Int) :: ((2 : Int) :: ((1 : Int) :: [])))))))))), ())
noncomputable def D_slices_Concat_byte_byte_l1  (l1 : ((List Int) × ((List (List Int)) × (Int × (Int × Unit))))) : Option (((List Int) × ((List (List Int)) × (Int × (Int × Unit)))) ⊕ ((List Int) × Unit)) :=
    if (decide (l1.2.2.2.1 < l1.2.2.1)) then
    if (decide (((0 : Int) ≤ l1.2.2.2.1) ∧ (l1.2.2.2.1 < (((List.length l1.2.1) : Nat) : Int)))) then
    if (decide (((List.length l1.1) + (List.length (nth l1.2.1 (Int.toNat l1.2.2.2.1)))) ≤ big)) then
    some (Sum.inl ((l1.1 ++ (nth l1.2.1 (Int.toNat l1.2.2.2.1))), (l1.2.1, (l1.2.2.1, ((IntKind.wrap IntKind.i64 (l1.2.2.2.1 + (1 : Int))), ())))))
    else none
    else none
  else
    some (Sum.inr (l1.1, ()))
noncomputable def D_slices_Concat_byte_byte_t2 (l1 : ((List (List Int)) × (Int × ((List (List Int)) × (Int × (Int × Unit)))))) : Option ((List Int) × Unit) :=
    if (decide (l1.2.1 < (0 : Int))) then
    none
  else
    if (decide ((IntKind.wrap IntKind.i64 (l1.2.1 - (IntKind.wrap IntKind.i64 ((0 : Int) - (0 : Int))))) > (0 : Int))) then
      if (decide (((0 : Int) ≤ (0 : Int)) ∧ (((0 : Int) ≤ (0 : Int)) ∧ (((0 : Int) ≤ (0 : Int)) ∧ ((0 : Int) ≤ (0 : Int)))))) then
      if (decide (((0 : Int) ≤ (IntKind.wrap IntKind.i64 (l1.2.1 - (IntKind.wrap IntKind.i64 ((0 : Int) - (0 : Int)))))) ∧ ((IntKind.wrap IntKind.i64 (l1.2.1 - (IntKind.wrap IntKind.i64 ((0 : Int) - (0 : Int))))) ≤ ((big : Nat) : Int)))) then
      loopO (D_slices_Concat_byte_byte_l1 ) ([], (l1.1, ((((List.length l1.1) : Nat) : Int), ((0 : Int), ()))))
      else none
      else none
    else
      loopO (D_slices_Concat_byte_byte_l1 ) ([], (l1.1, ((((List.length l1.1) : Nat) : Int), ((0 : Int), ()))))
noncomputable def D_slices_Concat_byte_byte_l3  (l1 : ((List (List Int)) × (Int × ((List (List Int)) × (Int × (Int × Unit)))))) : Option (((List (List Int)) × (Int × ((List (List Int)) × (Int × (Int × Unit))))) ⊕ ((List Int) × Unit)) :=
    if (decide (l1.2.2.2.2.1 < l1.2.2.2.1)) then
    if (decide (((0 : Int) ≤ l1.2.2.2.2.1) ∧ (l1.2.2.2.2.1 < (((List.length l1.2.2.1) : Nat) : Int)))) then
    if (decide ((IntKind.wrap IntKind.i64 (l1.2.1 + (((List.length (nth l1.2.2.1 (Int.toNat l1.2.2.2.2.1))) : Nat) : Int))) < (0 : Int))) then
      none
    else
      some (Sum.inl (l1.1, ((IntKind.wrap IntKind.i64 (l1.2.1 + (((List.length (nth l1.2.2.1 (Int.toNat l1.2.2.2.2.1))) : Nat) : Int))), (l1.2.2.1, (l1.2.2.2.1, ((IntKind.wrap IntKind.i64 (l1.2.2.2.2.1 + (1 : Int))), ()))))))
    else none
  else
    Option.map Sum.inr (D_slices_Concat_byte_byte_t2 l1)
noncomputable def D_slices_Concat_byte_byte (p1 : (List (List Int))) : Option ((List Int) × Unit) :=
  loopO (D_slices_Concat_byte_byte_l3 ) (p1, ((0 : Int), (p1, ((((List.length p1) : Nat) : Int), ((0 : Int), ())))))
noncomputable def D_msg_Write (p1 : Msg) : Option ((List Int) × (Int × Unit)) :=
  Option.bind (N_msg_Check (p1, ())) fun r1 =>
    if (r1.1 != (0 : Int)) then
      some ([], (r1.1, ()))
    else
      if p1.has then
        Option.bind (N_rec_Note (p1.rec_, ())) fun r2 =>
          Option.bind (N_msg_sizes ()) fun r3 =>
            Option.bind (N_num_Write (((IntKind.wrap IntKind.u64 p1.kind) :: ((IntKind.wrap IntKind.u64 p1.pair) :: ((1 : Int) :: ((IntKind.wrap IntKind.u64 p1.op) :: ((IntKind.wrap IntKind.u64 p1.born) :: ((IntKind.wrap IntKind.u64 p1.epoch) :: ((IntKind.wrap IntKind.u64 p1.track) :: ((IntKind.wrap IntKind.u64 p1.n) :: ((IntKind.wrap IntKind.u64 p1.code) :: ((IntKind.wrap IntKind.u64 (((List.length p1.marks) : Nat) : Int)) :: [])))))))))), (r3.1, ()))) fun r4 =>
              Option.bind (N_slices_Concat_byte_byte ((r4.1 :: (p1.marks :: (r2.1 :: (p1.bytes :: [])))), ())) fun r5 =>
                some (r5.1, ((0 : Int), ()))
      else
        Option.bind (N_msg_sizes ()) fun r2 =>
          Option.bind (N_num_Write (((IntKind.wrap IntKind.u64 p1.kind) :: ((IntKind.wrap IntKind.u64 p1.pair) :: ((0 : Int) :: ((IntKind.wrap IntKind.u64 p1.op) :: ((IntKind.wrap IntKind.u64 p1.born) :: ((IntKind.wrap IntKind.u64 p1.epoch) :: ((IntKind.wrap IntKind.u64 p1.track) :: ((IntKind.wrap IntKind.u64 p1.n) :: ((IntKind.wrap IntKind.u64 p1.code) :: ((IntKind.wrap IntKind.u64 (((List.length p1.marks) : Nat) : Int)) :: [])))))))))), (r2.1, ()))) fun r3 =>
            Option.bind (N_slices_Concat_byte_byte ((r3.1 :: (p1.marks :: ([] :: (p1.bytes :: [])))), ())) fun r4 =>
              some (r4.1, ((0 : Int), ()))
noncomputable def D_slices_Repeat_uint8_uint8_l1  (l1 : ((List Int) × (Int × Unit))) : Option (((List Int) × (Int × Unit)) ⊕ ((List Int) × Unit)) :=
    if (decide (l1.2.1 < (((List.length l1.1) : Nat) : Int))) then
    if (decide (((0 : Int) ≤ l1.2.1) ∧ ((l1.2.1 ≤ (((List.length l1.1) : Nat) : Int)) ∧ (((((List.length l1.1) : Nat) : Int) ≤ (((List.length l1.1) : Nat) : Int)) ∧ ((((List.length l1.1) : Nat) : Int) ≤ (((List.length l1.1) : Nat) : Int)))))) then
    if (decide (((0 : Int) ≤ (0 : Int)) ∧ (((0 : Int) ≤ l1.2.1) ∧ ((l1.2.1 ≤ (((List.length l1.1) : Nat) : Int)) ∧ ((((List.length l1.1) : Nat) : Int) ≤ (((List.length l1.1) : Nat) : Int)))))) then
    some (Sum.inl ((((List.take (Int.toNat l1.2.1) l1.1) ++ (List.take ((Int.toNat (((List.length l1.1) : Nat) : Int)) - (Int.toNat l1.2.1)) (List.take ((Int.toNat l1.2.1) - (Int.toNat (0 : Int))) (List.drop (Int.toNat (0 : Int)) l1.1)))) ++ (List.drop ((Int.toNat l1.2.1) + (min (List.length (List.take ((Int.toNat l1.2.1) - (Int.toNat (0 : Int))) (List.drop (Int.toNat (0 : Int)) l1.1))) ((Int.toNat (((List.length l1.1) : Nat) : Int)) - (Int.toNat l1.2.1)))) l1.1)), ((IntKind.wrap IntKind.i64 (l1.2.1 + (((min (List.length (List.take ((Int.toNat l1.2.1) - (Int.toNat (0 : Int))) (List.drop (Int.toNat (0 : Int)) l1.1))) ((Int.toNat (((List.length l1.1) : Nat) : Int)) - (Int.toNat l1.2.1))) : Nat) : Int))), ())))
    else none
    else none
  else
    some (Sum.inr (l1.1, ()))
noncomputable def D_slices_Repeat_uint8_uint8 (p1 : (List Int)) (p2 : Int) : Option ((List Int) × Unit) :=
  if (decide (p2 < (0 : Int))) then
    none
  else
    if (decide ((0 : Int) ≤ (32 : Int))) then
    if (decide ((0 : Int) ≤ (32 : Int))) then
    if (decide ((0 : Int) ≤ (32 : Int))) then
    if (decide ((0 : Int) ≤ (32 : Int))) then
    if (decide ((0 : Int) ≤ (32 : Int))) then
    if (decide ((IntKind.wrap IntKind.u64 ((IntKind.wrap IntKind.u64 ((IntKind.wrap IntKind.u64 ((shrI IntKind.u64 (IntKind.wrap IntKind.u64 (((List.length p1) : Nat) : Int)) (32 : Int)) * (shrI IntKind.u64 (IntKind.wrap IntKind.u64 p2) (32 : Int)))) + (shrI IntKind.u64 (IntKind.wrap IntKind.u64 ((IntKind.wrap IntKind.u64 ((shrI IntKind.u64 (IntKind.wrap IntKind.u64 (((List.length p1) : Nat) : Int)) (32 : Int)) * (ibits BinOp.and IntKind.u64 (IntKind.wrap IntKind.u64 p2) (4294967295 : Int)))) + (shrI IntKind.u64 (IntKind.wrap IntKind.u64 ((ibits BinOp.and IntKind.u64 (IntKind.wrap IntKind.u64 (((List.length p1) : Nat) : Int)) (4294967295 : Int)) * (ibits BinOp.and IntKind.u64 (IntKind.wrap IntKind.u64 p2) (4294967295 : Int)))) (32 : Int)))) (32 : Int)))) + (shrI IntKind.u64 (IntKind.wrap IntKind.u64 ((ibits BinOp.and IntKind.u64 (IntKind.wrap IntKind.u64 ((IntKind.wrap IntKind.u64 ((shrI IntKind.u64 (IntKind.wrap IntKind.u64 (((List.length p1) : Nat) : Int)) (32 : Int)) * (ibits BinOp.and IntKind.u64 (IntKind.wrap IntKind.u64 p2) (4294967295 : Int)))) + (shrI IntKind.u64 (IntKind.wrap IntKind.u64 ((ibits BinOp.and IntKind.u64 (IntKind.wrap IntKind.u64 (((List.length p1) : Nat) : Int)) (4294967295 : Int)) * (ibits BinOp.and IntKind.u64 (IntKind.wrap IntKind.u64 p2) (4294967295 : Int)))) (32 : Int)))) (4294967295 : Int)) + (IntKind.wrap IntKind.u64 ((ibits BinOp.and IntKind.u64 (IntKind.wrap IntKind.u64 (((List.length p1) : Nat) : Int)) (4294967295 : Int)) * (shrI IntKind.u64 (IntKind.wrap IntKind.u64 p2) (32 : Int)))))) (32 : Int)))) > (0 : Int))) then
      none
    else
      if (decide ((IntKind.wrap IntKind.u64 ((IntKind.wrap IntKind.u64 (((List.length p1) : Nat) : Int)) * (IntKind.wrap IntKind.u64 p2))) > (9223372036854775807 : Int))) then
        none
      else
        if (decide (((0 : Int) ≤ (IntKind.wrap IntKind.i64 (IntKind.wrap IntKind.u64 ((IntKind.wrap IntKind.u64 (((List.length p1) : Nat) : Int)) * (IntKind.wrap IntKind.u64 p2))))) ∧ (((IntKind.wrap IntKind.i64 (IntKind.wrap IntKind.u64 ((IntKind.wrap IntKind.u64 (((List.length p1) : Nat) : Int)) * (IntKind.wrap IntKind.u64 p2)))) ≤ (IntKind.wrap IntKind.i64 (IntKind.wrap IntKind.u64 ((IntKind.wrap IntKind.u64 (((List.length p1) : Nat) : Int)) * (IntKind.wrap IntKind.u64 p2))))) ∧ ((IntKind.wrap IntKind.i64 (IntKind.wrap IntKind.u64 ((IntKind.wrap IntKind.u64 (((List.length p1) : Nat) : Int)) * (IntKind.wrap IntKind.u64 p2)))) ≤ ((big : Nat) : Int))))) then
        loopO (D_slices_Repeat_uint8_uint8_l1 ) (((List.take (List.length (List.replicate (Int.toNat (IntKind.wrap IntKind.i64 (IntKind.wrap IntKind.u64 ((IntKind.wrap IntKind.u64 (((List.length p1) : Nat) : Int)) * (IntKind.wrap IntKind.u64 p2))))) (0 : Int))) p1) ++ (List.drop (min (List.length p1) (List.length (List.replicate (Int.toNat (IntKind.wrap IntKind.i64 (IntKind.wrap IntKind.u64 ((IntKind.wrap IntKind.u64 (((List.length p1) : Nat) : Int)) * (IntKind.wrap IntKind.u64 p2))))) (0 : Int)))) (List.replicate (Int.toNat (IntKind.wrap IntKind.i64 (IntKind.wrap IntKind.u64 ((IntKind.wrap IntKind.u64 (((List.length p1) : Nat) : Int)) * (IntKind.wrap IntKind.u64 p2))))) (0 : Int)))), ((((min (List.length p1) (List.length (List.replicate (Int.toNat (IntKind.wrap IntKind.i64 (IntKind.wrap IntKind.u64 ((IntKind.wrap IntKind.u64 (((List.length p1) : Nat) : Int)) * (IntKind.wrap IntKind.u64 p2))))) (0 : Int)))) : Nat) : Int), ()))
        else none
    else none
    else none
    else none
    else none
    else none
noncomputable def D_disk_Flush (p1 : Disk) : Option (Disk × (Int × Unit)) :=
  Option.bind (N_slices_Repeat_uint8_uint8 (((1 : Int) :: []), ((((List.length p1.cache) : Nat) : Int), ()))) fun r1 =>
    Option.bind (N_disk_Crash (p1, (r1.1, ()))) fun r2 =>
      some (r2.1, (r2.2.1, ()))
noncomputable def D_disk_asked (p1 : Disk) (p2 : Int) : Option (Int × Unit) :=
  Option.bind (N_disk_Check (p1, ())) fun r2 =>
    if (r2.1 != (0 : Int)) then
      some (r2.1, ())
    else
      if (decide (p2 < (0 : Int))) then
        some ((2 : Int), ())
      else
        if (decide (p2 ≥ (((List.length p1.sectors) : Nat) : Int))) then
          some ((2 : Int), ())
        else
          some ((0 : Int), ())
noncomputable def D_disk_Write (p1 : Disk) (p2 : Int) (p3 : (List Int)) : Option (Disk × (Int × Unit)) :=
  Option.bind (N_disk_asked (p1, (p2, ()))) fun r3 =>
    if (r3.1 != (0 : Int)) then
      some ((Disk.mk [] []), (r3.1, ()))
    else
      Option.bind (N_disk_sized ((p3 :: []), ())) fun r4 =>
        if (!r4.1) then
          some ((Disk.mk [] []), ((2 : Int), ()))
        else
          if ((((List.length p1.cache) : Nat) : Int) == (64 : Int)) then
            some ((Disk.mk [] []), ((9 : Int), ()))
          else
            Option.bind (N_disk_Twin (p1, ())) fun r5 =>
              Option.bind (N_slices_Clone_byte_byte (p3, ())) fun r6 =>
                if (decide (((List.length r5.1.cache) + (List.length ((Pend.mk p2 r6.1) :: []))) ≤ big)) then
                some ((Disk.mk r5.1.sectors (r5.1.cache ++ ((Pend.mk p2 r6.1) :: []))), ((0 : Int), ()))
                else none
noncomputable def D_disk_New_l1  (l1 : (((List Sector) × ((List Pend) × Unit)) × (Int × (Int × Unit)))) : Option ((((List Sector) × ((List Pend) × Unit)) × (Int × (Int × Unit))) ⊕ (Disk × (Int × Unit))) :=
    if (decide (l1.2.2.1 < l1.2.1)) then
    if (decide (((0 : Int) ≤ (32 : Int)) ∧ (((32 : Int) ≤ (32 : Int)) ∧ ((32 : Int) ≤ ((big : Nat) : Int))))) then
    if (decide (((0 : Int) ≤ l1.2.2.1) ∧ (l1.2.2.1 < (((List.length l1.1.1) : Nat) : Int)))) then
    some (Sum.inl (((List.set l1.1.1 (Int.toNat l1.2.2.1) (Sector.mk (List.replicate (Int.toNat (32 : Int)) (0 : Int)) (nth l1.1.1 (Int.toNat l1.2.2.1)).bad)), (l1.1.2.1, ())), (l1.2.1, ((IntKind.wrap IntKind.i64 (l1.2.2.1 + (1 : Int))), ()))))
    else none
    else none
  else
    some (Sum.inr ((Disk.mk l1.1.1 l1.1.2.1), ((0 : Int), ())))
noncomputable def D_disk_New (p1 : Int) : Option (Disk × (Int × Unit)) :=
  if (decide (p1 < (1 : Int))) then
    some ((Disk.mk [] []), ((2 : Int), ()))
  else
    if (decide (p1 > (1024 : Int))) then
      some ((Disk.mk [] []), ((2 : Int), ()))
    else
      if (decide (((0 : Int) ≤ p1) ∧ ((p1 ≤ p1) ∧ (p1 ≤ ((big : Nat) : Int))))) then
      loopO (D_disk_New_l1 ) (((List.replicate (Int.toNat p1) (Sector.mk [] Bool.false)), ([], ())), ((((List.length (List.replicate (Int.toNat p1) (Sector.mk [] Bool.false))) : Nat) : Int), ((0 : Int), ())))
      else none
noncomputable def D_ring_New (p1 : Int) : Option (Queue × (Int × Unit)) :=
  if (decide (p1 < (1 : Int))) then
    some ((Queue.mk [] (0 : Int) (0 : Int)), ((2 : Int), ()))
  else
    if (decide (p1 > (64 : Int))) then
      some ((Queue.mk [] (0 : Int) (0 : Int)), ((2 : Int), ()))
    else
      if (decide (((0 : Int) ≤ p1) ∧ ((p1 ≤ p1) ∧ (p1 ≤ ((big : Nat) : Int))))) then
      some ((Queue.mk (List.replicate (Int.toNat p1) []) (0 : Int) (0 : Int)), ((0 : Int), ()))
      else none
noncomputable def D_ring_Push (p1 : Queue) (p2 : (List Int)) : Option (Queue × (Int × Unit)) :=
  Option.bind (N_ring_Check (p1, ())) fun r2 =>
    if (r2.1 != (0 : Int)) then
      some ((Queue.mk [] (0 : Int) (0 : Int)), (r2.1, ()))
    else
      if (p1.many == (((List.length p1.items) : Nat) : Int)) then
        some ((Queue.mk [] (0 : Int) (0 : Int)), ((9 : Int), ()))
      else
        Option.bind (N_ring_Twin (p1, ())) fun r3 =>
          Option.bind (N_ring_round_byte_at ((Round.mk p1.items p1.head p1.many), (p1.many, ()))) fun r4 =>
            Option.bind (N_ring_text (p2, ())) fun r5 =>
              if (decide (((0 : Int) ≤ r4.1) ∧ (r4.1 < (((List.length r3.1.items) : Nat) : Int)))) then
              some ((Queue.mk (List.set r3.1.items (Int.toNat r4.1) r5.1) r3.1.head (IntKind.wrap IntKind.i64 (r3.1.many + (1 : Int)))), ((0 : Int), ()))
              else none
noncomputable def D_sess_New (p1 : Int) : Option (End × (Int × Unit)) :=
  if (decide (p1 < (1 : Int))) then
    some ((End.mk (0 : Int) (0 : Int) Bool.false Bool.false (0 : Int) (0 : Int) (Queue.mk [] (0 : Int) (0 : Int)) (0 : Int) (0 : Int)), ((2 : Int), ()))
  else
    if (decide (p1 > (1048575 : Int))) then
      some ((End.mk (0 : Int) (0 : Int) Bool.false Bool.false (0 : Int) (0 : Int) (Queue.mk [] (0 : Int) (0 : Int)) (0 : Int) (0 : Int)), ((2 : Int), ()))
    else
      Option.bind (N_ring_New ((64 : Int), ())) fun r1 =>
        some ((End.mk (IntKind.wrap IntKind.u32 (p1 * (4096 : Int))) (0 : Int) Bool.false Bool.false (0 : Int) (0 : Int) r1.1 (0 : Int) (0 : Int)), (r1.2.1, ()))
noncomputable def D_sess_Put (p1 : Config) (p2 : End) (p3 : (List Int)) : Option (End × (Int × Unit)) :=
  Option.bind (N_sess_Check (p1, (p2, ()))) fun r3 =>
    if (r3.1 != (0 : Int)) then
      some ((End.mk (0 : Int) (0 : Int) Bool.false Bool.false (0 : Int) (0 : Int) (Queue.mk [] (0 : Int) (0 : Int)) (0 : Int) (0 : Int)), (r3.1, ()))
    else
      if (!p2.up) then
        some ((End.mk (0 : Int) (0 : Int) Bool.false Bool.false (0 : Int) (0 : Int) (Queue.mk [] (0 : Int) (0 : Int)) (0 : Int) (0 : Int)), ((170 : Int), ()))
      else
        if (decide ((((List.length p3) : Nat) : Int) ≥ (1 : Int))) then
          if (!(decide ((((List.length p3) : Nat) : Int) ≤ (64 : Int)))) then
            some ((End.mk (0 : Int) (0 : Int) Bool.false Bool.false (0 : Int) (0 : Int) (Queue.mk [] (0 : Int) (0 : Int)) (0 : Int) (0 : Int)), ((4 : Int), ()))
          else
            if ((IntKind.wrap IntKind.u32 (p2.sent + (1 : Int))) == (0 : Int)) then
              some ((End.mk (0 : Int) (0 : Int) Bool.false Bool.false (0 : Int) (0 : Int) (Queue.mk [] (0 : Int) (0 : Int)) (0 : Int) (0 : Int)), ((9 : Int), ()))
            else
              Option.bind (N_ring_Push (p2.out, (p3, ()))) fun r4 =>
                if (r4.2.1 != (0 : Int)) then
                  some ((End.mk (0 : Int) (0 : Int) Bool.false Bool.false (0 : Int) (0 : Int) (Queue.mk [] (0 : Int) (0 : Int)) (0 : Int) (0 : Int)), (r4.2.1, ()))
                else
                  some ((End.mk p2.me p2.you p2.up p2.dead (IntKind.wrap IntKind.u32 (p2.sent + (1 : Int))) p2.done r4.1 p2.got p2.quiet), ((0 : Int), ()))
        else
          some ((End.mk (0 : Int) (0 : Int) Bool.false Bool.false (0 : Int) (0 : Int) (Queue.mk [] (0 : Int) (0 : Int)) (0 : Int) (0 : Int)), ((4 : Int), ()))
noncomputable def D_bits_Of_l1  (l1 : ((List Int) × ((List Int) × (Int × (Int × Unit))))) : Option (((List Int) × ((List Int) × (Int × (Int × Unit)))) ⊕ ((List Int) × (Int × Unit))) :=
    if (decide (l1.2.2.2.1 < l1.2.2.1)) then
    if (decide (((0 : Int) ≤ l1.2.2.2.1) ∧ (l1.2.2.2.1 < (((List.length l1.2.1) : Nat) : Int)))) then
    if ((8 : Int) != (0 : Int)) then
    if (decide (((0 : Int) ≤ (IntKind.wrap IntKind.i64 (Int.tdiv (nth l1.2.1 (Int.toNat l1.2.2.2.1)) (8 : Int)))) ∧ ((IntKind.wrap IntKind.i64 (Int.tdiv (nth l1.2.1 (Int.toNat l1.2.2.2.1)) (8 : Int))) < (((List.length l1.1) : Nat) : Int)))) then
    if ((8 : Int) != (0 : Int)) then
    if (decide ((0 : Int) ≤ (Int.tmod (nth l1.2.1 (Int.toNat l1.2.2.2.1)) (8 : Int)))) then
    if (decide (((0 : Int) ≤ (IntKind.wrap IntKind.i64 (Int.tdiv (nth l1.2.1 (Int.toNat l1.2.2.2.1)) (8 : Int)))) ∧ ((IntKind.wrap IntKind.i64 (Int.tdiv (nth l1.2.1 (Int.toNat l1.2.2.2.1)) (8 : Int))) < (((List.length l1.1) : Nat) : Int)))) then
    some (Sum.inl ((List.set l1.1 (Int.toNat (IntKind.wrap IntKind.i64 (Int.tdiv (nth l1.2.1 (Int.toNat l1.2.2.2.1)) (8 : Int)))) (ibits BinOp.or IntKind.u8 (nth l1.1 (Int.toNat (IntKind.wrap IntKind.i64 (Int.tdiv (nth l1.2.1 (Int.toNat l1.2.2.2.1)) (8 : Int))))) (shlI IntKind.u8 (1 : Int) (Int.tmod (nth l1.2.1 (Int.toNat l1.2.2.2.1)) (8 : Int))))), (l1.2.1, (l1.2.2.1, ((IntKind.wrap IntKind.i64 (l1.2.2.2.1 + (1 : Int))), ())))))
    else none
    else none
    else none
    else none
    else none
    else none
  else
    some (Sum.inr (l1.1, ((0 : Int), ())))
noncomputable def D_bits_Of_t2 (p1 : Int) (p2 : (List Int)) (l1 : ((List Int) × (Int × Unit))) (l2 : ((List Int) × (Int × (Int × Unit)))) : Option ((List Int) × (Int × Unit)) :=
    if (decide (l2.2.2.1 ≥ (0 : Int))) then
    some ([], ((2 : Int), ()))
  else
    loopO (D_bits_Of_l1 ) ((List.replicate (List.length (List.set l1.1 (Int.toNat (IntKind.wrap IntKind.i64 ((((List.length l1.1) : Nat) : Int) - (1 : Int)))) (IntKind.wrap IntKind.u8 ((shlI IntKind.u8 (1 : Int) (Int.tmod p1 (8 : Int))) - (1 : Int))))) (0 : Int)), (p2, ((((List.length p2) : Nat) : Int), ((0 : Int), ()))))
noncomputable def D_bits_Of_t3 (p1 : Int) (p2 : (List Int)) (l1 : ((List Int) × (Int × Unit))) : Option ((List Int) × (Int × Unit)) :=
    loopO (D_bits_Of_l1 ) ((List.replicate (List.length (List.set l1.1 (Int.toNat (IntKind.wrap IntKind.i64 ((((List.length l1.1) : Nat) : Int) - (1 : Int)))) (IntKind.wrap IntKind.u8 ((shlI IntKind.u8 (1 : Int) (Int.tmod p1 (8 : Int))) - (1 : Int))))) (0 : Int)), (p2, ((((List.length p2) : Nat) : Int), ((0 : Int), ()))))
noncomputable def D_bits_Of_l4 (p1 : Int) (p2 : (List Int)) (l1 : ((List Int) × (Int × Unit))) (l2 : ((List Int) × (Int × (Int × Unit)))) : Option (((List Int) × (Int × (Int × Unit))) ⊕ ((List Int) × (Int × Unit))) :=
    if (decide (l2.2.2.1 < l2.2.1)) then
    if (decide (((0 : Int) ≤ l2.2.2.1) ∧ (l2.2.2.1 < (((List.length l2.1) : Nat) : Int)))) then
    if (decide ((nth l2.1 (Int.toNat l2.2.2.1)) < (0 : Int))) then
      Option.map Sum.inr (D_bits_Of_t2 p1 p2 l1 l2)
    else
      if (decide ((nth l2.1 (Int.toNat l2.2.2.1)) ≥ p1)) then
        Option.map Sum.inr (D_bits_Of_t2 p1 p2 l1 l2)
      else
        some (Sum.inl (l2.1, (l2.2.1, ((IntKind.wrap IntKind.i64 (l2.2.2.1 + (1 : Int))), ()))))
    else none
  else
    Option.map Sum.inr (D_bits_Of_t3 p1 p2 l1)
noncomputable def D_bits_Of_t5 (p2 : (List Int)) (l1 : ((List Int) × (Int × Unit))) (l2 : ((List Int) × (Int × (Int × Unit)))) : Option ((List Int) × (Int × Unit)) :=
    if (decide (l2.2.2.1 ≥ (0 : Int))) then
    some ([], ((2 : Int), ()))
  else
    loopO (D_bits_Of_l1 ) ((List.replicate (List.length l1.1) (0 : Int)), (p2, ((((List.length p2) : Nat) : Int), ((0 : Int), ()))))
noncomputable def D_bits_Of_t6 (p2 : (List Int)) (l1 : ((List Int) × (Int × Unit))) : Option ((List Int) × (Int × Unit)) :=
    loopO (D_bits_Of_l1 ) ((List.replicate (List.length l1.1) (0 : Int)), (p2, ((((List.length p2) : Nat) : Int), ((0 : Int), ()))))
noncomputable def D_bits_Of_l7 (p1 : Int) (p2 : (List Int)) (l1 : ((List Int) × (Int × Unit))) (l2 : ((List Int) × (Int × (Int × Unit)))) : Option (((List Int) × (Int × (Int × Unit))) ⊕ ((List Int) × (Int × Unit))) :=
    if (decide (l2.2.2.1 < l2.2.1)) then
    if (decide (((0 : Int) ≤ l2.2.2.1) ∧ (l2.2.2.1 < (((List.length l2.1) : Nat) : Int)))) then
    if (decide ((nth l2.1 (Int.toNat l2.2.2.1)) < (0 : Int))) then
      Option.map Sum.inr (D_bits_Of_t5 p2 l1 l2)
    else
      if (decide ((nth l2.1 (Int.toNat l2.2.2.1)) ≥ p1)) then
        Option.map Sum.inr (D_bits_Of_t5 p2 l1 l2)
      else
        some (Sum.inl (l2.1, (l2.2.1, ((IntKind.wrap IntKind.i64 (l2.2.2.1 + (1 : Int))), ()))))
    else none
  else
    Option.map Sum.inr (D_bits_Of_t6 p2 l1)
noncomputable def D_bits_Of_t8 (p1 : Int) (p2 : (List Int)) (l1 : ((List Int) × (Int × Unit))) : Option ((List Int) × (Int × Unit)) :=
    if ((8 : Int) != (0 : Int)) then
  if (decide ((Int.tmod p1 (8 : Int)) > (0 : Int))) then
    if (decide ((0 : Int) ≤ (Int.tmod p1 (8 : Int)))) then
    if (decide (((0 : Int) ≤ (IntKind.wrap IntKind.i64 ((((List.length l1.1) : Nat) : Int) - (1 : Int)))) ∧ ((IntKind.wrap IntKind.i64 ((((List.length l1.1) : Nat) : Int) - (1 : Int))) < (((List.length l1.1) : Nat) : Int)))) then
    loopO (D_bits_Of_l4 p1 p2 l1) (p2, ((((List.length p2) : Nat) : Int), ((0 : Int), ())))
    else none
    else none
  else
    loopO (D_bits_Of_l7 p1 p2 l1) (p2, ((((List.length p2) : Nat) : Int), ((0 : Int), ())))
  else none
noncomputable def D_bits_Of_l9 (p1 : Int) (p2 : (List Int)) (l1 : ((List Int) × (Int × Unit))) : Option (((List Int) × (Int × Unit)) ⊕ ((List Int) × (Int × Unit))) :=
    if (decide (l1.2.1 < (((List.length l1.1) : Nat) : Int))) then
    if (decide (((0 : Int) ≤ l1.2.1) ∧ ((l1.2.1 ≤ (((List.length l1.1) : Nat) : Int)) ∧ (((((List.length l1.1) : Nat) : Int) ≤ (((List.length l1.1) : Nat) : Int)) ∧ ((((List.length l1.1) : Nat) : Int) ≤ (((List.length l1.1) : Nat) : Int)))))) then
    if (decide (((0 : Int) ≤ (0 : Int)) ∧ (((0 : Int) ≤ l1.2.1) ∧ ((l1.2.1 ≤ (((List.length l1.1) : Nat) : Int)) ∧ ((((List.length l1.1) : Nat) : Int) ≤ (((List.length l1.1) : Nat) : Int)))))) then
    some (Sum.inl ((((List.take (Int.toNat l1.2.1) l1.1) ++ (List.take ((Int.toNat (((List.length l1.1) : Nat) : Int)) - (Int.toNat l1.2.1)) (List.take ((Int.toNat l1.2.1) - (Int.toNat (0 : Int))) (List.drop (Int.toNat (0 : Int)) l1.1)))) ++ (List.drop ((Int.toNat l1.2.1) + (min (List.length (List.take ((Int.toNat l1.2.1) - (Int.toNat (0 : Int))) (List.drop (Int.toNat (0 : Int)) l1.1))) ((Int.toNat (((List.length l1.1) : Nat) : Int)) - (Int.toNat l1.2.1)))) l1.1)), ((IntKind.wrap IntKind.i64 (l1.2.1 + (((min (List.length (List.take ((Int.toNat l1.2.1) - (Int.toNat (0 : Int))) (List.drop (Int.toNat (0 : Int)) l1.1))) ((Int.toNat (((List.length l1.1) : Nat) : Int)) - (Int.toNat l1.2.1))) : Nat) : Int))), ())))
    else none
    else none
  else
    Option.map Sum.inr (D_bits_Of_t8 p1 p2 l1)
noncomputable def D_bits_Of (p1 : Int) (p2 : (List Int)) : Option ((List Int) × (Int × Unit)) :=
  if (decide (p1 ≥ (1 : Int))) then
    if (!(decide (p1 ≤ (16 : Int)))) then
      some ([], ((2 : Int), ()))
    else
      if ((8 : Int) != (0 : Int)) then
      if (decide ((IntKind.wrap IntKind.i64 (Int.tdiv (IntKind.wrap IntKind.i64 ((IntKind.wrap IntKind.i64 (p1 + (8 : Int))) - (1 : Int))) (8 : Int))) < (0 : Int))) then
        none
      else
        if (decide ((0 : Int) ≤ (32 : Int))) then
        if (decide ((0 : Int) ≤ (32 : Int))) then
        if (decide ((0 : Int) ≤ (32 : Int))) then
        if (decide ((0 : Int) ≤ (32 : Int))) then
        if (decide ((0 : Int) ≤ (32 : Int))) then
        if (decide ((IntKind.wrap IntKind.u64 ((IntKind.wrap IntKind.u64 ((IntKind.wrap IntKind.u64 ((shrI IntKind.u64 (IntKind.wrap IntKind.u64 (((List.length ((255 : Int) :: [])) : Nat) : Int)) (32 : Int)) * (shrI IntKind.u64 (IntKind.wrap IntKind.u64 (IntKind.wrap IntKind.i64 (Int.tdiv (IntKind.wrap IntKind.i64 ((IntKind.wrap IntKind.i64 (p1 + (8 : Int))) - (1 : Int))) (8 : Int)))) (32 : Int)))) + (shrI IntKind.u64 (IntKind.wrap IntKind.u64 ((IntKind.wrap IntKind.u64 ((shrI IntKind.u64 (IntKind.wrap IntKind.u64 (((List.length ((255 : Int) :: [])) : Nat) : Int)) (32 : Int)) * (ibits BinOp.and IntKind.u64 (IntKind.wrap IntKind.u64 (IntKind.wrap IntKind.i64 (Int.tdiv (IntKind.wrap IntKind.i64 ((IntKind.wrap IntKind.i64 (p1 + (8 : Int))) - (1 : Int))) (8 : Int)))) (4294967295 : Int)))) + (shrI IntKind.u64 (IntKind.wrap IntKind.u64 ((ibits BinOp.and IntKind.u64 (IntKind.wrap IntKind.u64 (((List.length ((255 : Int) :: [])) : Nat) : Int)) (4294967295 : Int)) * (ibits BinOp.and IntKind.u64 (IntKind.wrap IntKind.u64 (IntKind.wrap IntKind.i64 (Int.tdiv (IntKind.wrap IntKind.i64 ((IntKind.wrap IntKind.i64 (p1 + (8 : Int))) - (1 : Int))) (8 : Int)))) (4294967295 : Int)))) (32 : Int)))) (32 : Int)))) + (shrI IntKind.u64 (IntKind.wrap IntKind.u64 ((ibits BinOp.and IntKind.u64 (IntKind.wrap IntKind.u64 ((IntKind.wrap IntKind.u64 ((shrI IntKind.u64 (IntKind.wrap IntKind.u64 (((List.length ((255 : Int) :: [])) : Nat) : Int)) (32 : Int)) * (ibits BinOp.and IntKind.u64 (IntKind.wrap IntKind.u64 (IntKind.wrap IntKind.i64 (Int.tdiv (IntKind.wrap IntKind.i64 ((IntKind.wrap IntKind.i64 (p1 + (8 : Int))) - (1 : Int))) (8 : Int)))) (4294967295 : Int)))) + (shrI IntKind.u64 (IntKind.wrap IntKind.u64 ((ibits BinOp.and IntKind.u64 (IntKind.wrap IntKind.u64 (((List.length ((255 : Int) :: [])) : Nat) : Int)) (4294967295 : Int)) * (ibits BinOp.and IntKind.u64 (IntKind.wrap IntKind.u64 (IntKind.wrap IntKind.i64 (Int.tdiv (IntKind.wrap IntKind.i64 ((IntKind.wrap IntKind.i64 (p1 + (8 : Int))) - (1 : Int))) (8 : Int)))) (4294967295 : Int)))) (32 : Int)))) (4294967295 : Int)) + (IntKind.wrap IntKind.u64 ((ibits BinOp.and IntKind.u64 (IntKind.wrap IntKind.u64 (((List.length ((255 : Int) :: [])) : Nat) : Int)) (4294967295 : Int)) * (shrI IntKind.u64 (IntKind.wrap IntKind.u64 (IntKind.wrap IntKind.i64 (Int.tdiv (IntKind.wrap IntKind.i64 ((IntKind.wrap IntKind.i64 (p1 + (8 : Int))) - (1 : Int))) (8 : Int)))) (32 : Int)))))) (32 : Int)))) > (0 : Int))) then
          none
        else
          if (decide ((IntKind.wrap IntKind.u64 ((IntKind.wrap IntKind.u64 (((List.length ((255 : Int) :: [])) : Nat) : Int)) * (IntKind.wrap IntKind.u64 (IntKind.wrap IntKind.i64 (Int.tdiv (IntKind.wrap IntKind.i64 ((IntKind.wrap IntKind.i64 (p1 + (8 : Int))) - (1 : Int))) (8 : Int)))))) > (9223372036854775807 : Int))) then
            none
          else
            if (decide (((0 : Int) ≤ (IntKind.wrap IntKind.i64 (IntKind.wrap IntKind.u64 ((IntKind.wrap IntKind.u64 (((List.length ((255 : Int) :: [])) : Nat) : Int)) * (IntKind.wrap IntKind.u64 (IntKind.wrap IntKind.i64 (Int.tdiv (IntKind.wrap IntKind.i64 ((IntKind.wrap IntKind.i64 (p1 + (8 : Int))) - (1 : Int))) (8 : Int)))))))) ∧ (((IntKind.wrap IntKind.i64 (IntKind.wrap IntKind.u64 ((IntKind.wrap IntKind.u64 (((List.length ((255 : Int) :: [])) : Nat) : Int)) * (IntKind.wrap IntKind.u64 (IntKind.wrap IntKind.i64 (Int.tdiv (IntKind.wrap IntKind.i64 ((IntKind.wrap IntKind.i64 (p1 + (8 : Int))) - (1 : Int))) (8 : Int))))))) ≤ (IntKind.wrap IntKind.i64 (IntKind.wrap IntKind.u64 ((IntKind.wrap IntKind.u64 (((List.length ((255 : Int) :: [])) : Nat) : Int)) * (IntKind.wrap IntKind.u64 (IntKind.wrap IntKind.i64 (Int.tdiv (IntKind.wrap IntKind.i64 ((IntKind.wrap IntKind.i64 (p1 + (8 : Int))) - (1 : Int))) (8 : Int)))))))) ∧ ((IntKind.wrap IntKind.i64 (IntKind.wrap IntKind.u64 ((IntKind.wrap IntKind.u64 (((List.length ((255 : Int) :: [])) : Nat) : Int)) * (IntKind.wrap IntKind.u64 (IntKind.wrap IntKind.i64 (Int.tdiv (IntKind.wrap IntKind.i64 ((IntKind.wrap IntKind.i64 (p1 + (8 : Int))) - (1 : Int))) (8 : Int))))))) ≤ ((big : Nat) : Int))))) then
            loopO (D_bits_Of_l9 p1 p2) (((List.take (List.length (List.replicate (Int.toNat (IntKind.wrap IntKind.i64 (IntKind.wrap IntKind.u64 ((IntKind.wrap IntKind.u64 (((List.length ((255 : Int) :: [])) : Nat) : Int)) * (IntKind.wrap IntKind.u64 (IntKind.wrap IntKind.i64 (Int.tdiv (IntKind.wrap IntKind.i64 ((IntKind.wrap IntKind.i64 (p1 + (8 : Int))) - (1 : Int))) (8 : Int)))))))) (0 : Int))) ((255 : Int) :: [])) ++ (List.drop (min (List.length ((255 : Int) :: [])) (List.length (List.replicate (Int.toNat (IntKind.wrap IntKind.i64 (IntKind.wrap IntKind.u64 ((IntKind.wrap IntKind.u64 (((List.length ((255 : Int) :: [])) : Nat) : Int)) * (IntKind.wrap IntKind.u64 (IntKind.wrap IntKind.i64 (Int.tdiv (IntKind.wrap IntKind.i64 ((IntKind.wrap IntKind.i64 (p1 + (8 : Int))) - (1 : Int))) (8 : Int)))))))) (0 : Int)))) (List.replicate (Int.toNat (IntKind.wrap IntKind.i64 (IntKind.wrap IntKind.u64 ((IntKind.wrap IntKind.u64 (((List.length ((255 : Int) :: [])) : Nat) : Int)) * (IntKind.wrap IntKind.u64 (IntKind.wrap IntKind.i64 (Int.tdiv (IntKind.wrap IntKind.i64 ((IntKind.wrap IntKind.i64 (p1 + (8 : Int))) - (1 : Int))) (8 : Int)))))))) (0 : Int)))), ((((min (List.length ((255 : Int) :: [])) (List.length (List.replicate (Int.toNat (IntKind.wrap IntKind.i64 (IntKind.wrap IntKind.u64 ((IntKind.wrap IntKind.u64 (((List.length ((255 : Int) :: [])) : Nat) : Int)) * (IntKind.wrap IntKind.u64 (IntKind.wrap IntKind.i64 (Int.tdiv (IntKind.wrap IntKind.i64 ((IntKind.wrap IntKind.i64 (p1 + (8 : Int))) - (1 : Int))) (8 : Int)))))))) (0 : Int)))) : Nat) : Int), ()))
            else none
        else none
        else none
        else none
        else none
        else none
      else none
  else
    some ([], ((2 : Int), ()))
noncomputable def D_act_Side (p1 : Config) : Option (Side × (Int × Unit)) :=
  Option.bind (N_place_Check (p1, ())) fun r1 =>
    if (r1.1 != (0 : Int)) then
      some ((Side.mk [] [] [] (0 : Int) [] [] (0 : Int) (0 : Int) (0 : Int) (0 : Int) Bool.false Bool.false Bool.false Bool.false), (r1.1, ()))
    else
      Option.bind (N_bits_Of (p1.tracks, ([], ()))) fun r2 =>
        Option.bind (N_bits_Of (p1.tracks, ([], ()))) fun r3 =>
          Option.bind (N_bits_Of (p1.tracks, ([], ()))) fun r4 =>
            some ((Side.mk r2.1 r3.1 [] (0 : Int) [] r4.1 (-(1 : Int)) (0 : Int) (0 : Int) (-(1 : Int)) Bool.false Bool.false Bool.false Bool.false), ((0 : Int), ()))
noncomputable def D_act_Do (p1 : Config) (p2 : Site) : Option (Site × (Int × Unit)) :=
  Option.bind (N_act_Check (p1, (p2, ()))) fun r2 =>
    if (r2.1 != (0 : Int)) then
      some ((Site.mk (0 : Int) (Disk.mk [] []) (Meta.mk (Super.mk (0 : Int) (0 : Int) (0 : Int)) (0 : Int) (0 : Int) []) [] (End.mk (0 : Int) (0 : Int) Bool.false Bool.false (0 : Int) (0 : Int) (Queue.mk [] (0 : Int) (0 : Int)) (0 : Int) (0 : Int)) [] [] [] [] [] (0 : Int) Bool.false), (r2.1, ()))
    else
      if ((((List.length p2.plan) : Nat) : Int) == (0 : Int)) then
        some ((Site.mk (0 : Int) (Disk.mk [] []) (Meta.mk (Super.mk (0 : Int) (0 : Int) (0 : Int)) (0 : Int) (0 : Int) []) [] (End.mk (0 : Int) (0 : Int) Bool.false Bool.false (0 : Int) (0 : Int) (Queue.mk [] (0 : Int) (0 : Int)) (0 : Int) (0 : Int)) [] [] [] [] [] (0 : Int) Bool.false), ((6 : Int), ()))
      else
        Option.bind (N_act_Twin (p2, ())) fun r3 =>
          if (decide (((0 : Int) ≤ (0 : Int)) ∧ ((0 : Int) < (((List.length r3.1.plan) : Nat) : Int)))) then
          if (decide (((0 : Int) ≤ (1 : Int)) ∧ (((1 : Int) ≤ (((List.length r3.1.plan) : Nat) : Int)) ∧ (((((List.length r3.1.plan) : Nat) : Int) ≤ (((List.length r3.1.plan) : Nat) : Int)) ∧ ((((List.length r3.1.plan) : Nat) : Int) ≤ (((List.length r3.1.plan) : Nat) : Int)))))) then
          if ((nth r3.1.plan (Int.toNat (0 : Int))).kind == (1 : Int)) then
            if ((((List.length r3.1.disk.cache) : Nat) : Int) == (64 : Int)) then
              Option.bind (N_disk_Flush (r3.1.disk, ())) fun r4 =>
                Option.bind (N_disk_Write (r4.1, ((nth r3.1.plan (Int.toNat (0 : Int))).at_, ((nth r3.1.plan (Int.toNat (0 : Int))).bytes, ())))) fun r5 =>
                  some ((Site.mk r3.1.id r5.1 r3.1.met r3.1.sides r3.1.end_ (List.take ((Int.toNat (((List.length r3.1.plan) : Nat) : Int)) - (Int.toNat (1 : Int))) (List.drop (Int.toNat (1 : Int)) r3.1.plan)) r3.1.mail r3.1.asks r3.1.replies r3.1.syncs r3.1.born r3.1.ready), ((0 : Int), ()))
            else
              Option.bind (N_disk_Write (r3.1.disk, ((nth r3.1.plan (Int.toNat (0 : Int))).at_, ((nth r3.1.plan (Int.toNat (0 : Int))).bytes, ())))) fun r4 =>
                some ((Site.mk r3.1.id r4.1 r3.1.met r3.1.sides r3.1.end_ (List.take ((Int.toNat (((List.length r3.1.plan) : Nat) : Int)) - (Int.toNat (1 : Int))) (List.drop (Int.toNat (1 : Int)) r3.1.plan)) r3.1.mail r3.1.asks r3.1.replies r3.1.syncs r3.1.born r3.1.ready), ((0 : Int), ()))
          else
            if ((nth r3.1.plan (Int.toNat (0 : Int))).kind == (2 : Int)) then
              Option.bind (N_disk_Flush (r3.1.disk, ())) fun r4 =>
                some ((Site.mk r3.1.id r4.1 r3.1.met r3.1.sides r3.1.end_ (List.take ((Int.toNat (((List.length r3.1.plan) : Nat) : Int)) - (Int.toNat (1 : Int))) (List.drop (Int.toNat (1 : Int)) r3.1.plan)) r3.1.mail r3.1.asks r3.1.replies r3.1.syncs r3.1.born r3.1.ready), ((0 : Int), ()))
            else
              if ((nth r3.1.plan (Int.toNat (0 : Int))).kind == (3 : Int)) then
                if (!r3.1.end_.up) then
                  some ((Site.mk r3.1.id r3.1.disk r3.1.met r3.1.sides r3.1.end_ (List.take ((Int.toNat (((List.length r3.1.plan) : Nat) : Int)) - (Int.toNat (1 : Int))) (List.drop (Int.toNat (1 : Int)) r3.1.plan)) r3.1.mail r3.1.asks r3.1.replies r3.1.syncs r3.1.born r3.1.ready), ((0 : Int), ()))
                else
                  if (r3.1.end_.me != (nth r3.1.plan (Int.toNat (0 : Int))).me) then
                    some ((Site.mk r3.1.id r3.1.disk r3.1.met r3.1.sides r3.1.end_ (List.take ((Int.toNat (((List.length r3.1.plan) : Nat) : Int)) - (Int.toNat (1 : Int))) (List.drop (Int.toNat (1 : Int)) r3.1.plan)) r3.1.mail r3.1.asks r3.1.replies r3.1.syncs r3.1.born r3.1.ready), ((0 : Int), ()))
                  else
                    if (r3.1.end_.you != (nth r3.1.plan (Int.toNat (0 : Int))).you) then
                      some ((Site.mk r3.1.id r3.1.disk r3.1.met r3.1.sides r3.1.end_ (List.take ((Int.toNat (((List.length r3.1.plan) : Nat) : Int)) - (Int.toNat (1 : Int))) (List.drop (Int.toNat (1 : Int)) r3.1.plan)) r3.1.mail r3.1.asks r3.1.replies r3.1.syncs r3.1.born r3.1.ready), ((0 : Int), ()))
                    else
                      Option.bind (N_msg_Write ((nth r3.1.plan (Int.toNat (0 : Int))).msg, ())) fun r4 =>
                        Option.bind (N_sess_Put ((Config.mk (1 : Int) (1 : Int) (3 : Int) (1 : Int) (1 : Int) (64 : Int)), (r3.1.end_, (r4.1, ())))) fun r5 =>
                          if (r5.2.1 == (0 : Int)) then
                            some ((Site.mk r3.1.id r3.1.disk r3.1.met r3.1.sides r5.1 (List.take ((Int.toNat (((List.length r3.1.plan) : Nat) : Int)) - (Int.toNat (1 : Int))) (List.drop (Int.toNat (1 : Int)) r3.1.plan)) r3.1.mail r3.1.asks r3.1.replies r3.1.syncs r3.1.born r3.1.ready), ((0 : Int), ()))
                          else
                            Option.bind (N_ring_New ((64 : Int), ())) fun r6 =>
                              if ((4096 : Int) != (0 : Int)) then
                              if ((Int.tmod (IntKind.wrap IntKind.u32 (r3.1.end_.me + (1 : Int))) (4096 : Int)) == (0 : Int)) then
                                if (decide (((List.length r3.1.mail) + (List.length ((Mail.mk (3 : Int) (0 : Int) (0 : Int) (Msg.mk (0 : Int) (0 : Int) Bool.false (Rec.mk (0 : Int) (0 : Int) (0 : Int) (0 : Int) (0 : Int) (0 : Int) Bool.false Bool.false) (0 : Int) (0 : Int) (0 : Int) (0 : Int) (0 : Int) (0 : Int) [] [])) :: []))) ≤ big)) then
                                some ((Site.mk r3.1.id r3.1.disk r3.1.met r3.1.sides (End.mk r3.1.end_.me (0 : Int) Bool.false Bool.true (0 : Int) (0 : Int) r6.1 (0 : Int) (0 : Int)) (List.take ((Int.toNat (((List.length r3.1.plan) : Nat) : Int)) - (Int.toNat (1 : Int))) (List.drop (Int.toNat (1 : Int)) r3.1.plan)) (r3.1.mail ++ ((Mail.mk (3 : Int) (0 : Int) (0 : Int) (Msg.mk (0 : Int) (0 : Int) Bool.false (Rec.mk (0 : Int) (0 : Int) (0 : Int) (0 : Int) (0 : Int) (0 : Int) Bool.false Bool.false) (0 : Int) (0 : Int) (0 : Int) (0 : Int) (0 : Int) (0 : Int) [] [])) :: [])) r3.1.asks r3.1.replies r3.1.syncs r3.1.born r3.1.ready), ((0 : Int), ()))
                                else none
                              else
                                if (decide (((List.length r3.1.mail) + (List.length ((Mail.mk (3 : Int) (0 : Int) (0 : Int) (Msg.mk (0 : Int) (0 : Int) Bool.false (Rec.mk (0 : Int) (0 : Int) (0 : Int) (0 : Int) (0 : Int) (0 : Int) Bool.false Bool.false) (0 : Int) (0 : Int) (0 : Int) (0 : Int) (0 : Int) (0 : Int) [] [])) :: []))) ≤ big)) then
                                some ((Site.mk r3.1.id r3.1.disk r3.1.met r3.1.sides (End.mk (IntKind.wrap IntKind.u32 (r3.1.end_.me + (1 : Int))) (0 : Int) Bool.false Bool.false (0 : Int) (0 : Int) r6.1 (0 : Int) (0 : Int)) (List.take ((Int.toNat (((List.length r3.1.plan) : Nat) : Int)) - (Int.toNat (1 : Int))) (List.drop (Int.toNat (1 : Int)) r3.1.plan)) (r3.1.mail ++ ((Mail.mk (3 : Int) (0 : Int) (0 : Int) (Msg.mk (0 : Int) (0 : Int) Bool.false (Rec.mk (0 : Int) (0 : Int) (0 : Int) (0 : Int) (0 : Int) (0 : Int) Bool.false Bool.false) (0 : Int) (0 : Int) (0 : Int) (0 : Int) (0 : Int) (0 : Int) [] [])) :: [])) r3.1.asks r3.1.replies r3.1.syncs r3.1.born r3.1.ready), ((0 : Int), ()))
                                else none
                              else none
              else
                if ((nth r3.1.plan (Int.toNat (0 : Int))).kind == (4 : Int)) then
                  if (decide (((List.length r3.1.replies) + (List.length ((nth r3.1.plan (Int.toNat (0 : Int))).reply :: []))) ≤ big)) then
                  some ((Site.mk r3.1.id r3.1.disk r3.1.met r3.1.sides r3.1.end_ (List.take ((Int.toNat (((List.length r3.1.plan) : Nat) : Int)) - (Int.toNat (1 : Int))) (List.drop (Int.toNat (1 : Int)) r3.1.plan)) r3.1.mail r3.1.asks (r3.1.replies ++ ((nth r3.1.plan (Int.toNat (0 : Int))).reply :: [])) r3.1.syncs r3.1.born r3.1.ready), ((0 : Int), ()))
                  else none
                else
                  if ((nth r3.1.plan (Int.toNat (0 : Int))).kind == (5 : Int)) then
                    if (decide (((List.length r3.1.syncs) + (List.length ((nth r3.1.plan (Int.toNat (0 : Int))).pair :: []))) ≤ big)) then
                    if r3.1.ready then
                      some ((Site.mk r3.1.id r3.1.disk r3.1.met r3.1.sides r3.1.end_ (List.take ((Int.toNat (((List.length r3.1.plan) : Nat) : Int)) - (Int.toNat (1 : Int))) (List.drop (Int.toNat (1 : Int)) r3.1.plan)) r3.1.mail r3.1.asks r3.1.replies (r3.1.syncs ++ ((nth r3.1.plan (Int.toNat (0 : Int))).pair :: [])) r3.1.born Bool.true), ((0 : Int), ()))
                    else
                      some ((Site.mk r3.1.id r3.1.disk r3.1.met r3.1.sides r3.1.end_ (List.take ((Int.toNat (((List.length r3.1.plan) : Nat) : Int)) - (Int.toNat (1 : Int))) (List.drop (Int.toNat (1 : Int)) r3.1.plan)) r3.1.mail r3.1.asks r3.1.replies (r3.1.syncs ++ ((nth r3.1.plan (Int.toNat (0 : Int))).pair :: [])) r3.1.born ((nth r3.1.plan (Int.toNat (0 : Int))).kind == (6 : Int))), ((0 : Int), ()))
                    else none
                  else
                    if r3.1.ready then
                      some ((Site.mk r3.1.id r3.1.disk r3.1.met r3.1.sides r3.1.end_ (List.take ((Int.toNat (((List.length r3.1.plan) : Nat) : Int)) - (Int.toNat (1 : Int))) (List.drop (Int.toNat (1 : Int)) r3.1.plan)) r3.1.mail r3.1.asks r3.1.replies r3.1.syncs r3.1.born Bool.true), ((0 : Int), ()))
                    else
                      some ((Site.mk r3.1.id r3.1.disk r3.1.met r3.1.sides r3.1.end_ (List.take ((Int.toNat (((List.length r3.1.plan) : Nat) : Int)) - (Int.toNat (1 : Int))) (List.drop (Int.toNat (1 : Int)) r3.1.plan)) r3.1.mail r3.1.asks r3.1.replies r3.1.syncs r3.1.born ((nth r3.1.plan (Int.toNat (0 : Int))).kind == (6 : Int))), ((0 : Int), ()))
          else none
          else none
noncomputable def D_law21_two  : Option (Config × Unit) :=
  some ((Config.mk (2 : Int) (9 : Int) (4 : Int) (2 : Int) (2 : Int) (8 : Int)), ())
noncomputable def D_law21_blank  : Option (Site × (Bool × Unit)) :=
  Option.bind (N_law21_two ()) fun r0 =>
    Option.bind (N_place_Sectors (r0.1, ())) fun r1 =>
      Option.bind (N_disk_New (r1.1, ())) fun r2 =>
        Option.bind (N_sess_New ((1 : Int), ())) fun r3 =>
          Option.bind (N_law21_two ()) fun r4 =>
            Option.bind (N_act_Side (r4.1, ())) fun r5 =>
              if (r1.2.1 == (0 : Int)) then
                if (r2.2.1 == (0 : Int)) then
                  if (r3.2.1 == (0 : Int)) then
                    some ((Site.mk (0 : Int) r2.1 (Meta.mk (Super.mk (0 : Int) (0 : Int) (0 : Int)) (0 : Int) (0 : Int) []) (r5.1 :: (r5.1 :: [])) r3.1 [] [] [] [] [] (0 : Int) Bool.false), ((r5.2.1 == (0 : Int)), ()))
                  else
                    some ((Site.mk (0 : Int) r2.1 (Meta.mk (Super.mk (0 : Int) (0 : Int) (0 : Int)) (0 : Int) (0 : Int) []) (r5.1 :: (r5.1 :: [])) r3.1 [] [] [] [] [] (0 : Int) Bool.false), (Bool.false, ()))
                else
                  some ((Site.mk (0 : Int) r2.1 (Meta.mk (Super.mk (0 : Int) (0 : Int) (0 : Int)) (0 : Int) (0 : Int) []) (r5.1 :: (r5.1 :: [])) r3.1 [] [] [] [] [] (0 : Int) Bool.false), (Bool.false, ()))
              else
                some ((Site.mk (0 : Int) r2.1 (Meta.mk (Super.mk (0 : Int) (0 : Int) (0 : Int)) (0 : Int) (0 : Int) []) (r5.1 :: (r5.1 :: [])) r3.1 [] [] [] [] [] (0 : Int) Bool.false), (Bool.false, ()))
noncomputable def D_law21_alive  : Option (Bool × Unit) :=
  Option.bind (N_law21_blank ()) fun r0 =>
    Option.bind (N_law21_two ()) fun r1 =>
      Option.bind (N_act_Do (r1.1, ((Site.mk r0.1.id r0.1.disk r0.1.met r0.1.sides r0.1.end_ ((Act.mk (4 : Int) (0 : Int) [] (0 : Int) (0 : Int) (Msg.mk (0 : Int) (0 : Int) Bool.false (Rec.mk (0 : Int) (0 : Int) (0 : Int) (0 : Int) (0 : Int) (0 : Int) Bool.false Bool.false) (0 : Int) (0 : Int) (0 : Int) (0 : Int) (0 : Int) (0 : Int) [] []) (Reply.mk (3 : Int) (9 : Int) (0 : Int) []) (0 : Int)) :: ((Act.mk (3 : Int) (0 : Int) [] (4096 : Int) (0 : Int) (Msg.mk (1 : Int) (0 : Int) Bool.false (Rec.mk (0 : Int) (0 : Int) (0 : Int) (0 : Int) (0 : Int) (0 : Int) Bool.false Bool.false) (0 : Int) (0 : Int) (0 : Int) (0 : Int) (0 : Int) (0 : Int) [] []) (Reply.mk (0 : Int) (0 : Int) (0 : Int) []) (0 : Int)) :: [])) r0.1.mail r0.1.asks r0.1.replies r0.1.syncs r0.1.born r0.1.ready), ()))) fun r2 =>
        Option.bind (N_law21_two ()) fun r3 =>
          Option.bind (N_act_Do (r3.1, (r2.1, ()))) fun r4 =>
            Option.bind (N_law21_two ()) fun r5 =>
              Option.bind (N_act_Do (r5.1, (r4.1, ()))) fun r6 =>
                if r0.2.1 then
                  if (r2.2.1 == (0 : Int)) then
                    if ((((List.length r2.1.replies) : Nat) : Int) == (1 : Int)) then
                      if (decide (((0 : Int) ≤ (0 : Int)) ∧ ((0 : Int) < (((List.length r2.1.replies) : Nat) : Int)))) then
                      if ((nth r2.1.replies (Int.toNat (0 : Int))).ask == (3 : Int)) then
                        if ((((List.length r2.1.plan) : Nat) : Int) == (1 : Int)) then
                          if (r4.2.1 == (0 : Int)) then
                            if ((((List.length r4.1.plan) : Nat) : Int) == (0 : Int)) then
                              some ((r6.2.1 == (6 : Int)), ())
                            else
                              some (Bool.false, ())
                          else
                            some (Bool.false, ())
                        else
                          some (Bool.false, ())
                      else
                        some (Bool.false, ())
                      else none
                    else
                      some (Bool.false, ())
                  else
                    some (Bool.false, ())
                else
                  some (Bool.false, ())
noncomputable def D_law21_ActNames_t1 (r1 : (Site × (Bool × Unit))) (r2 : (Site × (Int × Unit))) (r3 : (Site × (Int × Unit))) (l4 : (Bool × (Int × (Int × (Site × (Bool × (Int × Unit))))))) : Option (Bool × Unit) :=
    Option.bind (N_law21_two ()) fun r5 =>
    Option.bind (N_act_Do (r5.1, ((Site.mk l4.2.2.2.1.id l4.2.2.2.1.disk l4.2.2.2.1.met l4.2.2.2.1.sides l4.2.2.2.1.end_ ((Act.mk (3 : Int) (0 : Int) [] (4096 : Int) (4096 : Int) (Msg.mk (1 : Int) (0 : Int) Bool.false (Rec.mk (0 : Int) (0 : Int) (0 : Int) (0 : Int) (0 : Int) (0 : Int) Bool.false Bool.false) (0 : Int) (0 : Int) (0 : Int) (0 : Int) (0 : Int) (0 : Int) [] []) (Reply.mk (0 : Int) (0 : Int) (0 : Int) []) (0 : Int)) :: []) l4.2.2.2.1.mail l4.2.2.2.1.asks l4.2.2.2.1.replies l4.2.2.2.1.syncs l4.2.2.2.1.born l4.2.2.2.1.ready), ()))) fun r6 =>
      Option.bind (N_law21_alive ()) fun r7 =>
        if r7.1 then
          if l4.1 then
            Option.bind (N_law21_two ()) fun r8 =>
              Option.bind (N_act_Check (r8.1, ((Site.mk (2 : Int) r1.1.disk r1.1.met r1.1.sides r1.1.end_ r1.1.plan r1.1.mail r1.1.asks r1.1.replies r1.1.syncs r1.1.born r1.1.ready), ()))) fun r9 =>
                if (r9.1 == (8 : Int)) then
                  Option.bind (N_law21_two ()) fun r10 =>
                    Option.bind (N_act_Check (r10.1, ((Site.mk r1.1.id r1.1.disk r1.1.met [] r1.1.end_ r1.1.plan r1.1.mail r1.1.asks r1.1.replies r1.1.syncs r1.1.born r1.1.ready), ()))) fun r11 =>
                      if (r11.1 == (8 : Int)) then
                        Option.bind (N_law21_two ()) fun r12 =>
                          Option.bind (N_act_Check (r12.1, ((Site.mk r1.1.id r1.1.disk r1.1.met r1.1.sides r1.1.end_ ((Act.mk (7 : Int) (0 : Int) [] (0 : Int) (0 : Int) (Msg.mk (0 : Int) (0 : Int) Bool.false (Rec.mk (0 : Int) (0 : Int) (0 : Int) (0 : Int) (0 : Int) (0 : Int) Bool.false Bool.false) (0 : Int) (0 : Int) (0 : Int) (0 : Int) (0 : Int) (0 : Int) [] []) (Reply.mk (0 : Int) (0 : Int) (0 : Int) []) (0 : Int)) :: []) r1.1.mail r1.1.asks r1.1.replies r1.1.syncs r1.1.born r1.1.ready), ()))) fun r13 =>
                            if (r13.1 == (8 : Int)) then
                              Option.bind (N_law21_two ()) fun r14 =>
                                Option.bind (N_act_Check (r14.1, ((Site.mk r1.1.id r1.1.disk r1.1.met r1.1.sides r1.1.end_ r1.1.plan ((Mail.mk (0 : Int) (0 : Int) (0 : Int) (Msg.mk (0 : Int) (0 : Int) Bool.false (Rec.mk (0 : Int) (0 : Int) (0 : Int) (0 : Int) (0 : Int) (0 : Int) Bool.false Bool.false) (0 : Int) (0 : Int) (0 : Int) (0 : Int) (0 : Int) (0 : Int) [] [])) :: []) r1.1.asks r1.1.replies r1.1.syncs r1.1.born r1.1.ready), ()))) fun r15 =>
                                  if (r15.1 == (8 : Int)) then
                                    if (l4.2.1 == (0 : Int)) then
                                      if ((((List.length r2.1.syncs) : Nat) : Int) == (1 : Int)) then
                                        if (decide (((0 : Int) ≤ (0 : Int)) ∧ ((0 : Int) < (((List.length r2.1.syncs) : Nat) : Int)))) then
                                        if ((nth r2.1.syncs (Int.toNat (0 : Int))) == (1 : Int)) then
                                          if (l4.2.2.1 == (0 : Int)) then
                                            if r3.1.ready then
                                              if l4.2.2.2.2.1 then
                                                if (r6.2.1 == (0 : Int)) then
                                                  if ((((List.length r6.1.mail) : Nat) : Int) == (1 : Int)) then
                                                    if (decide (((0 : Int) ≤ (0 : Int)) ∧ ((0 : Int) < (((List.length r6.1.mail) : Nat) : Int)))) then
                                                    if ((nth r6.1.mail (Int.toNat (0 : Int))).kind == (3 : Int)) then
                                                      if (r6.1.end_.me == (4097 : Int)) then
                                                        if (!r6.1.end_.up) then
                                                          some ((r6.1.end_.sent == (0 : Int)), ())
                                                        else
                                                          some (Bool.false, ())
                                                      else
                                                        some (Bool.false, ())
                                                    else
                                                      some (Bool.false, ())
                                                    else none
                                                  else
                                                    some (Bool.false, ())
                                                else
                                                  some (Bool.false, ())
                                              else
                                                some (Bool.false, ())
                                            else
                                              some (Bool.false, ())
                                          else
                                            some (Bool.false, ())
                                        else
                                          some (Bool.false, ())
                                        else none
                                      else
                                        some (Bool.false, ())
                                    else
                                      some (Bool.false, ())
                                  else
                                    some (Bool.false, ())
                            else
                              some (Bool.false, ())
                      else
                        some (Bool.false, ())
                else
                  some (Bool.false, ())
          else
            some (Bool.false, ())
        else
          some (Bool.false, ())
noncomputable def D_law21_ActNames_l2 (r1 : (Site × (Bool × Unit))) (r2 : (Site × (Int × Unit))) (r3 : (Site × (Int × Unit))) (l4 : (Bool × (Int × (Int × (Site × (Bool × (Int × Unit))))))) : Option ((Bool × (Int × (Int × (Site × (Bool × (Int × Unit)))))) ⊕ (Bool × Unit)) :=
    if (decide (l4.2.2.2.2.2.1 < (64 : Int))) then
    Option.bind (N_law21_two ()) fun r5 =>
      Option.bind (N_sess_Put (r5.1, (l4.2.2.2.1.end_, (((1 : Int) :: []), ())))) fun r6 =>
        if (r6.2.1 != (0 : Int)) then
          some (Sum.inr (Bool.false, ()))
        else
          some (Sum.inl (l4.1, (l4.2.1, (l4.2.2.1, ((Site.mk l4.2.2.2.1.id l4.2.2.2.1.disk l4.2.2.2.1.met l4.2.2.2.1.sides r6.1 l4.2.2.2.1.plan l4.2.2.2.1.mail l4.2.2.2.1.asks l4.2.2.2.1.replies l4.2.2.2.1.syncs l4.2.2.2.1.born l4.2.2.2.1.ready), (l4.2.2.2.2.1, ((IntKind.wrap IntKind.i64 (l4.2.2.2.2.2.1 + (1 : Int))), ())))))))
  else
    Option.map Sum.inr (D_law21_ActNames_t1 r1 r2 r3 l4)
noncomputable def D_law21_ActNames  : Option (Bool × Unit) :=
  Option.bind (N_law21_blank ()) fun r0 =>
    Option.bind (N_law21_two ()) fun r1 =>
      Option.bind (N_act_Do (r1.1, ((Site.mk r0.1.id r0.1.disk r0.1.met r0.1.sides r0.1.end_ ((Act.mk (5 : Int) (0 : Int) [] (0 : Int) (0 : Int) (Msg.mk (0 : Int) (0 : Int) Bool.false (Rec.mk (0 : Int) (0 : Int) (0 : Int) (0 : Int) (0 : Int) (0 : Int) Bool.false Bool.false) (0 : Int) (0 : Int) (0 : Int) (0 : Int) (0 : Int) (0 : Int) [] []) (Reply.mk (0 : Int) (0 : Int) (0 : Int) []) (1 : Int)) :: ((Act.mk (6 : Int) (0 : Int) [] (0 : Int) (0 : Int) (Msg.mk (0 : Int) (0 : Int) Bool.false (Rec.mk (0 : Int) (0 : Int) (0 : Int) (0 : Int) (0 : Int) (0 : Int) Bool.false Bool.false) (0 : Int) (0 : Int) (0 : Int) (0 : Int) (0 : Int) (0 : Int) [] []) (Reply.mk (0 : Int) (0 : Int) (0 : Int) []) (0 : Int)) :: [])) r0.1.mail r0.1.asks r0.1.replies r0.1.syncs r0.1.born r0.1.ready), ()))) fun r2 =>
        Option.bind (N_law21_two ()) fun r3 =>
          Option.bind (N_act_Do (r3.1, (r2.1, ()))) fun r4 =>
            Option.bind (N_law21_blank ()) fun r5 =>
              loopO (D_law21_ActNames_l2 r0 r2 r4) (r0.2.1, (r2.2.1, (r4.2.1, ((Site.mk r5.1.id r5.1.disk r5.1.met r5.1.sides (End.mk r5.1.end_.me (4096 : Int) Bool.true r5.1.end_.dead r5.1.end_.sent r5.1.end_.done r5.1.end_.out r5.1.end_.got r5.1.end_.quiet) r5.1.plan r5.1.mail r5.1.asks r5.1.replies r5.1.syncs r5.1.born r5.1.ready), (r5.2.1, ((0 : Int), ()))))))
noncomputable def D_law21_ActEnds_t1 (p1 : Config) (p2 : Site) (l1 : (Bool × (Site × (Int × Unit)))) : Option (Bool × Unit) :=
    Option.bind (N_act_Do (p1, (l1.2.1, ()))) fun r2 =>
    Option.bind (N_ref21_Twin (p2, ())) fun r3 =>
      if l1.1 then
        if (r2.2.1 == (6 : Int)) then
          Option.bind (N_ref21_Same (l1.2.1, ((Site.mk r3.1.id l1.2.1.disk r3.1.met r3.1.sides l1.2.1.end_ [] l1.2.1.mail r3.1.asks l1.2.1.replies l1.2.1.syncs r3.1.born l1.2.1.ready), ()))) fun r4 =>
            some (r4.1, ())
        else
          some (Bool.false, ())
      else
        some (Bool.false, ())
noncomputable def D_law21_ActEnds_l2 (p1 : Config) (p2 : Site) (l1 : (Bool × (Site × (Int × Unit)))) : Option ((Bool × (Site × (Int × Unit))) ⊕ (Bool × Unit)) :=
    if (decide (l1.2.2.1 < (((List.length p2.plan) : Nat) : Int))) then
    Option.bind (N_act_Do (p1, (l1.2.1, ()))) fun r2 =>
      if (r2.2.1 != (0 : Int)) then
        some (Sum.inr (Bool.false, ()))
      else
        Option.bind (N_act_Check (p1, (r2.1, ()))) fun r3 =>
          if (r3.1 != (0 : Int)) then
            some (Sum.inr (Bool.false, ()))
          else
            if ((((List.length r2.1.plan) : Nat) : Int) != (IntKind.wrap IntKind.i64 ((((List.length l1.2.1.plan) : Nat) : Int) - (1 : Int)))) then
              some (Sum.inr (Bool.false, ()))
            else
              if (decide ((IntKind.wrap IntKind.i64 ((((List.length r2.1.replies) : Nat) : Int) + (((List.length r2.1.syncs) : Nat) : Int))) > (IntKind.wrap IntKind.i64 ((IntKind.wrap IntKind.i64 ((((List.length l1.2.1.replies) : Nat) : Int) + (((List.length l1.2.1.syncs) : Nat) : Int))) + (1 : Int))))) then
                some (Sum.inr (Bool.false, ()))
              else
                if (decide ((((List.length r2.1.replies) : Nat) : Int) < (((List.length l1.2.1.replies) : Nat) : Int))) then
                  some (Sum.inr (Bool.false, ()))
                else
                  if (decide ((((List.length r2.1.syncs) : Nat) : Int) < (((List.length l1.2.1.syncs) : Nat) : Int))) then
                    some (Sum.inr (Bool.false, ()))
                  else
                    if l1.2.1.ready then
                      if (!r2.1.ready) then
                        some (Sum.inr (Bool.false, ()))
                      else
                        some (Sum.inl (l1.1, (r2.1, ((IntKind.wrap IntKind.i64 (l1.2.2.1 + (1 : Int))), ()))))
                    else
                      some (Sum.inl (l1.1, (r2.1, ((IntKind.wrap IntKind.i64 (l1.2.2.1 + (1 : Int))), ()))))
  else
    Option.map Sum.inr (D_law21_ActEnds_t1 p1 p2 l1)
noncomputable def D_law21_ActEnds (p1 : Config) (p2 : Site) : Option (Bool × Unit) :=
  Option.bind (N_law21_alive ()) fun r2 =>
    Option.bind (N_ref21_Great (p2, ())) fun r3 =>
      if r3.1 then
        some (r2.1, ())
      else
        Option.bind (N_act_Check (p1, (p2, ()))) fun r4 =>
          if (r4.1 != (0 : Int)) then
            some (r2.1, ())
          else
            if (!r2.1) then
              some (r2.1, ())
            else
              loopO (D_law21_ActEnds_l2 p1 p2) (r2.1, (p2, ((0 : Int), ())))
end Go.Cat

set_option linter.unusedVariables false
set_option linter.unusedSimpArgs false
namespace Go.Cat
open Go
theorem flat_len {l : List (List Int)} (h : ∀ b ∈ l, b.length ≤ 1000000) : l.flatten.length ≤ l.length * 1000000 := by
  induction l with
  | nil => simp
  | cons a l ih =>
    have h1 := h a List.mem_cons_self
    have h2 := ih fun b hb => h b (List.mem_cons_of_mem _ hb)
    simp only [List.flatten_cons, List.length_append, List.length_cons]
    omega
theorem flat_take {l : List (List Int)} {k : Nat} (hk : k < l.length) : (l.take (k + 1)).flatten = (l.take k).flatten ++ l[k] := by
  rw [← take_succ_len hk, List.flatten_append]; simp
theorem P_slices_Concat (l : List (List Int)) (h1 : l.length ≤ 16) (h2 : ∀ b ∈ l, b.length ≤ 1000000) : D_slices_Concat_byte_byte l = some (l.flatten, ()) := by
  have hb := big_eq
  have hlen : ∀ k, (l.take k).flatten.length ≤ 16000000 := by
    intro k
    have := flat_len (l := l.take k) fun b hb => h2 b (List.mem_of_mem_take hb)
    have hl : (l.take k).length ≤ 16 := by rw [List.length_take]; omega
    omega
  have hs : loopO D_slices_Concat_byte_byte_l1 ([], (l, ((l.length : Int), ((0 : Int), ())))) = some (l.flatten, ()) := by
    refine loopO_for (step := D_slices_Concat_byte_byte_l1) (fun k => ((l.take k).flatten, (l, ((l.length : Int), ((k : Int), ()))))) l.length _ (fun k hk => ?_) ?_
    · have hd : decide ((k : Int) < (l.length : Int)) = true := by simp; omega
      have hd2 : decide ((0 : Int) ≤ (k : Int) ∧ (k : Int) < (l.length : Int)) = true := by simp; omega
      have q1 := hlen k
      have q2 := h2 _ (List.getElem_mem hk)
      have hd3 : decide ((l.take k).flatten.length + l[k].length ≤ big) = true := by simp only [decide_eq_true_eq]; omega
      simp only [D_slices_Concat_byte_byte_l1, hd, hd2, if_true, wrap_succ (k := k) (by rw [maxLen_eq]; omega), Int.toNat_natCast, nth_lt hk, hd3, flat_take hk]
    · have hd : ¬ (decide ((l.length : Int) < (l.length : Int)) = true) := by simp
      simp only [D_slices_Concat_byte_byte_l1, hd, List.take_length]
      rfl
  unfold D_slices_Concat_byte_byte
  refine loopO_for (step := D_slices_Concat_byte_byte_l3) (fun k => (l, (((l.take k).flatten.length : Int), (l, ((l.length : Int), ((k : Int), ())))))) l.length _ (fun k hk => ?_) ?_
  · have hd : decide ((k : Int) < (l.length : Int)) = true := by simp; omega
    have hd2 : decide ((0 : Int) ≤ (k : Int) ∧ (k : Int) < (l.length : Int)) = true := by simp; omega
    have q1 := hlen k
    have q2 := h2 _ (List.getElem_mem hk)
    have hw : IntKind.wrap .i64 (((l.take k).flatten.length : Int) + (l[k].length : Int)) = ((l.take (k + 1)).flatten.length : Int) := by
      rw [wrap_i64 (by omega) (by omega), flat_take hk, List.length_append]; omega
    have hd3 : ¬ (decide ((((l.take (k + 1)).flatten.length : Nat) : Int) < 0) = true) := by simp
    simp only [D_slices_Concat_byte_byte_l3, hd, hd2, if_true, wrap_succ (k := k) (by rw [maxLen_eq]; omega), Int.toNat_natCast, nth_lt hk, hw, hd3, if_false, Bool.false_eq_true]
  · have hd : ¬ (decide ((l.length : Int) < (l.length : Int)) = true) := by simp
    have q1 := hlen l.length
    rw [List.take_length] at q1
    have hw0 : IntKind.wrap .i64 ((0 : Int) - 0) = 0 := by decide
    have hw : IntKind.wrap .i64 ((l.flatten.length : Int) - 0) = (l.flatten.length : Int) := by rw [wrap_i64 (by omega) (by omega)]; omega
    have hd3 : ¬ (decide (((l.flatten.length : Nat) : Int) < 0) = true) := by simp
    have hd4 : decide (((0 : Int) ≤ (0 : Int)) ∧ (((0 : Int) ≤ (0 : Int)) ∧ (((0 : Int) ≤ (0 : Int)) ∧ ((0 : Int) ≤ (0 : Int))))) = true := by decide
    have hd5 : decide ((0 : Int) ≤ (l.flatten.length : Int) ∧ (l.flatten.length : Int) ≤ (big : Int)) = true := by simp only [decide_eq_true_eq]; omega
    simp only [D_slices_Concat_byte_byte_l3, hd, D_slices_Concat_byte_byte_t2, List.take_length, hw0, hw, hd3, hd4, hd5, hs, if_true, if_false, Bool.false_eq_true, ite_self]
theorem and_low {n : Nat} (h : n < 4294967296) : ibits .and .u64 (n : Int) 4294967295 = (n : Int) := by
  show IntKind.wrap .u64 (((BitVec.ofInt 64 (n : Int) &&& BitVec.ofInt 64 4294967295).toNat : Nat) : Int) = _
  have e1 : (BitVec.ofInt 64 (n : Int)).toNat = n := by rw [BitVec.toNat_ofInt]; omega
  have e2 : (BitVec.ofInt 64 4294967295).toNat = 2 ^ 32 - 1 := by decide
  rw [BitVec.toNat_and, e1, e2, Nat.and_two_pow_sub_one_eq_mod, Nat.mod_eq_of_lt h]
  exact wrap_u64 (by omega) (by omega)
theorem shr32 {n : Nat} (h : n < 4294967296) : shrI .u64 (n : Int) 32 = 0 := by
  unfold shrI
  have e : ((2 : Int) ^ (min (Int.toNat 32) (IntKind.bits .u64))) = 4294967296 := by decide
  rw [e, Int.fdiv_eq_ediv_of_nonneg _ (by decide)]
  omega
def rowM (v : Int) (n m : Nat) : List Int := List.replicate m v ++ List.replicate (n - m) 0
theorem rep_loop (v : Int) (n : Nat) (hn : n ≤ 1000) : ∀ d m : Nat, n - m ≤ d → m ≤ n → (1 ≤ m ∨ n = 0) → loopO D_slices_Repeat_uint8_uint8_l1 (rowM v n m, ((m : Int), ())) = some (List.replicate n v, ()) := by
  have hlen : ∀ m, m ≤ n → (rowM v n m).length = n := by intro m hm; simp [rowM]; omega
  intro d
  induction d with
  | zero =>
    intro m h1 h2 _
    have : m = n := by omega
    subst this
    refine loopO_exit ?_
    have hd : ¬ (decide ((m : Int) < ((rowM v m m).length : Int)) = true) := by rw [hlen m (Nat.le_refl _)]; simp
    simp only [D_slices_Repeat_uint8_uint8_l1, hd]
    simp [rowM]
  | succ d ih =>
    intro m h1 h2 h3
    by_cases he : m = n
    · exact ih m (by omega) h2 h3
    · have hm : 1 ≤ m := by omega
      have hmn : m < n := by omega
      have hstep : D_slices_Repeat_uint8_uint8_l1 (rowM v n m, ((m : Int), ())) = some (.inl (rowM v n (m + min m (n - m)), (((m + min m (n - m) : Nat) : Int), ()))) := by
        have hl := hlen m h2
        have hd : decide ((m : Int) < (n : Int)) = true := by simp; omega
        have hg : decide (((0 : Int) ≤ (m : Int)) ∧ (((m : Int) ≤ (n : Int)) ∧ (((n : Int) ≤ (n : Int)) ∧ ((n : Int) ≤ (n : Int))))) = true := by simp; omega
        have hg2 : decide (((0 : Int) ≤ (0 : Int)) ∧ (((0 : Int) ≤ (m : Int)) ∧ (((m : Int) ≤ (n : Int)) ∧ ((n : Int) ≤ (n : Int))))) = true := by simp; omega
        have t1 : (rowM v n m).take m = List.replicate m v := by simp [rowM]
        have hw : IntKind.wrap .i64 ((m : Int) + ((min m (n - m) : Nat) : Int)) = ((m + min m (n - m) : Nat) : Int) := by
          rw [wrap_i64 (by omega) (by omega)]; omega
        have t3 : (rowM v n m).drop (m + min m (n - m)) = List.replicate (n - (m + min m (n - m))) 0 := by
          rw [rowM, List.drop_append, List.drop_replicate, List.drop_replicate, List.length_replicate]
          have : m - (m + min m (n - m)) = 0 := by omega
          rw [this]
          simp only [List.replicate_zero, List.nil_append]
          congr 1; omega
        have t4 : List.replicate m v ++ (List.replicate m v).take (n - m) ++ List.replicate (n - (m + min m (n - m))) 0 = rowM v n (m + min m (n - m)) := by
          rw [rowM, List.take_replicate, List.replicate_append_replicate, Nat.min_comm (n - m) m]
        simp only [D_slices_Repeat_uint8_uint8_l1, hl, hd, hg, hg2, if_true, Int.toNat_natCast, Int.toNat_zero, List.drop_zero, Nat.sub_zero, t1, List.length_replicate, t3, hw, t4]
      rw [loopO_inl hstep]
      exact ih _ (by omega) (by omega) (by omega)
theorem P_slices_Repeat (v : Int) (n : Nat) (hn : n ≤ 1000) : D_slices_Repeat_uint8_uint8 [v] (n : Int) = some (List.replicate n v, ()) := by
  have hb := big_eq
  have hl : (([v] : List Int).length : Int) = 1 := rfl
  have w1 : IntKind.wrap .u64 1 = 1 := by decide
  have w0 : IntKind.wrap .u64 0 = 0 := by decide
  have s1 : shrI .u64 1 32 = 0 := by decide
  have s0 : shrI .u64 0 32 = 0 := by decide
  have a1 : ibits .and .u64 1 4294967295 = 1 := by decide
  have a0 : ibits .and .u64 0 4294967295 = 0 := by decide
  have wn : IntKind.wrap .u64 (n : Int) = (n : Int) := wrap_u64 (by omega) (by omega)
  have win : IntKind.wrap .i64 (n : Int) = (n : Int) := wrap_i64 (by omega) (by omega)
  have sn := shr32 (n := n) (by omega)
  have an := and_low (n := n) (by omega)
  have hd : ¬ (decide ((n : Int) < 0) = true) := by simp
  have hd2 : ¬ (decide ((n : Int) > 9223372036854775807) = true) := by simp; omega
  have hd0 : decide ((0 : Int) ≤ 32) = true := by decide
  have hd3 : ¬ (decide ((0 : Int) > 0) = true) := by decide
  have hd4 : decide (((0 : Int) ≤ (n : Int)) ∧ (((n : Int) ≤ (n : Int)) ∧ ((n : Int) ≤ (big : Int)))) = true := by simp only [decide_eq_true_eq]; omega
  have hrow : (List.take (List.replicate n (0 : Int)).length [v] ++ List.drop (min [v].length (List.replicate n (0 : Int)).length) (List.replicate n (0 : Int))) = rowM v n (min 1 n) := by
    rw [rowM, List.length_replicate, List.drop_replicate]
    rcases Nat.eq_zero_or_pos n with rfl | h
    · rfl
    · obtain ⟨k, rfl⟩ : ∃ k, n = k + 1 := ⟨n - 1, by omega⟩
      have : min 1 (k + 1) = 1 := by omega
      rw [this]
      simp
  have hmin : ((min ([v] : List Int).length (List.replicate n (0 : Int)).length : Nat) : Int) = ((min 1 n : Nat) : Int) := by rw [List.length_replicate]; rfl
  simp only [D_slices_Repeat_uint8_uint8, hl, w1, w0, s1, s0, a1, a0, wn, sn, an, win, hd, hd2, hd0, hd3, hd4, Int.mul_zero, Int.zero_mul, Int.add_zero, Int.zero_add, Int.one_mul, Int.mul_one, if_true, if_false, Bool.false_eq_true, Int.toNat_natCast, hrow, hmin]
  exact rep_loop v n hn n (min 1 n) (by omega) (by omega) (by omega)
structure MsgU (m : Msg) : Prop where
  kind : 0 ≤ m.kind ∧ m.kind ≤ 255
  op : 0 ≤ m.op ∧ m.op ≤ 255
  born : 0 ≤ m.born ∧ m.born ≤ 4294967295
  epoch : 0 ≤ m.epoch ∧ m.epoch ≤ 4294967295
  n : 0 ≤ m.n ∧ m.n ≤ 4294967295
  rec_ : RecR m.rec_
theorem okMsgU {m : Msg} (h : OkT (.st .Msg) m) : MsgU m :=
  ⟨okL_u8 (h (.int .u8 m.kind) (by simp [cells, stCells])), okL_u8 (h (.int .u8 m.op) (by simp [cells, stCells])), okL_u32 (h (.int .u32 m.born) (by simp [cells, stCells])),
   okL_u32 (h (.int .u32 m.epoch) (by simp [cells, stCells])), okL_u32 (h (.int .u32 m.n) (by simp [cells, stCells])),
   ⟨okL_u32 (h (.int .u32 m.rec_.born) (by simp [cells, stCells])), okL_u32 (h (.int .u32 m.rec_.epoch) (by simp [cells, stCells]))⟩⟩
theorem msg_bounds {m : Msg} (h : mayMsg m = true) : 0 ≤ m.pair ∧ m.pair ≤ 2 ∧ 0 ≤ m.track ∧ m.track ≤ 15 ∧ 0 ≤ m.code ∧ m.code ≤ 999 ∧ m.marks.length ≤ 2 ∧ m.bytes.length ≤ 28 ∧ (m.has = true → mayRec m.rec_ = true) := by
  simp only [mayMsg, Bool.and_eq_true, decide_eq_true_eq] at h
  obtain ⟨⟨p0, p1⟩, h⟩ := h
  by_cases hk : m.kind = 1
  · simp only [hk, if_true, Bool.and_eq_true, z, zl, beq_iff_eq] at h
    obtain ⟨⟨⟨⟨⟨⟨⟨_, _⟩, _⟩, ht⟩, _⟩, hc⟩, hb⟩, hq⟩ := h
    refine ⟨p0, p1, by omega, by omega, by omega, by omega, ?_, by omega, ?_⟩
    · by_cases hh : m.has = true
      · simp only [hh, if_true, Bool.and_eq_true, markB, Bool.or_eq_true, beq_iff_eq] at hq; omega
      · simp only [hh, Bool.false_eq_true, if_false, Bool.and_eq_true, beq_iff_eq] at hq; omega
    · intro hh
      simp only [hh, if_true, Bool.and_eq_true] at hq
      exact hq.1.1
  · simp only [hk, if_false, Bool.and_eq_true, decide_eq_true_eq, Bool.not_eq_true'] at h
    obtain ⟨⟨⟨⟨⟨⟨hhas, _⟩, _⟩, _⟩, t0⟩, t1⟩, hm⟩ := h
    have hhas' : m.has = true → mayRec m.rec_ = true := fun hh => by rw [hh] at hhas; cases hhas
    unfold mayKind at hm
    split at hm
    · simp only [Bool.and_eq_true, decide_eq_true_eq, z, zl, markB, Bool.or_eq_true, beq_iff_eq] at hm
      exact ⟨p0, p1, t0, t1, by omega, by omega, by omega, by omega, hhas'⟩
    · split at hm
      · simp only [Bool.and_eq_true, decide_eq_true_eq, z, zl, beq_iff_eq] at hm
        exact ⟨p0, p1, t0, t1, by omega, by omega, by omega, by omega, hhas'⟩
      · split at hm
        · simp only [Bool.and_eq_true, decide_eq_true_eq, z, zl, beq_iff_eq] at hm
          exact ⟨p0, p1, t0, t1, by omega, by omega, by omega, by omega, hhas'⟩
        · split at hm
          · simp only [Bool.and_eq_true, decide_eq_true_eq, z, zl, beq_iff_eq] at hm
            exact ⟨p0, p1, t0, t1, by omega, by omega, by omega, by omega, hhas'⟩
          · split at hm
            · simp only [Bool.and_eq_true, decide_eq_true_eq, z, zl, beq_iff_eq] at hm
              exact ⟨p0, p1, t0, t1, by omega, by omega, by omega, by omega, hhas'⟩
            · split at hm
              · simp only [Bool.and_eq_true, decide_eq_true_eq, z, zl, beq_iff_eq] at hm
                exact ⟨p0, p1, t0, t1, by omega, by omega, by omega, by omega, hhas'⟩
              · cases hm
theorem fits_msg (m : Msg) (hu : MsgU m) (h : mayMsg m = true) : fitsRow (msgRow m) msgSizes = true := by
  obtain ⟨p0, p1, t0, t1, c0, c1, hm, hb, _⟩ := msg_bounds h
  have k := hu.kind
  have o := hu.op
  have b := hu.born
  have e := hu.epoch
  have n := hu.n
  rw [fits_iff]
  refine ⟨rfl, by decide, fun i hi => ?_⟩
  simp only [msgRow, List.length_cons, List.length_nil] at hi
  have hh : (if m.has = true then (1 : Int) else 0) = 0 ∨ (if m.has = true then (1 : Int) else 0) = 1 := by split <;> simp
  unfold msgRow msgSizes
  generalize (if m.has = true then (1 : Int) else 0) = q at hh
  match i, hi with
  | 0, _ => refine ⟨by decide, by decide, ?_, ?_⟩ <;> simp [nth] <;> omega
  | 1, _ => refine ⟨by decide, by decide, ?_, ?_⟩ <;> simp [nth] <;> omega
  | 2, _ => refine ⟨by decide, by decide, ?_, ?_⟩ <;> simp [nth] <;> omega
  | 3, _ => refine ⟨by decide, by decide, ?_, ?_⟩ <;> simp [nth] <;> omega
  | 4, _ => refine ⟨by decide, by decide, ?_, ?_⟩ <;> simp [nth] <;> omega
  | 5, _ => refine ⟨by decide, by decide, ?_, ?_⟩ <;> simp [nth] <;> omega
  | 6, _ => refine ⟨by decide, by decide, ?_, ?_⟩ <;> simp [nth] <;> omega
  | 7, _ => refine ⟨by decide, by decide, ?_, ?_⟩ <;> simp [nth] <;> omega
  | 8, _ => refine ⟨by decide, by decide, ?_, ?_⟩ <;> simp [nth] <;> omega
  | 9, _ => refine ⟨by decide, by decide, ?_, ?_⟩ <;> simp [nth] <;> omega
  | k + 10, hk => omega
theorem row_len (m : Msg) : (rowOf (msgRow m) msgSizes).length = 20 := by
  simp [rowOf, msgRow, msgSizes, rows, be_len, nth]
theorem note_len (r : Rec) : (noteOf r).length = 14 := by
  simp [noteOf, rowOf, rows, be_len, nth]
theorem text_len {m : Msg} (h : mayMsg m = true) : 20 ≤ (textOf m).length ∧ (textOf m).length ≤ 64 := by
  obtain ⟨p0, p1, t0, t1, c0, c1, hm, hb, hr⟩ := msg_bounds h
  simp only [textOf, List.length_append, row_len]
  split
  · rename_i hh
    rw [note_len]
    have hk : m.bytes.length = 0 := by
      simp only [mayMsg, Bool.and_eq_true, decide_eq_true_eq] at h
      obtain ⟨_, h⟩ := h
      by_cases hk : m.kind = 1
      · simp only [hk, if_true, Bool.and_eq_true, z, zl, beq_iff_eq] at h
        exact h.1.2
      · simp only [hk, if_false, Bool.and_eq_true, decide_eq_true_eq, Bool.not_eq_true'] at h
        rw [hh] at h
        exact absurd h.1.1.1.1.1.1 (by decide)
    omega
  · simp only [List.length_nil]
    omega
theorem P_msg_Write (m : Msg) (hu : MsgU m) : D_msg_Write m = N_msg_Write (m, ()) := by
  cases h : mayMsg m with
  | false =>
    simp only [D_msg_Write, N_msg_Check, N_msg_Write, h, e1, Option.bind_some, Bool.false_eq_true, if_false]
    rfl
  | true =>
    obtain ⟨p0, p1, t0, t1, c0, c1, hm, hb, hr⟩ := msg_bounds h
    have k := hu.kind
    have o := hu.op
    have b := hu.born
    have e := hu.epoch
    have n := hu.n
    have hf := fits_msg m hu h
    have hl := row_len m
    have u1 := wrapu m.kind (by omega)
    have u2 := wrapu m.pair (by omega)
    have u3 := wrapu m.op (by omega)
    have u4 := wrapu m.born (by omega)
    have u5 := wrapu m.epoch (by omega)
    have u6 := wrapu m.track (by omega)
    have u7 := wrapu m.n (by omega)
    have u8 := wrapu m.code (by omega)
    have u9 := wrapu (m.marks.length : Int) (by omega)
    by_cases hh : m.has = true
    · have hrec := hr hh
      have hn := note_len m.rec_
      have hrow : msgRow m = [m.kind, m.pair, 1, m.op, m.born, m.epoch, m.track, m.n, m.code, (m.marks.length : Int)] := by simp [msgRow, hh]
      rw [hrow] at hf hl
      have hall : ([rowOf [m.kind, m.pair, 1, m.op, m.born, m.epoch, m.track, m.n, m.code, (m.marks.length : Int)] msgSizes, m.marks, noteOf m.rec_, m.bytes].all fun b => decide (b.length ≤ 1000000)) = true := by
        simp only [List.all_cons, List.all_nil, Bool.and_eq_true, decide_eq_true_eq, hl, hn, and_true]
        omega
      have h16 : ([rowOf [m.kind, m.pair, 1, m.op, m.born, m.epoch, m.track, m.n, m.code, (m.marks.length : Int)] msgSizes, m.marks, noteOf m.rec_, m.bytes]).length ≤ 16 := by simp
      simp only [D_msg_Write, N_msg_Check, N_msg_Write, h, e1, Option.bind_some, if_true, bne_self_eq_false, Bool.false_eq_true, if_false, hh, N_rec_Note, hrec, N_msg_sizes, u1, u2, u3, u4, u5, u6, u7, u8, u9, N_num_Write, hf,
        N_slices_Concat_byte_byte, hall, h16, and_self, textOf, hrow]
      simp
    · have hrow : msgRow m = [m.kind, m.pair, 0, m.op, m.born, m.epoch, m.track, m.n, m.code, (m.marks.length : Int)] := by simp [msgRow, hh]
      rw [hrow] at hf hl
      have hall : ([rowOf [m.kind, m.pair, 0, m.op, m.born, m.epoch, m.track, m.n, m.code, (m.marks.length : Int)] msgSizes, m.marks, [], m.bytes].all fun b => decide (b.length ≤ 1000000)) = true := by
        simp only [List.all_cons, List.all_nil, Bool.and_eq_true, decide_eq_true_eq, hl, List.length_nil, and_true]
        omega
      have h16 : ([rowOf [m.kind, m.pair, 0, m.op, m.born, m.epoch, m.track, m.n, m.code, (m.marks.length : Int)] msgSizes, m.marks, [], m.bytes]).length ≤ 16 := by simp
      simp only [D_msg_Write, N_msg_Check, N_msg_Write, h, e1, Option.bind_some, if_true, bne_self_eq_false, Bool.false_eq_true, if_false, hh, N_msg_sizes, u1, u2, u3, u4, u5, u6, u7, u8, u9, N_num_Write, hf,
        N_slices_Concat_byte_byte, hall, h16, and_self, textOf, hrow]
      simp
end Go.Cat

set_option linter.unusedVariables false
set_option linter.unusedSimpArgs false
namespace Go.Cat
open Go
theorem P_disk_New (n : Int) : D_disk_New n = N_disk_New (n, ()) := by
  have hb := big_eq
  simp only [D_disk_New, N_disk_New]
  by_cases h1 : n < 1
  · simp only [h1, decide_true, if_true, true_or]; rfl
  · by_cases h2 : 1024 < n
    · have hd : decide (n > 1024) = true := by simp; omega
      simp only [h1, decide_false, Bool.false_eq_true, if_false, hd, h2, if_true, or_true]; rfl
    · have hd : ¬ (decide (n > 1024) = true) := by simp; omega
      obtain ⟨m, rfl⟩ := Int.eq_ofNat_of_zero_le (by omega : 0 ≤ n)
      have hg : decide (((0 : Int) ≤ (m : Int)) ∧ (((m : Int) ≤ (m : Int)) ∧ ((m : Int) ≤ ((big : Nat) : Int)))) = true := by simp; omega
      simp only [h1, decide_false, Bool.false_eq_true, if_false, hd, h2, or_self, hg, if_true, Int.toNat_natCast, List.length_replicate]
      refine loopO_for (step := D_disk_New_l1) (fun k => ((List.replicate k (Sector.mk (List.replicate 32 0) false) ++ List.replicate (m - k) (Sector.mk [] false), ([], ())), ((m : Int), ((k : Int), ())))) m _ (fun k hk => ?_) ?_
      · have hd1 : decide ((k : Int) < (m : Int)) = true := by simp; omega
        have h32 : decide (((0 : Int) ≤ (32 : Int)) ∧ (((32 : Int) ≤ (32 : Int)) ∧ ((32 : Int) ≤ ((big : Nat) : Int)))) = true := by decide
        have hlen : (List.replicate k (Sector.mk (List.replicate 32 0) false) ++ List.replicate (m - k) (Sector.mk [] false)).length = m := by simp; omega
        have hd2 : decide ((0 : Int) ≤ (k : Int) ∧ (k : Int) < (m : Int)) = true := by simp; omega
        have hn : nth (List.replicate k (Sector.mk (List.replicate 32 0) false) ++ List.replicate (m - k) (Sector.mk [] false)) k = Sector.mk [] false := by
          rw [nth_lt (by rw [hlen]; exact hk), List.getElem_append_right (by simp)]
          simp
        have t32 : Int.toNat (32 : Int) = 32 := rfl
        have hset : (List.replicate k (Sector.mk (List.replicate 32 0) false) ++ List.replicate (m - k) (Sector.mk [] false)).set k (Sector.mk (List.replicate 32 0) false) = List.replicate (k + 1) (Sector.mk (List.replicate 32 0) false) ++ List.replicate (m - (k + 1)) (Sector.mk [] false) := by
          have e1 : m - k = (m - (k + 1)) + 1 := by omega
          have := set_mid (List.replicate k (Sector.mk (List.replicate 32 0) false)) (Sector.mk [] false) (Sector.mk (List.replicate 32 0) false) (m - (k + 1))
          rw [List.length_replicate] at this
          rw [e1, this, ← List.replicate_succ']
        simp only [D_disk_New_l1, hd1, h32, hlen, hd2, if_true, Int.toNat_natCast, hn, t32, hset, wrap_succ (k := k) (by rw [maxLen_eq]; omega)]
      · have hd1 : ¬ (decide ((m : Int) < (m : Int)) = true) := by simp
        simp only [D_disk_New_l1, hd1, Nat.sub_self, List.replicate_zero, List.append_nil]
        rfl
theorem P_disk_asked (d : Disk) (a : Int) : D_disk_asked d a = N_disk_asked (d, (a, ())) := by
  simp only [D_disk_asked, N_disk_Check, N_disk_asked, e1, Option.bind_some, e_ok]
  cases h : mayDisk d with
  | false => simp
  | true =>
    simp only [Bool.not_true, Bool.false_eq_true, if_false, if_true]
    by_cases h1 : a < 0
    · have : ¬ (0 ≤ a ∧ a < (d.sectors.length : Int)) := by omega
      simp [h1, this]
    · by_cases h2 : a ≥ (d.sectors.length : Int)
      · have : ¬ (0 ≤ a ∧ a < (d.sectors.length : Int)) := by omega
        simp only [h1, h2, decide_true, decide_false, Bool.false_eq_true, if_false, if_true, this]
      · have : 0 ≤ a ∧ a < (d.sectors.length : Int) := by omega
        simp only [h1, h2, decide_true, decide_false, Bool.false_eq_true, if_false, if_true, this, and_self]
theorem P_disk_Write (d : Disk) (a : Int) (b : List Int) (h : fitDisk d = true) : D_disk_Write d a b = N_disk_Write (d, (a, (b, ()))) := by
  have hb := big_eq
  have hc : d.cache.length ≤ 1000000 := ((fit_iff d).1 h).2.1
  have hs : ([b].all fun x => x.length == 32) = (b.length == 32) := by simp
  simp only [D_disk_Write, N_disk_asked, N_disk_Write, h, if_true, e1, Option.bind_some, writeT, N_disk_sized, b1, hs]
  cases hm : mayDisk d with
  | false => simp only [Bool.false_eq_true, if_false]; rfl
  | true =>
    simp only [if_true]
    by_cases h1 : 0 ≤ a ∧ a < (d.sectors.length : Int)
    · simp only [h1, and_self, if_true, bne_self_eq_false, Bool.false_eq_true, if_false]
      by_cases h2 : b.length = 32
      · have hbl : b.length ≤ big := by omega
        have e32 : (b.length == 32) = true := by simp [h2]
        simp only [e32, h2, Bool.not_true, Bool.false_eq_true, if_false, if_true]
        by_cases h3 : d.cache.length = 64
        · have : (((d.cache.length : Nat) : Int) == 64) = true := by rw [h3]; rfl
          simp only [this, h3, if_true]; rfl
        · have : ¬ ((((d.cache.length : Nat) : Int) == 64) = true) := by simp; omega
          have hg : ∀ x : Pend, decide (d.cache.length + [x].length ≤ big) = true := by intro x; simp; omega
          have h32 : (32 : Nat) ≤ big := by omega
          simp only [this, h3, if_false, Bool.false_eq_true, N_disk_Twin, h, if_true, Option.bind_some, N_slices_Clone_byte_byte, hbl, hg, h2, h32]; rfl
      · have e32 : (b.length == 32) = false := by simp [h2]
        simp only [e32, h2, Bool.not_false, if_true, if_false]; rfl
    · simp only [h1, if_false]; rfl
theorem P_disk_Flush (d : Disk) (h : d.cache.length ≤ 1000) : D_disk_Flush d = N_disk_Flush (d, ()) := by
  have e : N_slices_Repeat_uint8_uint8 ([1], ((d.cache.length : Int), ())) = some (List.replicate d.cache.length 1, ()) := by
    have : (0 : Int) ≤ (d.cache.length : Int) ∧ (d.cache.length : Int) ≤ 1000 := by omega
    simp only [N_slices_Repeat_uint8_uint8, List.length_singleton, this, and_self, if_true, Int.toNat_natCast]
    rfl
  simp only [D_disk_Flush, e, Option.bind_some, N_disk_Crash, N_disk_Flush, h, if_true]
  cases mayDisk d <;> rfl
theorem P_ring_New (n : Int) : D_ring_New n = N_ring_New (n, ()) := by
  have hb := big_eq
  simp only [D_ring_New, N_ring_New]
  by_cases h1 : n < 1
  · simp only [h1, decide_true, if_true, true_or]; rfl
  · by_cases h2 : 64 < n
    · have hd : decide (n > 64) = true := by simp; omega
      simp only [h1, decide_false, Bool.false_eq_true, if_false, hd, h2, if_true, or_true]; rfl
    · have hd : ¬ (decide (n > 64) = true) := by simp; omega
      have hg : decide (((0 : Int) ≤ n) ∧ ((n ≤ n) ∧ (n ≤ ((big : Nat) : Int)))) = true := by simp; omega
      simp only [h1, decide_false, Bool.false_eq_true, if_false, hd, h2, or_self, hg, if_true]
theorem P_ring_Push (q : Queue) (b : List Int) (h : fitAll q.items = true) (hb : b.length ≤ 1000000) : D_ring_Push q b = N_ring_Push (q, (b, ())) := by
  simp only [D_ring_Push, N_ring_Check, N_ring_Push, h, hb, and_self, if_true, e1, Option.bind_some, e_ok, pushT]
  cases hm : mayQueue q with
  | false => simp only [Bool.not_false, if_true, Bool.false_eq_true, if_false]; rfl
  | true =>
    obtain ⟨q1, q2, q3, q4, q5, q6, q7⟩ := (queue_iff q).1 hm
    simp only [Bool.not_true, Bool.false_eq_true, if_false, if_true]
    by_cases hf : q.many = (q.items.length : Int)
    · have : (q.many == (q.items.length : Int)) = true := by simp [hf]
      rw [if_pos this, if_pos hf]; rfl
    · have : ¬ ((q.many == (q.items.length : Int)) = true) := by simp [hf]
      obtain ⟨hd, hh⟩ := Int.eq_ofNat_of_zero_le q3
      obtain ⟨mn, hn⟩ := Int.eq_ofNat_of_zero_le q5
      have hl0 : ¬ (q.items.length = 0) := by omega
      have hw : IntKind.wrap .i64 (q.head + q.many) = ((hd + mn : Nat) : Int) := by rw [hh, hn, wrap_i64 (by omega) (by omega)]; omega
      have ht : Int.tmod ((hd + mn : Nat) : Int) (q.items.length : Int) = (((hd + mn) % q.items.length : Nat) : Int) := rfl
      have hpl : place q q.many.toNat = (hd + mn) % q.items.length := by unfold place; rw [hh, hn]; rfl
      have hlt := Nat.mod_lt (hd + mn) (show q.items.length > 0 by omega)
      have hg : decide ((0 : Int) ≤ (((hd + mn) % q.items.length : Nat) : Int) ∧ (((hd + mn) % q.items.length : Nat) : Int) < (q.items.length : Int)) = true := by simp only [decide_eq_true_eq]; omega
      have hw2 : IntKind.wrap .i64 (q.many + 1) = q.many + 1 := wrap_i64 (by omega) (by omega)
      simp only [this, hf, if_false, Bool.false_eq_true, N_ring_Twin, h, if_true, Option.bind_some, N_ring_round_byte_at, hl0, hw, e1, ht, N_ring_text, hb, hg, Int.toNat_natCast, hw2, pushed, hpl]
theorem P_sess_New (n : Int) : D_sess_New n = N_sess_New (n, ()) := by
  simp only [D_sess_New, N_sess_New]
  by_cases h1 : n < 1
  · simp only [h1, decide_true, if_true, true_or]; rfl
  · by_cases h2 : 1048575 < n
    · have hd : decide (n > 1048575) = true := by simp; omega
      simp only [h1, decide_false, Bool.false_eq_true, if_false, hd, h2, if_true, or_true]; rfl
    · have hd : ¬ (decide (n > 1048575) = true) := by simp; omega
      have hw : IntKind.wrap .u32 (n * 4096) = n * 4096 := wrap_u32 (by omega) (by omega)
      have h64 : ¬ ((64 : Int) < 1 ∨ (64 : Int) < 64) := by decide
      simp only [h1, decide_false, Bool.false_eq_true, if_false, hd, h2, or_self, N_ring_New, h64, Option.bind_some, hw]
      rfl
theorem P_sess_Put (c : Config) (e : End) (b : List Int) (h : fitAll e.out.items = true) (hs : 0 ≤ e.sent ∧ e.sent ≤ 4294967295) : D_sess_Put c e b = N_sess_Put (c, (e, (b, ()))) := by
  simp only [D_sess_Put, N_sess_Check, N_sess_Put, h, if_true, e1, Option.bind_some, e_ok, putT]
  cases hm : mayEnd c e with
  | false => simp only [Bool.not_false, if_true, Bool.false_eq_true, if_false]; rfl
  | true =>
    simp only [Bool.not_true, Bool.false_eq_true, if_false, if_true]
    cases hu : e.up with
    | false => simp only [Bool.not_false, if_true]; rfl
    | true =>
      simp only [Bool.not_true, Bool.false_eq_true, if_false]
      by_cases h1 : b.length < 1
      · have hd : ¬ (decide ((b.length : Int) ≥ 1) = true) := by simp; omega
        simp only [hd, h1, true_or, if_true, if_false, Bool.false_eq_true]; rfl
      · have hd : decide ((b.length : Int) ≥ 1) = true := by simp; omega
        by_cases h2 : 64 < b.length
        · have hd2 : ¬ (decide ((b.length : Int) ≤ 64) = true) := by simp; omega
          simp only [Bool.not_eq_true] at hd2
          simp only [hd, hd2, h1, h2, or_true, if_true, Bool.not_false]; rfl
        · have hd2 : decide ((b.length : Int) ≤ 64) = true := by simp; omega
          simp only [hd, hd2, h1, h2, or_self, if_true, if_false, Bool.not_true, Bool.false_eq_true]
          by_cases h3 : e.sent = 4294967295
          · have hw : (IntKind.wrap .u32 (e.sent + 1) == 0) = true := by rw [h3]; decide
            simp only [hw, h3, if_true]; rfl
          · have hw : IntKind.wrap .u32 (e.sent + 1) = e.sent + 1 := wrap_u32 (by omega) (by omega)
            have hw2 : ¬ ((e.sent + 1 == 0) = true) := by simp; omega
            have hq : mayQueue e.out = true := ((end_iff c e).1 hm).2.1
            have hbl : b.length ≤ 1000000 := by omega
            simp only [hw, hw2, h3, if_false, Bool.false_eq_true, N_ring_Push, h, hbl, and_self, if_true, Option.bind_some, pushT, hq]
            by_cases h4 : e.out.many = (e.out.items.length : Int)
            · simp only [h4, if_true]; rfl
            · simp only [h4, if_false, putOn, hu]; simp
end Go.Cat

set_option linter.unusedVariables false
set_option linter.unusedSimpArgs false
namespace Go.Cat
open Go
theorem of_1 : D_bits_Of 1 [] = some ([0], (0, ())) :=
  (show D_bits_Of 1 [] = loopO (D_bits_Of_l9 1 []) ([255], (1, ())) by kernel_rfl).trans ((loopO_exit (t := loopO (D_bits_Of_l4 1 [] ([255], (1, ()))) ([], (0, (0, ())))) (by kernel_rfl)).trans ((loopO_exit (t := loopO D_bits_Of_l1 ([0], ([], (0, (0, ()))))) (by kernel_rfl)).trans (loopO_exit (t := some ([0], (0, ()))) (by kernel_rfl))))
theorem of_2 : D_bits_Of 2 [] = some ([0], (0, ())) :=
  (show D_bits_Of 2 [] = loopO (D_bits_Of_l9 2 []) ([255], (1, ())) by kernel_rfl).trans ((loopO_exit (t := loopO (D_bits_Of_l4 2 [] ([255], (1, ()))) ([], (0, (0, ())))) (by kernel_rfl)).trans ((loopO_exit (t := loopO D_bits_Of_l1 ([0], ([], (0, (0, ()))))) (by kernel_rfl)).trans (loopO_exit (t := some ([0], (0, ()))) (by kernel_rfl))))
theorem of_3 : D_bits_Of 3 [] = some ([0], (0, ())) :=
  (show D_bits_Of 3 [] = loopO (D_bits_Of_l9 3 []) ([255], (1, ())) by kernel_rfl).trans ((loopO_exit (t := loopO (D_bits_Of_l4 3 [] ([255], (1, ()))) ([], (0, (0, ())))) (by kernel_rfl)).trans ((loopO_exit (t := loopO D_bits_Of_l1 ([0], ([], (0, (0, ()))))) (by kernel_rfl)).trans (loopO_exit (t := some ([0], (0, ()))) (by kernel_rfl))))
theorem of_4 : D_bits_Of 4 [] = some ([0], (0, ())) :=
  (show D_bits_Of 4 [] = loopO (D_bits_Of_l9 4 []) ([255], (1, ())) by kernel_rfl).trans ((loopO_exit (t := loopO (D_bits_Of_l4 4 [] ([255], (1, ()))) ([], (0, (0, ())))) (by kernel_rfl)).trans ((loopO_exit (t := loopO D_bits_Of_l1 ([0], ([], (0, (0, ()))))) (by kernel_rfl)).trans (loopO_exit (t := some ([0], (0, ()))) (by kernel_rfl))))
theorem of_5 : D_bits_Of 5 [] = some ([0], (0, ())) :=
  (show D_bits_Of 5 [] = loopO (D_bits_Of_l9 5 []) ([255], (1, ())) by kernel_rfl).trans ((loopO_exit (t := loopO (D_bits_Of_l4 5 [] ([255], (1, ()))) ([], (0, (0, ())))) (by kernel_rfl)).trans ((loopO_exit (t := loopO D_bits_Of_l1 ([0], ([], (0, (0, ()))))) (by kernel_rfl)).trans (loopO_exit (t := some ([0], (0, ()))) (by kernel_rfl))))
theorem of_6 : D_bits_Of 6 [] = some ([0], (0, ())) :=
  (show D_bits_Of 6 [] = loopO (D_bits_Of_l9 6 []) ([255], (1, ())) by kernel_rfl).trans ((loopO_exit (t := loopO (D_bits_Of_l4 6 [] ([255], (1, ()))) ([], (0, (0, ())))) (by kernel_rfl)).trans ((loopO_exit (t := loopO D_bits_Of_l1 ([0], ([], (0, (0, ()))))) (by kernel_rfl)).trans (loopO_exit (t := some ([0], (0, ()))) (by kernel_rfl))))
theorem of_7 : D_bits_Of 7 [] = some ([0], (0, ())) :=
  (show D_bits_Of 7 [] = loopO (D_bits_Of_l9 7 []) ([255], (1, ())) by kernel_rfl).trans ((loopO_exit (t := loopO (D_bits_Of_l4 7 [] ([255], (1, ()))) ([], (0, (0, ())))) (by kernel_rfl)).trans ((loopO_exit (t := loopO D_bits_Of_l1 ([0], ([], (0, (0, ()))))) (by kernel_rfl)).trans (loopO_exit (t := some ([0], (0, ()))) (by kernel_rfl))))
theorem of_8 : D_bits_Of 8 [] = some ([0], (0, ())) :=
  (show D_bits_Of 8 [] = loopO (D_bits_Of_l9 8 []) ([255], (1, ())) by kernel_rfl).trans ((loopO_exit (t := loopO (D_bits_Of_l7 8 [] ([255], (1, ()))) ([], (0, (0, ())))) (by kernel_rfl)).trans ((loopO_exit (t := loopO D_bits_Of_l1 ([0], ([], (0, (0, ()))))) (by kernel_rfl)).trans (loopO_exit (t := some ([0], (0, ()))) (by kernel_rfl))))
theorem of_9 : D_bits_Of 9 [] = some ([0, 0], (0, ())) :=
  (show D_bits_Of 9 [] = loopO (D_bits_Of_l9 9 []) ([255, 0], (1, ())) by kernel_rfl).trans ((loopO_inl (l' := ([255, 255], (2, ()))) (by kernel_rfl)).trans ((loopO_exit (t := loopO (D_bits_Of_l4 9 [] ([255, 255], (2, ()))) ([], (0, (0, ())))) (by kernel_rfl)).trans ((loopO_exit (t := loopO D_bits_Of_l1 ([0, 0], ([], (0, (0, ()))))) (by kernel_rfl)).trans (loopO_exit (t := some ([0, 0], (0, ()))) (by kernel_rfl)))))
theorem of_10 : D_bits_Of 10 [] = some ([0, 0], (0, ())) :=
  (show D_bits_Of 10 [] = loopO (D_bits_Of_l9 10 []) ([255, 0], (1, ())) by kernel_rfl).trans ((loopO_inl (l' := ([255, 255], (2, ()))) (by kernel_rfl)).trans ((loopO_exit (t := loopO (D_bits_Of_l4 10 [] ([255, 255], (2, ()))) ([], (0, (0, ())))) (by kernel_rfl)).trans ((loopO_exit (t := loopO D_bits_Of_l1 ([0, 0], ([], (0, (0, ()))))) (by kernel_rfl)).trans (loopO_exit (t := some ([0, 0], (0, ()))) (by kernel_rfl)))))
theorem of_11 : D_bits_Of 11 [] = some ([0, 0], (0, ())) :=
  (show D_bits_Of 11 [] = loopO (D_bits_Of_l9 11 []) ([255, 0], (1, ())) by kernel_rfl).trans ((loopO_inl (l' := ([255, 255], (2, ()))) (by kernel_rfl)).trans ((loopO_exit (t := loopO (D_bits_Of_l4 11 [] ([255, 255], (2, ()))) ([], (0, (0, ())))) (by kernel_rfl)).trans ((loopO_exit (t := loopO D_bits_Of_l1 ([0, 0], ([], (0, (0, ()))))) (by kernel_rfl)).trans (loopO_exit (t := some ([0, 0], (0, ()))) (by kernel_rfl)))))
theorem of_12 : D_bits_Of 12 [] = some ([0, 0], (0, ())) :=
  (show D_bits_Of 12 [] = loopO (D_bits_Of_l9 12 []) ([255, 0], (1, ())) by kernel_rfl).trans ((loopO_inl (l' := ([255, 255], (2, ()))) (by kernel_rfl)).trans ((loopO_exit (t := loopO (D_bits_Of_l4 12 [] ([255, 255], (2, ()))) ([], (0, (0, ())))) (by kernel_rfl)).trans ((loopO_exit (t := loopO D_bits_Of_l1 ([0, 0], ([], (0, (0, ()))))) (by kernel_rfl)).trans (loopO_exit (t := some ([0, 0], (0, ()))) (by kernel_rfl)))))
theorem of_13 : D_bits_Of 13 [] = some ([0, 0], (0, ())) :=
  (show D_bits_Of 13 [] = loopO (D_bits_Of_l9 13 []) ([255, 0], (1, ())) by kernel_rfl).trans ((loopO_inl (l' := ([255, 255], (2, ()))) (by kernel_rfl)).trans ((loopO_exit (t := loopO (D_bits_Of_l4 13 [] ([255, 255], (2, ()))) ([], (0, (0, ())))) (by kernel_rfl)).trans ((loopO_exit (t := loopO D_bits_Of_l1 ([0, 0], ([], (0, (0, ()))))) (by kernel_rfl)).trans (loopO_exit (t := some ([0, 0], (0, ()))) (by kernel_rfl)))))
theorem of_14 : D_bits_Of 14 [] = some ([0, 0], (0, ())) :=
  (show D_bits_Of 14 [] = loopO (D_bits_Of_l9 14 []) ([255, 0], (1, ())) by kernel_rfl).trans ((loopO_inl (l' := ([255, 255], (2, ()))) (by kernel_rfl)).trans ((loopO_exit (t := loopO (D_bits_Of_l4 14 [] ([255, 255], (2, ()))) ([], (0, (0, ())))) (by kernel_rfl)).trans ((loopO_exit (t := loopO D_bits_Of_l1 ([0, 0], ([], (0, (0, ()))))) (by kernel_rfl)).trans (loopO_exit (t := some ([0, 0], (0, ()))) (by kernel_rfl)))))
theorem of_15 : D_bits_Of 15 [] = some ([0, 0], (0, ())) :=
  (show D_bits_Of 15 [] = loopO (D_bits_Of_l9 15 []) ([255, 0], (1, ())) by kernel_rfl).trans ((loopO_inl (l' := ([255, 255], (2, ()))) (by kernel_rfl)).trans ((loopO_exit (t := loopO (D_bits_Of_l4 15 [] ([255, 255], (2, ()))) ([], (0, (0, ())))) (by kernel_rfl)).trans ((loopO_exit (t := loopO D_bits_Of_l1 ([0, 0], ([], (0, (0, ()))))) (by kernel_rfl)).trans (loopO_exit (t := some ([0, 0], (0, ()))) (by kernel_rfl)))))
theorem of_16 : D_bits_Of 16 [] = some ([0, 0], (0, ())) :=
  (show D_bits_Of 16 [] = loopO (D_bits_Of_l9 16 []) ([255, 0], (1, ())) by kernel_rfl).trans ((loopO_inl (l' := ([255, 255], (2, ()))) (by kernel_rfl)).trans ((loopO_exit (t := loopO (D_bits_Of_l7 16 [] ([255, 255], (2, ()))) ([], (0, (0, ())))) (by kernel_rfl)).trans ((loopO_exit (t := loopO D_bits_Of_l1 ([0, 0], ([], (0, (0, ()))))) (by kernel_rfl)).trans (loopO_exit (t := some ([0, 0], (0, ()))) (by kernel_rfl)))))
theorem P_bits_Of (n : Int) : D_bits_Of n [] = N_bits_Of (n, ([], ())) := by
  by_cases h : mayN n = true
  · simp only [N_bits_Of, h, if_true]
    rcases n_cases h with h | h | h | h | h | h | h | h | h | h | h | h | h | h | h | h <;> subst h
    · exact of_1
    · exact of_2
    · exact of_3
    · exact of_4
    · exact of_5
    · exact of_6
    · exact of_7
    · exact of_8
    · exact of_9
    · exact of_10
    · exact of_11
    · exact of_12
    · exact of_13
    · exact of_14
    · exact of_15
    · exact of_16
  · have h' : ¬ (1 ≤ n ∧ n ≤ 16) := fun x => h ((mayN_iff n).2 x)
    simp only [N_bits_Of, h, D_bits_Of]
    by_cases h1 : 1 ≤ n
    · have : ¬ n ≤ 16 := fun x => h' ⟨h1, x⟩
      simp [h1, this]
    · simp [h1]
theorem conf_tracks {c : Config} (h : mayConf c = true) : mayN c.tracks = true := by
  have := (conf_iff c).1 h
  exact (mayN_iff _).2 ⟨this.2.2.1, this.2.2.2.1⟩
theorem P_act_Side (c : Config) : D_act_Side c = N_act_Side (c, ()) := by
  simp only [D_act_Side, N_place_Check, N_act_Side, e1, Option.bind_some, e_ok]
  cases h : mayConf c with
  | false => simp only [Bool.not_false, if_true, Bool.false_eq_true, if_false]; rfl
  | true => simp only [Bool.not_true, Bool.false_eq_true, if_false, N_bits_Of, conf_tracks h, if_true, Option.bind_some, newSide]
theorem vol_disk {c : Config} {d : Disk} (h : mayVol c d = true) : mayDisk d = true := by
  simp only [mayVol, Bool.and_eq_true] at h; exact h.2
theorem vol_conf {c : Config} {d : Disk} (h : mayVol c d = true) : mayConf c = true := by
  simp only [mayVol, Bool.and_eq_true] at h; exact h.1.1
theorem may_fit {d : Disk} (h : mayDisk d = true) : fitDisk d = true := by
  obtain ⟨h1, h2, h3, h4, h5⟩ := (disk_iff d).1 h
  rw [fit_iff]
  refine ⟨by omega, by omega, fun s hs => ?_, fun p hp => ?_⟩
  · have := h4 s hs
    simp only [maySector, Bool.and_eq_true, beq_iff_eq] at this
    omega
  · have := h5 p hp
    simp only [mayPend, Bool.and_eq_true, beq_iff_eq] at this
    omega
theorem fated_ok {secs : List Sector} {p : Pend} {f : Int} (h : ∀ s ∈ secs, maySector s = true) (hp : p.bytes.length = 32) : ∀ s ∈ fated secs p f, maySector s = true := by
  intro s hs
  unfold fated at hs
  have hz : maySector ⟨List.replicate 32 0, true⟩ = true := by decide
  split at hs
  · rcases List.mem_or_eq_of_mem_set hs with h1 | h1
    · exact h s h1
    · subst h1; simp [maySector, hp]
  · split at hs
    · rcases List.mem_or_eq_of_mem_set hs with h1 | h1
      · exact h s h1
      · subst h1; exact hz
    · exact h s hs
theorem behind_may {d : Disk} (h : mayDisk d = true) (l : List Int) : mayDisk (behind d l) = true ∧ (behind d l).sectors.length = d.sectors.length ∧ (behind d l).cache = [] := by
  obtain ⟨h1, h2, h3, h4, h5⟩ := (disk_iff d).1 h
  have hl : ∀ k, (behindN d l k).length = d.sectors.length := behindN_len d l
  refine ⟨(disk_iff _).2 ⟨by show 1 ≤ (behindN d l _).length; rw [hl]; exact h1, by show (behindN d l _).length ≤ 1024; rw [hl]; exact h2, Nat.zero_le _, ?_, by intro p hp; cases hp⟩, hl _, rfl⟩
  have gen : ∀ k, k ≤ d.cache.length → ∀ s ∈ behindN d l k, maySector s = true := by
    intro k
    induction k with
    | zero => exact fun _ => h4
    | succ k ih =>
      intro hk
      have hp := h5 _ (List.getElem_mem (show k < d.cache.length by omega))
      simp only [mayPend, Bool.and_eq_true, beq_iff_eq] at hp
      exact fated_ok (ih (by omega)) (by rw [nth_lt (show k < d.cache.length by omega)]; exact hp.2)
  exact gen _ (Nat.min_le_left _ _)
theorem flushed_may {d : Disk} (h : mayDisk d = true) : mayDisk (flushed d) = true ∧ (flushed d).sectors.length = d.sectors.length ∧ (flushed d).cache = [] := behind_may h _
structure SiteU (s : Site) : Prop where
  msgs : ∀ a ∈ s.plan, MsgU a.msg
  kinds : ∀ m ∈ s.mail, 0 ≤ m.kind
  me : 0 ≤ s.end_.me ∧ s.end_.me ≤ 4294967295
  sent : 0 ≤ s.end_.sent ∧ s.end_.sent ≤ 4294967295
theorem link_end {c : Config} {e : End} (hc : mayConf c = true) (h : mayEnd c e = true) : mayEnd linkConf e = true := by
  have q := (conf_iff c).1 hc
  have r := (end_iff c e).1 h
  refine (end_iff linkConf e).2 ⟨by decide, r.2.1, r.2.2.1, r.2.2.2.1, r.2.2.2.2.1, r.2.2.2.2.2.1, r.2.2.2.2.2.2.1, r.2.2.2.2.2.2.2.1, ?_, r.2.2.2.2.2.2.2.2.2⟩
  show e.quiet < 64
  have := r.2.2.2.2.2.2.2.2.1
  omega
theorem done1 {s : Site} {a : Act} (h : a.kind = 1) : doneOn s a = setDisk s (written (if s.disk.cache.length = 64 then flushed s.disk else s.disk) a.at_ a.bytes) := by simp [doneOn, h]
theorem done2 {s : Site} {a : Act} (h : a.kind = 2) : doneOn s a = setDisk s (flushed s.disk) := by simp [doneOn, h]
theorem done3 {s : Site} {a : Act} (h : a.kind = 3) : doneOn s a = sentOn s a := by simp [doneOn, h]
theorem done4 {s : Site} {a : Act} (h : a.kind = 4) : doneOn s a = ⟨s.id, s.disk, s.met, s.sides, s.end_, s.plan, s.mail, s.asks, s.replies ++ [a.reply], s.syncs, s.born, s.ready⟩ := by simp [doneOn, h]
theorem done5 {s : Site} {a : Act} (h : a.kind = 5) : doneOn s a = ⟨s.id, s.disk, s.met, s.sides, s.end_, s.plan, s.mail, s.asks, s.replies, s.syncs ++ [a.pair], s.born, s.ready⟩ := by simp [doneOn, h]
theorem done6 {s : Site} {a : Act} (h1 : a.kind ≠ 1) (h2 : a.kind ≠ 2) (h3 : a.kind ≠ 3) (h4 : a.kind ≠ 4) (h5 : a.kind ≠ 5) : doneOn s a = ⟨s.id, s.disk, s.met, s.sides, s.end_, s.plan, s.mail, s.asks, s.replies, s.syncs, s.born, s.ready || (a.kind == 6)⟩ := by simp [doneOn, h1, h2, h3, h4, h5]
theorem P_act_Do (c : Config) (s : Site) (h : fitSite s = true) (hu : SiteU s) : D_act_Do c s = N_act_Do (c, (s, ())) := by
  have q := fit_r h
  have hb := big_eq
  simp only [D_act_Do, N_act_Check, N_act_Do, h, if_true, e1, Option.bind_some, e_ok, doT]
  cases hm : maySite c s with
  | false => simp only [Bool.not_false, if_true, Bool.false_eq_true, if_false]; rfl
  | true =>
  simp only [Bool.not_true, Bool.false_eq_true, if_false, if_true]
  cases hp : s.plan with
  | nil => simp only [List.length_nil, if_true]; rfl
  | cons a l =>
  have hne : ¬ ((((a :: l).length : Nat) : Int) == 0) = true := by simp; omega
  have hne2 : ¬ (a :: l = []) := by simp
  simp only [hne, hne2, if_false, Bool.false_eq_true, N_act_Twin, h, if_true, Option.bind_some, hp]
  have g1 : decide (((0 : Int) ≤ (0 : Int)) ∧ ((0 : Int) < (((a :: l).length : Nat) : Int))) = true := by simp
  have g2 : decide (((0 : Int) ≤ (1 : Int)) ∧ (((1 : Int) ≤ (((a :: l).length : Nat) : Int)) ∧ (((((a :: l).length : Nat) : Int) ≤ (((a :: l).length : Nat) : Int)) ∧ ((((a :: l).length : Nat) : Int) ≤ (((a :: l).length : Nat) : Int))))) = true := by simp; omega
  have n0 : nth (a :: l) (Int.toNat 0) = a := rfl
  have n00 : nth (a :: l) 0 = a := rfl
  have tl : List.take (Int.toNat (((a :: l).length : Nat) : Int) - Int.toNat 1) (List.drop (Int.toNat 1) (a :: l)) = l := by
    show List.take ((l.length + 1) - 1) l = l
    simp
  simp only [g1, g2, n0, tl, if_true]
  have hsi := (site_iff c s).1 hm
  have hvol := hsi.1
  have hconf := vol_conf hvol
  have hdisk := vol_disk hvol
  have hend := hsi.2.2.2.2.1
  have hls := hsi.2.2.2.2.2.2.2.2.2
  have hact : mayAct c s.disk.sectors.length a = true := by
    simp only [mayLists, Bool.and_eq_true, List.all_eq_true] at hls
    exact hls.1.1 a (by rw [hp]; exact List.mem_cons_self)
  have hmu := hu.msgs a (by rw [hp]; exact List.mem_cons_self)
  have hfa := q.acts a (by rw [hp]; exact List.mem_cons_self)
  have hrs : rested s = ⟨s.id, s.disk, s.met, s.sides, s.end_, l, s.mail, s.asks, s.replies, s.syncs, s.born, s.ready⟩ := by simp only [rested, hp, List.drop_succ_cons, List.drop_zero]
  simp only [did, hp, n00, hrs]
  by_cases k1 : a.kind = 1
  · have hc : (a.kind == 1) = true := by simp [k1]
    simp only [mayAct, k1, if_true, Bool.and_eq_true, decide_eq_true_eq, beq_iff_eq] at hact
    simp only [hc, if_true, done1 k1, setDisk]
    by_cases h64 : s.disk.cache.length = 64
    · have : ((((s.disk.cache.length : Nat) : Int)) == 64) = true := by rw [h64]; rfl
      obtain ⟨f1, f2, f3⟩ := flushed_may hdisk
      have h1000 : s.disk.cache.length ≤ 1000 := by omega
      have hw : writeT (flushed s.disk) a.at_ a.bytes = (written (flushed s.disk) a.at_ a.bytes, 0) := by
        have h0 : ¬ ((flushed s.disk).cache.length = 64) := by rw [f3]; decide
        have hr : 0 ≤ a.at_ ∧ a.at_ < ((flushed s.disk).sectors.length : Int) := by rw [f2]; exact hact.1
        simp only [writeT, f1, hr, and_self, hact.2, h0, if_true, if_false]
      have c64 : (s.disk.cache.length = 64) = True := eq_true h64
      have ff := may_fit f1
      simp only [this, c64, if_true, N_disk_Flush, h1000, hdisk, Option.bind_some, N_disk_Write, ff, hw]
    · have : ¬ (((((s.disk.cache.length : Nat) : Int)) == 64) = true) := by simp; omega
      have hw : writeT s.disk a.at_ a.bytes = (written s.disk a.at_ a.bytes, 0) := by
        simp only [writeT, hdisk, hact.1, and_self, hact.2, h64, if_true, if_false]
      simp only [this, h64, if_false, Bool.false_eq_true, N_disk_Write, may_fit hdisk, if_true, hw, Option.bind_some]
  · have hc : ¬ ((a.kind == 1) = true) := by simp [k1]
    simp only [hc, if_false, Bool.false_eq_true]
    by_cases k2 : a.kind = 2
    · have hc : (a.kind == 2) = true := by simp [k2]
      have h1000 : s.disk.cache.length ≤ 1000 := by have := ((disk_iff _).1 hdisk).2.2.1; omega
      simp only [hc, if_true, N_disk_Flush, h1000, hdisk, Option.bind_some, done2 k2, setDisk]
    · have hc : ¬ ((a.kind == 2) = true) := by simp [k2]
      simp only [hc, if_false, Bool.false_eq_true]
      by_cases k3 : a.kind = 3
      · have hc : (a.kind == 3) = true := by simp [k3]
        have hmm : mayMsg a.msg = true := by
          simp only [mayAct, k3, if_true, mayMsgC, Bool.and_eq_true] at hact
          simp at hact
          exact hact.1
        have hd3 : doneOn (⟨s.id, s.disk, s.met, s.sides, s.end_, l, s.mail, s.asks, s.replies, s.syncs, s.born, s.ready⟩ : Site) a = sentOn ⟨s.id, s.disk, s.met, s.sides, s.end_, l, s.mail, s.asks, s.replies, s.syncs, s.born, s.ready⟩ a := by
          exact done3 k3
        simp only [hc, if_true, hd3, sentOn]
        cases hup : s.end_.up with
        | false => simp
        | true =>
          simp only [Bool.not_true, Bool.false_eq_true, if_false, true_and]
          by_cases hme : s.end_.me = a.me
          · have : ¬ ((s.end_.me != a.me) = true) := by simp [hme]
            simp only [this, if_false, Bool.false_eq_true]
            by_cases hyou : s.end_.you = a.you
            · have : ¬ ((s.end_.you != a.you) = true) := by simp [hyou]
              have hlink := link_end hconf hend
              have hand : (s.end_.me = a.me ∧ s.end_.you = a.you) = True := eq_true ⟨hme, hyou⟩
              simp only [this, if_false, Bool.false_eq_true, N_msg_Write, hmm, if_true, Option.bind_some, N_sess_Put, q.items, hand]
              by_cases hput : (putT linkConf s.end_ (textOf a.msg)).2 = 0
              · have hput' : (putT ⟨1, 1, 3, 1, 1, 64⟩ s.end_ (textOf a.msg)).2 = 0 := hput
                simp only [hput, hput', if_true, beq_self_eq_true, setEnd]
                rfl
              · have hput' : ¬ (((putT ⟨1, 1, 3, 1, 1, 64⟩ s.end_ (textOf a.msg)).2 == 0) = true) := by simpa using (show ¬ (putT ⟨1, 1, 3, 1, 1, 64⟩ s.end_ (textOf a.msg)).2 = 0 from hput)
                have h64 : ¬ ((64 : Int) < 1 ∨ (64 : Int) < 64) := by decide
                have hme0 := hu.me
                have hwm : IntKind.wrap .u32 (s.end_.me + 1) = (s.end_.me + 1) % 4294967296 := wrapm_u32 _
                have htm : Int.tmod ((s.end_.me + 1) % 4294967296) 4096 = (s.end_.me + 1) % 4294967296 % 4096 := Int.tmod_eq_emod_of_nonneg (by omega)
                have n4 : ((4096 : Int) != 0) = true := rfl
                have hmail := q.mail
                have hg : ∀ x : Mail, decide (s.mail.length + [x].length ≤ big) = true := by intro x; simp; omega
                simp only [hput, hput', if_false, Bool.false_eq_true, N_ring_New, h64, Option.bind_some, n4, if_true, hwm, htm, hg, downEnd]
                by_cases hdd : (s.end_.me + 1) % 4294967296 % 4096 = 0
                · have hdb : (((s.end_.me + 1) % 4294967296 % 4096 == 0) = true) := beq_iff_eq.2 hdd
                  simp only [hdd, hdb, if_true]
                  rfl
                · have hdb : ¬ (((s.end_.me + 1) % 4294967296 % 4096 == 0) = true) := fun e => hdd (beq_iff_eq.1 e)
                  have : (s.end_.me + 1) % 4294967296 = s.end_.me + 1 := by omega
                  simp only [hdd, hdb, if_false, Bool.false_eq_true]
                  simp only [this]
                  rfl
            · have : (s.end_.you != a.you) = true := by simp [hyou]
              have hand : (s.end_.me = a.me ∧ s.end_.you = a.you) = False := eq_false fun x => hyou x.2
              simp only [this, if_true, hand, if_false]
          · have : (s.end_.me != a.me) = true := by simp [hme]
            have hand : (s.end_.me = a.me ∧ s.end_.you = a.you) = False := eq_false fun x => hme x.1
            simp only [this, if_true, hand, if_false]
      · have hc : ¬ ((a.kind == 3) = true) := by simp [k3]
        simp only [hc, if_false, Bool.false_eq_true]
        by_cases k4 : a.kind = 4
        · have hc : (a.kind == 4) = true := by simp [k4]
          have hr := q.replies
          have hg : ∀ x : Reply, decide (s.replies.length + [x].length ≤ big) = true := by intro x; simp; omega
          simp only [hc, if_true, hg, done4 k4]
        · have hc : ¬ ((a.kind == 4) = true) := by simp [k4]
          simp only [hc, if_false, Bool.false_eq_true]
          by_cases k5 : a.kind = 5
          · have hc : (a.kind == 5) = true := by simp [k5]
            have hr := q.syncs
            have hg : ∀ x : Int, decide (s.syncs.length + [x].length ≤ big) = true := by intro x; simp; omega
            have h6 : (a.kind == 6) = false := by simp [k5]
            simp only [hc, if_true, hg, done5 k5, h6]
            cases s.ready <;> simp
          · have hc : ¬ ((a.kind == 5) = true) := by simp [k5]
            simp only [hc, if_false, Bool.false_eq_true, done6 k1 k2 k3 k4 k5]
            cases s.ready <;> simp
end Go.Cat

set_option linter.unusedVariables false
set_option linter.unusedSimpArgs false
namespace Go.Cat
open Go
theorem mod_ne {n h a b : Nat} (hn : 0 < n) (ha : a < n) (hb : b < n) (hab : a ≠ b) : (h + a) % n ≠ (h + b) % n := by
  intro e
  have e1 := Nat.div_add_mod (h + a) n
  have e2 := Nat.div_add_mod (h + b) n
  rw [e] at e1
  have hd : (h + a) / n = (h + b) / n ∨ (h + a) / n + 1 ≤ (h + b) / n ∨ (h + b) / n + 1 ≤ (h + a) / n := by omega
  rcases hd with h1 | h1 | h1
  · rw [h1] at e1; omega
  · have := Nat.mul_le_mul_left n h1
    rw [Nat.mul_add, Nat.mul_one] at this
    omega
  · have := Nat.mul_le_mul_left n h1
    rw [Nat.mul_add, Nat.mul_one] at this
    omega
theorem pushed_place (q : Queue) (b : List Int) (k : Nat) : place (pushed q b) k = place q k := by
  simp [place, pushed]
theorem nth_set_ne {α : Type} [Inhabited α] {l : List α} {i j : Nat} {x : α} (h : i ≠ j) : nth (l.set i x) j = nth l j := by
  simp [nth, List.getElem?_set_ne h]
theorem nth_set_eq {α : Type} [Inhabited α] {l : List α} {i : Nat} {x : α} (h : i < l.length) : nth (l.set i x) i = x := by
  simp [nth, h]
theorem pushed_may {q : Queue} {b : List Int} (h : mayQueue q = true) (hf : q.many ≠ (q.items.length : Int)) : mayQueue (pushed q b) = true ∧ queueList (pushed q b) = queueList q ++ [b] := by
  obtain ⟨q1, q2, q3, q4, q5, q6, q7⟩ := (queue_iff q).1 h
  obtain ⟨m, hm⟩ := Int.eq_ofNat_of_zero_le q5
  have hml : m < q.items.length := by omega
  have hpl : ∀ k, place q k = (q.head.toNat + k) % q.items.length := fun k => rfl
  have hmt : q.many.toNat = m := by rw [hm]; rfl
  have hmt2 : (pushed q b).many.toNat = m + 1 := by simp only [pushed, hm]; omega
  have hlen : (pushed q b).items.length = q.items.length := by simp [pushed]
  have hlt : place q m < q.items.length := Nat.mod_lt _ (by omega)
  have hne : ∀ k, k < q.items.length → k ≠ m → place q m ≠ place q k := fun k hk hkm => by
    rw [hpl, hpl]; exact mod_ne (by omega) hml hk (fun e => hkm e.symm)
  have hit : (pushed q b).items = q.items.set (place q m) b := by simp only [pushed, hmt]
  constructor
  · refine (queue_iff _).2 ⟨by rw [hlen]; exact q1, by rw [hlen]; exact q2, q3, by rw [hlen]; exact q4, by show 0 ≤ q.many + 1; omega, by rw [hlen]; show q.many + 1 ≤ _; omega, ?_⟩
    rw [List.all_eq_true]
    intro k hk
    rw [hmt2, hlen, List.mem_range'_1] at hk
    have := List.all_eq_true.1 q7 k (by rw [hmt, List.mem_range'_1]; omega)
    rw [pushed_place, hit, nth_set_ne (hne k (by omega) (by omega))]
    exact this
  · unfold queueList
    rw [hmt2, hmt, List.range_succ, List.map_append]
    congr 1
    · apply List.map_congr_left
      intro k hk
      rw [List.mem_range] at hk
      rw [pushed_place, hit, nth_set_ne (hne k (by omega) (by omega))]
    · simp only [List.map_cons, List.map_nil]
      rw [pushed_place, hit, nth_set_eq hlt]
theorem put_may {c : Config} {e : End} {b : List Int} (h : mayEnd c e = true) (hu : e.up = true) (hb : 1 ≤ b.length ∧ b.length ≤ 64) (hs : 0 ≤ e.sent ∧ e.sent < 4294967295) (hf : e.out.many ≠ (e.out.items.length : Int)) (hd : 0 ≤ e.done) : mayEnd c (putOn e b) = true := by
  obtain ⟨r1, r2, r3, r4, r5, r6, r7, r8, r9, r10, r11, r12⟩ := (end_iff c e).1 h
  obtain ⟨p1, p2⟩ := pushed_may (b := b) r2 hf
  obtain ⟨q1, q2, q3, q4, q5, q6, q7⟩ := (queue_iff _).1 r2
  rw [wrapm_u32, wrapm_u32] at r6
  refine (end_iff c _).2 ⟨r1, p1, r3, ?_, ?_, ?_, ?_, r8, r9, r10, r11, .inl hu⟩
  · show (e.out.items.set _ _).length = 64
    rw [List.length_set]; exact r4
  · show e.done ≤ e.sent + 1
    omega
  · rw [wrapm_u32, wrapm_u32]
    show (e.sent + 1 - e.done) % 4294967296 = (e.out.many + 1) % 4294967296
    omega
  · show mayTexts (queueList (pushed e.out b)) = true
    rw [p2]
    simp only [mayTexts, List.all_append, List.all_cons, List.all_nil, Bool.and_true, Bool.and_eq_true, decide_eq_true_eq]
    exact ⟨r7, hb⟩
theorem down_may {c : Config} {e : End} (h : mayEnd c e = true) (hme : 0 ≤ e.me ∧ e.me ≤ 4294967295) : mayEnd c (downEnd e) = true ∧ 0 ≤ (downEnd e).me ∧ (downEnd e).me ≤ 4294967295 := by
  obtain ⟨r1, r2, r3, r4, r5, r6, r7, r8, r9, r10, r11, r12⟩ := (end_iff c e).1 h
  have hq : mayQueue newQueue = true := by decide
  have ht : mayTexts (queueList newQueue) = true := by decide
  have hl : newQueue.items.length = 64 := by decide
  have c0 := (conf_iff c).1 r1
  unfold downEnd
  split
  · rename_i hz
    exact ⟨(end_iff c _).2 ⟨r1, hq, r3, hl, Int.le_refl _, rfl, ht, Int.le_refl _, by show (0 : Int) < c.quiet; omega, by simp, by simp, .inr ⟨rfl, rfl, rfl⟩⟩, hme⟩
  · rename_i hz
    refine ⟨(end_iff c _).2 ⟨r1, hq, ?_, hl, Int.le_refl _, rfl, ht, Int.le_refl _, by show (0 : Int) < c.quiet; omega, by simp, by simp, .inr ⟨rfl, rfl, rfl⟩⟩, ?_, ?_⟩
    · show e.me + 1 ≠ 0
      omega
    · show 0 ≤ e.me + 1
      omega
    · show e.me + 1 ≤ 4294967295
      omega
structure DidR (c : Config) (s t : Site) : Prop where
  may : maySite c t = true
  fit : s.mail.length < 1000000 → s.replies.length < 1000000 → s.syncs.length < 1000000 → fitSite t = true
  u : SiteU t
  plan : t.plan = s.plan.drop 1
  same : t.id = s.id ∧ t.met = s.met ∧ t.sides = s.sides ∧ t.asks = s.asks ∧ t.born = s.born
  mail : t.mail.length ≤ s.mail.length + 1
  both : t.replies.length + t.syncs.length ≤ s.replies.length + s.syncs.length + 1
  replies : s.replies.length ≤ t.replies.length ∧ t.replies.length ≤ s.replies.length + 1
  syncs : s.syncs.length ≤ t.syncs.length ∧ t.syncs.length ≤ s.syncs.length + 1
  ready : s.ready = true → t.ready = true
theorem rested_may {c : Config} {s : Site} (h : maySite c s = true) : maySite c (rested s) = true := by
  obtain ⟨h1, h2, h3, h4, h5, h6, h7, h8, h9, h10⟩ := (site_iff c s).1 h
  refine (site_iff c _).2 ⟨h1, h2, h3, h4, h5, h6, h7, h8, h9, ?_⟩
  simp only [mayLists, Bool.and_eq_true, List.all_eq_true] at h10 ⊢
  exact ⟨⟨fun a ha => h10.1.1 a (List.mem_of_mem_drop ha), h10.1.2⟩, h10.2⟩
theorem setDisk_may {c : Config} {s : Site} {d : Disk} (h : maySite c s = true) (hd : mayDisk d = true) (hl : d.sectors.length = s.disk.sectors.length) : maySite c (setDisk s d) = true := by
  obtain ⟨h1, h2, h3, h4, h5, h6, h7, h8, h9, h10⟩ := (site_iff c s).1 h
  refine (site_iff c _).2 ⟨?_, h2, h3, h4, h5, h6, h7, h8, h9, ?_⟩
  · show mayVol c d = true
    simp only [mayVol, Bool.and_eq_true] at h1 ⊢
    rw [hl]
    exact ⟨h1.1, hd⟩
  · simp only [mayLists, setDisk, hl]
    exact h10
theorem setEnd_may {c : Config} {s : Site} {e : End} (h : maySite c s = true) (he : mayEnd c e = true) : maySite c (setEnd s e) = true := by
  obtain ⟨h1, h2, h3, h4, h5, h6, h7, h8, h9, h10⟩ := (site_iff c s).1 h
  exact (site_iff c _).2 ⟨h1, h2, h3, h4, he, h6, h7, h8, h9, h10⟩
theorem rested_fit {s : Site} (h : fitSite s = true) : FitR (rested s) := by
  have q := fit_r h
  refine ⟨q.table, q.sides, ?_, q.mail, q.asks, q.replies, q.syncs, q.items, q.side, fun a ha => q.acts a (List.mem_of_mem_drop ha), q.mails, q.words, q.disk⟩
  show (s.plan.drop 1).length ≤ _
  have := q.plan
  rw [List.length_drop]; omega
theorem did_keeps {c : Config} {s : Site} (h : fitSite s = true) (hu : SiteU s) (hd : 0 ≤ s.end_.done) (hm : maySite c s = true) {a : Act} {l : List Act} (hp : s.plan = a :: l) : DidR c s (did s) ∧ 0 ≤ (did s).end_.done := by
  have q := rested_fit h
  have hr := rested_may hm
  have hsi := (site_iff c s).1 hm
  have hvol := hsi.1
  have hdisk := vol_disk hvol
  have hconf := vol_conf hvol
  have hend := hsi.2.2.2.2.1
  have hls := hsi.2.2.2.2.2.2.2.2.2
  have hact : mayAct c s.disk.sectors.length a = true := by
    simp only [mayLists, Bool.and_eq_true, List.all_eq_true] at hls
    exact hls.1.1 a (by rw [hp]; exact List.mem_cons_self)
  have hfa := (fit_r h).acts a (by rw [hp]; exact List.mem_cons_self)
  have hur : SiteU (rested s) := ⟨fun b hb => hu.msgs b (List.mem_of_mem_drop hb), hu.kinds, hu.me, hu.sent⟩
  have n0 : nth s.plan 0 = a := by rw [hp]; rfl
  have hdid : did s = doneOn (rested s) a := by simp only [did, n0]
  rw [hdid]
  by_cases k1 : a.kind = 1
  · rw [done1 k1]
    simp only [mayAct, k1, if_true, Bool.and_eq_true, decide_eq_true_eq, beq_iff_eq] at hact
    have hd0 : mayDisk (if (rested s).disk.cache.length = 64 then flushed (rested s).disk else (rested s).disk) = true ∧ (if (rested s).disk.cache.length = 64 then flushed (rested s).disk else (rested s).disk).sectors.length = s.disk.sectors.length ∧ (if (rested s).disk.cache.length = 64 then flushed (rested s).disk else (rested s).disk).cache.length < 64 := by
      show mayDisk (if s.disk.cache.length = 64 then flushed s.disk else s.disk) = true ∧ (if s.disk.cache.length = 64 then flushed s.disk else s.disk).sectors.length = _ ∧ (if s.disk.cache.length = 64 then flushed s.disk else s.disk).cache.length < 64
      split
      · obtain ⟨f1, f2, f3⟩ := flushed_may hdisk
        exact ⟨f1, f2, by rw [f3]; decide⟩
      · have := ((disk_iff _).1 hdisk).2.2.1
        exact ⟨hdisk, rfl, by omega⟩
    generalize (if (rested s).disk.cache.length = 64 then flushed (rested s).disk else (rested s).disk) = d0 at hd0
    obtain ⟨f1, f2, f3⟩ := hd0
    obtain ⟨e1, e2, e3, e4, e5⟩ := (disk_iff _).1 f1
    have hw : mayDisk (written d0 a.at_ a.bytes) = true := by
      refine (disk_iff _).2 ⟨e1, e2, by show (d0.cache ++ [_]).length ≤ 64; simp; omega, e4, fun p hp => ?_⟩
      rcases List.mem_append.1 hp with hp | hp
      · exact e5 p hp
      · rw [List.mem_singleton.1 hp]
        simp only [mayPend, written, Bool.and_eq_true, decide_eq_true_eq, beq_iff_eq, f2]
        exact hact
    exact ⟨⟨setDisk_may hr hw f2, fun _ _ _ => fit_of ⟨q.table, q.sides, q.plan, q.mail, q.asks, q.replies, q.syncs, q.items, q.side, q.acts, q.mails, q.words, may_fit hw⟩, ⟨hur.msgs, hur.kinds, hur.me, hur.sent⟩, rfl, ⟨rfl, rfl, rfl, rfl, rfl⟩, Nat.le_succ _, Nat.le_succ _,
      ⟨Nat.le_refl _, Nat.le_succ _⟩, ⟨Nat.le_refl _, Nat.le_succ _⟩, id⟩, hd⟩
  by_cases k2 : a.kind = 2
  · rw [done2 k2]
    obtain ⟨f1, f2, f3⟩ := flushed_may hdisk
    exact ⟨⟨setDisk_may hr f1 f2, fun _ _ _ => fit_of ⟨q.table, q.sides, q.plan, q.mail, q.asks, q.replies, q.syncs, q.items, q.side, q.acts, q.mails, q.words, may_fit f1⟩, ⟨hur.msgs, hur.kinds, hur.me, hur.sent⟩, rfl, ⟨rfl, rfl, rfl, rfl, rfl⟩, Nat.le_succ _, Nat.le_succ _,
      ⟨Nat.le_refl _, Nat.le_succ _⟩, ⟨Nat.le_refl _, Nat.le_succ _⟩, id⟩, hd⟩
  by_cases k3 : a.kind = 3
  · rw [done3 k3]
    have hmm : mayMsg a.msg = true := by
      have : ¬ ((3 : Int) = 1) := by decide
      simp only [mayAct, k3, if_true, this, if_false, mayMsgC, Bool.and_eq_true] at hact
      exact hact.1
    have htl := text_len hmm
    unfold sentOn
    split
    · rename_i hcond
      have hup : s.end_.up = true := hcond.1
      split
      · rename_i hput
        have hlink := link_end hconf hend
        have hput2 : (putT linkConf s.end_ (textOf a.msg)).2 = 0 := hput
        have hok : putT linkConf s.end_ (textOf a.msg) = (putOn s.end_ (textOf a.msg), 0) ∧ s.end_.sent ≠ 4294967295 ∧ s.end_.out.many ≠ (s.end_.out.items.length : Int) := by
          unfold putT at hput2 ⊢
          simp only [hlink, if_true, hup, Bool.true_eq_false, if_false] at hput2 ⊢
          split at hput2
          · exact absurd hput2 (by decide)
          · rename_i g1
            split at hput2
            · exact absurd hput2 (by decide)
            · rename_i g2
              split at hput2
              · exact absurd hput2 (by decide)
              · rename_i g3
                simp only [g1, g2, g3, if_false]
                exact ⟨trivial, g2, g3⟩
        obtain ⟨o1, o2, o3⟩ := hok
        have o1' : putT linkConf (rested s).end_ (textOf a.msg) = (putOn s.end_ (textOf a.msg), 0) := o1
        rw [o1']
        have hsent := hu.sent
        have hmay := put_may (c := c) (b := textOf a.msg) hend hup (by omega) (by omega) o3 hd
        have hitems : fitAll (putOn s.end_ (textOf a.msg)).out.items = true := by
          rw [fitAll_iff]
          have qi := (fitAll_iff _).1 q.items
          refine ⟨by show (s.end_.out.items.set _ _).length ≤ _; rw [List.length_set]; exact qi.1, fun b hb => ?_⟩
          rcases List.mem_or_eq_of_mem_set (show b ∈ s.end_.out.items.set _ _ from hb) with h1 | h1
          · exact qi.2 b h1
          · rw [h1]; omega
        exact ⟨⟨setEnd_may hr hmay, fun _ _ _ => fit_of ⟨q.table, q.sides, q.plan, q.mail, q.asks, q.replies, q.syncs, hitems, q.side, q.acts, q.mails, q.words, q.disk⟩, ⟨hur.msgs, hur.kinds, hur.me, by show 0 ≤ s.end_.sent + 1 ∧ s.end_.sent + 1 ≤ 4294967295; omega⟩, rfl, ⟨rfl, rfl, rfl, rfl, rfl⟩, Nat.le_succ _, Nat.le_succ _,
          ⟨Nat.le_refl _, Nat.le_succ _⟩, ⟨Nat.le_refl _, Nat.le_succ _⟩, id⟩, hd⟩
      · obtain ⟨d1, d2, d3⟩ := down_may hend hu.me
        have hs0 : (downEnd s.end_).sent = 0 ∧ (downEnd s.end_).done = 0 ∧ (downEnd s.end_).out = newQueue := by unfold downEnd; split <;> exact ⟨rfl, rfl, rfl⟩
        have hmay : maySite c (⟨s.id, s.disk, s.met, s.sides, downEnd s.end_, (rested s).plan, s.mail ++ [downMail], s.asks, s.replies, s.syncs, s.born, s.ready⟩ : Site) = true := by
          obtain ⟨h1, h2, h3, h4, h5, h6, h7, h8, h9, h10⟩ := (site_iff c _).1 hr
          refine (site_iff c _).2 ⟨h1, h2, h3, h4, d1, h6, h7, h8, h9, ?_⟩
          simp only [mayLists, Bool.and_eq_true, List.all_eq_true] at h10 ⊢
          refine ⟨⟨h10.1.1, fun m hm => ?_⟩, h10.2⟩
          rcases List.mem_append.1 hm with hm | hm
          · exact h10.1.2 m hm
          · rw [List.mem_singleton.1 hm]
            simp [mayMail, downMail]
        refine ⟨⟨hmay, fun hml _ _ => fit_of ⟨q.table, q.sides, q.plan, by show (s.mail ++ [downMail]).length ≤ _; simp; omega, q.asks, q.replies, q.syncs, by show fitAll (downEnd s.end_).out.items = true; rw [hs0.2.2]; decide, q.side, q.acts, fun m hm => ?_, q.words, q.disk⟩,
          ⟨hur.msgs, fun m hm => ?_, ⟨d2, d3⟩, by show 0 ≤ (downEnd s.end_).sent ∧ (downEnd s.end_).sent ≤ _; rw [hs0.1]; decide⟩, rfl, ⟨rfl, rfl, rfl, rfl, rfl⟩, by show (s.mail ++ [downMail]).length ≤ _; simp, Nat.le_succ _,
          ⟨Nat.le_refl _, Nat.le_succ _⟩, ⟨Nat.le_refl _, Nat.le_succ _⟩, id⟩, by show 0 ≤ (downEnd s.end_).done; rw [hs0.2.1]; decide⟩
        · rcases List.mem_append.1 hm with hm | hm
          · exact q.mails m hm
          · rw [List.mem_singleton.1 hm]; decide
        · rcases List.mem_append.1 hm with hm | hm
          · exact hur.kinds m hm
          · rw [List.mem_singleton.1 hm]; decide
    · exact ⟨⟨hr, fun _ _ _ => fit_of q, hur, rfl, ⟨rfl, rfl, rfl, rfl, rfl⟩, Nat.le_succ _, Nat.le_succ _, ⟨Nat.le_refl _, Nat.le_succ _⟩, ⟨Nat.le_refl _, Nat.le_succ _⟩, id⟩, hd⟩
  by_cases k4 : a.kind = 4
  · rw [done4 k4]
    have hmay : maySite c (⟨s.id, s.disk, s.met, s.sides, s.end_, (rested s).plan, s.mail, s.asks, s.replies ++ [a.reply], s.syncs, s.born, s.ready⟩ : Site) = true := hr
    refine ⟨⟨hmay, fun _ hrl _ => fit_of ⟨q.table, q.sides, q.plan, q.mail, q.asks, by show (s.replies ++ [a.reply]).length ≤ _; simp; omega, q.syncs, q.items, q.side, q.acts, q.mails, ?_, q.disk⟩, ⟨hur.msgs, hur.kinds, hur.me, hur.sent⟩, rfl, ⟨rfl, rfl, rfl, rfl, rfl⟩, Nat.le_succ _,
      by show (s.replies ++ [a.reply]).length + s.syncs.length ≤ _; simp; omega, by show s.replies.length ≤ (s.replies ++ [a.reply]).length ∧ (s.replies ++ [a.reply]).length ≤ s.replies.length + 1; simp, ⟨Nat.le_refl _, Nat.le_succ _⟩, id⟩, hd⟩
    have qw := q.words
    simp only [fitWords, Bool.and_eq_true, List.all_eq_true, decide_eq_true_eq] at qw ⊢
    refine ⟨qw.1, fun r hr => ?_⟩
    rcases List.mem_append.1 hr with hr | hr
    · exact qw.2 r hr
    · rw [List.mem_singleton.1 hr]
      simp only [fitAct, Bool.and_eq_true, decide_eq_true_eq] at hfa
      exact hfa.2
  by_cases k5 : a.kind = 5
  · rw [done5 k5]
    have hmay : maySite c (⟨s.id, s.disk, s.met, s.sides, s.end_, (rested s).plan, s.mail, s.asks, s.replies, s.syncs ++ [a.pair], s.born, s.ready⟩ : Site) = true := hr
    exact ⟨⟨hmay, fun _ _ hsl => fit_of ⟨q.table, q.sides, q.plan, q.mail, q.asks, q.replies, by show (s.syncs ++ [a.pair]).length ≤ _; simp; omega, q.items, q.side, q.acts, q.mails, q.words, q.disk⟩, ⟨hur.msgs, hur.kinds, hur.me, hur.sent⟩, rfl, ⟨rfl, rfl, rfl, rfl, rfl⟩, Nat.le_succ _,
      by show s.replies.length + (s.syncs ++ [a.pair]).length ≤ _; simp; omega, ⟨Nat.le_refl _, Nat.le_succ _⟩, by show s.syncs.length ≤ (s.syncs ++ [a.pair]).length ∧ (s.syncs ++ [a.pair]).length ≤ s.syncs.length + 1; simp, id⟩, hd⟩
  · rw [done6 k1 k2 k3 k4 k5]
    have hmay : maySite c (⟨s.id, s.disk, s.met, s.sides, s.end_, (rested s).plan, s.mail, s.asks, s.replies, s.syncs, s.born, s.ready || (a.kind == 6)⟩ : Site) = true := hr
    exact ⟨⟨hmay, fun _ _ _ => fit_of ⟨q.table, q.sides, q.plan, q.mail, q.asks, q.replies, q.syncs, q.items, q.side, q.acts, q.mails, q.words, q.disk⟩, ⟨hur.msgs, hur.kinds, hur.me, hur.sent⟩, rfl, ⟨rfl, rfl, rfl, rfl, rfl⟩, Nat.le_succ _, Nat.le_succ _,
      ⟨Nat.le_refl _, Nat.le_succ _⟩, ⟨Nat.le_refl _, Nat.le_succ _⟩, fun hh => by show (s.ready || _) = true; rw [hh]; rfl⟩, hd⟩
end Go.Cat

set_option linter.unusedVariables false
set_option linter.unusedSimpArgs false
namespace Go.Cat
open Go
theorem P_law21_two : D_law21_two = N_law21_two () := rfl
theorem P_law21_blank : D_law21_blank = N_law21_blank () := by kernel_rfl
theorem P_law21_alive : D_law21_alive = N_law21_alive () := by kernel_rfl
def an0 : Site × (Bool × Unit) := (blankSite, (true, ()))
def noMsg0 : Msg := Msg.mk 0 0 false (Rec.mk 0 0 0 0 0 0 false false) 0 0 0 0 0 0 [] []
def an2 : Site × (Int × Unit) := (N_act_Do (two, ({ blankSite with plan := [⟨5, 0, [], 0, 0, noMsg0, ⟨0, 0, 0, []⟩, 1⟩, ⟨6, 0, [], 0, 0, noMsg0, ⟨0, 0, 0, []⟩, 0⟩] }, ()))).getD (blankSite, (0, ()))
def an4 : Site × (Int × Unit) := (N_act_Do (two, (an2.1, ()))).getD (blankSite, (0, ()))
def anS : Bool × (Int × (Int × (Site × (Bool × (Int × Unit))))) := (true, (an2.2.1, (an4.2.1, ({ blankSite with end_ := { blankSite.end_ with you := 4096, up := true } }, (true, (0, ()))))))
theorem names_start : D_law21_ActNames = loopO (D_law21_ActNames_l2 an0 an2 an4) anS := by kernel_rfl
theorem names_run : iter (D_law21_ActNames_l2 an0 an2 an4) 65 anS = some (true, ()) := by kernel_rfl
theorem P_law21_ActNames : D_law21_ActNames = some (true, ()) := names_start.trans (loopO_iff.2 ⟨65, names_run⟩)
def didN (s : Site) : Nat → Site
  | 0 => s
  | k + 1 => did (didN s k)
structure RunR (c : Config) (s : Site) (k : Nat) (t : Site) : Prop where
  may : maySite c t = true
  fit : fitSite t = true
  u : SiteU t
  done : 0 ≤ t.end_.done
  plan : t.plan = s.plan.drop k
  same : t.id = s.id ∧ t.met = s.met ∧ t.sides = s.sides ∧ t.asks = s.asks ∧ t.born = s.born
  mail : t.mail.length ≤ s.mail.length + k
  replies : t.replies.length ≤ s.replies.length + k
  syncs : t.syncs.length ≤ s.syncs.length + k
theorem run_r {c : Config} {s : Site} (h : smallSite s = true) (hm : maySite c s = true) (hu : SiteU s) (hd : 0 ≤ s.end_.done) : ∀ k, k ≤ s.plan.length → RunR c s k (didN s k)
  | 0, _ => ⟨hm, fit_small h, hu, hd, rfl, ⟨rfl, rfl, rfl, rfl, rfl⟩, Nat.le_refl _, Nat.le_refl _, Nat.le_refl _⟩
  | k + 1, hk => by
    have r := run_r h hm hu hd k (by omega)
    have q := small_r h
    have q1 := q.plan
    have q2 := q.mail
    have q3 := q.replies
    have q4 := q.syncs
    have hlt : k < s.plan.length := by omega
    obtain ⟨d, dd⟩ := did_keeps r.fit r.u r.done r.may (a := s.plan[k]) (l := s.plan.drop (k + 1)) (by rw [r.plan, List.drop_eq_getElem_cons hlt])
    obtain ⟨s1, s2, s3, s4, s5⟩ := r.same
    obtain ⟨t1, t2, t3, t4, t5⟩ := d.same
    have m := r.mail
    have m2 := r.replies
    have m3 := r.syncs
    refine ⟨d.may, d.fit (by omega) (by omega) (by omega), d.u, dd, ?_, ⟨t1.trans s1, t2.trans s2, t3.trans s3, t4.trans s4, t5.trans s5⟩, ?_, ?_, ?_⟩
    · show (did (didN s k)).plan = _
      rw [d.plan, r.plan, List.drop_drop, Nat.add_comm]
    · have := d.mail
      show (did (didN s k)).mail.length ≤ _
      omega
    · have := d.replies.2
      show (did (didN s k)).replies.length ≤ _
      omega
    · have := d.syncs.2
      show (did (didN s k)).syncs.length ≤ _
      omega
theorem P_law21_ActEnds (c : Config) (s : Site) (hu : SiteU s) (hd : 0 ≤ s.end_.done) : D_law21_ActEnds c s = some (true, ()) := by
  simp only [D_law21_ActEnds, N_law21_alive, b1, Option.bind_some, N_ref21_Great]
  cases h : smallSite s with
  | false => simp only [Bool.not_false, if_true]
  | true =>
  have hf := fit_small h
  simp only [Bool.not_true, Bool.false_eq_true, if_false, N_act_Check, hf, if_true, e1, Option.bind_some, e_ok]
  cases hm : maySite c s with
  | false => simp only [Bool.not_false, if_true]
  | true =>
  simp only [Bool.not_true, Bool.false_eq_true, if_false]
  have q := small_r h
  have q1 := q.plan
  have q3 := q.replies
  have q4 := q.syncs
  refine loopO_for (step := D_law21_ActEnds_l2 c s) (fun k => (true, (didN s k, ((k : Int), ())))) s.plan.length _ (fun k hk => ?_) ?_
  · have r := run_r h hm hu hd k (by omega)
    have r2 := run_r h hm hu hd (k + 1) (by omega)
    obtain ⟨d, dd⟩ := did_keeps r.fit r.u r.done r.may (a := s.plan[k]) (l := s.plan.drop (k + 1)) (by rw [r.plan, List.drop_eq_getElem_cons hk])
    have hne : (didN s k).plan ≠ [] := by
      rw [r.plan, List.drop_eq_getElem_cons hk]
      exact List.cons_ne_nil _ _
    have hdo : doT c (didN s k) = (didN s (k + 1), 0) := by simp only [doT, r.may, if_true, hne, if_false]; rfl
    have hd1 : decide ((k : Int) < (s.plan.length : Int)) = true := by simp; omega
    have l1 : (didN s k).plan.length = s.plan.length - k := by rw [r.plan, List.length_drop]
    have l2 : (didN s (k + 1)).plan.length = s.plan.length - (k + 1) := by rw [r2.plan, List.length_drop]
    have hw : IntKind.wrap .i64 (((didN s k).plan.length : Int) - 1) = ((didN s (k + 1)).plan.length : Int) := by rw [wrap_i64 (by omega) (by omega)]; omega
    have b1 := r.replies
    have b2 := r.syncs
    have c1 := r2.replies
    have c2 := r2.syncs
    have hboth : (didN s (k + 1)).replies.length + (didN s (k + 1)).syncs.length ≤ (didN s k).replies.length + (didN s k).syncs.length + 1 := d.both
    have hrep : (didN s k).replies.length ≤ (didN s (k + 1)).replies.length := d.replies.1
    have hsyn : (didN s k).syncs.length ≤ (didN s (k + 1)).syncs.length := d.syncs.1
    have hrdy : (didN s k).ready = true → (didN s (k + 1)).ready = true := d.ready
    have w1 : IntKind.wrap .i64 (((didN s (k + 1)).replies.length : Int) + ((didN s (k + 1)).syncs.length : Int)) = ((didN s (k + 1)).replies.length : Int) + ((didN s (k + 1)).syncs.length : Int) := wrap_i64 (by omega) (by omega)
    have w2 : IntKind.wrap .i64 (((didN s k).replies.length : Int) + ((didN s k).syncs.length : Int)) = ((didN s k).replies.length : Int) + ((didN s k).syncs.length : Int) := wrap_i64 (by omega) (by omega)
    have w3 : IntKind.wrap .i64 (((didN s k).replies.length : Int) + ((didN s k).syncs.length : Int) + 1) = ((didN s k).replies.length : Int) + ((didN s k).syncs.length : Int) + 1 := wrap_i64 (by omega) (by omega)
    have g1 : ¬ (decide ((((didN s (k + 1)).replies.length : Int) + ((didN s (k + 1)).syncs.length : Int)) > (((didN s k).replies.length : Int) + ((didN s k).syncs.length : Int) + 1)) = true) := by simp; omega
    have g2 : ¬ (decide (((didN s (k + 1)).replies.length : Int) < ((didN s k).replies.length : Int)) = true) := by simp; omega
    have g3 : ¬ (decide (((didN s (k + 1)).syncs.length : Int) < ((didN s k).syncs.length : Int)) = true) := by simp; omega
    simp only [D_law21_ActEnds_l2, hd1, if_true, N_act_Do, r.fit, Option.bind_some, hdo, bne_self_eq_false, Bool.false_eq_true, if_false, N_act_Check, r2.fit, e1, r2.may, e_ok, Bool.not_true, hw, w1, w2, w3, g1, g2, g3, wrap_succ (k := k) (by rw [maxLen_eq]; omega)]
    cases hr : (didN s k).ready with
    | false => simp
    | true => simp [hrdy hr]
  · have hd1 : ¬ (decide ((s.plan.length : Int) < (s.plan.length : Int)) = true) := by simp
    have r := run_r h hm hu hd s.plan.length (Nat.le_refl _)
    have hp : (didN s s.plan.length).plan = [] := by rw [r.plan]; simp
    obtain ⟨s1, s2, s3, s4, s5⟩ := r.same
    have hdo : doT c (didN s s.plan.length) = (noSite, 6) := by simp only [doT, r.may, if_true, hp]
    have hsame : (⟨s.id, (didN s s.plan.length).disk, s.met, s.sides, (didN s s.plan.length).end_, [], (didN s s.plan.length).mail, s.asks, (didN s s.plan.length).replies, (didN s s.plan.length).syncs, s.born, (didN s s.plan.length).ready⟩ : Site) = didN s s.plan.length := by
      rw [← s1, ← s2, ← s3, ← s4, ← s5, ← hp]
    have hin : N_ref21_Same (didN s s.plan.length, ((⟨s.id, (didN s s.plan.length).disk, s.met, s.sides, (didN s s.plan.length).end_, [], (didN s s.plan.length).mail, s.asks, (didN s s.plan.length).replies, (didN s s.plan.length).syncs, s.born, (didN s s.plan.length).ready⟩ : Site), ())) = some (true, ()) := by
      rw [hsame]; simp only [N_ref21_Same, if_true, b1]
    simp only [D_law21_ActEnds_l2, hd1, if_false, Bool.false_eq_true]
    refine congrArg (Option.map Sum.inr) ?_
    simp only [D_law21_ActEnds_t1, N_act_Do, r.fit, if_true, Option.bind_some, hdo, N_ref21_Twin, hf, beq_self_eq_true, hin]
end Go.Cat

set_option linter.unusedVariables false
namespace Go.Cat
open Go
theorem okSiteU {s : Site} (h : OkT (.st .Site) s) : SiteU s := by
  have hm : OkL (.sl (.st .Mail) s.mail) := h _ (by simp [cells, stCells])
  have hp : OkL (.sl (.st .Act) s.plan) := h _ (by simp [cells, stCells])
  refine ⟨fun a ha => ?_, (okSite h).kinds, okL_u32 (h (.int .u32 s.end_.me) (by simp [cells, stCells])), okL_u32 (h (.int .u32 s.end_.sent) (by simp [cells, stCells]))⟩
  have := okL_elem hp ha
  exact ⟨okL_u8 (this (.int .u8 a.msg.kind) (by simp [cells, stCells])), okL_u8 (this (.int .u8 a.msg.op) (by simp [cells, stCells])), okL_u32 (this (.int .u32 a.msg.born) (by simp [cells, stCells])),
    okL_u32 (this (.int .u32 a.msg.epoch) (by simp [cells, stCells])), okL_u32 (this (.int .u32 a.msg.n) (by simp [cells, stCells])),
    ⟨okL_u32 (this (.int .u32 a.msg.rec_.born) (by simp [cells, stCells])), okL_u32 (this (.int .u32 a.msg.rec_.epoch) (by simp [cells, stCells]))⟩⟩
theorem okSite_done {s : Site} (h : OkT (.st .Site) s) : 0 ≤ s.end_.done := (okL_u32 (h (.int .u32 s.end_.done) (by simp [cells, stCells]))).1
theorem okEnd_sent {e : End} (h : OkT (.st .End) e) : 0 ≤ e.sent ∧ e.sent ≤ 4294967295 := okL_u32 (h (.int .u32 e.sent) (by simp [cells, stCells]))
theorem Q_slices_Concat_byte_byte (x : TT [(.sl (.sl (.int .u8)))]) (r : TT [(.sl (.int .u8))]) (h : OkTT [(.sl (.sl (.int .u8)))] x) (hn : N_slices_Concat_byte_byte x = some r) : D_slices_Concat_byte_byte x.1 = some r := by
  have hc := ite_some hn
  refine (P_slices_Concat x.1 hc.1 (fun b hb => of_decide_eq_true (List.all_eq_true.1 hc.2 b hb))).trans ?_
  exact (if_pos hc).symm.trans hn
theorem Q_slices_Repeat_uint8_uint8 (x : TT [(.sl (.int .u8)), (.int .i64)]) (r : TT [(.sl (.int .u8))]) (h : OkTT [(.sl (.int .u8)), (.int .i64)] x) (hn : N_slices_Repeat_uint8_uint8 x = some r) : D_slices_Repeat_uint8_uint8 x.1 x.2.1 = some r := by
  obtain ⟨l, n, _⟩ := x
  have hc := ite_some hn
  have hn' := (if_pos hc).symm.trans hn
  obtain ⟨h1, h2, h3⟩ := hc
  match l, h1 with
  | [v], _ =>
    obtain ⟨m, rfl⟩ := Int.eq_ofNat_of_zero_le (show 0 ≤ n from h2)
    have h3' : ((m : Nat) : Int) ≤ 1000 := h3
    exact (P_slices_Repeat v m (by omega)).trans hn'
theorem Q_msg_sizes (x : TT []) (r : TT [(.sl (.int .i64))]) (h : OkTT [] x) (hn : N_msg_sizes x = some r) : D_msg_sizes = some r := hn
theorem Q_msg_Write (x : TT [(.st .Msg)]) (r : TT [(.sl (.int .u8)), (.int .i64)]) (h : OkTT [(.st .Msg)] x) (hn : N_msg_Write x = some r) : D_msg_Write x.1 = some r := (P_msg_Write x.1 (okMsgU h.1)).trans hn
theorem Q_disk_New (x : TT [(.int .i64)]) (r : TT [(.st .Disk), (.int .i64)]) (h : OkTT [(.int .i64)] x) (hn : N_disk_New x = some r) : D_disk_New x.1 = some r := (P_disk_New x.1).trans hn
theorem Q_disk_asked (x : TT [(.st .Disk), (.int .i64)]) (r : TT [(.int .i64)]) (h : OkTT [(.st .Disk), (.int .i64)] x) (hn : N_disk_asked x = some r) : D_disk_asked x.1 x.2.1 = some r := (P_disk_asked x.1 x.2.1).trans hn
theorem Q_disk_Write (x : TT [(.st .Disk), (.int .i64), (.sl (.int .u8))]) (r : TT [(.st .Disk), (.int .i64)]) (h : OkTT [(.st .Disk), (.int .i64), (.sl (.int .u8))] x) (hn : N_disk_Write x = some r) : D_disk_Write x.1 x.2.1 x.2.2.1 = some r := (P_disk_Write x.1 x.2.1 x.2.2.1 (ite_some hn)).trans hn
theorem Q_disk_Flush (x : TT [(.st .Disk)]) (r : TT [(.st .Disk), (.int .i64)]) (h : OkTT [(.st .Disk)] x) (hn : N_disk_Flush x = some r) : D_disk_Flush x.1 = some r := (P_disk_Flush x.1 (ite_some hn)).trans hn
theorem Q_ring_New (x : TT [(.int .i64)]) (r : TT [(.st .Queue), (.int .i64)]) (h : OkTT [(.int .i64)] x) (hn : N_ring_New x = some r) : D_ring_New x.1 = some r := (P_ring_New x.1).trans hn
theorem Q_ring_Push (x : TT [(.st .Queue), (.sl (.int .u8))]) (r : TT [(.st .Queue), (.int .i64)]) (h : OkTT [(.st .Queue), (.sl (.int .u8))] x) (hn : N_ring_Push x = some r) : D_ring_Push x.1 x.2.1 = some r := (P_ring_Push x.1 x.2.1 (ite_some hn).1 (ite_some hn).2).trans hn
theorem Q_sess_New (x : TT [(.int .u32)]) (r : TT [(.st .End), (.int .i64)]) (h : OkTT [(.int .u32)] x) (hn : N_sess_New x = some r) : D_sess_New x.1 = some r := (P_sess_New x.1).trans hn
theorem Q_sess_Put (x : TT [(.st .Config), (.st .End), (.sl (.int .u8))]) (r : TT [(.st .End), (.int .i64)]) (h : OkTT [(.st .Config), (.st .End), (.sl (.int .u8))] x) (hn : N_sess_Put x = some r) : D_sess_Put x.1 x.2.1 x.2.2.1 = some r := (P_sess_Put x.1 x.2.1 x.2.2.1 (ite_some hn) (okEnd_sent h.2.1)).trans hn
theorem Q_bits_Of (x : TT [(.int .i64), (.sl (.int .i64))]) (r : TT [(.sl (.int .u8)), (.int .i64)]) (h : OkTT [(.int .i64), (.sl (.int .i64))] x) (hn : N_bits_Of x = some r) : D_bits_Of x.1 x.2.1 = some r := by
  obtain ⟨n, l, _⟩ := x
  have hl : l = [] := ite_some hn
  subst hl
  exact (P_bits_Of n).trans hn
theorem Q_act_Side (x : TT [(.st .Config)]) (r : TT [(.st .Side), (.int .i64)]) (h : OkTT [(.st .Config)] x) (hn : N_act_Side x = some r) : D_act_Side x.1 = some r := (P_act_Side x.1).trans hn
theorem Q_act_Do (x : TT [(.st .Config), (.st .Site)]) (r : TT [(.st .Site), (.int .i64)]) (h : OkTT [(.st .Config), (.st .Site)] x) (hn : N_act_Do x = some r) : D_act_Do x.1 x.2.1 = some r := (P_act_Do x.1 x.2.1 (ite_some hn) (okSiteU h.2.1)).trans hn
theorem Q_law21_two (x : TT []) (r : TT [(.st .Config)]) (h : OkTT [] x) (hn : N_law21_two x = some r) : D_law21_two = some r := P_law21_two.trans hn
theorem Q_law21_blank (x : TT []) (r : TT [(.st .Site), .bool]) (h : OkTT [] x) (hn : N_law21_blank x = some r) : D_law21_blank = some r := P_law21_blank.trans hn
theorem Q_law21_alive (x : TT []) (r : TT [.bool]) (h : OkTT [] x) (hn : N_law21_alive x = some r) : D_law21_alive = some r := P_law21_alive.trans hn
end Go.Cat
