/-
  My own text: a part of the proof.
  My own text: a part of the proof.
  My own text: a part of the proof.
  My own text: a part of the proof.
  My own text: a part of the proof.
  My own text: a part of the proof.
  My own text: a part of the proof.
-/
import Derived.Test.YtiflikkmjeikdaaGreatC6
set_option linter.unusedVariables false
set_option linter.unusedSimpArgs false
set_option linter.unusedVariables false
namespace Go.Cat
open Go
noncomputable def D_act_Twin_l1 (p1 : Site) (r1 : (Disk × Unit)) (r2 : (End × Unit)) (r3 : ((List Rec) × Unit)) (r4 : ((List Int) × Unit)) (l5 : ((List Side) × ((List Side) × (Int × (Int × Unit))))) (l6 : ((List Act) × ((List Act) × (Int × (Int × Unit))))) (l7 : ((List Mail) × ((List Mail) × (Int × (Int × Unit))))) (l8 : ((List Ask) × ((List Ask) × (Int × (Int × Unit))))) (l9 : ((List Reply) × ((List Reply) × (Int × (Int × Unit))))) : Option (((List Reply) × ((List Reply) × (Int × (Int × Unit)))) ⊕ (Site × Unit)) :=
    if (decide (l9.2.2.2.1 < l9.2.2.1)) then
    if (decide (((0 : Int) ≤ l9.2.2.2.1) ∧ (l9.2.2.2.1 < (((List.length l9.2.1) : Nat) : Int)))) then
    Option.bind (N_act_reply ((nth l9.2.1 (Int.toNat l9.2.2.2.1)), ())) fun r10 =>
      if (decide (((List.length l9.1) + (List.length (r10.1 :: []))) ≤ big)) then
      some (Sum.inl ((l9.1 ++ (r10.1 :: [])), (l9.2.1, (l9.2.2.1, ((IntKind.wrap IntKind.i64 (l9.2.2.2.1 + (1 : Int))), ())))))
      else none
    else none
  else
    some (Sum.inr ((Site.mk p1.id r1.1 (Meta.mk p1.met.super p1.met.count p1.met.turn r3.1) l5.1 r2.1 l6.1 l7.1 l8.1 l9.1 r4.1 p1.born p1.ready), ()))
noncomputable def D_act_Twin_t2 (p1 : Site) (r1 : (Disk × Unit)) (r2 : (End × Unit)) (r3 : ((List Rec) × Unit)) (r4 : ((List Int) × Unit)) (l5 : ((List Side) × ((List Side) × (Int × (Int × Unit))))) (l6 : ((List Act) × ((List Act) × (Int × (Int × Unit))))) (l7 : ((List Mail) × ((List Mail) × (Int × (Int × Unit))))) (l8 : ((List Ask) × ((List Ask) × (Int × (Int × Unit))))) : Option (Site × Unit) :=
    loopO (D_act_Twin_l1 p1 r1 r2 r3 r4 l5 l6 l7 l8) ([], (p1.replies, ((((List.length p1.replies) : Nat) : Int), ((0 : Int), ()))))
noncomputable def D_act_Twin_l3 (p1 : Site) (r1 : (Disk × Unit)) (r2 : (End × Unit)) (r3 : ((List Rec) × Unit)) (r4 : ((List Int) × Unit)) (l5 : ((List Side) × ((List Side) × (Int × (Int × Unit))))) (l6 : ((List Act) × ((List Act) × (Int × (Int × Unit))))) (l7 : ((List Mail) × ((List Mail) × (Int × (Int × Unit))))) (l8 : ((List Ask) × ((List Ask) × (Int × (Int × Unit))))) : Option (((List Ask) × ((List Ask) × (Int × (Int × Unit)))) ⊕ (Site × Unit)) :=
    if (decide (l8.2.2.2.1 < l8.2.2.1)) then
    if (decide (((0 : Int) ≤ l8.2.2.2.1) ∧ (l8.2.2.2.1 < (((List.length l8.2.1) : Nat) : Int)))) then
    Option.bind (N_bytes_Clone ((nth l8.2.1 (Int.toNat l8.2.2.2.1)).bytes, ())) fun r9 =>
      if (decide (((List.length l8.1) + (List.length ((Ask.mk (nth l8.2.1 (Int.toNat l8.2.2.2.1)).id (nth l8.2.1 (Int.toNat l8.2.2.2.1)).kind (nth l8.2.1 (Int.toNat l8.2.2.2.1)).pair (nth l8.2.1 (Int.toNat l8.2.2.2.1)).track (nth l8.2.1 (Int.toNat l8.2.2.2.1)).op r9.1) :: []))) ≤ big)) then
      some (Sum.inl ((l8.1 ++ ((Ask.mk (nth l8.2.1 (Int.toNat l8.2.2.2.1)).id (nth l8.2.1 (Int.toNat l8.2.2.2.1)).kind (nth l8.2.1 (Int.toNat l8.2.2.2.1)).pair (nth l8.2.1 (Int.toNat l8.2.2.2.1)).track (nth l8.2.1 (Int.toNat l8.2.2.2.1)).op r9.1) :: [])), (l8.2.1, (l8.2.2.1, ((IntKind.wrap IntKind.i64 (l8.2.2.2.1 + (1 : Int))), ())))))
      else none
    else none
  else
    Option.map Sum.inr (D_act_Twin_t2 p1 r1 r2 r3 r4 l5 l6 l7 l8)
noncomputable def D_act_Twin_t4 (p1 : Site) (r1 : (Disk × Unit)) (r2 : (End × Unit)) (r3 : ((List Rec) × Unit)) (r4 : ((List Int) × Unit)) (l5 : ((List Side) × ((List Side) × (Int × (Int × Unit))))) (l6 : ((List Act) × ((List Act) × (Int × (Int × Unit))))) (l7 : ((List Mail) × ((List Mail) × (Int × (Int × Unit))))) : Option (Site × Unit) :=
    loopO (D_act_Twin_l3 p1 r1 r2 r3 r4 l5 l6 l7) ([], (p1.asks, ((((List.length p1.asks) : Nat) : Int), ((0 : Int), ()))))
noncomputable def D_act_Twin_l5 (p1 : Site) (r1 : (Disk × Unit)) (r2 : (End × Unit)) (r3 : ((List Rec) × Unit)) (r4 : ((List Int) × Unit)) (l5 : ((List Side) × ((List Side) × (Int × (Int × Unit))))) (l6 : ((List Act) × ((List Act) × (Int × (Int × Unit))))) (l7 : ((List Mail) × ((List Mail) × (Int × (Int × Unit))))) : Option (((List Mail) × ((List Mail) × (Int × (Int × Unit)))) ⊕ (Site × Unit)) :=
    if (decide (l7.2.2.2.1 < l7.2.2.1)) then
    if (decide (((0 : Int) ≤ l7.2.2.2.1) ∧ (l7.2.2.2.1 < (((List.length l7.2.1) : Nat) : Int)))) then
    Option.bind (N_msg_Twin ((nth l7.2.1 (Int.toNat l7.2.2.2.1)).msg, ())) fun r8 =>
      if (decide (((List.length l7.1) + (List.length ((Mail.mk (nth l7.2.1 (Int.toNat l7.2.2.2.1)).kind (nth l7.2.1 (Int.toNat l7.2.2.2.1)).me (nth l7.2.1 (Int.toNat l7.2.2.2.1)).you r8.1) :: []))) ≤ big)) then
      some (Sum.inl ((l7.1 ++ ((Mail.mk (nth l7.2.1 (Int.toNat l7.2.2.2.1)).kind (nth l7.2.1 (Int.toNat l7.2.2.2.1)).me (nth l7.2.1 (Int.toNat l7.2.2.2.1)).you r8.1) :: [])), (l7.2.1, (l7.2.2.1, ((IntKind.wrap IntKind.i64 (l7.2.2.2.1 + (1 : Int))), ())))))
      else none
    else none
  else
    Option.map Sum.inr (D_act_Twin_t4 p1 r1 r2 r3 r4 l5 l6 l7)
noncomputable def D_act_Twin_t6 (p1 : Site) (r1 : (Disk × Unit)) (r2 : (End × Unit)) (r3 : ((List Rec) × Unit)) (r4 : ((List Int) × Unit)) (l5 : ((List Side) × ((List Side) × (Int × (Int × Unit))))) (l6 : ((List Act) × ((List Act) × (Int × (Int × Unit))))) : Option (Site × Unit) :=
    loopO (D_act_Twin_l5 p1 r1 r2 r3 r4 l5 l6) ([], (p1.mail, ((((List.length p1.mail) : Nat) : Int), ((0 : Int), ()))))
noncomputable def D_act_Twin_l7 (p1 : Site) (r1 : (Disk × Unit)) (r2 : (End × Unit)) (r3 : ((List Rec) × Unit)) (r4 : ((List Int) × Unit)) (l5 : ((List Side) × ((List Side) × (Int × (Int × Unit))))) (l6 : ((List Act) × ((List Act) × (Int × (Int × Unit))))) : Option (((List Act) × ((List Act) × (Int × (Int × Unit)))) ⊕ (Site × Unit)) :=
    if (decide (l6.2.2.2.1 < l6.2.2.1)) then
    if (decide (((0 : Int) ≤ l6.2.2.2.1) ∧ (l6.2.2.2.1 < (((List.length l6.2.1) : Nat) : Int)))) then
    Option.bind (N_bytes_Clone ((nth l6.2.1 (Int.toNat l6.2.2.2.1)).bytes, ())) fun r7 =>
      Option.bind (N_msg_Twin ((nth l6.2.1 (Int.toNat l6.2.2.2.1)).msg, ())) fun r8 =>
        Option.bind (N_act_reply ((nth l6.2.1 (Int.toNat l6.2.2.2.1)).reply, ())) fun r9 =>
          if (decide (((List.length l6.1) + (List.length ((Act.mk (nth l6.2.1 (Int.toNat l6.2.2.2.1)).kind (nth l6.2.1 (Int.toNat l6.2.2.2.1)).at_ r7.1 (nth l6.2.1 (Int.toNat l6.2.2.2.1)).me (nth l6.2.1 (Int.toNat l6.2.2.2.1)).you r8.1 r9.1 (nth l6.2.1 (Int.toNat l6.2.2.2.1)).pair) :: []))) ≤ big)) then
          some (Sum.inl ((l6.1 ++ ((Act.mk (nth l6.2.1 (Int.toNat l6.2.2.2.1)).kind (nth l6.2.1 (Int.toNat l6.2.2.2.1)).at_ r7.1 (nth l6.2.1 (Int.toNat l6.2.2.2.1)).me (nth l6.2.1 (Int.toNat l6.2.2.2.1)).you r8.1 r9.1 (nth l6.2.1 (Int.toNat l6.2.2.2.1)).pair) :: [])), (l6.2.1, (l6.2.2.1, ((IntKind.wrap IntKind.i64 (l6.2.2.2.1 + (1 : Int))), ())))))
          else none
    else none
  else
    Option.map Sum.inr (D_act_Twin_t6 p1 r1 r2 r3 r4 l5 l6)
noncomputable def D_act_Twin_t8 (p1 : Site) (r1 : (Disk × Unit)) (r2 : (End × Unit)) (r3 : ((List Rec) × Unit)) (r4 : ((List Int) × Unit)) (l5 : ((List Side) × ((List Side) × (Int × (Int × Unit))))) : Option (Site × Unit) :=
    loopO (D_act_Twin_l7 p1 r1 r2 r3 r4 l5) ([], (p1.plan, ((((List.length p1.plan) : Nat) : Int), ((0 : Int), ()))))
noncomputable def D_act_Twin_l9 (p1 : Site) (r1 : (Disk × Unit)) (r2 : (End × Unit)) (r3 : ((List Rec) × Unit)) (r4 : ((List Int) × Unit)) (l5 : ((List Side) × ((List Side) × (Int × (Int × Unit))))) : Option (((List Side) × ((List Side) × (Int × (Int × Unit)))) ⊕ (Site × Unit)) :=
    if (decide (l5.2.2.2.1 < l5.2.2.1)) then
    if (decide (((0 : Int) ≤ l5.2.2.2.1) ∧ (l5.2.2.2.1 < (((List.length l5.2.1) : Nat) : Int)))) then
    Option.bind (N_bytes_Clone ((nth l5.2.1 (Int.toNat l5.2.2.2.1)).marks, ())) fun r6 =>
      Option.bind (N_bytes_Clone ((nth l5.2.1 (Int.toNat l5.2.2.2.1)).work, ())) fun r7 =>
        Option.bind (N_bytes_Clone ((nth l5.2.1 (Int.toNat l5.2.2.2.1)).need, ())) fun r8 =>
          Option.bind (N_slices_Clone_api_Sent_api_Sent ((nth l5.2.1 (Int.toNat l5.2.2.2.1)).out, ())) fun r9 =>
            Option.bind (N_slices_Clone_api_Wait_api_Wait ((nth l5.2.1 (Int.toNat l5.2.2.2.1)).waits, ())) fun r10 =>
              if (decide (((List.length l5.1) + (List.length ((Side.mk r6.1 r7.1 r9.1 (nth l5.2.1 (Int.toNat l5.2.2.2.1)).n r10.1 r8.1 (nth l5.2.1 (Int.toNat l5.2.2.2.1)).first (nth l5.2.1 (Int.toNat l5.2.2.2.1)).next (nth l5.2.1 (Int.toNat l5.2.2.2.1)).op (nth l5.2.1 (Int.toNat l5.2.2.2.1)).ask (nth l5.2.1 (Int.toNat l5.2.2.2.1)).knows (nth l5.2.1 (Int.toNat l5.2.2.2.1)).over (nth l5.2.1 (Int.toNat l5.2.2.2.1)).clean (nth l5.2.1 (Int.toNat l5.2.2.2.1)).again) :: []))) ≤ big)) then
              some (Sum.inl ((l5.1 ++ ((Side.mk r6.1 r7.1 r9.1 (nth l5.2.1 (Int.toNat l5.2.2.2.1)).n r10.1 r8.1 (nth l5.2.1 (Int.toNat l5.2.2.2.1)).first (nth l5.2.1 (Int.toNat l5.2.2.2.1)).next (nth l5.2.1 (Int.toNat l5.2.2.2.1)).op (nth l5.2.1 (Int.toNat l5.2.2.2.1)).ask (nth l5.2.1 (Int.toNat l5.2.2.2.1)).knows (nth l5.2.1 (Int.toNat l5.2.2.2.1)).over (nth l5.2.1 (Int.toNat l5.2.2.2.1)).clean (nth l5.2.1 (Int.toNat l5.2.2.2.1)).again) :: [])), (l5.2.1, (l5.2.2.1, ((IntKind.wrap IntKind.i64 (l5.2.2.2.1 + (1 : Int))), ())))))
              else none
    else none
  else
    Option.map Sum.inr (D_act_Twin_t8 p1 r1 r2 r3 r4 l5)
noncomputable def D_act_Twin (p1 : Site) : Option (Site × Unit) :=
  Option.bind (N_disk_Twin (p1.disk, ())) fun r1 =>
    Option.bind (N_sess_Twin (p1.end_, ())) fun r2 =>
      Option.bind (N_slices_Clone_api_Rec_api_Rec (p1.met.table, ())) fun r3 =>
        Option.bind (N_slices_Clone_int_int (p1.syncs, ())) fun r4 =>
          loopO (D_act_Twin_l9 p1 r1 r2 r3 r4) ([], (p1.sides, ((((List.length p1.sides) : Nat) : Int), ((0 : Int), ()))))
noncomputable def D_sess_Twin (p1 : End) : Option (End × Unit) :=
  Option.bind (N_ring_Twin (p1.out, ())) fun r1 =>
    some ((End.mk p1.me p1.you p1.up p1.dead p1.sent p1.done r1.1 p1.got p1.quiet), ())
noncomputable def D_disk_Twin_l1  (l1 : (((List Sector) × ((List Pend) × Unit)) × ((List Pend) × (Int × (Int × Unit))))) : Option ((((List Sector) × ((List Pend) × Unit)) × ((List Pend) × (Int × (Int × Unit)))) ⊕ (Disk × Unit)) :=
    if (decide (l1.2.2.2.1 < l1.2.2.1)) then
    if (decide (((0 : Int) ≤ l1.2.2.2.1) ∧ (l1.2.2.2.1 < (((List.length l1.2.1) : Nat) : Int)))) then
    Option.bind (N_slices_Clone_byte_byte ((nth l1.2.1 (Int.toNat l1.2.2.2.1)).bytes, ())) fun r2 =>
      if (decide (((List.length l1.1.2.1) + (List.length ((Pend.mk (nth l1.2.1 (Int.toNat l1.2.2.2.1)).at_ r2.1) :: []))) ≤ big)) then
      some (Sum.inl ((l1.1.1, ((l1.1.2.1 ++ ((Pend.mk (nth l1.2.1 (Int.toNat l1.2.2.2.1)).at_ r2.1) :: [])), ())), (l1.2.1, (l1.2.2.1, ((IntKind.wrap IntKind.i64 (l1.2.2.2.1 + (1 : Int))), ())))))
      else none
    else none
  else
    some (Sum.inr ((Disk.mk l1.1.1 l1.1.2.1), ()))
noncomputable def D_disk_Twin_t2 (p1 : Disk) (l1 : (((List Sector) × ((List Pend) × Unit)) × ((List Sector) × (Int × (Int × Unit))))) : Option (Disk × Unit) :=
    loopO (D_disk_Twin_l1 ) ((l1.1.1, (l1.1.2.1, ())), (p1.cache, ((((List.length p1.cache) : Nat) : Int), ((0 : Int), ()))))
noncomputable def D_disk_Twin_l3 (p1 : Disk) (l1 : (((List Sector) × ((List Pend) × Unit)) × ((List Sector) × (Int × (Int × Unit))))) : Option ((((List Sector) × ((List Pend) × Unit)) × ((List Sector) × (Int × (Int × Unit)))) ⊕ (Disk × Unit)) :=
    if (decide (l1.2.2.2.1 < l1.2.2.1)) then
    if (decide (((0 : Int) ≤ l1.2.2.2.1) ∧ (l1.2.2.2.1 < (((List.length l1.2.1) : Nat) : Int)))) then
    Option.bind (N_slices_Clone_byte_byte ((nth l1.2.1 (Int.toNat l1.2.2.2.1)).bytes, ())) fun r2 =>
      if (decide (((List.length l1.1.1) + (List.length ((Sector.mk r2.1 (nth l1.2.1 (Int.toNat l1.2.2.2.1)).bad) :: []))) ≤ big)) then
      some (Sum.inl (((l1.1.1 ++ ((Sector.mk r2.1 (nth l1.2.1 (Int.toNat l1.2.2.2.1)).bad) :: [])), (l1.1.2.1, ())), (l1.2.1, (l1.2.2.1, ((IntKind.wrap IntKind.i64 (l1.2.2.2.1 + (1 : Int))), ())))))
      else none
    else none
  else
    Option.map Sum.inr (D_disk_Twin_t2 p1 l1)
noncomputable def D_disk_Twin (p1 : Disk) : Option (Disk × Unit) :=
  loopO (D_disk_Twin_l3 p1) (([], ([], ())), (p1.sectors, ((((List.length p1.sectors) : Nat) : Int), ((0 : Int), ()))))
noncomputable def D_msg_Twin (p1 : Msg) : Option (Msg × Unit) :=
  Option.bind (N_slices_Clone_byte_byte (p1.marks, ())) fun r1 =>
    Option.bind (N_slices_Clone_byte_byte (p1.bytes, ())) fun r2 =>
      some ((Msg.mk p1.kind p1.pair p1.has p1.rec_ p1.op p1.born p1.epoch p1.track p1.n p1.code r1.1 r2.1), ())
noncomputable def D_ring_Twin_l1  (l1 : (((List (List Int)) × (Int × (Int × Unit))) × ((List (List Int)) × (Int × (Int × Unit))))) : Option ((((List (List Int)) × (Int × (Int × Unit))) × ((List (List Int)) × (Int × (Int × Unit)))) ⊕ (Queue × Unit)) :=
    if (decide (l1.2.2.2.1 < l1.2.2.1)) then
    if (decide (((0 : Int) ≤ l1.2.2.2.1) ∧ (l1.2.2.2.1 < (((List.length l1.2.1) : Nat) : Int)))) then
    Option.bind (N_ring_text ((nth l1.2.1 (Int.toNat l1.2.2.2.1)), ())) fun r2 =>
      if (decide (((0 : Int) ≤ l1.2.2.2.1) ∧ (l1.2.2.2.1 < (((List.length l1.1.1) : Nat) : Int)))) then
      some (Sum.inl (((List.set l1.1.1 (Int.toNat l1.2.2.2.1) r2.1), l1.1.2), (l1.2.1, (l1.2.2.1, ((IntKind.wrap IntKind.i64 (l1.2.2.2.1 + (1 : Int))), ())))))
      else none
    else none
  else
    some (Sum.inr ((Queue.mk l1.1.1 l1.1.2.1 l1.1.2.2.1), ()))
noncomputable def D_ring_Twin (p1 : Queue) : Option (Queue × Unit) :=
  if (decide (((0 : Int) ≤ (((List.length p1.items) : Nat) : Int)) ∧ (((((List.length p1.items) : Nat) : Int) ≤ (((List.length p1.items) : Nat) : Int)) ∧ ((((List.length p1.items) : Nat) : Int) ≤ ((big : Nat) : Int))))) then
  loopO (D_ring_Twin_l1 ) (((List.replicate (Int.toNat (((List.length p1.items) : Nat) : Int)) []), (p1.head, (p1.many, ()))), (p1.items, ((((List.length p1.items) : Nat) : Int), ((0 : Int), ()))))
  else none
noncomputable def D_act_reply (p1 : Reply) : Option (Reply × Unit) :=
  Option.bind (N_slices_Clone_byte_byte (p1.bytes, ())) fun r1 =>
    some ((Reply.mk p1.ask p1.code p1.state r1.1), ())
noncomputable def D_crc_Sum (p1 : (List Int)) : Option (Int × Unit) :=
  Option.bind (N_crc_More ((0 : Int), (p1, ()))) fun r1 =>
    some (r1.1, ())
noncomputable def D_crc_Seal (p1 : (List Int)) : Option ((List Int) × (Int × Unit)) :=
  if (decide ((((List.length p1) : Nat) : Int) > (4096 : Int))) then
    some ([], ((4 : Int), ()))
  else
    Option.bind (N_crc_Sum (p1, ())) fun r1 =>
      if (decide (((0 : Int) ≤ (0 : Int)) ∧ (((0 : Int) ≤ (IntKind.wrap IntKind.i64 ((((List.length p1) : Nat) : Int) + (4 : Int)))) ∧ ((IntKind.wrap IntKind.i64 ((((List.length p1) : Nat) : Int) + (4 : Int))) ≤ ((big : Nat) : Int))))) then
      if (decide (((List.length (List.replicate (Int.toNat (0 : Int)) (0 : Int))) + (List.length p1)) ≤ big)) then
      if (decide ((0 : Int) ≤ (8 : Int))) then
      if (decide ((0 : Int) ≤ (16 : Int))) then
      if (decide ((0 : Int) ≤ (24 : Int))) then
      if (decide (((List.length ((List.replicate (Int.toNat (0 : Int)) (0 : Int)) ++ p1)) + (List.length ((IntKind.wrap IntKind.u8 r1.1) :: ((IntKind.wrap IntKind.u8 (shrI IntKind.u32 r1.1 (8 : Int))) :: ((IntKind.wrap IntKind.u8 (shrI IntKind.u32 r1.1 (16 : Int))) :: ((IntKind.wrap IntKind.u8 (shrI IntKind.u32 r1.1 (24 : Int))) :: [])))))) ≤ big)) then
      some ((((List.replicate (Int.toNat (0 : Int)) (0 : Int)) ++ p1) ++ ((IntKind.wrap IntKind.u8 r1.1) :: ((IntKind.wrap IntKind.u8 (shrI IntKind.u32 r1.1 (8 : Int))) :: ((IntKind.wrap IntKind.u8 (shrI IntKind.u32 r1.1 (16 : Int))) :: ((IntKind.wrap IntKind.u8 (shrI IntKind.u32 r1.1 (24 : Int))) :: []))))), ((0 : Int), ()))
      else none
      else none
      else none
      else none
      else none
      else none
noncomputable def D_crc_Open (p1 : (List Int)) : Option ((List Int) × (Int × Unit)) :=
  if (decide ((IntKind.wrap IntKind.i64 ((((List.length p1) : Nat) : Int) - (4 : Int))) < (0 : Int))) then
    some ([], ((10 : Int), ()))
  else
    if (decide ((IntKind.wrap IntKind.i64 ((((List.length p1) : Nat) : Int) - (4 : Int))) > (4096 : Int))) then
      some ([], ((4 : Int), ()))
    else
      if (decide (((0 : Int) ≤ (0 : Int)) ∧ (((0 : Int) ≤ (IntKind.wrap IntKind.i64 ((((List.length p1) : Nat) : Int) - (4 : Int)))) ∧ (((IntKind.wrap IntKind.i64 ((((List.length p1) : Nat) : Int) - (4 : Int))) ≤ (((List.length p1) : Nat) : Int)) ∧ ((((List.length p1) : Nat) : Int) ≤ (((List.length p1) : Nat) : Int)))))) then
      Option.bind (N_crc_Seal ((List.drop (Int.toNat (0 : Int)) (List.take (Int.toNat (IntKind.wrap IntKind.i64 ((((List.length p1) : Nat) : Int) - (4 : Int)))) p1)), ())) fun r1 =>
        if (r1.1 != p1) then
          some ([], ((20 : Int), ()))
        else
          if (decide (((0 : Int) ≤ (0 : Int)) ∧ (((0 : Int) ≤ (IntKind.wrap IntKind.i64 ((((List.length p1) : Nat) : Int) - (4 : Int)))) ∧ (((IntKind.wrap IntKind.i64 ((((List.length p1) : Nat) : Int) - (4 : Int))) ≤ (((List.length p1) : Nat) : Int)) ∧ ((((List.length p1) : Nat) : Int) ≤ (((List.length p1) : Nat) : Int)))))) then
          if (decide ((0 + (List.length (List.drop (Int.toNat (0 : Int)) (List.take (Int.toNat (IntKind.wrap IntKind.i64 ((((List.length p1) : Nat) : Int) - (4 : Int)))) p1)))) ≤ big)) then
          some (([] ++ (List.drop (Int.toNat (0 : Int)) (List.take (Int.toNat (IntKind.wrap IntKind.i64 ((((List.length p1) : Nat) : Int) - (4 : Int)))) p1))), ((0 : Int), ()))
          else none
          else none
      else none
noncomputable def D_crc_More_l1  (l1 : (Int × ((List Int) × (Int × (Int × Unit))))) : Option ((Int × ((List Int) × (Int × (Int × Unit)))) ⊕ (Int × Unit)) :=
    if (decide (l1.2.2.2.1 < l1.2.2.1)) then
    if (decide (((0 : Int) ≤ l1.2.2.2.1) ∧ (l1.2.2.2.1 < (((List.length l1.2.1) : Nat) : Int)))) then
    Option.bind (N_crc_sum_take (l1.1, ((nth l1.2.1 (Int.toNat l1.2.2.2.1)), ()))) fun r2 =>
      some (Sum.inl (r2.1, (l1.2.1, (l1.2.2.1, ((IntKind.wrap IntKind.i64 (l1.2.2.2.1 + (1 : Int))), ())))))
    else none
  else
    some (Sum.inr ((ibits BinOp.xor IntKind.u32 (if ((IntKind.signed IntKind.u32) = Bool.true) then (-(1 : Int)) else (IntKind.max IntKind.u32)) l1.1), ()))
noncomputable def D_crc_More (p1 : Int) (p2 : (List Int)) : Option (Int × Unit) :=
  loopO (D_crc_More_l1 ) ((ibits BinOp.xor IntKind.u32 (if ((IntKind.signed IntKind.u32) = Bool.true) then (-(1 : Int)) else (IntKind.max IntKind.u32)) p1), (p2, ((((List.length p2) : Nat) : Int), ((0 : Int), ()))))
noncomputable def D_crc_sum_take_l1  (l1 : (Int × (Int × Unit))) : Option ((Int × (Int × Unit)) ⊕ (Int × Unit)) :=
    if (decide (l1.2.1 < (8 : Int))) then
    if (decide ((0 : Int) ≤ (1 : Int))) then
    if ((ibits BinOp.and IntKind.u32 l1.1 (1 : Int)) == (0 : Int)) then
      some (Sum.inl ((shrI IntKind.u32 l1.1 (1 : Int)), ((IntKind.wrap IntKind.i64 (l1.2.1 + (1 : Int))), ())))
    else
      some (Sum.inl ((ibits BinOp.xor IntKind.u32 (shrI IntKind.u32 l1.1 (1 : Int)) (3988292384 : Int)), ((IntKind.wrap IntKind.i64 (l1.2.1 + (1 : Int))), ())))
    else none
  else
    some (Sum.inr (l1.1, ()))
noncomputable def D_crc_sum_take (p1 : Int) (p2 : Int) : Option (Int × Unit) :=
  loopO (D_crc_sum_take_l1 ) ((ibits BinOp.xor IntKind.u32 p1 (IntKind.wrap IntKind.u32 p2)), ((0 : Int), ()))
noncomputable def D_req_Submit (p1 : Config) (p2 : Site) (p3 : Int) (p4 : (List Int)) : Option (Site × (Int × Unit)) :=
  Option.bind (N_act_Check (p1, (p2, ()))) fun r4 =>
    if (r4.1 != (0 : Int)) then
      some ((Site.mk (0 : Int) (Disk.mk [] []) (Meta.mk (Super.mk (0 : Int) (0 : Int) (0 : Int)) (0 : Int) (0 : Int) []) [] (End.mk (0 : Int) (0 : Int) Bool.false Bool.false (0 : Int) (0 : Int) (Queue.mk [] (0 : Int) (0 : Int)) (0 : Int) (0 : Int)) [] [] [] [] [] (0 : Int) Bool.false), (r4.1, ()))
    else
      if (decide ((((List.length p4) : Nat) : Int) > (4096 : Int))) then
        some ((Site.mk (0 : Int) (Disk.mk [] []) (Meta.mk (Super.mk (0 : Int) (0 : Int) (0 : Int)) (0 : Int) (0 : Int) []) [] (End.mk (0 : Int) (0 : Int) Bool.false Bool.false (0 : Int) (0 : Int) (Queue.mk [] (0 : Int) (0 : Int)) (0 : Int) (0 : Int)) [] [] [] [] [] (0 : Int) Bool.false), ((4 : Int), ()))
      else
        Option.bind (N_req_Read (p4, ())) fun r5 =>
          if (r5.2.2.1 != (0 : Int)) then
            Option.bind (N_host_Answer (p1, (p2, ((Reply.mk p3 r5.2.2.1 (0 : Int) []), ())))) fun r6 =>
              some (r6.1, (r6.2.1, ()))
          else
            Option.bind (N_site_Ask (p1, (p2, ((Ask.mk p3 (3 : Int) (IntKind.wrap IntKind.i64 r5.2.1) (0 : Int) r5.1 []), ())))) fun r6 =>
              some (r6.1, (r6.2.1, ()))
noncomputable def D_req_Read (p1 : (List Int)) : Option (Int × (Int × (Int × Unit))) :=
  if (decide ((((List.length p1) : Nat) : Int) < (8 : Int))) then
    some ((0 : Int), ((0 : Int), ((10 : Int), ())))
  else
    if (decide ((((List.length p1) : Nat) : Int) > (8 : Int))) then
      some ((0 : Int), ((0 : Int), ((4 : Int), ())))
    else
      Option.bind (N_crc_Open (p1, ())) fun r1 =>
        if (r1.2.1 != (0 : Int)) then
          some ((0 : Int), ((0 : Int), (r1.2.1, ())))
        else
          if (decide (((0 : Int) ≤ (0 : Int)) ∧ (((0 : Int) ≤ (2 : Int)) ∧ (((2 : Int) ≤ (((List.length r1.1) : Nat) : Int)) ∧ ((((List.length r1.1) : Nat) : Int) ≤ (((List.length r1.1) : Nat) : Int)))))) then
          if (decide (2 ≤ (List.length (List.drop (Int.toNat (0 : Int)) (List.take (Int.toNat (2 : Int)) r1.1))))) then
          if (!(((nth (List.drop (Int.toNat (0 : Int)) (List.take (Int.toNat (2 : Int)) r1.1)) 0) == (199 : Int)) && (((nth (List.drop (Int.toNat (0 : Int)) (List.take (Int.toNat (2 : Int)) r1.1)) (0 + 1)) == (1 : Int)) && Bool.true))) then
            if ((nth (List.drop (Int.toNat (0 : Int)) (List.take (Int.toNat (2 : Int)) r1.1)) 0) != (199 : Int)) then
              some ((0 : Int), ((0 : Int), ((280 : Int), ())))
            else
              if ((nth (List.drop (Int.toNat (0 : Int)) (List.take (Int.toNat (2 : Int)) r1.1)) (0 + 1)) != (1 : Int)) then
                some ((0 : Int), ((0 : Int), ((281 : Int), ())))
              else
                if (decide (((0 : Int) ≤ (2 : Int)) ∧ ((2 : Int) < (((List.length r1.1) : Nat) : Int)))) then
                if (decide (((0 : Int) ≤ (3 : Int)) ∧ ((3 : Int) < (((List.length r1.1) : Nat) : Int)))) then
                some ((nth r1.1 (Int.toNat (2 : Int))), ((nth r1.1 (Int.toNat (3 : Int))), ((0 : Int), ())))
                else none
                else none
          else
            if (decide (((0 : Int) ≤ (2 : Int)) ∧ ((2 : Int) < (((List.length r1.1) : Nat) : Int)))) then
            if (decide (((0 : Int) ≤ (3 : Int)) ∧ ((3 : Int) < (((List.length r1.1) : Nat) : Int)))) then
            some ((nth r1.1 (Int.toNat (2 : Int))), ((nth r1.1 (Int.toNat (3 : Int))), ((0 : Int), ())))
            else none
            else none
          else none
          else none
noncomputable def D_host_Answer (p1 : Config) (p2 : Site) (p3 : Reply) : Option (Site × (Int × Unit)) :=
  Option.bind (N_act_Check (p1, (p2, ()))) fun r3 =>
    if (r3.1 != (0 : Int)) then
      if (r3.1 != (0 : Int)) then
        some ((Site.mk (0 : Int) (Disk.mk [] []) (Meta.mk (Super.mk (0 : Int) (0 : Int) (0 : Int)) (0 : Int) (0 : Int) []) [] (End.mk (0 : Int) (0 : Int) Bool.false Bool.false (0 : Int) (0 : Int) (Queue.mk [] (0 : Int) (0 : Int)) (0 : Int) (0 : Int)) [] [] [] [] [] (0 : Int) Bool.false), (r3.1, ()))
      else
        Option.bind (N_slices_Clone_byte_byte (p3.bytes, ())) fun r4 =>
          none
    else
      if (decide ((0 : Int) ≥ p1.pairs)) then
        some ((Site.mk (0 : Int) (Disk.mk [] []) (Meta.mk (Super.mk (0 : Int) (0 : Int) (0 : Int)) (0 : Int) (0 : Int) []) [] (End.mk (0 : Int) (0 : Int) Bool.false Bool.false (0 : Int) (0 : Int) (Queue.mk [] (0 : Int) (0 : Int)) (0 : Int) (0 : Int)) [] [] [] [] [] (0 : Int) Bool.false), ((2 : Int), ()))
      else
        Option.bind (N_act_Twin (p2, ())) fun r4 =>
          Option.bind (N_slices_Clone_byte_byte (p3.bytes, ())) fun r5 =>
            if (decide (((List.length r4.1.plan) + (List.length ((Act.mk (4 : Int) (0 : Int) [] (0 : Int) (0 : Int) (Msg.mk (0 : Int) (0 : Int) Bool.false (Rec.mk (0 : Int) (0 : Int) (0 : Int) (0 : Int) (0 : Int) (0 : Int) Bool.false Bool.false) (0 : Int) (0 : Int) (0 : Int) (0 : Int) (0 : Int) (0 : Int) [] []) (Reply.mk p3.ask p3.code p3.state r5.1) (0 : Int)) :: []))) ≤ big)) then
            some ((Site.mk r4.1.id r4.1.disk r4.1.met r4.1.sides r4.1.end_ (r4.1.plan ++ ((Act.mk (4 : Int) (0 : Int) [] (0 : Int) (0 : Int) (Msg.mk (0 : Int) (0 : Int) Bool.false (Rec.mk (0 : Int) (0 : Int) (0 : Int) (0 : Int) (0 : Int) (0 : Int) Bool.false Bool.false) (0 : Int) (0 : Int) (0 : Int) (0 : Int) (0 : Int) (0 : Int) [] []) (Reply.mk p3.ask p3.code p3.state r5.1) (0 : Int)) :: [])) r4.1.mail r4.1.asks r4.1.replies r4.1.syncs r4.1.born r4.1.ready), ((0 : Int), ()))
            else none
noncomputable def D_site_Ask (p1 : Config) (p2 : Site) (p3 : Ask) : Option (Site × (Int × Unit)) :=
  Option.bind (N_act_Check (p1, (p2, ()))) fun r3 =>
    if (r3.1 != (0 : Int)) then
      some ((Site.mk (0 : Int) (Disk.mk [] []) (Meta.mk (Super.mk (0 : Int) (0 : Int) (0 : Int)) (0 : Int) (0 : Int) []) [] (End.mk (0 : Int) (0 : Int) Bool.false Bool.false (0 : Int) (0 : Int) (Queue.mk [] (0 : Int) (0 : Int)) (0 : Int) (0 : Int)) [] [] [] [] [] (0 : Int) Bool.false), (r3.1, ()))
    else
      if (decide (p3.kind < (1 : Int))) then
        some ((Site.mk (0 : Int) (Disk.mk [] []) (Meta.mk (Super.mk (0 : Int) (0 : Int) (0 : Int)) (0 : Int) (0 : Int) []) [] (End.mk (0 : Int) (0 : Int) Bool.false Bool.false (0 : Int) (0 : Int) (Queue.mk [] (0 : Int) (0 : Int)) (0 : Int) (0 : Int)) [] [] [] [] [] (0 : Int) Bool.false), ((2 : Int), ()))
      else
        if (decide (p3.kind > (3 : Int))) then
          some ((Site.mk (0 : Int) (Disk.mk [] []) (Meta.mk (Super.mk (0 : Int) (0 : Int) (0 : Int)) (0 : Int) (0 : Int) []) [] (End.mk (0 : Int) (0 : Int) Bool.false Bool.false (0 : Int) (0 : Int) (Queue.mk [] (0 : Int) (0 : Int)) (0 : Int) (0 : Int)) [] [] [] [] [] (0 : Int) Bool.false), ((2 : Int), ()))
        else
          if (decide ((((List.length p2.asks) : Nat) : Int) ≥ (64 : Int))) then
            some ((Site.mk (0 : Int) (Disk.mk [] []) (Meta.mk (Super.mk (0 : Int) (0 : Int) (0 : Int)) (0 : Int) (0 : Int) []) [] (End.mk (0 : Int) (0 : Int) Bool.false Bool.false (0 : Int) (0 : Int) (Queue.mk [] (0 : Int) (0 : Int)) (0 : Int) (0 : Int)) [] [] [] [] [] (0 : Int) Bool.false), ((9 : Int), ()))
          else
            Option.bind (N_act_Twin (p2, ())) fun r4 =>
              Option.bind (N_slices_Clone_byte_byte (p3.bytes, ())) fun r5 =>
                if (decide (((List.length r4.1.asks) + (List.length ((Ask.mk p3.id p3.kind p3.pair p3.track p3.op r5.1) :: []))) ≤ big)) then
                some ((Site.mk r4.1.id r4.1.disk r4.1.met r4.1.sides r4.1.end_ r4.1.plan r4.1.mail (r4.1.asks ++ ((Ask.mk p3.id p3.kind p3.pair p3.track p3.op r5.1) :: [])) r4.1.replies r4.1.syncs r4.1.born r4.1.ready), ((0 : Int), ()))
                else none
noncomputable def D_ref28_Submit (p1 : Config) (p2 : Site) (p3 : Int) (p4 : (List Int)) : Option (Site × (Int × Unit)) :=
  Option.bind (N_ref21_May (p1, (p2, ()))) fun r4 =>
    if (!r4.1) then
      some ((Site.mk (0 : Int) (Disk.mk [] []) (Meta.mk (Super.mk (0 : Int) (0 : Int) (0 : Int)) (0 : Int) (0 : Int) []) [] (End.mk (0 : Int) (0 : Int) Bool.false Bool.false (0 : Int) (0 : Int) (Queue.mk [] (0 : Int) (0 : Int)) (0 : Int) (0 : Int)) [] [] [] [] [] (0 : Int) Bool.false), ((8 : Int), ()))
    else
      if (decide ((((List.length p4) : Nat) : Int) > (4096 : Int))) then
        some ((Site.mk (0 : Int) (Disk.mk [] []) (Meta.mk (Super.mk (0 : Int) (0 : Int) (0 : Int)) (0 : Int) (0 : Int) []) [] (End.mk (0 : Int) (0 : Int) Bool.false Bool.false (0 : Int) (0 : Int) (Queue.mk [] (0 : Int) (0 : Int)) (0 : Int) (0 : Int)) [] [] [] [] [] (0 : Int) Bool.false), ((4 : Int), ()))
      else
        Option.bind (N_ref28_Submitted (p2, (p3, (p4, ())))) fun r5 =>
          if (!r5.2.1) then
            some ((Site.mk (0 : Int) (Disk.mk [] []) (Meta.mk (Super.mk (0 : Int) (0 : Int) (0 : Int)) (0 : Int) (0 : Int) []) [] (End.mk (0 : Int) (0 : Int) Bool.false Bool.false (0 : Int) (0 : Int) (Queue.mk [] (0 : Int) (0 : Int)) (0 : Int) (0 : Int)) [] [] [] [] [] (0 : Int) Bool.false), ((9 : Int), ()))
          else
            some (r5.1, ((0 : Int), ()))
noncomputable def D_ref28_Submitted (p1 : Site) (p2 : Int) (p3 : (List Int)) : Option (Site × (Bool × Unit)) :=
  Option.bind (N_ref28_Read (p3, ())) fun r3 =>
    if (r3.2.2.1 != (0 : Int)) then
      Option.bind (N_ref22_Code (p1, (p2, (r3.2.2.1, ())))) fun r4 =>
        some (r4.1, (Bool.true, ()))
    else
      Option.bind (N_ref27_Asked (p1, ((Ask.mk p2 (3 : Int) (IntKind.wrap IntKind.i64 r3.2.1) (0 : Int) r3.1 []), ()))) fun r4 =>
        some (r4.1, (r4.2.1, ()))
noncomputable def D_ref28_Read (p1 : (List Int)) : Option (Int × (Int × (Int × Unit))) :=
  if (decide ((((List.length p1) : Nat) : Int) < (8 : Int))) then
    some ((0 : Int), ((0 : Int), ((10 : Int), ())))
  else
    if (decide ((((List.length p1) : Nat) : Int) > (8 : Int))) then
      some ((0 : Int), ((0 : Int), ((4 : Int), ())))
    else
      if (decide (((0 : Int) ≤ (0 : Int)) ∧ (((0 : Int) ≤ (4 : Int)) ∧ (((4 : Int) ≤ (((List.length p1) : Nat) : Int)) ∧ ((((List.length p1) : Nat) : Int) ≤ (((List.length p1) : Nat) : Int)))))) then
      Option.bind (N_ref02_Sealed ((List.drop (Int.toNat (0 : Int)) (List.take (Int.toNat (4 : Int)) p1)), ())) fun r1 =>
        if (r1.1 != p1) then
          some ((0 : Int), ((0 : Int), ((20 : Int), ())))
        else
          if (decide (((0 : Int) ≤ (0 : Int)) ∧ ((0 : Int) < (((List.length p1) : Nat) : Int)))) then
          if ((nth p1 (Int.toNat (0 : Int))) != (199 : Int)) then
            some ((0 : Int), ((0 : Int), ((280 : Int), ())))
          else
            if (decide (((0 : Int) ≤ (1 : Int)) ∧ ((1 : Int) < (((List.length p1) : Nat) : Int)))) then
            if ((nth p1 (Int.toNat (1 : Int))) != (1 : Int)) then
              some ((0 : Int), ((0 : Int), ((281 : Int), ())))
            else
              if (decide (((0 : Int) ≤ (2 : Int)) ∧ ((2 : Int) < (((List.length p1) : Nat) : Int)))) then
              if (decide (((0 : Int) ≤ (3 : Int)) ∧ ((3 : Int) < (((List.length p1) : Nat) : Int)))) then
              some ((nth p1 (Int.toNat (2 : Int))), ((nth p1 (Int.toNat (3 : Int))), ((0 : Int), ())))
              else none
              else none
            else none
          else none
      else none
noncomputable def D_ref22_Code (p1 : Site) (p2 : Int) (p3 : Int) : Option (Site × Unit) :=
  Option.bind (N_ref22_Answered (p1, ((Reply.mk p2 p3 (0 : Int) []), ()))) fun r3 =>
    some (r3.1, ())
noncomputable def D_ref22_Answered (p1 : Site) (p2 : Reply) : Option (Site × Unit) :=
  if (decide ((0 + (List.length p1.plan)) ≤ big)) then
  if (decide (((List.length ([] ++ p1.plan)) + (List.length ((Act.mk (4 : Int) (0 : Int) [] (0 : Int) (0 : Int) (Msg.mk (0 : Int) (0 : Int) Bool.false (Rec.mk (0 : Int) (0 : Int) (0 : Int) (0 : Int) (0 : Int) (0 : Int) Bool.false Bool.false) (0 : Int) (0 : Int) (0 : Int) (0 : Int) (0 : Int) (0 : Int) [] []) p2 (0 : Int)) :: []))) ≤ big)) then
  some ((Site.mk p1.id p1.disk p1.met p1.sides p1.end_ (([] ++ p1.plan) ++ ((Act.mk (4 : Int) (0 : Int) [] (0 : Int) (0 : Int) (Msg.mk (0 : Int) (0 : Int) Bool.false (Rec.mk (0 : Int) (0 : Int) (0 : Int) (0 : Int) (0 : Int) (0 : Int) Bool.false Bool.false) (0 : Int) (0 : Int) (0 : Int) (0 : Int) (0 : Int) (0 : Int) [] []) p2 (0 : Int)) :: [])) p1.mail p1.asks p1.replies p1.syncs p1.born p1.ready), ())
  else none
  else none
noncomputable def D_ref27_Asked (p1 : Site) (p2 : Ask) : Option (Site × (Bool × Unit)) :=
  if (decide ((((List.length p1.asks) : Nat) : Int) ≥ (64 : Int))) then
    some (p1, (Bool.false, ()))
  else
    if (decide ((0 + (List.length p1.asks)) ≤ big)) then
    if (decide (((List.length ([] ++ p1.asks)) + (List.length (p2 :: []))) ≤ big)) then
    some ((Site.mk p1.id p1.disk p1.met p1.sides p1.end_ p1.plan p1.mail (([] ++ p1.asks) ++ (p2 :: [])) p1.replies p1.syncs p1.born p1.ready), (Bool.true, ()))
    else none
    else none
noncomputable def D_ref02_Sealed (p1 : (List Int)) : Option ((List Int) × Unit) :=
  Option.bind (N_ref02_Sum (p1, ())) fun r1 =>
    if (decide ((0 + (List.length p1)) ≤ big)) then
    if ((256 : Int) != (0 : Int)) then
    if ((65536 : Int) != (0 : Int)) then
    if ((16777216 : Int) != (0 : Int)) then
    if (decide (((List.length ([] ++ p1)) + (List.length ((IntKind.wrap IntKind.u8 r1.1) :: ((IntKind.wrap IntKind.u8 (IntKind.wrap IntKind.u32 (Int.tdiv r1.1 (256 : Int)))) :: ((IntKind.wrap IntKind.u8 (IntKind.wrap IntKind.u32 (Int.tdiv r1.1 (65536 : Int)))) :: ((IntKind.wrap IntKind.u8 (IntKind.wrap IntKind.u32 (Int.tdiv r1.1 (16777216 : Int)))) :: [])))))) ≤ big)) then
    some ((([] ++ p1) ++ ((IntKind.wrap IntKind.u8 r1.1) :: ((IntKind.wrap IntKind.u8 (IntKind.wrap IntKind.u32 (Int.tdiv r1.1 (256 : Int)))) :: ((IntKind.wrap IntKind.u8 (IntKind.wrap IntKind.u32 (Int.tdiv r1.1 (65536 : Int)))) :: ((IntKind.wrap IntKind.u8 (IntKind.wrap IntKind.u32 (Int.tdiv r1.1 (16777216 : Int)))) :: []))))), ())
    else none
    else none
    else none
    else none
    else none
noncomputable def D_ref02_Sum (p1 : (List Int)) : Option (Int × Unit) :=
  Option.bind (N_ref02_Behind ((4294967295 : Int), (p1, ()))) fun r1 =>
    some ((ibits BinOp.xor IntKind.u32 r1.1 (4294967295 : Int)), ())
noncomputable def D_ref02_Behind_l1  (l1 : (Int × ((List Int) × (Int × Unit)))) : Option ((Int × ((List Int) × (Int × Unit))) ⊕ (Int × Unit)) :=
    if (decide (l1.2.2.1 < (((List.length l1.2.1) : Nat) : Int))) then
    if (decide (((0 : Int) ≤ l1.2.2.1) ∧ (l1.2.2.1 < (((List.length l1.2.1) : Nat) : Int)))) then
    Option.bind (N_ref02_Taken (l1.1, ((nth l1.2.1 (Int.toNat l1.2.2.1)), ()))) fun r2 =>
      some (Sum.inl (r2.1, (l1.2.1, ((IntKind.wrap IntKind.i64 (l1.2.2.1 + (1 : Int))), ()))))
    else none
  else
    some (Sum.inr (l1.1, ()))
noncomputable def D_ref02_Behind (p1 : Int) (p2 : (List Int)) : Option (Int × Unit) :=
  loopO (D_ref02_Behind_l1 ) (p1, (p2, ((0 : Int), ())))
noncomputable def D_ref02_Taken_l1  (l1 : (Int × (Int × Unit))) : Option ((Int × (Int × Unit)) ⊕ (Int × Unit)) :=
    if (decide (l1.2.1 < (8 : Int))) then
    if ((2 : Int) != (0 : Int)) then
    if ((Int.tmod l1.1 (2 : Int)) == (1 : Int)) then
      if ((2 : Int) != (0 : Int)) then
      some (Sum.inl ((ibits BinOp.xor IntKind.u32 (IntKind.wrap IntKind.u32 (Int.tdiv l1.1 (2 : Int))) (3988292384 : Int)), ((IntKind.wrap IntKind.i64 (l1.2.1 + (1 : Int))), ())))
      else none
    else
      if ((2 : Int) != (0 : Int)) then
      some (Sum.inl ((IntKind.wrap IntKind.u32 (Int.tdiv l1.1 (2 : Int))), ((IntKind.wrap IntKind.i64 (l1.2.1 + (1 : Int))), ())))
      else none
    else none
  else
    some (Sum.inr (l1.1, ()))
noncomputable def D_ref02_Taken (p1 : Int) (p2 : Int) : Option (Int × Unit) :=
  loopO (D_ref02_Taken_l1 ) ((ibits BinOp.xor IntKind.u32 p1 (IntKind.wrap IntKind.u32 p2)), ((0 : Int), ()))
noncomputable def D_law28_ReqSubmits (p1 : Config) (p2 : Site) (p3 : Int) (p4 : (List Int)) : Option (Bool × Unit) :=
  Option.bind (N_ref21_Great (p2, ())) fun r4 =>
    if r4.1 then
      some (Bool.true, ())
    else
      if (decide ((((List.length p4) : Nat) : Int) > (200 : Int))) then
        if (decide ((((List.length p4) : Nat) : Int) < (4097 : Int))) then
          some (Bool.true, ())
        else
          if (decide ((((List.length p4) : Nat) : Int) > (4200 : Int))) then
            some (Bool.true, ())
          else
            Option.bind (N_ref21_Twin (p2, ())) fun r5 =>
              Option.bind (N_req_Submit (p1, (r5.1, (p3, (p4, ()))))) fun r6 =>
                Option.bind (N_ref28_Submit (p1, (p2, (p3, (p4, ()))))) fun r7 =>
                  Option.bind (N_ref21_Same (r6.1, (r7.1, ()))) fun r8 =>
                    if r8.1 then
                      if (r6.2.1 == r7.2.1) then
                        Option.bind (N_ref21_Same (r5.1, (p2, ()))) fun r9 =>
                          some (r9.1, ())
                      else
                        some (Bool.false, ())
                    else
                      some (Bool.false, ())
      else
        if (decide ((((List.length p4) : Nat) : Int) > (4200 : Int))) then
          some (Bool.true, ())
        else
          Option.bind (N_ref21_Twin (p2, ())) fun r5 =>
            Option.bind (N_req_Submit (p1, (r5.1, (p3, (p4, ()))))) fun r6 =>
              Option.bind (N_ref28_Submit (p1, (p2, (p3, (p4, ()))))) fun r7 =>
                Option.bind (N_ref21_Same (r6.1, (r7.1, ()))) fun r8 =>
                  if r8.1 then
                    if (r6.2.1 == r7.2.1) then
                      Option.bind (N_ref21_Same (r5.1, (p2, ()))) fun r9 =>
                        some (r9.1, ())
                    else
                      some (Bool.false, ())
                  else
                    some (Bool.false, ())
end Go.Cat

namespace Go.Cat
open Go
theorem ofInt_bvI (a : BitVec 32) : BitVec.ofInt 32 (bvI a) = a := by
  apply BitVec.eq_of_toNat_eq
  rw [BitVec.toNat_ofInt]
  have := a.isLt
  unfold bvI
  omega
theorem bvI_ofInt {s : Int} (h0 : 0 ≤ s) (h1 : s < 4294967296) : bvI (BitVec.ofInt 32 s) = s := by
  unfold bvI
  rw [BitVec.toNat_ofInt]
  omega
theorem wrapm_u32 (n : Int) : IntKind.wrap .u32 n = n % 4294967296 := by
  simp [IntKind.wrap, IntKind.signed, IntKind.bits]
theorem wrapm_u8 (n : Int) : IntKind.wrap .u8 n = n % 256 := by
  simp [IntKind.wrap, IntKind.signed, IntKind.bits]
theorem bvI_lt (a : BitVec 32) : 0 ≤ bvI a ∧ bvI a < 4294967296 := by
  have := a.isLt
  unfold bvI
  omega
theorem xor_bv (a b : BitVec 32) : ibits .xor .u32 (bvI a) (bvI b) = bvI (a ^^^ b) := by
  have h1 := ofInt_bvI a
  have h2 := ofInt_bvI b
  have h3 := bvI_lt (a ^^^ b)
  show IntKind.wrap .u32 (((BitVec.ofInt 32 (bvI a) ^^^ BitVec.ofInt 32 (bvI b)).toNat : Nat) : Int) = _
  rw [h1, h2, wrapm_u32]
  unfold bvI at h3 ⊢
  omega
theorem and_bv (a b : BitVec 32) : ibits .and .u32 (bvI a) (bvI b) = bvI (a &&& b) := by
  have h1 := ofInt_bvI a
  have h2 := ofInt_bvI b
  have h3 := bvI_lt (a &&& b)
  show IntKind.wrap .u32 (((BitVec.ofInt 32 (bvI a) &&& BitVec.ofInt 32 (bvI b)).toNat : Nat) : Int) = _
  rw [h1, h2, wrapm_u32]
  unfold bvI at h3 ⊢
  omega
theorem xor_bv' {x y : Int} (a b : BitVec 32) (hx : x = bvI a) (hy : y = bvI b) : ibits .xor .u32 x y = bvI (a ^^^ b) := by rw [hx, hy, xor_bv]
theorem shr1_bv (a : BitVec 32) : shrI .u32 (bvI a) 1 = bvI (a >>> 1) := by
  unfold shrI
  have e : ((2 : Int) ^ (min (Int.toNat 1) (IntKind.bits .u32))) = 2 := by decide
  rw [e, Int.fdiv_eq_ediv_of_nonneg _ (by decide)]
  unfold bvI
  rw [BitVec.toNat_ushiftRight, Nat.shiftRight_eq_div_pow]
  omega
theorem bvI_inj {a b : BitVec 32} (h : bvI a = bvI b) : a = b := by rw [← ofInt_bvI a, h, ofInt_bvI]
theorem low_bv (a : BitVec 32) : (ibits .and .u32 (bvI a) 1 == 0) = decide (a &&& 1#32 = 0#32) := by
  rw [show (1 : Int) = bvI 1#32 from rfl, and_bv]
  by_cases h : a &&& 1#32 = 0#32
  · rw [h]; rfl
  · rw [decide_eq_false h, beq_eq_false_iff_ne]
    exact fun e => h (bvI_inj (e.trans (show (0 : Int) = bvI 0#32 from rfl)))
theorem low_mod (a : BitVec 32) : decide (a &&& 1#32 = 0#32) = decide (a.toNat % 2 = 0) := by
  have : (a &&& 1#32).toNat = a.toNat % 2 := by
    rw [BitVec.toNat_and]
    exact Nat.and_one_is_mod a.toNat
  rw [decide_eq_decide]
  constructor
  · intro h
    rw [h] at this
    exact this.symm
  · intro h
    apply BitVec.eq_of_toNat_eq
    rw [this, h]; rfl
theorem P_crc_sum_take (s c : Int) (h0 : 0 ≤ s) (h1 : s < 4294967296) (h2 : 0 ≤ c) (h3 : c < 256) : D_crc_sum_take s c = N_crc_sum_take (s, (c, ())) := by
  have e0 : ibits .xor .u32 s (IntKind.wrap .u32 c) = bvI (BitVec.ofInt 32 s ^^^ BitVec.ofInt 32 c) := by
    rw [wrapm_u32, Int.emod_eq_of_lt h2 (by omega)]
    exact xor_bv' _ _ (bvI_ofInt h0 h1).symm (bvI_ofInt h2 (by omega)).symm
  simp only [D_crc_sum_take, N_crc_sum_take, e0]
  refine loopO_for (step := D_crc_sum_take_l1) (fun k => (bvI (crcSteps (BitVec.ofInt 32 s ^^^ BitVec.ofInt 32 c) k), ((k : Int), ()))) 8 (e1 (bvI (crcT (BitVec.ofInt 32 s) c))) (fun k hk => ?_) ?_
  · have hd : decide ((k : Int) < 8) = true := by simp; omega
    have hw : IntKind.wrap .i64 ((k : Int) + 1) = ((k + 1 : Nat) : Int) := wrap_succ (k := k) (by rw [maxLen_eq]; omega)
    simp only [D_crc_sum_take_l1, hd, if_true, hw, low_bv, shr1_bv, show decide ((0 : Int) ≤ 1) = true from rfl]
    by_cases h : crcSteps (BitVec.ofInt 32 s ^^^ BitVec.ofInt 32 c) k &&& 1#32 = 0#32
    · simp only [h, decide_true, if_true, crcSteps, crcStep]
    · simp only [h, decide_false, if_false, Bool.false_eq_true, crcSteps, crcStep, xor_bv' _ (3988292384#32) rfl (show (3988292384 : Int) = bvI 3988292384#32 from rfl)]
  · simp [D_crc_sum_take_l1, e1, crcT]
theorem P_ref02_Taken (s c : Int) (h0 : 0 ≤ s) (h1 : s < 4294967296) (h2 : 0 ≤ c) (h3 : c < 256) : D_ref02_Taken s c = N_ref02_Taken (s, (c, ())) := by
  have e0 : ibits .xor .u32 s (IntKind.wrap .u32 c) = bvI (BitVec.ofInt 32 s ^^^ BitVec.ofInt 32 c) := by
    rw [wrapm_u32, Int.emod_eq_of_lt h2 (by omega)]
    exact xor_bv' _ _ (bvI_ofInt h0 h1).symm (bvI_ofInt h2 (by omega)).symm
  simp only [D_ref02_Taken, N_ref02_Taken, N_crc_sum_take, e0]
  refine loopO_for (step := D_ref02_Taken_l1) (fun k => (bvI (crcSteps (BitVec.ofInt 32 s ^^^ BitVec.ofInt 32 c) k), ((k : Int), ()))) 8 (e1 (bvI (crcT (BitVec.ofInt 32 s) c))) (fun k hk => ?_) ?_
  · have hd : decide ((k : Int) < 8) = true := by simp; omega
    have hw : IntKind.wrap .i64 ((k : Int) + 1) = ((k + 1 : Nat) : Int) := wrap_succ (k := k) (by rw [maxLen_eq]; omega)
    have hn : ((2 : Int) != 0) = true := rfl
    show D_ref02_Taken_l1 (bvI (crcSteps (BitVec.ofInt 32 s ^^^ BitVec.ofInt 32 c) k), ((k : Int), ())) = some (.inl (bvI (crcStep (crcSteps (BitVec.ofInt 32 s ^^^ BitVec.ofInt 32 c) k)), (((k + 1 : Nat) : Int), ())))
    generalize crcSteps (BitVec.ofInt 32 s ^^^ BitVec.ofInt 32 c) k = a
    have hdiv : IntKind.wrap .u32 (Int.tdiv (bvI a) 2) = bvI (a >>> 1) := by
      have := bvI_lt a
      rw [wrapm_u32, Int.tdiv_eq_ediv_of_nonneg this.1]
      unfold bvI at this ⊢
      rw [BitVec.toNat_ushiftRight, Nat.shiftRight_eq_div_pow]
      omega
    have hmod : (Int.tmod (bvI a) 2 == 1) = !decide (a &&& 1#32 = 0#32) := by
      rw [low_mod, Int.tmod_eq_emod_of_nonneg (bvI_lt a).1]
      unfold bvI
      by_cases h : a.toNat % 2 = 0
      · rw [decide_eq_true h]
        simp; omega
      · rw [decide_eq_false h]
        simp; omega
    simp only [D_ref02_Taken_l1, hd, if_true, hw, hn, hmod, hdiv]
    by_cases h : a &&& 1#32 = 0#32
    · simp only [h, decide_true, Bool.not_true, Bool.false_eq_true, if_false, crcStep, if_true]
    · simp only [h, decide_false, Bool.not_false, if_true, if_false, crcStep, xor_bv' _ (3988292384#32) rfl (show (3988292384 : Int) = bvI 3988292384#32 from rfl)]
  · simp [D_ref02_Taken_l1, e1, crcT]
end Go.Cat

set_option linter.unusedSimpArgs false
set_option linter.unusedVariables false
namespace Go.Cat
open Go
theorem not_u32 (a : BitVec 32) : ibits .xor .u32 (if ((IntKind.signed IntKind.u32) = Bool.true) then (-(1 : Int)) else (IntKind.max IntKind.u32)) (bvI a) = bvI (BitVec.allOnes 32 ^^^ a) := by
  have e : (if ((IntKind.signed IntKind.u32) = Bool.true) then (-(1 : Int)) else (IntKind.max IntKind.u32)) = bvI (BitVec.allOnes 32) := by decide
  rw [e, xor_bv]
theorem take_len {α : Type} [Inhabited α] {l : List α} {k : Nat} (h : k < l.length) : l.take (k + 1) = l.take k ++ [l[k]] := (take_succ_len h).symm
theorem crcFold_take (a : BitVec 32) {l : List Int} {k : Nat} (h : k < l.length) : crcFold a (l.take (k + 1)) = crcT (crcFold a (l.take k)) l[k] := by
  rw [take_len h, crcFold, List.foldl_append]; rfl
theorem P_crc_More (s : Int) (l : List Int) (h0 : 0 ≤ s) (h1 : s < 4294967296) (hl : l.length ≤ maxLen) : D_crc_More s l = N_crc_More (s, (l, ())) := by
  have e0 : ibits .xor .u32 (if ((IntKind.signed IntKind.u32) = Bool.true) then (-(1 : Int)) else (IntKind.max IntKind.u32)) s = bvI (BitVec.allOnes 32 ^^^ BitVec.ofInt 32 s) := by
    rw [← not_u32, bvI_ofInt h0 h1]
  simp only [D_crc_More, N_crc_More, e0]
  refine loopO_for (step := D_crc_More_l1) (fun k => (bvI (crcFold (BitVec.allOnes 32 ^^^ BitVec.ofInt 32 s) (l.take k)), (l, ((l.length : Int), ((k : Int), ()))))) l.length _ (fun k hk => ?_) ?_
  · have hd : decide ((k : Int) < (l.length : Int)) = true := by simp; omega
    have hd2 : decide ((0 : Int) ≤ (k : Int) ∧ (k : Int) < (l.length : Int)) = true := by simp; omega
    simp only [D_crc_More_l1, hd, hd2, if_true, wrap_succ (Nat.lt_of_lt_of_le hk hl), Int.toNat_natCast, nth_lt hk, N_crc_sum_take, e1, ofInt_bvI, Option.bind_some, crcFold_take _ hk]
  · have hd : ¬ (decide ((l.length : Int) < (l.length : Int)) = true) := by simp
    simp only [D_crc_More_l1, hd, List.take_length, not_u32, e1]
    rfl
theorem P_ref02_Behind (s : Int) (l : List Int) (h0 : 0 ≤ s) (h1 : s < 4294967296) (hl : l.length ≤ maxLen) : D_ref02_Behind s l = N_ref02_Behind (s, (l, ())) := by
  have e0 : s = bvI (crcFold (BitVec.ofInt 32 s) (l.take 0)) := (bvI_ofInt h0 h1).symm
  simp only [D_ref02_Behind, N_ref02_Behind]
  refine (congrArg (fun z => loopO D_ref02_Behind_l1 (z, (l, ((0 : Int), ())))) e0).trans (loopO_for (step := D_ref02_Behind_l1) (fun k => (bvI (crcFold (BitVec.ofInt 32 s) (l.take k)), (l, ((k : Int), ())))) l.length _ (fun k hk => ?_) ?_)
  · have hd : decide ((k : Int) < (l.length : Int)) = true := by simp; omega
    have hd2 : decide ((0 : Int) ≤ (k : Int) ∧ (k : Int) < (l.length : Int)) = true := by simp; omega
    simp only [D_ref02_Behind_l1, hd, hd2, if_true, wrap_succ (Nat.lt_of_lt_of_le hk hl), Int.toNat_natCast, nth_lt hk, N_ref02_Taken, N_crc_sum_take, e1, ofInt_bvI, Option.bind_some, crcFold_take _ hk]
  · have hd : ¬ (decide ((l.length : Int) < (l.length : Int)) = true) := by simp
    simp only [D_ref02_Behind_l1, hd, List.take_length, e1]
    rfl
theorem P_crc_Sum (l : List Int) : D_crc_Sum l = N_crc_Sum (l, ()) := by
  simp only [D_crc_Sum, N_crc_More, N_crc_Sum, e1, Option.bind_some, crcSum]
  have : BitVec.allOnes 32 ^^^ BitVec.ofInt 32 0 = BitVec.allOnes 32 := by decide
  rw [this]
theorem P_ref02_Sum (l : List Int) : D_ref02_Sum l = N_ref02_Sum (l, ()) := by
  have e : BitVec.ofInt 32 4294967295 = BitVec.allOnes 32 := by decide
  simp only [D_ref02_Sum, N_ref02_Behind, N_ref02_Sum, N_crc_Sum, e1, Option.bind_some, crcSum, e]
  rw [show (4294967295 : Int) = bvI (BitVec.allOnes 32) from rfl, xor_bv, BitVec.xor_comm]
theorem byte0 (a : BitVec 32) : IntKind.wrap .u8 (bvI a) = byteAt a 0 := by
  rw [wrapm_u8]; unfold bvI byteAt; omega
theorem byteS (a : BitVec 32) (k : Nat) (hk : k ≤ 32) : IntKind.wrap .u8 (shrI .u32 (bvI a) (k : Int)) = byteAt a k := by
  rw [wrapm_u8]
  unfold shrI bvI byteAt
  have e : min (Int.toNat (k : Int)) (IntKind.bits .u32) = k := by
    rw [Int.toNat_natCast]; exact Nat.min_eq_left hk
  rw [e, Int.fdiv_eq_ediv_of_nonneg _ (Int.le_of_lt (Int.pow_pos (by decide))), show ((2 : Int) ^ k) = ((2 ^ k : Nat) : Int) from (Int.natCast_pow 2 k).symm, ← Int.natCast_ediv]
  generalize a.toNat / 2 ^ k = x
  omega
theorem byteD (a : BitVec 32) (k : Nat) : IntKind.wrap .u8 (IntKind.wrap .u32 (Int.tdiv (bvI a) ((2 ^ k : Nat) : Int))) = byteAt a k := by
  have h := bvI_lt a
  rw [Int.tdiv_eq_ediv_of_nonneg h.1, wrapm_u32, wrapm_u8]
  unfold bvI byteAt
  have hd : a.toNat / 2 ^ k ≤ a.toNat := Nat.div_le_self _ _
  have := a.isLt
  rw [← Int.natCast_ediv]
  omega
theorem byteS8 (a : BitVec 32) : IntKind.wrap .u8 (shrI .u32 (bvI a) 8) = byteAt a 8 := byteS a 8 (by decide)
theorem byteS16 (a : BitVec 32) : IntKind.wrap .u8 (shrI .u32 (bvI a) 16) = byteAt a 16 := byteS a 16 (by decide)
theorem byteS24 (a : BitVec 32) : IntKind.wrap .u8 (shrI .u32 (bvI a) 24) = byteAt a 24 := byteS a 24 (by decide)
theorem byteD8 (a : BitVec 32) : IntKind.wrap .u8 (IntKind.wrap .u32 (Int.tdiv (bvI a) 256)) = byteAt a 8 := byteD a 8
theorem byteD16 (a : BitVec 32) : IntKind.wrap .u8 (IntKind.wrap .u32 (Int.tdiv (bvI a) 65536)) = byteAt a 16 := byteD a 16
theorem byteD24 (a : BitVec 32) : IntKind.wrap .u8 (IntKind.wrap .u32 (Int.tdiv (bvI a) 16777216)) = byteAt a 24 := byteD a 24
theorem seal_body (l : List Int) (h : l.length ≤ 4096) {A : Type} (f : List Int → A) :
    (if (decide (((0 : Int) ≤ (0 : Int)) ∧ (((0 : Int) ≤ (IntKind.wrap IntKind.i64 ((((List.length l) : Nat) : Int) + (4 : Int)))) ∧ ((IntKind.wrap IntKind.i64 ((((List.length l) : Nat) : Int) + (4 : Int))) ≤ ((big : Nat) : Int))))) then
      if (decide (((List.length (List.replicate (Int.toNat (0 : Int)) (0 : Int))) + (List.length l)) ≤ big)) then
      if (decide ((0 : Int) ≤ (8 : Int))) then
      if (decide ((0 : Int) ≤ (16 : Int))) then
      if (decide ((0 : Int) ≤ (24 : Int))) then
      if (decide (((List.length ((List.replicate (Int.toNat (0 : Int)) (0 : Int)) ++ l)) + (List.length ((IntKind.wrap IntKind.u8 (bvI (crcSum l))) :: ((IntKind.wrap IntKind.u8 (shrI IntKind.u32 (bvI (crcSum l)) (8 : Int))) :: ((IntKind.wrap IntKind.u8 (shrI IntKind.u32 (bvI (crcSum l)) (16 : Int))) :: ((IntKind.wrap IntKind.u8 (shrI IntKind.u32 (bvI (crcSum l)) (24 : Int))) :: [])))))) ≤ big)) then
      some (f (((List.replicate (Int.toNat (0 : Int)) (0 : Int)) ++ l) ++ ((IntKind.wrap IntKind.u8 (bvI (crcSum l))) :: ((IntKind.wrap IntKind.u8 (shrI IntKind.u32 (bvI (crcSum l)) (8 : Int))) :: ((IntKind.wrap IntKind.u8 (shrI IntKind.u32 (bvI (crcSum l)) (16 : Int))) :: ((IntKind.wrap IntKind.u8 (shrI IntKind.u32 (bvI (crcSum l)) (24 : Int))) :: []))))))
      else none
      else none
      else none
      else none
      else none
      else none) = some (f (sealed_ l)) := by
  have hb := big_eq
  have hw : IntKind.wrap .i64 ((l.length : Int) + 4) = (l.length : Int) + 4 := wrap_i64 (by omega) (by omega)
  have e1 : decide (((0 : Int) ≤ (0 : Int)) ∧ (((0 : Int) ≤ (l.length : Int) + 4) ∧ ((l.length : Int) + 4 ≤ ((big : Nat) : Int)))) = true := by simp; omega
  have e2 : decide ((List.replicate (Int.toNat (0 : Int)) (0 : Int)).length + l.length ≤ big) = true := by simp; omega
  have e3 : ∀ a b c d : Int, decide ((List.replicate (Int.toNat (0 : Int)) (0 : Int) ++ l).length + [a, b, c, d].length ≤ big) = true := by intro a b c d; simp; omega
  simp only [hw, e1, e2, e3, if_true, byte0, byteS8, byteS16, byteS24]
  rfl
theorem P_crc_Seal (l : List Int) : D_crc_Seal l = N_crc_Seal (l, ()) := by
  simp only [D_crc_Seal, N_crc_Sum, N_crc_Seal, e1, Option.bind_some]
  by_cases h : l.length ≤ 4096
  · have hd : ¬ (decide ((l.length : Int) > 4096) = true) := by simp; omega
    rw [if_neg hd, if_pos h]
    exact seal_body l h (fun x => (x, ((0 : Int), ())))
  · have hd : decide ((l.length : Int) > 4096) = true := by simp; omega
    rw [if_pos hd, if_neg h]
theorem P_ref02_Sealed (l : List Int) (h : l.length ≤ 1000000) : D_ref02_Sealed l = N_ref02_Sealed (l, ()) := by
  have hb := big_eq
  have e2 : decide (0 + l.length ≤ big) = true := by simp; omega
  have e3 : ∀ a b c d : Int, decide (([] ++ l).length + [a, b, c, d].length ≤ big) = true := by intro a b c d; simp; omega
  have n1 : ((256 : Int) != 0) = true := rfl
  have n2 : ((65536 : Int) != 0) = true := rfl
  have n3 : ((16777216 : Int) != 0) = true := rfl
  simp only [D_ref02_Sealed, N_ref02_Sum, N_crc_Sum, N_ref02_Sealed, e1, Option.bind_some, e2, e3, n1, n2, n3, h, if_true, byte0, byteD8, byteD16, byteD24]
  rfl
theorem P_crc_Open (t : List Int) (hl : t.length ≤ maxLen) : D_crc_Open t = N_crc_Open (t, ()) := by
  have hm := maxLen_eq
  have hb := big_eq
  have hw : IntKind.wrap .i64 ((t.length : Int) - 4) = (t.length : Int) - 4 := wrap_i64 (by omega) (by omega)
  simp only [D_crc_Open, N_crc_Open, N_crc_Seal, hw]
  by_cases h1 : t.length < 4
  · have hd : decide ((t.length : Int) - 4 < 0) = true := by simp; omega
    simp only [hd, h1, if_true]
  · have hd : ¬ (decide ((t.length : Int) - 4 < 0) = true) := by simp; omega
    simp only [hd, h1, if_false, Bool.false_eq_true]
    by_cases h2 : t.length - 4 > 4096
    · have hd : decide ((t.length : Int) - 4 > 4096) = true := by simp; omega
      simp only [hd, h2, if_true]
    · have hd : ¬ (decide ((t.length : Int) - 4 > 4096) = true) := by simp; omega
      have hn : ((t.length : Int) - 4).toNat = t.length - 4 := by omega
      have hd2 : decide (((0 : Int) ≤ (0 : Int)) ∧ (((0 : Int) ≤ (t.length : Int) - 4) ∧ (((t.length : Int) - 4 ≤ (t.length : Int)) ∧ ((t.length : Int) ≤ (t.length : Int))))) = true := by simp; omega
      have hlt : (t.take (t.length - 4)).length ≤ 4096 := by simp; omega
      have hlb : decide (0 + (t.take (t.length - 4)).length ≤ big) = true := by simp only [decide_eq_true_eq]; omega
      simp only [hd, h2, if_false, Bool.false_eq_true, hn, hd2, if_true, Int.toNat_zero, List.drop_zero, hlt, hlb, Option.bind_some, List.nil_append]
      by_cases h3 : sealed_ (t.take (t.length - 4)) = t
      · simp only [h3, bne_self_eq_false, Bool.false_eq_true, if_false, Bool.false_eq_true, if_true]
      · have : (sealed_ (t.take (t.length - 4)) != t) = true := by simp [h3]
        simp only [this, h3, if_true, if_false, Bool.false_eq_true]
theorem P_ref28_Read (t : List Int) : D_ref28_Read t = N_ref28_Read (t, ()) := by
  simp only [D_ref28_Read, N_ref28_Read, N_req_Read, readT]
  by_cases h1 : t.length < 8
  · have hd : decide ((t.length : Int) < 8) = true := by simp; omega
    simp only [hd, h1, if_true]
  · have hd : ¬ (decide ((t.length : Int) < 8) = true) := by simp; omega
    simp only [hd, h1, if_false, Bool.false_eq_true]
    by_cases h2 : t.length > 8
    · have hd : decide ((t.length : Int) > 8) = true := by simp; omega
      simp only [hd, h2, if_true]
    · have hd : ¬ (decide ((t.length : Int) > 8) = true) := by simp; omega
      have h8 : t.length = 8 := by omega
      have hlt : (t.take 4).length ≤ 1000000 := by simp; omega
      have t4 : Int.toNat (4 : Int) = 4 := rfl
      have t0 : Int.toNat (0 : Int) = 0 := rfl
      have t1 : Int.toNat (1 : Int) = 1 := rfl
      have t2 : Int.toNat (2 : Int) = 2 := rfl
      have t3 : Int.toNat (3 : Int) = 3 := rfl
      simp only [hd, h2, if_false, Bool.false_eq_true, h8, t0, t1, t2, t3, t4, List.drop_zero, N_ref02_Sealed, hlt, if_true, Option.bind_some]
      by_cases h3 : sealed_ (t.take 4) = t
      · by_cases h4 : nth t 0 = 199
        · by_cases h5 : nth t 1 = 1
          · simp [h3, h4, h5]
          · simp [h3, h4, h5]
        · simp [h3, h4]
      · simp [h3]
theorem P_req_Read (t : List Int) : D_req_Read t = N_req_Read (t, ()) := by
  simp only [D_req_Read, N_req_Read, readT, N_crc_Open]
  by_cases h1 : t.length < 8
  · have hd : decide ((t.length : Int) < 8) = true := by simp; omega
    simp only [hd, h1, if_true]
  · have hd : ¬ (decide ((t.length : Int) < 8) = true) := by simp; omega
    simp only [hd, h1, if_false, Bool.false_eq_true]
    by_cases h2 : t.length > 8
    · have hd : decide ((t.length : Int) > 8) = true := by simp; omega
      simp only [hd, h2, if_true]
    · have hd : ¬ (decide ((t.length : Int) > 8) = true) := by simp; omega
      obtain ⟨a0, a1, a2, a3, a4, a5, a6, a7, rfl⟩ : ∃ a0 a1 a2 a3 a4 a5 a6 a7, t = [a0, a1, a2, a3, a4, a5, a6, a7] := by
        match t, h1, h2 with
        | [a0, a1, a2, a3, a4, a5, a6, a7], _, _ => exact ⟨a0, a1, a2, a3, a4, a5, a6, a7, rfl⟩
        | [], h, _ => simp at h
        | [_], h, _ => simp at h
        | [_, _], h, _ => simp at h
        | [_, _, _], h, _ => simp at h
        | [_, _, _, _], h, _ => simp at h
        | [_, _, _, _, _], h, _ => simp at h
        | [_, _, _, _, _, _], h, _ => simp at h
        | [_, _, _, _, _, _, _], h, _ => simp at h
        | _ :: _ :: _ :: _ :: _ :: _ :: _ :: _ :: _ :: r, _, h => simp at h
      by_cases h3 : sealed_ [a0, a1, a2, a3] = [a0, a1, a2, a3, a4, a5, a6, a7]
      · simp [h3]
        by_cases h4 : a0 = 199
        · by_cases h5 : a1 = 1
          · simp [h4, h5, nth]
          · simp [h4, h5, nth]
        · simp [h4, nth]
      · simp [h3]
end Go.Cat

set_option linter.unusedSimpArgs false
set_option linter.unusedVariables false
namespace Go.Cat
open Go
theorem le_big {n : Nat} (h : n ≤ 1000000) : n ≤ big := by have := big_eq; omega
theorem P_msg_Twin (m : Msg) (h : fitMsg m = true) : D_msg_Twin m = N_msg_Twin (m, ()) := by
  have h' := h
  simp only [fitMsg, Bool.and_eq_true, decide_eq_true_eq] at h'
  simp only [D_msg_Twin, N_msg_Twin, N_slices_Clone_byte_byte, le_big h'.1, le_big h'.2, h, if_true, Option.bind_some]
theorem P_act_reply (r : Reply) (h : r.bytes.length ≤ 1000000) : D_act_reply r = N_act_reply (r, ()) := by
  simp only [D_act_reply, N_act_reply, N_slices_Clone_byte_byte, le_big h, h, if_true, Option.bind_some]
theorem set_mid {α : Type} (a : List α) (d x : α) (m : Nat) : (a ++ List.replicate (m + 1) d).set a.length x = (a ++ [x]) ++ List.replicate m d := by
  rw [List.set_append_right _ _ (Nat.le_refl _)]
  simp [List.replicate_succ]
theorem P_ring_Twin (q : Queue) (h : fitAll q.items = true) : D_ring_Twin q = N_ring_Twin (q, ()) := by
  have hb := big_eq
  have h' := h
  simp only [fitAll, Bool.and_eq_true, decide_eq_true_eq, List.all_eq_true] at h'
  have hg : (decide (((0 : Int) ≤ (((List.length q.items) : Nat) : Int)) ∧ (((((List.length q.items) : Nat) : Int) ≤ (((List.length q.items) : Nat) : Int)) ∧ ((((List.length q.items) : Nat) : Int) ≤ ((big : Nat) : Int))))) = true := by simp; omega
  simp only [D_ring_Twin, hg, if_true, N_ring_Twin, h, Int.toNat_natCast]
  refine loopO_for (step := D_ring_Twin_l1) (fun k => ((q.items.take k ++ List.replicate (q.items.length - k) [], (q.head, (q.many, ()))), (q.items, ((q.items.length : Int), ((k : Int), ()))))) q.items.length _ (fun k hk => ?_) ?_
  · have hd : decide ((k : Int) < (q.items.length : Int)) = true := by simp; omega
    have hd2 : decide ((0 : Int) ≤ (k : Int) ∧ (k : Int) < (q.items.length : Int)) = true := by simp; omega
    have hlen : (q.items.take k ++ List.replicate (q.items.length - k) ([] : List Int)).length = q.items.length := by simp; omega
    have ht := h'.2 _ (List.getElem_mem hk)
    have hset : (q.items.take k ++ List.replicate (q.items.length - k) ([] : List Int)).set k q.items[k] = q.items.take (k + 1) ++ List.replicate (q.items.length - (k + 1)) [] := by
      have e1 : q.items.length - k = (q.items.length - (k + 1)) + 1 := by omega
      have e2 : (q.items.take k).length = k := by simp; omega
      have := set_mid (q.items.take k) [] q.items[k] (q.items.length - (k + 1))
      rw [e2, take_succ_len hk] at this
      rw [e1]; exact this
    simp only [D_ring_Twin_l1, hd, hd2, hlen, if_true, wrap_succ (k := k) (by rw [maxLen_eq]; omega), Int.toNat_natCast, nth_lt hk, N_ring_text, ht, Option.bind_some, hset]
  · have hd : ¬ (decide ((q.items.length : Int) < (q.items.length : Int)) = true) := by simp
    simp only [D_ring_Twin_l1, hd, List.take_length, Nat.sub_self, List.replicate_zero, List.append_nil]
    rfl
theorem P_sess_Twin (e : End) (h : fitAll e.out.items = true) : D_sess_Twin e = N_sess_Twin (e, ()) := by
  simp only [D_sess_Twin, N_ring_Twin, N_sess_Twin, h, if_true, Option.bind_some]
theorem P_disk_Twin (d : Disk) (h : fitDisk d = true) : D_disk_Twin d = N_disk_Twin (d, ()) := by
  obtain ⟨h1, h2, h3, h4⟩ := (fit_iff d).1 h
  have hb := big_eq
  have hc : ∀ l, loopO D_disk_Twin_l1 ((l, ([], ())), (d.cache, ((d.cache.length : Int), ((0 : Int), ())))) = some (⟨l, d.cache⟩, ()) := by
    intro l
    refine loopO_for (fun k => ((l, (d.cache.take k, ())), (d.cache, ((d.cache.length : Int), ((k : Int), ()))))) d.cache.length _ (fun k hk => ?_) ?_
    · have c1 := le_big (h4 _ (List.getElem_mem hk))
      have hd : decide ((k : Int) < (d.cache.length : Int)) = true := by simp; omega
      have hd2 : decide ((0 : Int) ≤ (k : Int) ∧ (k : Int) < (d.cache.length : Int)) = true := by simp; omega
      have hd3 : decide ((d.cache.take k).length + 1 ≤ big) = true := by simp; omega
      simp only [D_disk_Twin_l1, hd, hd2, if_true, wrap_succ (k := k) (by rw [maxLen_eq]; omega), Int.toNat_natCast, nth_lt hk, N_slices_Clone_byte_byte, c1, Option.bind_some, List.length_singleton, hd3, take_succ_len hk]
    · have hd : ¬ (decide ((d.cache.length : Int) < (d.cache.length : Int)) = true) := by simp
      simp only [D_disk_Twin_l1, hd, List.take_length]
      rfl
  have hs : loopO (D_disk_Twin_l3 d) (([], ([], ())), (d.sectors, ((d.sectors.length : Int), ((0 : Int), ())))) = some (d, ()) := by
    refine loopO_for (fun k => ((d.sectors.take k, ([], ())), (d.sectors, ((d.sectors.length : Int), ((k : Int), ()))))) d.sectors.length _ (fun k hk => ?_) ?_
    · have c1 := le_big (h3 _ (List.getElem_mem hk))
      have hd : decide ((k : Int) < (d.sectors.length : Int)) = true := by simp; omega
      have hd2 : decide ((0 : Int) ≤ (k : Int) ∧ (k : Int) < (d.sectors.length : Int)) = true := by simp; omega
      have hd3 : decide ((d.sectors.take k).length + 1 ≤ big) = true := by simp; omega
      simp only [D_disk_Twin_l3, hd, hd2, if_true, wrap_succ (k := k) (by rw [maxLen_eq]; omega), Int.toNat_natCast, nth_lt hk, N_slices_Clone_byte_byte, c1, Option.bind_some, List.length_singleton, hd3, take_succ_len hk]
    · have hd : ¬ (decide ((d.sectors.length : Int) < (d.sectors.length : Int)) = true) := by simp
      simp only [D_disk_Twin_l3, hd, List.take_length]
      exact congrArg (Option.map Sum.inr) (hc d.sectors)
  simp only [D_disk_Twin, hs, N_disk_Twin, h, if_true]
theorem P_act_Twin (s : Site) (h : smallSite s = true) : D_act_Twin s = N_act_Twin (s, ()) := by
  have q := small_r h
  have hw := q.words
  simp only [smallWords, Bool.and_eq_true, List.all_eq_true, decide_eq_true_eq] at hw
  have hbig := big_eq
  have h_replies : ∀ a : Unit, D_act_Twin_t2 s (s.disk, ()) (s.end_, ()) (s.met.table, ()) (s.syncs, ()) (s.sides, (s.sides, ((s.sides.length : Int), ((s.sides.length : Int), ())))) (s.plan, (s.plan, ((s.plan.length : Int), ((s.plan.length : Int), ())))) (s.mail, (s.mail, ((s.mail.length : Int), ((s.mail.length : Int), ())))) (s.asks, (s.asks, ((s.asks.length : Int), ((s.asks.length : Int), ())))) = some (s, ()) := by
    intro _
    unfold D_act_Twin_t2
    refine loopO_for (fun k => (s.replies.take k, (s.replies, ((s.replies.length : Int), ((k : Int), ()))))) s.replies.length _ (fun k hk => ?_) ?_
    · have hq := q.replies
      have := hw.2 _ (List.getElem_mem hk)
      have c1 : s.replies[k].bytes.length ≤ 1000000 := by omega
      have hd : decide ((k : Int) < (s.replies.length : Int)) = true := by simp; omega
      have hd2 : decide ((0 : Int) ≤ (k : Int) ∧ (k : Int) < (s.replies.length : Int)) = true := by simp; omega
      have hd3 : decide ((s.replies.take k).length + 1 ≤ big) = true := by simp; omega
      have ht := take_succ_len hk
      simp only [D_act_Twin_l1, hd, hd2, if_true, wrap_succ (k := k) (by rw [maxLen_eq]; omega), Int.toNat_natCast, nth_lt hk, N_act_reply, c1, Option.bind_some, List.length_singleton, hd3, ht]
    · have hd : ¬ (decide ((s.replies.length : Int) < (s.replies.length : Int)) = true) := by simp
      simp only [D_act_Twin_l1, hd, List.take_length]
      rfl
  have h_asks : ∀ a : Unit, D_act_Twin_t4 s (s.disk, ()) (s.end_, ()) (s.met.table, ()) (s.syncs, ()) (s.sides, (s.sides, ((s.sides.length : Int), ((s.sides.length : Int), ())))) (s.plan, (s.plan, ((s.plan.length : Int), ((s.plan.length : Int), ())))) (s.mail, (s.mail, ((s.mail.length : Int), ((s.mail.length : Int), ())))) = some (s, ()) := by
    intro _
    unfold D_act_Twin_t4
    refine loopO_for (fun k => (s.asks.take k, (s.asks, ((s.asks.length : Int), ((k : Int), ()))))) s.asks.length _ (fun k hk => ?_) ?_
    · have hq := q.asks
      have := hw.1 _ (List.getElem_mem hk)
      have c1 : s.asks[k].bytes.length ≤ big := by omega
      have hd : decide ((k : Int) < (s.asks.length : Int)) = true := by simp; omega
      have hd2 : decide ((0 : Int) ≤ (k : Int) ∧ (k : Int) < (s.asks.length : Int)) = true := by simp; omega
      have hd3 : decide ((s.asks.take k).length + 1 ≤ big) = true := by simp; omega
      have ht := take_succ_len hk
      simp only [D_act_Twin_l3, hd, hd2, if_true, wrap_succ (k := k) (by rw [maxLen_eq]; omega), Int.toNat_natCast, nth_lt hk, N_bytes_Clone, c1, Option.bind_some, List.length_singleton, hd3, ht]
    · have hd : ¬ (decide ((s.asks.length : Int) < (s.asks.length : Int)) = true) := by simp
      simp only [D_act_Twin_l3, hd, List.take_length]
      exact congrArg (Option.map Sum.inr) (h_replies ())
  have h_mail : ∀ a : Unit, D_act_Twin_t6 s (s.disk, ()) (s.end_, ()) (s.met.table, ()) (s.syncs, ()) (s.sides, (s.sides, ((s.sides.length : Int), ((s.sides.length : Int), ())))) (s.plan, (s.plan, ((s.plan.length : Int), ((s.plan.length : Int), ())))) = some (s, ()) := by
    intro _
    unfold D_act_Twin_t6
    refine loopO_for (fun k => (s.mail.take k, (s.mail, ((s.mail.length : Int), ((k : Int), ()))))) s.mail.length _ (fun k hk => ?_) ?_
    · have hq := q.mail
      have := q.mails _ (List.getElem_mem hk)
      simp only [smallMail, Bool.and_eq_true, decide_eq_true_eq] at this
      have c1 : fitMsg s.mail[k].msg = true := by simp only [fitMsg, Bool.and_eq_true, decide_eq_true_eq]; omega
      have hd : decide ((k : Int) < (s.mail.length : Int)) = true := by simp; omega
      have hd2 : decide ((0 : Int) ≤ (k : Int) ∧ (k : Int) < (s.mail.length : Int)) = true := by simp; omega
      have hd3 : decide ((s.mail.take k).length + 1 ≤ big) = true := by simp; omega
      have ht := take_succ_len hk
      simp only [D_act_Twin_l5, hd, hd2, if_true, wrap_succ (k := k) (by rw [maxLen_eq]; omega), Int.toNat_natCast, nth_lt hk, N_msg_Twin, c1, Option.bind_some, List.length_singleton, hd3, ht]
    · have hd : ¬ (decide ((s.mail.length : Int) < (s.mail.length : Int)) = true) := by simp
      simp only [D_act_Twin_l5, hd, List.take_length]
      exact congrArg (Option.map Sum.inr) (h_asks ())
  have h_plan : ∀ a : Unit, D_act_Twin_t8 s (s.disk, ()) (s.end_, ()) (s.met.table, ()) (s.syncs, ()) (s.sides, (s.sides, ((s.sides.length : Int), ((s.sides.length : Int), ())))) = some (s, ()) := by
    intro _
    unfold D_act_Twin_t8
    refine loopO_for (fun k => (s.plan.take k, (s.plan, ((s.plan.length : Int), ((k : Int), ()))))) s.plan.length _ (fun k hk => ?_) ?_
    · have hq := q.plan
      have := q.acts _ (List.getElem_mem hk)
      simp only [smallAct, Bool.and_eq_true, decide_eq_true_eq] at this
      have c1 : fitMsg s.plan[k].msg = true := by simp only [fitMsg, Bool.and_eq_true, decide_eq_true_eq]; omega
      have c2 : s.plan[k].bytes.length ≤ big := by omega
      have c3 : s.plan[k].reply.bytes.length ≤ 1000000 := by omega
      have hd : decide ((k : Int) < (s.plan.length : Int)) = true := by simp; omega
      have hd2 : decide ((0 : Int) ≤ (k : Int) ∧ (k : Int) < (s.plan.length : Int)) = true := by simp; omega
      have hd3 : decide ((s.plan.take k).length + 1 ≤ big) = true := by simp; omega
      have ht := take_succ_len hk
      simp only [D_act_Twin_l7, hd, hd2, if_true, wrap_succ (k := k) (by rw [maxLen_eq]; omega), Int.toNat_natCast, nth_lt hk, N_msg_Twin, N_bytes_Clone, N_act_reply, c1, c2, c3, Option.bind_some, List.length_singleton, hd3, ht]
    · have hd : ¬ (decide ((s.plan.length : Int) < (s.plan.length : Int)) = true) := by simp
      simp only [D_act_Twin_l7, hd, List.take_length]
      exact congrArg (Option.map Sum.inr) (h_mail ())
  have h_sides : loopO (D_act_Twin_l9 s (s.disk, ()) (s.end_, ()) (s.met.table, ()) (s.syncs, ())) ([], (s.sides, ((((List.length s.sides) : Nat) : Int), ((0 : Int), ())))) = some (s, ()) := by
    refine loopO_for (fun k => (s.sides.take k, (s.sides, ((s.sides.length : Int), ((k : Int), ()))))) s.sides.length _ (fun k hk => ?_) ?_
    · have hq := q.sides
      obtain ⟨g1, g2, g3, g4, g5⟩ := (side_iff _).1 (q.side _ (List.getElem_mem hk))
      have c1 : s.sides[k].marks.length ≤ big := by omega
      have c2 : s.sides[k].work.length ≤ big := by omega
      have c3 : s.sides[k].need.length ≤ big := by omega
      have c4 : s.sides[k].out.length ≤ big := by omega
      have c5 : s.sides[k].waits.length ≤ big := by omega
      have hd : decide ((k : Int) < (s.sides.length : Int)) = true := by simp; omega
      have hd2 : decide ((0 : Int) ≤ (k : Int) ∧ (k : Int) < (s.sides.length : Int)) = true := by simp; omega
      have hd3 : decide ((s.sides.take k).length + 1 ≤ big) = true := by simp; omega
      have ht := take_succ_len hk
      simp only [D_act_Twin_l9, hd, hd2, if_true, wrap_succ (k := k) (by rw [maxLen_eq]; omega), Int.toNat_natCast, nth_lt hk, N_bytes_Clone, N_slices_Clone_api_Sent_api_Sent, N_slices_Clone_api_Wait_api_Wait, c1, c2, c3, c4, c5, Option.bind_some, List.length_singleton, hd3, ht]
    · have hd : ¬ (decide ((s.sides.length : Int) < (s.sides.length : Int)) = true) := by simp
      simp only [D_act_Twin_l9, hd, List.take_length]
      exact congrArg (Option.map Sum.inr) (h_plan ())
  have hfit : fitDisk s.disk = true := by
    have := q.disk
    simp only [smallDisk, Bool.and_eq_true, decide_eq_true_eq, List.all_eq_true] at this
    rw [fit_iff]
    refine ⟨by omega, by omega, fun x hx => ?_, fun x hx => ?_⟩
    · have := this.1.2 x hx; omega
    · have := this.2 x hx; omega
  have htab : s.met.table.length ≤ big := by have := q.table; omega
  have hsync : s.syncs.length ≤ big := by have := q.syncs; omega
  simp only [D_act_Twin, N_disk_Twin, hfit, N_slices_Clone_api_Rec_api_Rec, htab, N_slices_Clone_int_int, N_sess_Twin, q.items, if_true, Option.bind_some, hsync, N_act_Twin, h]
  exact h_sides
end Go.Cat

set_option linter.unusedSimpArgs false
set_option linter.unusedVariables false
namespace Go.Cat
open Go
theorem e_ok (b : Bool) : ((if b = true then (0 : Int) else 8) != 0) = !b := by cases b <;> rfl
theorem may_pairs {c : Config} {s : Site} (h : maySite c s = true) : 1 ≤ c.pairs := by
  have := ((site_iff c s).1 h).1
  simp only [mayVol, mayConf, Bool.and_eq_true, decide_eq_true_eq] at this
  omega
theorem P_host_Answer (c : Config) (s : Site) (r : Reply) (h : smallSite s = true) (hr : r.bytes.length ≤ 1000000) : D_host_Answer c s r = N_host_Answer (c, (s, (r, ()))) := by
  have q := small_r h
  have hb := big_eq
  have hp := q.plan
  simp only [D_host_Answer, N_host_Answer, N_act_Check, h, hr, if_true, e1, Option.bind_some, and_self, e_ok]
  by_cases hm : maySite c s = true
  · have h1 := may_pairs hm
    have hd : ¬ (decide ((0 : Int) ≥ c.pairs) = true) := by simp; omega
    have hd2 : ∀ a : Act, decide (s.plan.length + [a].length ≤ big) = true := by intro a; simp; omega
    simp only [hm, Bool.not_true, Bool.false_eq_true, if_false, Bool.false_eq_true, hd, N_act_Twin, h, if_true, Option.bind_some, N_slices_Clone_byte_byte, le_big hr, hd2]
    rfl
  · simp only [hm, Bool.not_eq_true] at *
    simp only [hm, Bool.not_false, if_true, Bool.false_eq_true, if_false, Bool.false_eq_true]
    rfl
theorem P_site_Ask (c : Config) (s : Site) (a : Ask) (h : smallSite s = true) (hr : a.bytes.length ≤ 1000000) : D_site_Ask c s a = N_site_Ask (c, (s, (a, ()))) := by
  have q := small_r h
  have hb := big_eq
  have hp := q.asks
  simp only [D_site_Ask, N_site_Ask, N_act_Check, h, hr, if_true, e1, Option.bind_some, and_self, e_ok]
  by_cases hm : maySite c s = true
  · simp only [hm, Bool.not_true, Bool.false_eq_true, if_false, Bool.false_eq_true, if_true]
    by_cases h1 : a.kind < 1
    · simp only [h1, decide_true, if_true, true_or]
      rfl
    · by_cases h3 : 3 < a.kind
      · have hd : decide (a.kind > 3) = true := by simp; omega
        simp only [h1, decide_false, Bool.false_eq_true, if_false, Bool.false_eq_true, hd, if_true, h3, or_true]
        rfl
      · have hd : ¬ (decide (a.kind > 3) = true) := by simp; omega
        simp only [h1, decide_false, Bool.false_eq_true, if_false, Bool.false_eq_true, hd, h3, or_self]
        by_cases h6 : 64 ≤ s.asks.length
        · have hd : decide ((s.asks.length : Int) ≥ 64) = true := by simp; omega
          simp only [hd, h6, if_true]
          rfl
        · have hd : ¬ (decide ((s.asks.length : Int) ≥ 64) = true) := by simp; omega
          have hd2 : ∀ a : Ask, decide (s.asks.length + [a].length ≤ big) = true := by intro a; simp; omega
          simp only [hd, h6, if_false, Bool.false_eq_true, N_act_Twin, h, if_true, Option.bind_some, N_slices_Clone_byte_byte, le_big hr, hd2]
          rfl
  · simp only [Bool.not_eq_true] at hm
    simp only [hm, Bool.not_false, if_true, Bool.false_eq_true, if_false, Bool.false_eq_true]
    rfl
theorem readT_pair {t : List Int} (ht : ∀ x ∈ t, 0 ≤ x ∧ x ≤ 255) : 0 ≤ (readT t).2.1 ∧ (readT t).2.1 ≤ 255 := by
  have hn : 0 ≤ nth t 3 ∧ nth t 3 ≤ 255 := by
    by_cases h : 3 < t.length
    · rw [nth_lt h]; exact ht _ (List.getElem_mem h)
    · simp [nth, List.getElem?_eq_none (Nat.le_of_not_lt h)]
  unfold readT
  split
  · decide
  · split
    · decide
    · split
      · decide
      · split
        · decide
        · split
          · decide
          · exact hn
theorem readT_wrap {t : List Int} (ht : ∀ x ∈ t, 0 ≤ x ∧ x ≤ 255) : IntKind.wrap .i64 (readT t).2.1 = (readT t).2.1 := by
  have := readT_pair ht
  exact wrap_i64 (by omega) (by omega)
theorem P_req_Submit (c : Config) (s : Site) (id : Int) (t : List Int) (h : smallSite s = true) (ht : ∀ x ∈ t, 0 ≤ x ∧ x ≤ 255) : D_req_Submit c s id t = N_req_Submit (c, (s, (id, (t, ())))) := by
  simp only [D_req_Submit, N_req_Submit, N_act_Check, h, if_true, e1, Option.bind_some, e_ok, submitT]
  by_cases hm : maySite c s = true
  · simp only [hm, Bool.not_true, Bool.false_eq_true, if_false, Bool.false_eq_true, if_true]
    by_cases h1 : t.length > 4096
    · have hd : decide ((t.length : Int) > 4096) = true := by simp; omega
      simp only [hd, h1, if_true]
      rfl
    · have hd : ¬ (decide ((t.length : Int) > 4096) = true) := by simp; omega
      simp only [hd, h1, if_false, Bool.false_eq_true, N_req_Read, Option.bind_some, readT_wrap ht]
      by_cases h2 : (readT t).2.2 = 0
      · simp only [h2, bne_self_eq_false, Bool.false_eq_true, if_false, Bool.false_eq_true, ne_eq, not_true_eq_false, N_site_Ask, h, hm, List.length_nil, Nat.zero_le, and_self, if_true]
        by_cases h6 : 64 ≤ s.asks.length
        · simp only [h6, if_true]; rfl
        · simp only [h6, if_false, Bool.false_eq_true]; rfl
      · have hn : ((readT t).2.2 != 0) = true := by simp [h2]
        simp only [hn, h2, if_true, ne_eq, not_false_eq_true, N_host_Answer, h, hm, List.length_nil, Nat.zero_le, and_self, Option.bind_some]
  · simp only [Bool.not_eq_true] at hm
    simp only [hm, Bool.not_false, if_true, Bool.false_eq_true, if_false, Bool.false_eq_true]
    rfl
theorem P_ref22_Answered (s : Site) (r : Reply) (h : s.plan.length ≤ 1000000) : D_ref22_Answered s r = N_ref22_Answered (s, (r, ())) := by
  have hb := big_eq
  have hd : decide (0 + s.plan.length ≤ big) = true := by simp; omega
  have hd2 : ∀ a : Act, decide (([] ++ s.plan).length + [a].length ≤ big) = true := by intro a; simp; omega
  simp only [D_ref22_Answered, N_ref22_Answered, h, hd, hd2, if_true]
  rfl
theorem P_ref22_Code (s : Site) (a b : Int) (h : s.plan.length ≤ 1000000) : D_ref22_Code s a b = N_ref22_Code (s, (a, (b, ()))) := by
  simp only [D_ref22_Code, N_ref22_Answered, N_ref22_Code, h, if_true, Option.bind_some]
theorem P_ref27_Asked (s : Site) (a : Ask) : D_ref27_Asked s a = N_ref27_Asked (s, (a, ())) := by
  have hb := big_eq
  simp only [D_ref27_Asked, N_ref27_Asked]
  by_cases h6 : 64 ≤ s.asks.length
  · have hd : decide ((s.asks.length : Int) ≥ 64) = true := by simp; omega
    simp only [hd, h6, if_true]
  · have hd : ¬ (decide ((s.asks.length : Int) ≥ 64) = true) := by simp; omega
    have hd1 : decide (0 + s.asks.length ≤ big) = true := by simp; omega
    have hd2 : ∀ a : Ask, decide (([] ++ s.asks).length + [a].length ≤ big) = true := by intro a; simp; omega
    simp only [hd, h6, if_false, Bool.false_eq_true, hd1, hd2, if_true]
    rfl
theorem P_ref28_Submitted (s : Site) (id : Int) (t : List Int) (h : s.plan.length ≤ 1000000) (ht : ∀ x ∈ t, 0 ≤ x ∧ x ≤ 255) : D_ref28_Submitted s id t = N_ref28_Submitted (s, (id, (t, ()))) := by
  simp only [D_ref28_Submitted, N_ref28_Read, N_req_Read, N_ref28_Submitted, h, if_true, Option.bind_some, N_ref22_Code, N_ref27_Asked, readT_wrap ht]
  by_cases h2 : (readT t).2.2 = 0
  · simp only [h2, bne_self_eq_false, Bool.false_eq_true, if_false, Bool.false_eq_true, ne_eq, not_true_eq_false]
    by_cases h6 : 64 ≤ s.asks.length
    · simp only [h6, if_true]; rfl
    · simp only [h6, if_false, Bool.false_eq_true]; rfl
  · have hn : ((readT t).2.2 != 0) = true := by simp [h2]
    simp only [hn, h2, if_true, ne_eq, not_false_eq_true]
theorem P_ref28_Submit (c : Config) (s : Site) (id : Int) (t : List Int) (h : smallSite s = true) : D_ref28_Submit c s id t = N_ref28_Submit (c, (s, (id, (t, ())))) := by
  have hp : s.plan.length ≤ 1000000 := by have := (small_r h).plan; omega
  simp only [D_ref28_Submit, N_ref21_May, N_ref28_Submit, N_req_Submit, h, if_true, b1, Option.bind_some, submitT, N_ref28_Submitted, hp]
  by_cases hm : maySite c s = true
  · simp only [hm, Bool.not_true, Bool.false_eq_true, if_false, Bool.false_eq_true, if_true]
    by_cases h1 : t.length > 4096
    · have hd : decide ((t.length : Int) > 4096) = true := by simp; omega
      simp only [hd, h1, if_true]
      rfl
    · have hd : ¬ (decide ((t.length : Int) > 4096) = true) := by simp; omega
      simp only [hd, h1, if_false, Bool.false_eq_true]
      by_cases h2 : (readT t).2.2 = 0
      · simp only [h2, ne_eq, not_true_eq_false, if_false, Bool.false_eq_true]
        by_cases h6 : 64 ≤ s.asks.length
        · simp only [h6, if_true]; rfl
        · simp only [h6, if_false, Bool.false_eq_true]; rfl
      · simp only [h2, ne_eq, not_false_eq_true, if_true]; rfl
  · simp only [Bool.not_eq_true] at hm
    simp only [hm, Bool.not_false, if_true, Bool.false_eq_true, if_false, Bool.false_eq_true]
    rfl
theorem P_law28_ReqSubmits (c : Config) (s : Site) (id : Int) (t : List Int) : D_law28_ReqSubmits c s id t = some (true, ()) := by
  by_cases h : smallSite s = true
  · have core : (Option.bind (N_ref21_Twin (s, ())) fun r5 => Option.bind (N_req_Submit (c, (r5.1, (id, (t, ()))))) fun r6 => Option.bind (N_ref28_Submit (c, (s, (id, (t, ()))))) fun r7 => Option.bind (N_ref21_Same (r6.1, (r7.1, ()))) fun r8 =>
        if r8.1 then (if (r6.2.1 == r7.2.1) then Option.bind (N_ref21_Same (r5.1, (s, ()))) fun r9 => some (r9.1, ()) else some (false, ())) else some (false, ())) = some (true, ()) := by
      simp only [N_ref21_Twin, h, if_true, Option.bind_some, N_req_Submit, N_ref28_Submit, N_ref21_Same, b1, beq_self_eq_true]
    simp only [D_law28_ReqSubmits, core, N_ref21_Great, h, b1, Option.bind_some, Bool.not_true, Bool.false_eq_true, if_false, Bool.false_eq_true]
    simp
  · simp only [Bool.not_eq_true] at h
    simp only [D_law28_ReqSubmits, N_ref21_Great, h, b1, Option.bind_some, Bool.not_false, if_true]
end Go.Cat

set_option linter.unusedSimpArgs false
set_option linter.unusedVariables false
namespace Go.Cat
open Go
end Go.Cat

set_option linter.unusedVariables false
namespace Go.Cat
open Go
theorem okI_u32 {n : Int} (h : OkT (.int .u32) n) : 0 ≤ n ∧ n < 4294967296 := by
  have := okL_u32 (h (.int .u32 n) (List.mem_singleton.2 rfl)); omega
theorem okI_u8 {n : Int} (h : OkT (.int .u8) n) : 0 ≤ n ∧ n ≤ 255 := okL_u8 (h (.int .u8 n) (List.mem_singleton.2 rfl))
theorem Q_act_Twin (x : TT [(.st .Site)]) (r : TT [(.st .Site)]) (h : OkTT [(.st .Site)] x) (hn : N_act_Twin x = some r) : D_act_Twin x.1 = some r := (P_act_Twin x.1 (ite_some hn)).trans hn
theorem Q_sess_Twin (x : TT [(.st .End)]) (r : TT [(.st .End)]) (h : OkTT [(.st .End)] x) (hn : N_sess_Twin x = some r) : D_sess_Twin x.1 = some r := (P_sess_Twin x.1 (ite_some hn)).trans hn
theorem Q_disk_Twin (x : TT [(.st .Disk)]) (r : TT [(.st .Disk)]) (h : OkTT [(.st .Disk)] x) (hn : N_disk_Twin x = some r) : D_disk_Twin x.1 = some r := (P_disk_Twin x.1 (ite_some hn)).trans hn
theorem Q_msg_Twin (x : TT [(.st .Msg)]) (r : TT [(.st .Msg)]) (h : OkTT [(.st .Msg)] x) (hn : N_msg_Twin x = some r) : D_msg_Twin x.1 = some r := (P_msg_Twin x.1 (ite_some hn)).trans hn
theorem Q_ring_Twin (x : TT [(.st .Queue)]) (r : TT [(.st .Queue)]) (h : OkTT [(.st .Queue)] x) (hn : N_ring_Twin x = some r) : D_ring_Twin x.1 = some r := (P_ring_Twin x.1 (ite_some hn)).trans hn
theorem Q_act_reply (x : TT [(.st .Reply)]) (r : TT [(.st .Reply)]) (h : OkTT [(.st .Reply)] x) (hn : N_act_reply x = some r) : D_act_reply x.1 = some r := (P_act_reply x.1 (ite_some hn)).trans hn
theorem Q_crc_Sum (x : TT [(.sl (.int .u8))]) (r : TT [(.int .u32)]) (h : OkTT [(.sl (.int .u8))] x) (hn : N_crc_Sum x = some r) : D_crc_Sum x.1 = some r := (P_crc_Sum x.1).trans hn
theorem Q_crc_Seal (x : TT [(.sl (.int .u8))]) (r : TT [(.sl (.int .u8)), (.int .i64)]) (h : OkTT [(.sl (.int .u8))] x) (hn : N_crc_Seal x = some r) : D_crc_Seal x.1 = some r := (P_crc_Seal x.1).trans hn
theorem Q_crc_Open (x : TT [(.sl (.int .u8))]) (r : TT [(.sl (.int .u8)), (.int .i64)]) (h : OkTT [(.sl (.int .u8))] x) (hn : N_crc_Open x = some r) : D_crc_Open x.1 = some r := (P_crc_Open x.1 (okSl h.1)).trans hn
theorem Q_crc_More (x : TT [(.int .u32), (.sl (.int .u8))]) (r : TT [(.int .u32)]) (h : OkTT [(.int .u32), (.sl (.int .u8))] x) (hn : N_crc_More x = some r) : D_crc_More x.1 x.2.1 = some r := (P_crc_More x.1 x.2.1 (okI_u32 h.1).1 (okI_u32 h.1).2 (okSl h.2.1)).trans hn
theorem Q_crc_sum_take (x : TT [(.int .u32), (.int .u8)]) (r : TT [(.int .u32)]) (h : OkTT [(.int .u32), (.int .u8)] x) (hn : N_crc_sum_take x = some r) : D_crc_sum_take x.1 x.2.1 = some r := (P_crc_sum_take x.1 x.2.1 (okI_u32 h.1).1 (okI_u32 h.1).2 (okI_u8 h.2.1).1 (Int.lt_of_le_of_lt (okI_u8 h.2.1).2 (by decide))).trans hn
theorem Q_ref02_Taken (x : TT [(.int .u32), (.int .u8)]) (r : TT [(.int .u32)]) (h : OkTT [(.int .u32), (.int .u8)] x) (hn : N_ref02_Taken x = some r) : D_ref02_Taken x.1 x.2.1 = some r := (P_ref02_Taken x.1 x.2.1 (okI_u32 h.1).1 (okI_u32 h.1).2 (okI_u8 h.2.1).1 (Int.lt_of_le_of_lt (okI_u8 h.2.1).2 (by decide))).trans hn
theorem Q_ref02_Behind (x : TT [(.int .u32), (.sl (.int .u8))]) (r : TT [(.int .u32)]) (h : OkTT [(.int .u32), (.sl (.int .u8))] x) (hn : N_ref02_Behind x = some r) : D_ref02_Behind x.1 x.2.1 = some r := (P_ref02_Behind x.1 x.2.1 (okI_u32 h.1).1 (okI_u32 h.1).2 (okSl h.2.1)).trans hn
theorem Q_ref02_Sum (x : TT [(.sl (.int .u8))]) (r : TT [(.int .u32)]) (h : OkTT [(.sl (.int .u8))] x) (hn : N_ref02_Sum x = some r) : D_ref02_Sum x.1 = some r := (P_ref02_Sum x.1).trans hn
theorem Q_ref02_Sealed (x : TT [(.sl (.int .u8))]) (r : TT [(.sl (.int .u8))]) (h : OkTT [(.sl (.int .u8))] x) (hn : N_ref02_Sealed x = some r) : D_ref02_Sealed x.1 = some r := (P_ref02_Sealed x.1 (ite_some hn)).trans hn
theorem Q_req_Read (x : TT [(.sl (.int .u8))]) (r : TT [(.int .u8), (.int .u8), (.int .i64)]) (h : OkTT [(.sl (.int .u8))] x) (hn : N_req_Read x = some r) : D_req_Read x.1 = some r := (P_req_Read x.1).trans hn
theorem Q_ref28_Read (x : TT [(.sl (.int .u8))]) (r : TT [(.int .u8), (.int .u8), (.int .i64)]) (h : OkTT [(.sl (.int .u8))] x) (hn : N_ref28_Read x = some r) : D_ref28_Read x.1 = some r := (P_ref28_Read x.1).trans hn
theorem Q_host_Answer (x : TT [(.st .Config), (.st .Site), (.st .Reply)]) (r : TT [(.st .Site), (.int .i64)]) (h : OkTT [(.st .Config), (.st .Site), (.st .Reply)] x) (hn : N_host_Answer x = some r) : D_host_Answer x.1 x.2.1 x.2.2.1 = some r := (P_host_Answer x.1 x.2.1 x.2.2.1 (ite_some hn).1 (ite_some hn).2).trans hn
theorem Q_site_Ask (x : TT [(.st .Config), (.st .Site), (.st .Ask)]) (r : TT [(.st .Site), (.int .i64)]) (h : OkTT [(.st .Config), (.st .Site), (.st .Ask)] x) (hn : N_site_Ask x = some r) : D_site_Ask x.1 x.2.1 x.2.2.1 = some r := (P_site_Ask x.1 x.2.1 x.2.2.1 (ite_some hn).1 (ite_some hn).2).trans hn
theorem Q_req_Submit (x : TT [(.st .Config), (.st .Site), (.int .i64), (.sl (.int .u8))]) (r : TT [(.st .Site), (.int .i64)]) (h : OkTT [(.st .Config), (.st .Site), (.int .i64), (.sl (.int .u8))] x) (hn : N_req_Submit x = some r) : D_req_Submit x.1 x.2.1 x.2.2.1 x.2.2.2.1 = some r := (P_req_Submit x.1 x.2.1 x.2.2.1 x.2.2.2.1 (ite_some hn) (okU8 h.2.2.2.1)).trans hn
theorem Q_ref28_Submit (x : TT [(.st .Config), (.st .Site), (.int .i64), (.sl (.int .u8))]) (r : TT [(.st .Site), (.int .i64)]) (h : OkTT [(.st .Config), (.st .Site), (.int .i64), (.sl (.int .u8))] x) (hn : N_ref28_Submit x = some r) : D_ref28_Submit x.1 x.2.1 x.2.2.1 x.2.2.2.1 = some r := (P_ref28_Submit x.1 x.2.1 x.2.2.1 x.2.2.2.1 (ite_some hn)).trans hn
theorem Q_ref28_Submitted (x : TT [(.st .Site), (.int .i64), (.sl (.int .u8))]) (r : TT [(.st .Site), .bool]) (h : OkTT [(.st .Site), (.int .i64), (.sl (.int .u8))] x) (hn : N_ref28_Submitted x = some r) : D_ref28_Submitted x.1 x.2.1 x.2.2.1 = some r := (P_ref28_Submitted x.1 x.2.1 x.2.2.1 (ite_some hn) (okU8 h.2.2.1)).trans hn
theorem Q_ref22_Code (x : TT [(.st .Site), (.int .i64), (.int .i64)]) (r : TT [(.st .Site)]) (h : OkTT [(.st .Site), (.int .i64), (.int .i64)] x) (hn : N_ref22_Code x = some r) : D_ref22_Code x.1 x.2.1 x.2.2.1 = some r := (P_ref22_Code x.1 x.2.1 x.2.2.1 (ite_some hn)).trans hn
theorem Q_ref22_Answered (x : TT [(.st .Site), (.st .Reply)]) (r : TT [(.st .Site)]) (h : OkTT [(.st .Site), (.st .Reply)] x) (hn : N_ref22_Answered x = some r) : D_ref22_Answered x.1 x.2.1 = some r := (P_ref22_Answered x.1 x.2.1 (ite_some hn)).trans hn
theorem Q_ref27_Asked (x : TT [(.st .Site), (.st .Ask)]) (r : TT [(.st .Site), .bool]) (h : OkTT [(.st .Site), (.st .Ask)] x) (hn : N_ref27_Asked x = some r) : D_ref27_Asked x.1 x.2.1 = some r := (P_ref27_Asked x.1 x.2.1).trans hn
end Go.Cat
