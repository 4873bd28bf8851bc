/-
  My own text: a part of the proof.
  My own text: a part of the proof.
  My own text: a part of the proof.
  My own text: a part of the proof.
  My own text: a part of the proof.
  My own text: a part of the proof.
  My own text: a part of the proof.
  My own text: a part of the proof.
-/
import Derived.Test.YtiflikkmjeikdaaGreatC6
import Derived.Test.YtiflikkmjeikdaaGreatC3
import Derived.OrdersIn
import Derived.RangeFuncCalls
set_option linter.unusedVariables false
set_option linter.unusedSimpArgs false
set_option linter.unusedVariables false
namespace Go.Cat
open Go
noncomputable def D_act_Twin_l1 (p1 : Site) (r1 : (Disk × Unit)) (r2 : (End × Unit)) (r3 : ((List Rec) × Unit)) (r4 : ((List Int) × Unit)) (l5 : ((List Side) × ((List Side) × (Int × (Int × Unit))))) (l6 : ((List Act) × ((List Act) × (Int × (Int × Unit))))) (l7 : ((List Mail) × ((List Mail) × (Int × (Int × Unit))))) (l8 : ((List Ask) × ((List Ask) × (Int × (Int × Unit))))) (l9 : ((List Reply) × ((List Reply) × (Int × (Int × Unit))))) : Option (((List Reply) × ((List Reply) × (Int × (Int × Unit)))) ⊕ (Site × Unit)) :=
    if (decide (l9.2.2.2.1 < l9.2.2.1)) then
    if (decide (((0 : Int) ≤ l9.2.2.2.1) ∧ (l9.2.2.2.1 < (((List.length l9.2.1) : Nat) : Int)))) then
    Option.bind (N_act_reply ((nth l9.2.1 (Int.toNat l9.2.2.2.1)), ())) fun r10 =>
      if (decide (((List.length l9.1) + (List.length (r10.1 :: []))) ≤ big)) then
      some (Sum.inl ((l9.1 ++ (r10.1 :: [])), (l9.2.1, (l9.2.2.1, ((IntKind.wrap IntKind.i64 (l9.2.2.2.1 + (1 : Int))), ())))))
      else none
    else none
  else
    some (Sum.inr ((Site.mk p1.id r1.1 (Meta.mk p1.met.super p1.met.count p1.met.turn r3.1) l5.1 r2.1 l6.1 l7.1 l8.1 l9.1 r4.1 p1.born p1.ready), ()))
noncomputable def D_act_Twin_t2 (p1 : Site) (r1 : (Disk × Unit)) (r2 : (End × Unit)) (r3 : ((List Rec) × Unit)) (r4 : ((List Int) × Unit)) (l5 : ((List Side) × ((List Side) × (Int × (Int × Unit))))) (l6 : ((List Act) × ((List Act) × (Int × (Int × Unit))))) (l7 : ((List Mail) × ((List Mail) × (Int × (Int × Unit))))) (l8 : ((List Ask) × ((List Ask) × (Int × (Int × Unit))))) : Option (Site × Unit) :=
    loopO (D_act_Twin_l1 p1 r1 r2 r3 r4 l5 l6 l7 l8) ([], (p1.replies, ((((List.length p1.replies) : Nat) : Int), ((0 : Int), ()))))
noncomputable def D_act_Twin_l3 (p1 : Site) (r1 : (Disk × Unit)) (r2 : (End × Unit)) (r3 : ((List Rec) × Unit)) (r4 : ((List Int) × Unit)) (l5 : ((List Side) × ((List Side) × (Int × (Int × Unit))))) (l6 : ((List Act) × ((List Act) × (Int × (Int × Unit))))) (l7 : ((List Mail) × ((List Mail) × (Int × (Int × Unit))))) (l8 : ((List Ask) × ((List Ask) × (Int × (Int × Unit))))) : Option (((List Ask) × ((List Ask) × (Int × (Int × Unit)))) ⊕ (Site × Unit)) :=
    if (decide (l8.2.2.2.1 < l8.2.2.1)) then
    if (decide (((0 : Int) ≤ l8.2.2.2.1) ∧ (l8.2.2.2.1 < (((List.length l8.2.1) : Nat) : Int)))) then
    Option.bind (N_bytes_Clone ((nth l8.2.1 (Int.toNat l8.2.2.2.1)).bytes, ())) fun r9 =>
      if (decide (((List.length l8.1) + (List.length ((Ask.mk (nth l8.2.1 (Int.toNat l8.2.2.2.1)).id (nth l8.2.1 (Int.toNat l8.2.2.2.1)).kind (nth l8.2.1 (Int.toNat l8.2.2.2.1)).pair (nth l8.2.1 (Int.toNat l8.2.2.2.1)).track (nth l8.2.1 (Int.toNat l8.2.2.2.1)).op r9.1) :: []))) ≤ big)) then
      some (Sum.inl ((l8.1 ++ ((Ask.mk (nth l8.2.1 (Int.toNat l8.2.2.2.1)).id (nth l8.2.1 (Int.toNat l8.2.2.2.1)).kind (nth l8.2.1 (Int.toNat l8.2.2.2.1)).pair (nth l8.2.1 (Int.toNat l8.2.2.2.1)).track (nth l8.2.1 (Int.toNat l8.2.2.2.1)).op r9.1) :: [])), (l8.2.1, (l8.2.2.1, ((IntKind.wrap IntKind.i64 (l8.2.2.2.1 + (1 : Int))), ())))))
      else none
    else none
  else
    Option.map Sum.inr (D_act_Twin_t2 p1 r1 r2 r3 r4 l5 l6 l7 l8)
noncomputable def D_act_Twin_t4 (p1 : Site) (r1 : (Disk × Unit)) (r2 : (End × Unit)) (r3 : ((List Rec) × Unit)) (r4 : ((List Int) × Unit)) (l5 : ((List Side) × ((List Side) × (Int × (Int × Unit))))) (l6 : ((List Act) × ((List Act) × (Int × (Int × Unit))))) (l7 : ((List Mail) × ((List Mail) × (Int × (Int × Unit))))) : Option (Site × Unit) :=
    loopO (D_act_Twin_l3 p1 r1 r2 r3 r4 l5 l6 l7) ([], (p1.asks, ((((List.length p1.asks) : Nat) : Int), ((0 : Int), ()))))
noncomputable def D_act_Twin_l5 (p1 : Site) (r1 : (Disk × Unit)) (r2 : (End × Unit)) (r3 : ((List Rec) × Unit)) (r4 : ((List Int) × Unit)) (l5 : ((List Side) × ((List Side) × (Int × (Int × Unit))))) (l6 : ((List Act) × ((List Act) × (Int × (Int × Unit))))) (l7 : ((List Mail) × ((List Mail) × (Int × (Int × Unit))))) : Option (((List Mail) × ((List Mail) × (Int × (Int × Unit)))) ⊕ (Site × Unit)) :=
    if (decide (l7.2.2.2.1 < l7.2.2.1)) then
    if (decide (((0 : Int) ≤ l7.2.2.2.1) ∧ (l7.2.2.2.1 < (((List.length l7.2.1) : Nat) : Int)))) then
    Option.bind (N_msg_Twin ((nth l7.2.1 (Int.toNat l7.2.2.2.1)).msg, ())) fun r8 =>
      if (decide (((List.length l7.1) + (List.length ((Mail.mk (nth l7.2.1 (Int.toNat l7.2.2.2.1)).kind (nth l7.2.1 (Int.toNat l7.2.2.2.1)).me (nth l7.2.1 (Int.toNat l7.2.2.2.1)).you r8.1) :: []))) ≤ big)) then
      some (Sum.inl ((l7.1 ++ ((Mail.mk (nth l7.2.1 (Int.toNat l7.2.2.2.1)).kind (nth l7.2.1 (Int.toNat l7.2.2.2.1)).me (nth l7.2.1 (Int.toNat l7.2.2.2.1)).you r8.1) :: [])), (l7.2.1, (l7.2.2.1, ((IntKind.wrap IntKind.i64 (l7.2.2.2.1 + (1 : Int))), ())))))
      else none
    else none
  else
    Option.map Sum.inr (D_act_Twin_t4 p1 r1 r2 r3 r4 l5 l6 l7)
noncomputable def D_act_Twin_t6 (p1 : Site) (r1 : (Disk × Unit)) (r2 : (End × Unit)) (r3 : ((List Rec) × Unit)) (r4 : ((List Int) × Unit)) (l5 : ((List Side) × ((List Side) × (Int × (Int × Unit))))) (l6 : ((List Act) × ((List Act) × (Int × (Int × Unit))))) : Option (Site × Unit) :=
    loopO (D_act_Twin_l5 p1 r1 r2 r3 r4 l5 l6) ([], (p1.mail, ((((List.length p1.mail) : Nat) : Int), ((0 : Int), ()))))
noncomputable def D_act_Twin_l7 (p1 : Site) (r1 : (Disk × Unit)) (r2 : (End × Unit)) (r3 : ((List Rec) × Unit)) (r4 : ((List Int) × Unit)) (l5 : ((List Side) × ((List Side) × (Int × (Int × Unit))))) (l6 : ((List Act) × ((List Act) × (Int × (Int × Unit))))) : Option (((List Act) × ((List Act) × (Int × (Int × Unit)))) ⊕ (Site × Unit)) :=
    if (decide (l6.2.2.2.1 < l6.2.2.1)) then
    if (decide (((0 : Int) ≤ l6.2.2.2.1) ∧ (l6.2.2.2.1 < (((List.length l6.2.1) : Nat) : Int)))) then
    Option.bind (N_bytes_Clone ((nth l6.2.1 (Int.toNat l6.2.2.2.1)).bytes, ())) fun r7 =>
      Option.bind (N_msg_Twin ((nth l6.2.1 (Int.toNat l6.2.2.2.1)).msg, ())) fun r8 =>
        Option.bind (N_act_reply ((nth l6.2.1 (Int.toNat l6.2.2.2.1)).reply, ())) fun r9 =>
          if (decide (((List.length l6.1) + (List.length ((Act.mk (nth l6.2.1 (Int.toNat l6.2.2.2.1)).kind (nth l6.2.1 (Int.toNat l6.2.2.2.1)).at_ r7.1 (nth l6.2.1 (Int.toNat l6.2.2.2.1)).me (nth l6.2.1 (Int.toNat l6.2.2.2.1)).you r8.1 r9.1 (nth l6.2.1 (Int.toNat l6.2.2.2.1)).pair) :: []))) ≤ big)) then
          some (Sum.inl ((l6.1 ++ ((Act.mk (nth l6.2.1 (Int.toNat l6.2.2.2.1)).kind (nth l6.2.1 (Int.toNat l6.2.2.2.1)).at_ r7.1 (nth l6.2.1 (Int.toNat l6.2.2.2.1)).me (nth l6.2.1 (Int.toNat l6.2.2.2.1)).you r8.1 r9.1 (nth l6.2.1 (Int.toNat l6.2.2.2.1)).pair) :: [])), (l6.2.1, (l6.2.2.1, ((IntKind.wrap IntKind.i64 (l6.2.2.2.1 + (1 : Int))), ())))))
          else none
    else none
  else
    Option.map Sum.inr (D_act_Twin_t6 p1 r1 r2 r3 r4 l5 l6)
noncomputable def D_act_Twin_t8 (p1 : Site) (r1 : (Disk × Unit)) (r2 : (End × Unit)) (r3 : ((List Rec) × Unit)) (r4 : ((List Int) × Unit)) (l5 : ((List Side) × ((List Side) × (Int × (Int × Unit))))) : Option (Site × Unit) :=
    loopO (D_act_Twin_l7 p1 r1 r2 r3 r4 l5) ([], (p1.plan, ((((List.length p1.plan) : Nat) : Int), ((0 : Int), ()))))
noncomputable def D_act_Twin_l9 (p1 : Site) (r1 : (Disk × Unit)) (r2 : (End × Unit)) (r3 : ((List Rec) × Unit)) (r4 : ((List Int) × Unit)) (l5 : ((List Side) × ((List Side) × (Int × (Int × Unit))))) : Option (((List Side) × ((List Side) × (Int × (Int × Unit)))) ⊕ (Site × Unit)) :=
    if (decide (l5.2.2.2.1 < l5.2.2.1)) then
    if (decide (((0 : Int) ≤ l5.2.2.2.1) ∧ (l5.2.2.2.1 < (((List.length l5.2.1) : Nat) : Int)))) then
    Option.bind (N_bytes_Clone ((nth l5.2.1 (Int.toNat l5.2.2.2.1)).marks, ())) fun r6 =>
      Option.bind (N_bytes_Clone ((nth l5.2.1 (Int.toNat l5.2.2.2.1)).work, ())) fun r7 =>
        Option.bind (N_bytes_Clone ((nth l5.2.1 (Int.toNat l5.2.2.2.1)).need, ())) fun r8 =>
          Option.bind (N_slices_Clone_api_Sent_api_Sent ((nth l5.2.1 (Int.toNat l5.2.2.2.1)).out, ())) fun r9 =>
            Option.bind (N_slices_Clone_api_Wait_api_Wait ((nth l5.2.1 (Int.toNat l5.2.2.2.1)).waits, ())) fun r10 =>
              if (decide (((List.length l5.1) + (List.length ((Side.mk r6.1 r7.1 r9.1 (nth l5.2.1 (Int.toNat l5.2.2.2.1)).n r10.1 r8.1 (nth l5.2.1 (Int.toNat l5.2.2.2.1)).first (nth l5.2.1 (Int.toNat l5.2.2.2.1)).next (nth l5.2.1 (Int.toNat l5.2.2.2.1)).op (nth l5.2.1 (Int.toNat l5.2.2.2.1)).ask (nth l5.2.1 (Int.toNat l5.2.2.2.1)).knows (nth l5.2.1 (Int.toNat l5.2.2.2.1)).over (nth l5.2.1 (Int.toNat l5.2.2.2.1)).clean (nth l5.2.1 (Int.toNat l5.2.2.2.1)).again) :: []))) ≤ big)) then
              some (Sum.inl ((l5.1 ++ ((Side.mk r6.1 r7.1 r9.1 (nth l5.2.1 (Int.toNat l5.2.2.2.1)).n r10.1 r8.1 (nth l5.2.1 (Int.toNat l5.2.2.2.1)).first (nth l5.2.1 (Int.toNat l5.2.2.2.1)).next (nth l5.2.1 (Int.toNat l5.2.2.2.1)).op (nth l5.2.1 (Int.toNat l5.2.2.2.1)).ask (nth l5.2.1 (Int.toNat l5.2.2.2.1)).knows (nth l5.2.1 (Int.toNat l5.2.2.2.1)).over (nth l5.2.1 (Int.toNat l5.2.2.2.1)).clean (nth l5.2.1 (Int.toNat l5.2.2.2.1)).again) :: [])), (l5.2.1, (l5.2.2.1, ((IntKind.wrap IntKind.i64 (l5.2.2.2.1 + (1 : Int))), ())))))
              else none
    else none
  else
    Option.map Sum.inr (D_act_Twin_t8 p1 r1 r2 r3 r4 l5)
noncomputable def D_act_Twin (p1 : Site) : Option (Site × Unit) :=
  Option.bind (N_disk_Twin (p1.disk, ())) fun r1 =>
    Option.bind (N_sess_Twin (p1.end_, ())) fun r2 =>
      Option.bind (N_slices_Clone_api_Rec_api_Rec (p1.met.table, ())) fun r3 =>
        Option.bind (N_slices_Clone_int_int (p1.syncs, ())) fun r4 =>
          loopO (D_act_Twin_l9 p1 r1 r2 r3 r4) ([], (p1.sides, ((((List.length p1.sides) : Nat) : Int), ((0 : Int), ()))))
noncomputable def D_sess_Twin (p1 : End) : Option (End × Unit) :=
  Option.bind (N_ring_Twin (p1.out, ())) fun r1 =>
    some ((End.mk p1.me p1.you p1.up p1.dead p1.sent p1.done r1.1 p1.got p1.quiet), ())
noncomputable def D_disk_Twin_l1  (l1 : (((List Sector) × ((List Pend) × Unit)) × ((List Pend) × (Int × (Int × Unit))))) : Option ((((List Sector) × ((List Pend) × Unit)) × ((List Pend) × (Int × (Int × Unit)))) ⊕ (Disk × Unit)) :=
    if (decide (l1.2.2.2.1 < l1.2.2.1)) then
    if (decide (((0 : Int) ≤ l1.2.2.2.1) ∧ (l1.2.2.2.1 < (((List.length l1.2.1) : Nat) : Int)))) then
    Option.bind (N_slices_Clone_byte_byte ((nth l1.2.1 (Int.toNat l1.2.2.2.1)).bytes, ())) fun r2 =>
      if (decide (((List.length l1.1.2.1) + (List.length ((Pend.mk (nth l1.2.1 (Int.toNat l1.2.2.2.1)).at_ r2.1) :: []))) ≤ big)) then
      some (Sum.inl ((l1.1.1, ((l1.1.2.1 ++ ((Pend.mk (nth l1.2.1 (Int.toNat l1.2.2.2.1)).at_ r2.1) :: [])), ())), (l1.2.1, (l1.2.2.1, ((IntKind.wrap IntKind.i64 (l1.2.2.2.1 + (1 : Int))), ())))))
      else none
    else none
  else
    some (Sum.inr ((Disk.mk l1.1.1 l1.1.2.1), ()))
noncomputable def D_disk_Twin_t2 (p1 : Disk) (l1 : (((List Sector) × ((List Pend) × Unit)) × ((List Sector) × (Int × (Int × Unit))))) : Option (Disk × Unit) :=
    loopO (D_disk_Twin_l1 ) ((l1.1.1, (l1.1.2.1, ())), (p1.cache, ((((List.length p1.cache) : Nat) : Int), ((0 : Int), ()))))
noncomputable def D_disk_Twin_l3 (p1 : Disk) (l1 : (((List Sector) × ((List Pend) × Unit)) × ((List Sector) × (Int × (Int × Unit))))) : Option ((((List Sector) × ((List Pend) × Unit)) × ((List Sector) × (Int × (Int × Unit)))) ⊕ (Disk × Unit)) :=
    if (decide (l1.2.2.2.1 < l1.2.2.1)) then
    if (decide (((0 : Int) ≤ l1.2.2.2.1) ∧ (l1.2.2.2.1 < (((List.length l1.2.1) : Nat) : Int)))) then
    Option.bind (N_slices_Clone_byte_byte ((nth l1.2.1 (Int.toNat l1.2.2.2.1)).bytes, ())) fun r2 =>
      if (decide (((List.length l1.1.1) + (List.length ((Sector.mk r2.1 (nth l1.2.1 (Int.toNat l1.2.2.2.1)).bad) :: []))) ≤ big)) then
      some (Sum.inl (((l1.1.1 ++ ((Sector.mk r2.1 (nth l1.2.1 (Int.toNat l1.2.2.2.1)).bad) :: [])), (l1.1.2.1, ())), (l1.2.1, (l1.2.2.1, ((IntKind.wrap IntKind.i64 (l1.2.2.2.1 + (1 : Int))), ())))))
      else none
    else none
  else
    Option.map Sum.inr (D_disk_Twin_t2 p1 l1)
noncomputable def D_disk_Twin (p1 : Disk) : Option (Disk × Unit) :=
  loopO (D_disk_Twin_l3 p1) (([], ([], ())), (p1.sectors, ((((List.length p1.sectors) : Nat) : Int), ((0 : Int), ()))))
noncomputable def D_msg_Twin (p1 : Msg) : Option (Msg × Unit) :=
  Option.bind (N_slices_Clone_byte_byte (p1.marks, ())) fun r1 =>
    Option.bind (N_slices_Clone_byte_byte (p1.bytes, ())) fun r2 =>
      some ((Msg.mk p1.kind p1.pair p1.has p1.rec_ p1.op p1.born p1.epoch p1.track p1.n p1.code r1.1 r2.1), ())
noncomputable def D_ring_Twin_l1  (l1 : (((List (List Int)) × (Int × (Int × Unit))) × ((List (List Int)) × (Int × (Int × Unit))))) : Option ((((List (List Int)) × (Int × (Int × Unit))) × ((List (List Int)) × (Int × (Int × Unit)))) ⊕ (Queue × Unit)) :=
    if (decide (l1.2.2.2.1 < l1.2.2.1)) then
    if (decide (((0 : Int) ≤ l1.2.2.2.1) ∧ (l1.2.2.2.1 < (((List.length l1.2.1) : Nat) : Int)))) then
    Option.bind (N_ring_text ((nth l1.2.1 (Int.toNat l1.2.2.2.1)), ())) fun r2 =>
      if (decide (((0 : Int) ≤ l1.2.2.2.1) ∧ (l1.2.2.2.1 < (((List.length l1.1.1) : Nat) : Int)))) then
      some (Sum.inl (((List.set l1.1.1 (Int.toNat l1.2.2.2.1) r2.1), l1.1.2), (l1.2.1, (l1.2.2.1, ((IntKind.wrap IntKind.i64 (l1.2.2.2.1 + (1 : Int))), ())))))
      else none
    else none
  else
    some (Sum.inr ((Queue.mk l1.1.1 l1.1.2.1 l1.1.2.2.1), ()))
noncomputable def D_ring_Twin (p1 : Queue) : Option (Queue × Unit) :=
  if (decide (((0 : Int) ≤ (((List.length p1.items) : Nat) : Int)) ∧ (((((List.length p1.items) : Nat) : Int) ≤ (((List.length p1.items) : Nat) : Int)) ∧ ((((List.length p1.items) : Nat) : Int) ≤ ((big : Nat) : Int))))) then
  loopO (D_ring_Twin_l1 ) (((List.replicate (Int.toNat (((List.length p1.items) : Nat) : Int)) []), (p1.head, (p1.many, ()))), (p1.items, ((((List.length p1.items) : Nat) : Int), ((0 : Int), ()))))
  else none
noncomputable def D_act_reply (p1 : Reply) : Option (Reply × Unit) :=
  Option.bind (N_slices_Clone_byte_byte (p1.bytes, ())) fun r1 =>
    some ((Reply.mk p1.ask p1.code p1.state r1.1), ())
noncomputable def D_crc_Sum (p1 : (List Int)) : Option (Int × Unit) :=
  Option.bind (N_crc_More ((0 : Int), (p1, ()))) fun r1 =>
    some (r1.1, ())
noncomputable def D_crc_Seal (p1 : (List Int)) : Option ((List Int) × (Int × Unit)) :=
  if (decide ((((List.length p1) : Nat) : Int) > (4096 : Int))) then
    some ([], ((4 : Int), ()))
  else
    Option.bind (N_crc_Sum (p1, ())) fun r1 =>
      if (decide (((0 : Int) ≤ (0 : Int)) ∧ (((0 : Int) ≤ (IntKind.wrap IntKind.i64 ((((List.length p1) : Nat) : Int) + (4 : Int)))) ∧ ((IntKind.wrap IntKind.i64 ((((List.length p1) : Nat) : Int) + (4 : Int))) ≤ ((big : Nat) : Int))))) then
      if (decide (((List.length (List.replicate (Int.toNat (0 : Int)) (0 : Int))) + (List.length p1)) ≤ big)) then
      if (decide ((0 : Int) ≤ (8 : Int))) then
      if (decide ((0 : Int) ≤ (16 : Int))) then
      if (decide ((0 : Int) ≤ (24 : Int))) then
      if (decide (((List.length ((List.replicate (Int.toNat (0 : Int)) (0 : Int)) ++ p1)) + (List.length ((IntKind.wrap IntKind.u8 r1.1) :: ((IntKind.wrap IntKind.u8 (shrI IntKind.u32 r1.1 (8 : Int))) :: ((IntKind.wrap IntKind.u8 (shrI IntKind.u32 r1.1 (16 : Int))) :: ((IntKind.wrap IntKind.u8 (shrI IntKind.u32 r1.1 (24 : Int))) :: [])))))) ≤ big)) then
      some ((((List.replicate (Int.toNat (0 : Int)) (0 : Int)) ++ p1) ++ ((IntKind.wrap IntKind.u8 r1.1) :: ((IntKind.wrap IntKind.u8 (shrI IntKind.u32 r1.1 (8 : Int))) :: ((IntKind.wrap IntKind.u8 (shrI IntKind.u32 r1.1 (16 : Int))) :: ((IntKind.wrap IntKind.u8 (shrI IntKind.u32 r1.1 (24 : Int))) :: []))))), ((0 : Int), ()))
      else none
      else none
      else none
      else none
      else none
      else none
noncomputable def D_crc_Open (p1 : (List Int)) : Option ((List Int) × (Int × Unit)) :=
  if (decide ((IntKind.wrap IntKind.i64 ((((List.length p1) : Nat) : Int) - (4 : Int))) < (0 : Int))) then
    some ([], ((10 : Int), ()))
  else
    if (decide ((IntKind.wrap IntKind.i64 ((((List.length p1) : Nat) : Int) - (4 : Int))) > (4096 : Int))) then
      some ([], ((4 : Int), ()))
    else
      if (decide (((0 : Int) ≤ (0 : Int)) ∧ (((0 : Int) ≤ (IntKind.wrap IntKind.i64 ((((List.length p1) : Nat) : Int) - (4 : Int)))) ∧ (((IntKind.wrap IntKind.i64 ((((List.length p1) : Nat) : Int) - (4 : Int))) ≤ (((List.length p1) : Nat) : Int)) ∧ ((((List.length p1) : Nat) : Int) ≤ (((List.length p1) : Nat) : Int)))))) then
      Option.bind (N_crc_Seal ((List.drop (Int.toNat (0 : Int)) (List.take (Int.toNat (IntKind.wrap IntKind.i64 ((((List.length p1) : Nat) : Int) - (4 : Int)))) p1)), ())) fun r1 =>
        if (r1.1 != p1) then
          some ([], ((20 : Int), ()))
        else
          if (decide (((0 : Int) ≤ (0 : Int)) ∧ (((0 : Int) ≤ (IntKind.wrap IntKind.i64 ((((List.length p1) : Nat) : Int) - (4 : Int)))) ∧ (((IntKind.wrap IntKind.i64 ((((List.length p1) : Nat) : Int) - (4 : Int))) ≤ (((List.length p1) : Nat) : Int)) ∧ ((((List.length p1) : Nat) : Int) ≤ (((List.length p1) : Nat) : Int)))))) then
          if (decide ((0 + (List.length (List.drop (Int.toNat (0 : Int)) (List.take (Int.toNat (IntKind.wrap IntKind.i64 ((((List.length p1) : Nat) : Int) - (4 : Int)))) p1)))) ≤ big)) then
          some (([] ++ (List.drop (Int.toNat (0 : Int)) (List.take (Int.toNat (IntKind.wrap IntKind.i64 ((((List.length p1) : Nat) : Int) - (4 : Int)))) p1))), ((0 : Int), ()))
          else none
          else none
      else none
noncomputable def D_crc_More_l1  (l1 : (Int × ((List Int) × (Int × (Int × Unit))))) : Option ((Int × ((List Int) × (Int × (Int × Unit)))) ⊕ (Int × Unit)) :=
    if (decide (l1.2.2.2.1 < l1.2.2.1)) then
    if (decide (((0 : Int) ≤ l1.2.2.2.1) ∧ (l1.2.2.2.1 < (((List.length l1.2.1) : Nat) : Int)))) then
    Option.bind (N_crc_sum_take (l1.1, ((nth l1.2.1 (Int.toNat l1.2.2.2.1)), ()))) fun r2 =>
      some (Sum.inl (r2.1, (l1.2.1, (l1.2.2.1, ((IntKind.wrap IntKind.i64 (l1.2.2.2.1 + (1 : Int))), ())))))
    else none
  else
    some (Sum.inr ((ibits BinOp.xor IntKind.u32 (if ((IntKind.signed IntKind.u32) = Bool.true) then (-(1 : Int)) else (IntKind.max IntKind.u32)) l1.1), ()))
noncomputable def D_crc_More (p1 : Int) (p2 : (List Int)) : Option (Int × Unit) :=
  loopO (D_crc_More_l1 ) ((ibits BinOp.xor IntKind.u32 (if ((IntKind.signed IntKind.u32) = Bool.true) then (-(1 : Int)) else (IntKind.max IntKind.u32)) p1), (p2, ((((List.length p2) : Nat) : Int), ((0 : Int), ()))))
noncomputable def D_crc_sum_take_l1  (l1 : (Int × (Int × Unit))) : Option ((Int × (Int × Unit)) ⊕ (Int × Unit)) :=
    if (decide (l1.2.1 < (8 : Int))) then
    if (decide ((0 : Int) ≤ (1 : Int))) then
    if ((ibits BinOp.and IntKind.u32 l1.1 (1 : Int)) == (0 : Int)) then
      some (Sum.inl ((shrI IntKind.u32 l1.1 (1 : Int)), ((IntKind.wrap IntKind.i64 (l1.2.1 + (1 : Int))), ())))
    else
      some (Sum.inl ((ibits BinOp.xor IntKind.u32 (shrI IntKind.u32 l1.1 (1 : Int)) (3988292384 : Int)), ((IntKind.wrap IntKind.i64 (l1.2.1 + (1 : Int))), ())))
    else none
  else
    some (Sum.inr (l1.1, ()))
noncomputable def D_crc_sum_take (p1 : Int) (p2 : Int) : Option (Int × Unit) :=
  loopO (D_crc_sum_take_l1 ) ((ibits BinOp.xor IntKind.u32 p1 (IntKind.wrap IntKind.u32 p2)), ((0 : Int), ()))
noncomputable def D_req_Submit (p1 : Config) (p2 : Site) (p3 : Int) (p4 : (List Int)) : Option (Site × (Int × Unit)) :=
  Option.bind (N_act_Check (p1, (p2, ()))) fun r4 =>
    if (r4.1 != (0 : Int)) then
      some ((Site.mk (0 : Int) (Disk.mk [] []) (Meta.mk (Super.mk (0 : Int) (0 : Int) (0 : Int)) (0 : Int) (0 : Int) []) [] (End.mk (0 : Int) (0 : Int) Bool.false Bool.false (0 : Int) (0 : Int) (Queue.mk [] (0 : Int) (0 : Int)) (0 : Int) (0 : Int)) [] [] [] [] [] (0 : Int) Bool.false), (r4.1, ()))
    else
      if (decide ((((List.length p4) : Nat) : Int) > (4096 : Int))) then
        some ((Site.mk (0 : Int) (Disk.mk [] []) (Meta.mk (Super.mk (0 : Int) (0 : Int) (0 : Int)) (0 : Int) (0 : Int) []) [] (End.mk (0 : Int) (0 : Int) Bool.false Bool.false (0 : Int) (0 : Int) (Queue.mk [] (0 : Int) (0 : Int)) (0 : Int) (0 : Int)) [] [] [] [] [] (0 : Int) Bool.false), ((4 : Int), ()))
      else
        Option.bind (N_req_Read (p4, ())) fun r5 =>
          if (r5.2.2.1 != (0 : Int)) then
            Option.bind (N_host_Answer (p1, (p2, ((Reply.mk p3 r5.2.2.1 (0 : Int) []), ())))) fun r6 =>
              some (r6.1, (r6.2.1, ()))
          else
            Option.bind (N_site_Ask (p1, (p2, ((Ask.mk p3 (3 : Int) (IntKind.wrap IntKind.i64 r5.2.1) (0 : Int) r5.1 []), ())))) fun r6 =>
              some (r6.1, (r6.2.1, ()))
noncomputable def D_req_Read (p1 : (List Int)) : Option (Int × (Int × (Int × Unit))) :=
  if (decide ((((List.length p1) : Nat) : Int) < (8 : Int))) then
    some ((0 : Int), ((0 : Int), ((10 : Int), ())))
  else
    if (decide ((((List.length p1) : Nat) : Int) > (8 : Int))) then
      some ((0 : Int), ((0 : Int), ((4 : Int), ())))
    else
      Option.bind (N_crc_Open (p1, ())) fun r1 =>
        if (r1.2.1 != (0 : Int)) then
          some ((0 : Int), ((0 : Int), (r1.2.1, ())))
        else
          if (decide (((0 : Int) ≤ (0 : Int)) ∧ (((0 : Int) ≤ (2 : Int)) ∧ (((2 : Int) ≤ (((List.length r1.1) : Nat) : Int)) ∧ ((((List.length r1.1) : Nat) : Int) ≤ (((List.length r1.1) : Nat) : Int)))))) then
          if (decide (2 ≤ (List.length (List.drop (Int.toNat (0 : Int)) (List.take (Int.toNat (2 : Int)) r1.1))))) then
          if (!(((nth (List.drop (Int.toNat (0 : Int)) (List.take (Int.toNat (2 : Int)) r1.1)) 0) == (199 : Int)) && (((nth (List.drop (Int.toNat (0 : Int)) (List.take (Int.toNat (2 : Int)) r1.1)) (0 + 1)) == (1 : Int)) && Bool.true))) then
            if ((nth (List.drop (Int.toNat (0 : Int)) (List.take (Int.toNat (2 : Int)) r1.1)) 0) != (199 : Int)) then
              some ((0 : Int), ((0 : Int), ((280 : Int), ())))
            else
              if ((nth (List.drop (Int.toNat (0 : Int)) (List.take (Int.toNat (2 : Int)) r1.1)) (0 + 1)) != (1 : Int)) then
                some ((0 : Int), ((0 : Int), ((281 : Int), ())))
              else
                if (decide (((0 : Int) ≤ (2 : Int)) ∧ ((2 : Int) < (((List.length r1.1) : Nat) : Int)))) then
                if (decide (((0 : Int) ≤ (3 : Int)) ∧ ((3 : Int) < (((List.length r1.1) : Nat) : Int)))) then
                some ((nth r1.1 (Int.toNat (2 : Int))), ((nth r1.1 (Int.toNat (3 : Int))), ((0 : Int), ())))
                else none
                else none
          else
            if (decide (((0 : Int) ≤ (2 : Int)) ∧ ((2 : Int) < (((List.length r1.1) : Nat) : Int)))) then
            if (decide (((0 : Int) ≤ (3 : Int)) ∧ ((3 : Int) < (((List.length r1.1) : Nat) : Int)))) then
            some ((nth r1.1 (Int.toNat (2 : Int))), ((nth r1.1 (Int.toNat (3 : Int))), ((0 : Int), ())))
            else none
            else none
          else none
          else none
noncomputable def D_req_Write (p1 : Int) (p2 : Int) : Option ((List Int) × Unit) :=
  if (decide ((((List.length ((199 : Int) :: ((1 : Int) :: (p1 :: (p2 :: []))))) : Nat) : Int) > (4096 : Int))) then
    some ([], ())
  else
    Option.bind (N_crc_Sum (((199 : Int) :: ((1 : Int) :: (p1 :: (p2 :: [])))), ())) fun r2 =>
      if (decide (((0 : Int) ≤ (0 : Int)) ∧ (((0 : Int) ≤ (IntKind.wrap IntKind.i64 ((((List.length ((199 : Int) :: ((1 : Int) :: (p1 :: (p2 :: []))))) : Nat) : Int) + (4 : Int)))) ∧ ((IntKind.wrap IntKind.i64 ((((List.length ((199 : Int) :: ((1 : Int) :: (p1 :: (p2 :: []))))) : Nat) : Int) + (4 : Int))) ≤ ((big : Nat) : Int))))) then
      if (decide (((List.length (List.replicate (Int.toNat (0 : Int)) (0 : Int))) + (List.length ((199 : Int) :: ((1 : Int) :: (p1 :: (p2 :: [])))))) ≤ big)) then
      if (decide ((0 : Int) ≤ (8 : Int))) then
      if (decide ((0 : Int) ≤ (16 : Int))) then
      if (decide ((0 : Int) ≤ (24 : Int))) then
      if (decide (((List.length ((List.replicate (Int.toNat (0 : Int)) (0 : Int)) ++ ((199 : Int) :: ((1 : Int) :: (p1 :: (p2 :: [])))))) + (List.length ((IntKind.wrap IntKind.u8 r2.1) :: ((IntKind.wrap IntKind.u8 (shrI IntKind.u32 r2.1 (8 : Int))) :: ((IntKind.wrap IntKind.u8 (shrI IntKind.u32 r2.1 (16 : Int))) :: ((IntKind.wrap IntKind.u8 (shrI IntKind.u32 r2.1 (24 : Int))) :: [])))))) ≤ big)) then
      some ((((List.replicate (Int.toNat (0 : Int)) (0 : Int)) ++ ((199 : Int) :: ((1 : Int) :: (p1 :: (p2 :: []))))) ++ ((IntKind.wrap IntKind.u8 r2.1) :: ((IntKind.wrap IntKind.u8 (shrI IntKind.u32 r2.1 (8 : Int))) :: ((IntKind.wrap IntKind.u8 (shrI IntKind.u32 r2.1 (16 : Int))) :: ((IntKind.wrap IntKind.u8 (shrI IntKind.u32 r2.1 (24 : Int))) :: []))))), ())
      else none
      else none
      else none
      else none
      else none
      else none
noncomputable def D_host_Answer (p1 : Config) (p2 : Site) (p3 : Reply) : Option (Site × (Int × Unit)) :=
  Option.bind (N_act_Check (p1, (p2, ()))) fun r3 =>
    if (r3.1 != (0 : Int)) then
      if (r3.1 != (0 : Int)) then
        some ((Site.mk (0 : Int) (Disk.mk [] []) (Meta.mk (Super.mk (0 : Int) (0 : Int) (0 : Int)) (0 : Int) (0 : Int) []) [] (End.mk (0 : Int) (0 : Int) Bool.false Bool.false (0 : Int) (0 : Int) (Queue.mk [] (0 : Int) (0 : Int)) (0 : Int) (0 : Int)) [] [] [] [] [] (0 : Int) Bool.false), (r3.1, ()))
      else
        Option.bind (N_slices_Clone_byte_byte (p3.bytes, ())) fun r4 =>
          none
    else
      if (decide ((0 : Int) ≥ p1.pairs)) then
        some ((Site.mk (0 : Int) (Disk.mk [] []) (Meta.mk (Super.mk (0 : Int) (0 : Int) (0 : Int)) (0 : Int) (0 : Int) []) [] (End.mk (0 : Int) (0 : Int) Bool.false Bool.false (0 : Int) (0 : Int) (Queue.mk [] (0 : Int) (0 : Int)) (0 : Int) (0 : Int)) [] [] [] [] [] (0 : Int) Bool.false), ((2 : Int), ()))
      else
        Option.bind (N_act_Twin (p2, ())) fun r4 =>
          Option.bind (N_slices_Clone_byte_byte (p3.bytes, ())) fun r5 =>
            if (decide (((List.length r4.1.plan) + (List.length ((Act.mk (4 : Int) (0 : Int) [] (0 : Int) (0 : Int) (Msg.mk (0 : Int) (0 : Int) Bool.false (Rec.mk (0 : Int) (0 : Int) (0 : Int) (0 : Int) (0 : Int) (0 : Int) Bool.false Bool.false) (0 : Int) (0 : Int) (0 : Int) (0 : Int) (0 : Int) (0 : Int) [] []) (Reply.mk p3.ask p3.code p3.state r5.1) (0 : Int)) :: []))) ≤ big)) then
            some ((Site.mk r4.1.id r4.1.disk r4.1.met r4.1.sides r4.1.end_ (r4.1.plan ++ ((Act.mk (4 : Int) (0 : Int) [] (0 : Int) (0 : Int) (Msg.mk (0 : Int) (0 : Int) Bool.false (Rec.mk (0 : Int) (0 : Int) (0 : Int) (0 : Int) (0 : Int) (0 : Int) Bool.false Bool.false) (0 : Int) (0 : Int) (0 : Int) (0 : Int) (0 : Int) (0 : Int) [] []) (Reply.mk p3.ask p3.code p3.state r5.1) (0 : Int)) :: [])) r4.1.mail r4.1.asks r4.1.replies r4.1.syncs r4.1.born r4.1.ready), ((0 : Int), ()))
            else none
noncomputable def D_site_Ask (p1 : Config) (p2 : Site) (p3 : Ask) : Option (Site × (Int × Unit)) :=
  Option.bind (N_act_Check (p1, (p2, ()))) fun r3 =>
    if (r3.1 != (0 : Int)) then
      some ((Site.mk (0 : Int) (Disk.mk [] []) (Meta.mk (Super.mk (0 : Int) (0 : Int) (0 : Int)) (0 : Int) (0 : Int) []) [] (End.mk (0 : Int) (0 : Int) Bool.false Bool.false (0 : Int) (0 : Int) (Queue.mk [] (0 : Int) (0 : Int)) (0 : Int) (0 : Int)) [] [] [] [] [] (0 : Int) Bool.false), (r3.1, ()))
    else
      if (decide (p3.kind < (1 : Int))) then
        some ((Site.mk (0 : Int) (Disk.mk [] []) (Meta.mk (Super.mk (0 : Int) (0 : Int) (0 : Int)) (0 : Int) (0 : Int) []) [] (End.mk (0 : Int) (0 : Int) Bool.false Bool.false (0 : Int) (0 : Int) (Queue.mk [] (0 : Int) (0 : Int)) (0 : Int) (0 : Int)) [] [] [] [] [] (0 : Int) Bool.false), ((2 : Int), ()))
      else
        if (decide (p3.kind > (3 : Int))) then
          some ((Site.mk (0 : Int) (Disk.mk [] []) (Meta.mk (Super.mk (0 : Int) (0 : Int) (0 : Int)) (0 : Int) (0 : Int) []) [] (End.mk (0 : Int) (0 : Int) Bool.false Bool.false (0 : Int) (0 : Int) (Queue.mk [] (0 : Int) (0 : Int)) (0 : Int) (0 : Int)) [] [] [] [] [] (0 : Int) Bool.false), ((2 : Int), ()))
        else
          if (decide ((((List.length p2.asks) : Nat) : Int) ≥ (64 : Int))) then
            some ((Site.mk (0 : Int) (Disk.mk [] []) (Meta.mk (Super.mk (0 : Int) (0 : Int) (0 : Int)) (0 : Int) (0 : Int) []) [] (End.mk (0 : Int) (0 : Int) Bool.false Bool.false (0 : Int) (0 : Int) (Queue.mk [] (0 : Int) (0 : Int)) (0 : Int) (0 : Int)) [] [] [] [] [] (0 : Int) Bool.false), ((9 : Int), ()))
          else
            Option.bind (N_act_Twin (p2, ())) fun r4 =>
              Option.bind (N_slices_Clone_byte_byte (p3.bytes, ())) fun r5 =>
                if (decide (((List.length r4.1.asks) + (List.length ((Ask.mk p3.id p3.kind p3.pair p3.track p3.op r5.1) :: []))) ≤ big)) then
                some ((Site.mk r4.1.id r4.1.disk r4.1.met r4.1.sides r4.1.end_ r4.1.plan r4.1.mail (r4.1.asks ++ ((Ask.mk p3.id p3.kind p3.pair p3.track p3.op r5.1) :: [])) r4.1.replies r4.1.syncs r4.1.born r4.1.ready), ((0 : Int), ()))
                else none
noncomputable def D_ref28_Submit (p1 : Config) (p2 : Site) (p3 : Int) (p4 : (List Int)) : Option (Site × (Int × Unit)) :=
  Option.bind (N_ref21_May (p1, (p2, ()))) fun r4 =>
    if (!r4.1) then
      some ((Site.mk (0 : Int) (Disk.mk [] []) (Meta.mk (Super.mk (0 : Int) (0 : Int) (0 : Int)) (0 : Int) (0 : Int) []) [] (End.mk (0 : Int) (0 : Int) Bool.false Bool.false (0 : Int) (0 : Int) (Queue.mk [] (0 : Int) (0 : Int)) (0 : Int) (0 : Int)) [] [] [] [] [] (0 : Int) Bool.false), ((8 : Int), ()))
    else
      if (decide ((((List.length p4) : Nat) : Int) > (4096 : Int))) then
        some ((Site.mk (0 : Int) (Disk.mk [] []) (Meta.mk (Super.mk (0 : Int) (0 : Int) (0 : Int)) (0 : Int) (0 : Int) []) [] (End.mk (0 : Int) (0 : Int) Bool.false Bool.false (0 : Int) (0 : Int) (Queue.mk [] (0 : Int) (0 : Int)) (0 : Int) (0 : Int)) [] [] [] [] [] (0 : Int) Bool.false), ((4 : Int), ()))
      else
        Option.bind (N_ref28_Submitted (p2, (p3, (p4, ())))) fun r5 =>
          if (!r5.2.1) then
            some ((Site.mk (0 : Int) (Disk.mk [] []) (Meta.mk (Super.mk (0 : Int) (0 : Int) (0 : Int)) (0 : Int) (0 : Int) []) [] (End.mk (0 : Int) (0 : Int) Bool.false Bool.false (0 : Int) (0 : Int) (Queue.mk [] (0 : Int) (0 : Int)) (0 : Int) (0 : Int)) [] [] [] [] [] (0 : Int) Bool.false), ((9 : Int), ()))
          else
            some (r5.1, ((0 : Int), ()))
noncomputable def D_ref28_Submitted (p1 : Site) (p2 : Int) (p3 : (List Int)) : Option (Site × (Bool × Unit)) :=
  Option.bind (N_ref28_Read (p3, ())) fun r3 =>
    if (r3.2.2.1 != (0 : Int)) then
      Option.bind (N_ref22_Code (p1, (p2, (r3.2.2.1, ())))) fun r4 =>
        some (r4.1, (Bool.true, ()))
    else
      Option.bind (N_ref27_Asked (p1, ((Ask.mk p2 (3 : Int) (IntKind.wrap IntKind.i64 r3.2.1) (0 : Int) r3.1 []), ()))) fun r4 =>
        some (r4.1, (r4.2.1, ()))
noncomputable def D_ref28_Read (p1 : (List Int)) : Option (Int × (Int × (Int × Unit))) :=
  if (decide ((((List.length p1) : Nat) : Int) < (8 : Int))) then
    some ((0 : Int), ((0 : Int), ((10 : Int), ())))
  else
    if (decide ((((List.length p1) : Nat) : Int) > (8 : Int))) then
      some ((0 : Int), ((0 : Int), ((4 : Int), ())))
    else
      if (decide (((0 : Int) ≤ (0 : Int)) ∧ (((0 : Int) ≤ (4 : Int)) ∧ (((4 : Int) ≤ (((List.length p1) : Nat) : Int)) ∧ ((((List.length p1) : Nat) : Int) ≤ (((List.length p1) : Nat) : Int)))))) then
      Option.bind (N_ref02_Sealed ((List.drop (Int.toNat (0 : Int)) (List.take (Int.toNat (4 : Int)) p1)), ())) fun r1 =>
        if (r1.1 != p1) then
          some ((0 : Int), ((0 : Int), ((20 : Int), ())))
        else
          if (decide (((0 : Int) ≤ (0 : Int)) ∧ ((0 : Int) < (((List.length p1) : Nat) : Int)))) then
          if ((nth p1 (Int.toNat (0 : Int))) != (199 : Int)) then
            some ((0 : Int), ((0 : Int), ((280 : Int), ())))
          else
            if (decide (((0 : Int) ≤ (1 : Int)) ∧ ((1 : Int) < (((List.length p1) : Nat) : Int)))) then
            if ((nth p1 (Int.toNat (1 : Int))) != (1 : Int)) then
              some ((0 : Int), ((0 : Int), ((281 : Int), ())))
            else
              if (decide (((0 : Int) ≤ (2 : Int)) ∧ ((2 : Int) < (((List.length p1) : Nat) : Int)))) then
              if (decide (((0 : Int) ≤ (3 : Int)) ∧ ((3 : Int) < (((List.length p1) : Nat) : Int)))) then
              some ((nth p1 (Int.toNat (2 : Int))), ((nth p1 (Int.toNat (3 : Int))), ((0 : Int), ())))
              else none
              else none
            else none
          else none
      else none
noncomputable def D_ref22_Code (p1 : Site) (p2 : Int) (p3 : Int) : Option (Site × Unit) :=
  Option.bind (N_ref22_Answered (p1, ((Reply.mk p2 p3 (0 : Int) []), ()))) fun r3 =>
    some (r3.1, ())
noncomputable def D_ref22_Answered (p1 : Site) (p2 : Reply) : Option (Site × Unit) :=
  if (decide ((0 + (List.length p1.plan)) ≤ big)) then
  if (decide (((List.length ([] ++ p1.plan)) + (List.length ((Act.mk (4 : Int) (0 : Int) [] (0 : Int) (0 : Int) (Msg.mk (0 : Int) (0 : Int) Bool.false (Rec.mk (0 : Int) (0 : Int) (0 : Int) (0 : Int) (0 : Int) (0 : Int) Bool.false Bool.false) (0 : Int) (0 : Int) (0 : Int) (0 : Int) (0 : Int) (0 : Int) [] []) p2 (0 : Int)) :: []))) ≤ big)) then
  some ((Site.mk p1.id p1.disk p1.met p1.sides p1.end_ (([] ++ p1.plan) ++ ((Act.mk (4 : Int) (0 : Int) [] (0 : Int) (0 : Int) (Msg.mk (0 : Int) (0 : Int) Bool.false (Rec.mk (0 : Int) (0 : Int) (0 : Int) (0 : Int) (0 : Int) (0 : Int) Bool.false Bool.false) (0 : Int) (0 : Int) (0 : Int) (0 : Int) (0 : Int) (0 : Int) [] []) p2 (0 : Int)) :: [])) p1.mail p1.asks p1.replies p1.syncs p1.born p1.ready), ())
  else none
  else none
noncomputable def D_ref27_Asked (p1 : Site) (p2 : Ask) : Option (Site × (Bool × Unit)) :=
  if (decide ((((List.length p1.asks) : Nat) : Int) ≥ (64 : Int))) then
    some (p1, (Bool.false, ()))
  else
    if (decide ((0 + (List.length p1.asks)) ≤ big)) then
    if (decide (((List.length ([] ++ p1.asks)) + (List.length (p2 :: []))) ≤ big)) then
    some ((Site.mk p1.id p1.disk p1.met p1.sides p1.end_ p1.plan p1.mail (([] ++ p1.asks) ++ (p2 :: [])) p1.replies p1.syncs p1.born p1.ready), (Bool.true, ()))
    else none
    else none
noncomputable def D_ref02_Sealed (p1 : (List Int)) : Option ((List Int) × Unit) :=
  Option.bind (N_ref02_Sum (p1, ())) fun r1 =>
    if (decide ((0 + (List.length p1)) ≤ big)) then
    if ((256 : Int) != (0 : Int)) then
    if ((65536 : Int) != (0 : Int)) then
    if ((16777216 : Int) != (0 : Int)) then
    if (decide (((List.length ([] ++ p1)) + (List.length ((IntKind.wrap IntKind.u8 r1.1) :: ((IntKind.wrap IntKind.u8 (IntKind.wrap IntKind.u32 (Int.tdiv r1.1 (256 : Int)))) :: ((IntKind.wrap IntKind.u8 (IntKind.wrap IntKind.u32 (Int.tdiv r1.1 (65536 : Int)))) :: ((IntKind.wrap IntKind.u8 (IntKind.wrap IntKind.u32 (Int.tdiv r1.1 (16777216 : Int)))) :: [])))))) ≤ big)) then
    some ((([] ++ p1) ++ ((IntKind.wrap IntKind.u8 r1.1) :: ((IntKind.wrap IntKind.u8 (IntKind.wrap IntKind.u32 (Int.tdiv r1.1 (256 : Int)))) :: ((IntKind.wrap IntKind.u8 (IntKind.wrap IntKind.u32 (Int.tdiv r1.1 (65536 : Int)))) :: ((IntKind.wrap IntKind.u8 (IntKind.wrap IntKind.u32 (Int.tdiv r1.1 (16777216 : Int)))) :: []))))), ())
    else none
    else none
    else none
    else none
    else none
noncomputable def D_ref02_Sum (p1 : (List Int)) : Option (Int × Unit) :=
  Option.bind (N_ref02_Behind ((4294967295 : Int), (p1, ()))) fun r1 =>
    some ((ibits BinOp.xor IntKind.u32 r1.1 (4294967295 : Int)), ())
noncomputable def D_ref02_Behind_l1  (l1 : (Int × ((List Int) × (Int × Unit)))) : Option ((Int × ((List Int) × (Int × Unit))) ⊕ (Int × Unit)) :=
    if (decide (l1.2.2.1 < (((List.length l1.2.1) : Nat) : Int))) then
    if (decide (((0 : Int) ≤ l1.2.2.1) ∧ (l1.2.2.1 < (((List.length l1.2.1) : Nat) : Int)))) then
    Option.bind (N_ref02_Taken (l1.1, ((nth l1.2.1 (Int.toNat l1.2.2.1)), ()))) fun r2 =>
      some (Sum.inl (r2.1, (l1.2.1, ((IntKind.wrap IntKind.i64 (l1.2.2.1 + (1 : Int))), ()))))
    else none
  else
    some (Sum.inr (l1.1, ()))
noncomputable def D_ref02_Behind (p1 : Int) (p2 : (List Int)) : Option (Int × Unit) :=
  loopO (D_ref02_Behind_l1 ) (p1, (p2, ((0 : Int), ())))
noncomputable def D_ref02_Taken_l1  (l1 : (Int × (Int × Unit))) : Option ((Int × (Int × Unit)) ⊕ (Int × Unit)) :=
    if (decide (l1.2.1 < (8 : Int))) then
    if ((2 : Int) != (0 : Int)) then
    if ((Int.tmod l1.1 (2 : Int)) == (1 : Int)) then
      if ((2 : Int) != (0 : Int)) then
      some (Sum.inl ((ibits BinOp.xor IntKind.u32 (IntKind.wrap IntKind.u32 (Int.tdiv l1.1 (2 : Int))) (3988292384 : Int)), ((IntKind.wrap IntKind.i64 (l1.2.1 + (1 : Int))), ())))
      else none
    else
      if ((2 : Int) != (0 : Int)) then
      some (Sum.inl ((IntKind.wrap IntKind.u32 (Int.tdiv l1.1 (2 : Int))), ((IntKind.wrap IntKind.i64 (l1.2.1 + (1 : Int))), ())))
      else none
    else none
  else
    some (Sum.inr (l1.1, ()))
noncomputable def D_ref02_Taken (p1 : Int) (p2 : Int) : Option (Int × Unit) :=
  loopO (D_ref02_Taken_l1 ) ((ibits BinOp.xor IntKind.u32 p1 (IntKind.wrap IntKind.u32 p2)), ((0 : Int), ()))
noncomputable def D_law28_alive  : Option (Bool × Unit) :=
  Option.bind (N_req_Write ((11 : Int), ((1 : Int), ()))) fun r0 =>
    Option.bind (N_req_Read (r0.1, ())) fun r1 =>
      if (decide (((0 : Int) ≤ (7 : Int)) ∧ (((7 : Int) ≤ (7 : Int)) ∧ ((7 : Int) ≤ ((big : Nat) : Int))))) then
      Option.bind (N_req_Read ((List.replicate (Int.toNat (7 : Int)) (0 : Int)), ())) fun r2 =>
        if (decide (((0 : Int) ≤ (9 : Int)) ∧ (((9 : Int) ≤ (9 : Int)) ∧ ((9 : Int) ≤ ((big : Nat) : Int))))) then
        Option.bind (N_req_Read ((List.replicate (Int.toNat (9 : Int)) (0 : Int)), ())) fun r3 =>
          if ((((List.length r0.1) : Nat) : Int) == (8 : Int)) then
            if (decide (((0 : Int) ≤ (0 : Int)) ∧ (((0 : Int) ≤ (4 : Int)) ∧ (((4 : Int) ≤ (((List.length r0.1) : Nat) : Int)) ∧ ((((List.length r0.1) : Nat) : Int) ≤ (((List.length r0.1) : Nat) : Int)))))) then
            if ((List.take ((Int.toNat (4 : Int)) - (Int.toNat (0 : Int))) (List.drop (Int.toNat (0 : Int)) r0.1)) == (strOf (ByteArray.mk (List.toArray (199 :: (1 :: (11 :: (1 :: [])))))))) then
              if (r1.2.2.1 == (0 : Int)) then
                if (r1.1 == (11 : Int)) then
                  if (r1.2.1 == (1 : Int)) then
                    if (r2.2.2.1 == (10 : Int)) then
                      some ((r3.2.2.1 == (4 : Int)), ())
                    else
                      some (Bool.false, ())
                  else
                    some (Bool.false, ())
                else
                  some (Bool.false, ())
              else
                some (Bool.false, ())
            else
              some (Bool.false, ())
            else none
          else
            some (Bool.false, ())
        else none
      else none
noncomputable def D_law28_ReqSubmits (p1 : Config) (p2 : Site) (p3 : Int) (p4 : (List Int)) : Option (Bool × Unit) :=
  Option.bind (N_ref21_Great (p2, ())) fun r4 =>
    if r4.1 then
      some (Bool.true, ())
    else
      if (decide ((((List.length p4) : Nat) : Int) > (200 : Int))) then
        if (decide ((((List.length p4) : Nat) : Int) < (4097 : Int))) then
          some (Bool.true, ())
        else
          if (decide ((((List.length p4) : Nat) : Int) > (4200 : Int))) then
            some (Bool.true, ())
          else
            Option.bind (N_ref21_Twin (p2, ())) fun r5 =>
              Option.bind (N_req_Submit (p1, (r5.1, (p3, (p4, ()))))) fun r6 =>
                Option.bind (N_ref28_Submit (p1, (p2, (p3, (p4, ()))))) fun r7 =>
                  Option.bind (N_ref21_Same (r6.1, (r7.1, ()))) fun r8 =>
                    if r8.1 then
                      if (r6.2.1 == r7.2.1) then
                        Option.bind (N_ref21_Same (r5.1, (p2, ()))) fun r9 =>
                          some (r9.1, ())
                      else
                        some (Bool.false, ())
                    else
                      some (Bool.false, ())
      else
        if (decide ((((List.length p4) : Nat) : Int) > (4200 : Int))) then
          some (Bool.true, ())
        else
          Option.bind (N_ref21_Twin (p2, ())) fun r5 =>
            Option.bind (N_req_Submit (p1, (r5.1, (p3, (p4, ()))))) fun r6 =>
              Option.bind (N_ref28_Submit (p1, (p2, (p3, (p4, ()))))) fun r7 =>
                Option.bind (N_ref21_Same (r6.1, (r7.1, ()))) fun r8 =>
                  if r8.1 then
                    if (r6.2.1 == r7.2.1) then
                      Option.bind (N_ref21_Same (r5.1, (p2, ()))) fun r9 =>
                        some (r9.1, ())
                    else
                      some (Bool.false, ())
                  else
                    some (Bool.false, ())
noncomputable def D_law28_ReqBurst_t1 (p1 : Config) (p2 : Site) (l1 : (Int × (Int × (Int × (Bool × ((List Int) × (Bool × (Int × Unit)))))))) : Option (Bool × Unit) :=
    Option.bind (N_req_Submit (p1, (p2, (l1.1, (l1.2.2.2.2.1, ()))))) fun r2 =>
    if (r2.2.1 != (0 : Int)) then
      some (l1.2.2.2.1, ())
    else
      if (!l1.2.2.2.2.2.1) then
        some (l1.2.2.2.1, ())
      else
        if ((((List.length r2.1.plan) : Nat) : Int) != (IntKind.wrap IntKind.i64 ((((List.length p2.plan) : Nat) : Int) + (1 : Int)))) then
          some (Bool.false, ())
        else
          if (decide (((0 : Int) ≤ (((List.length p2.plan) : Nat) : Int)) ∧ ((((List.length p2.plan) : Nat) : Int) < (((List.length r2.1.plan) : Nat) : Int)))) then
          if (decide (((0 : Int) ≤ (0 : Int)) ∧ (((0 : Int) ≤ (((List.length p2.plan) : Nat) : Int)) ∧ (((((List.length p2.plan) : Nat) : Int) ≤ (((List.length r2.1.plan) : Nat) : Int)) ∧ ((((List.length r2.1.plan) : Nat) : Int) ≤ (((List.length r2.1.plan) : Nat) : Int)))))) then
          if l1.2.2.2.1 then
            if ((nth r2.1.plan (Int.toNat (((List.length p2.plan) : Nat) : Int))).reply.ask == l1.1) then
              if ((nth r2.1.plan (Int.toNat (((List.length p2.plan) : Nat) : Int))).reply.code == (20 : Int)) then
                Option.bind (N_ref21_Same ((Site.mk r2.1.id r2.1.disk r2.1.met r2.1.sides r2.1.end_ (List.drop (Int.toNat (0 : Int)) (List.take (Int.toNat (((List.length p2.plan) : Nat) : Int)) r2.1.plan)) r2.1.mail r2.1.asks r2.1.replies r2.1.syncs r2.1.born r2.1.ready), (p2, ()))) fun r3 =>
                  some (r3.1, ())
              else
                some (Bool.false, ())
            else
              some (Bool.false, ())
          else
            some (Bool.false, ())
          else none
          else none
noncomputable def D_law28_ReqBurst_l2 (p1 : Config) (p2 : Site) (l1 : (Int × (Int × (Int × (Bool × ((List Int) × (Bool × (Int × Unit)))))))) : Option ((Int × (Int × (Int × (Bool × ((List Int) × (Bool × (Int × Unit))))))) ⊕ (Bool × Unit)) :=
    if (decide (l1.2.2.2.2.2.2.1 < (32 : Int))) then
    if ((64 : Int) != (0 : Int)) then
    if (decide ((0 : Int) ≤ (IntKind.wrap IntKind.u64 l1.2.2.2.2.2.2.1))) then
    if ((2 : Int) != (0 : Int)) then
    if ((Int.tmod (shrI IntKind.u32 l1.2.2.1 (IntKind.wrap IntKind.u64 l1.2.2.2.2.2.2.1)) (2 : Int)) == (1 : Int)) then
      if (decide ((IntKind.wrap IntKind.i64 ((IntKind.wrap IntKind.i64 (Int.tmod l1.2.1 (64 : Int))) + l1.2.2.2.2.2.2.1)) < (64 : Int))) then
        if ((8 : Int) != (0 : Int)) then
        if ((8 : Int) != (0 : Int)) then
        if (decide (((0 : Int) ≤ (IntKind.wrap IntKind.i64 (Int.tdiv (IntKind.wrap IntKind.i64 ((IntKind.wrap IntKind.i64 (Int.tmod l1.2.1 (64 : Int))) + l1.2.2.2.2.2.2.1)) (8 : Int)))) ∧ ((IntKind.wrap IntKind.i64 (Int.tdiv (IntKind.wrap IntKind.i64 ((IntKind.wrap IntKind.i64 (Int.tmod l1.2.1 (64 : Int))) + l1.2.2.2.2.2.2.1)) (8 : Int))) < (((List.length l1.2.2.2.2.1) : Nat) : Int)))) then
        if ((8 : Int) != (0 : Int)) then
        if (decide ((0 : Int) ≤ (IntKind.wrap IntKind.u64 (Int.tmod (IntKind.wrap IntKind.i64 ((IntKind.wrap IntKind.i64 (Int.tmod l1.2.1 (64 : Int))) + l1.2.2.2.2.2.2.1)) (8 : Int))))) then
        if (decide (((0 : Int) ≤ (IntKind.wrap IntKind.i64 (Int.tdiv (IntKind.wrap IntKind.i64 ((IntKind.wrap IntKind.i64 (Int.tmod l1.2.1 (64 : Int))) + l1.2.2.2.2.2.2.1)) (8 : Int)))) ∧ ((IntKind.wrap IntKind.i64 (Int.tdiv (IntKind.wrap IntKind.i64 ((IntKind.wrap IntKind.i64 (Int.tmod l1.2.1 (64 : Int))) + l1.2.2.2.2.2.2.1)) (8 : Int))) < (((List.length l1.2.2.2.2.1) : Nat) : Int)))) then
        some (Sum.inl (l1.1, (l1.2.1, (l1.2.2.1, (l1.2.2.2.1, ((List.set l1.2.2.2.2.1 (Int.toNat (IntKind.wrap IntKind.i64 (Int.tdiv (IntKind.wrap IntKind.i64 ((IntKind.wrap IntKind.i64 (Int.tmod l1.2.1 (64 : Int))) + l1.2.2.2.2.2.2.1)) (8 : Int)))) (ibits BinOp.xor IntKind.u8 (nth l1.2.2.2.2.1 (Int.toNat (IntKind.wrap IntKind.i64 (Int.tdiv (IntKind.wrap IntKind.i64 ((IntKind.wrap IntKind.i64 (Int.tmod l1.2.1 (64 : Int))) + l1.2.2.2.2.2.2.1)) (8 : Int))))) (shlI IntKind.u8 (1 : Int) (IntKind.wrap IntKind.u64 (Int.tmod (IntKind.wrap IntKind.i64 ((IntKind.wrap IntKind.i64 (Int.tmod l1.2.1 (64 : Int))) + l1.2.2.2.2.2.2.1)) (8 : Int)))))), (Bool.true, ((IntKind.wrap IntKind.i64 (l1.2.2.2.2.2.2.1 + (1 : Int))), ()))))))))
        else none
        else none
        else none
        else none
        else none
        else none
      else
        some (Sum.inl (l1.1, (l1.2.1, (l1.2.2.1, (l1.2.2.2.1, (l1.2.2.2.2.1, (l1.2.2.2.2.2.1, ((IntKind.wrap IntKind.i64 (l1.2.2.2.2.2.2.1 + (1 : Int))), ()))))))))
    else
      some (Sum.inl (l1.1, (l1.2.1, (l1.2.2.1, (l1.2.2.2.1, (l1.2.2.2.2.1, (l1.2.2.2.2.2.1, ((IntKind.wrap IntKind.i64 (l1.2.2.2.2.2.2.1 + (1 : Int))), ()))))))))
    else none
    else none
    else none
  else
    Option.map Sum.inr (D_law28_ReqBurst_t1 p1 p2 l1)
noncomputable def D_law28_ReqBurst (p1 : Config) (p2 : Site) (p3 : Int) (p4 : Int) (p5 : Int) (p6 : Int) (p7 : Int) : Option (Bool × Unit) :=
  Option.bind (N_law28_alive ()) fun r7 =>
    Option.bind (N_req_Write (p4, (p5, ()))) fun r8 =>
      Option.bind (N_ref21_Great (p2, ())) fun r9 =>
        if r9.1 then
          if r7.1 then
            Option.bind (N_ref21_Great (p2, ())) fun r10 =>
              if r10.1 then
                some (Bool.true, ())
              else
                some (((((List.length r8.1) : Nat) : Int) == (8 : Int)), ())
          else
            some (Bool.false, ())
        else
          if (!r7.1) then
            if r7.1 then
              Option.bind (N_ref21_Great (p2, ())) fun r10 =>
                if r10.1 then
                  some (Bool.true, ())
                else
                  some (((((List.length r8.1) : Nat) : Int) == (8 : Int)), ())
            else
              some (Bool.false, ())
          else
            if ((((List.length r8.1) : Nat) : Int) != (8 : Int)) then
              if r7.1 then
                Option.bind (N_ref21_Great (p2, ())) fun r10 =>
                  if r10.1 then
                    some (Bool.true, ())
                  else
                    some (((((List.length r8.1) : Nat) : Int) == (8 : Int)), ())
              else
                some (Bool.false, ())
            else
              loopO (D_law28_ReqBurst_l2 p1 p2) (p3, (p6, (p7, (r7.1, (r8.1, (Bool.false, ((0 : Int), ())))))))
end Go.Cat

namespace Go.Cat
open Go
theorem ofInt_bvI (a : BitVec 32) : BitVec.ofInt 32 (bvI a) = a := by
  apply BitVec.eq_of_toNat_eq
  rw [BitVec.toNat_ofInt]
  have := a.isLt
  unfold bvI
  omega
theorem bvI_ofInt {s : Int} (h0 : 0 ≤ s) (h1 : s < 4294967296) : bvI (BitVec.ofInt 32 s) = s := by
  unfold bvI
  rw [BitVec.toNat_ofInt]
  omega
theorem wrapm_u32 (n : Int) : IntKind.wrap .u32 n = n % 4294967296 := by
  simp [IntKind.wrap, IntKind.signed, IntKind.bits]
theorem wrapm_u8 (n : Int) : IntKind.wrap .u8 n = n % 256 := by
  simp [IntKind.wrap, IntKind.signed, IntKind.bits]
theorem bvI_lt (a : BitVec 32) : 0 ≤ bvI a ∧ bvI a < 4294967296 := by
  have := a.isLt
  unfold bvI
  omega
theorem xor_bv (a b : BitVec 32) : ibits .xor .u32 (bvI a) (bvI b) = bvI (a ^^^ b) := by
  have h1 := ofInt_bvI a
  have h2 := ofInt_bvI b
  have h3 := bvI_lt (a ^^^ b)
  show IntKind.wrap .u32 (((BitVec.ofInt 32 (bvI a) ^^^ BitVec.ofInt 32 (bvI b)).toNat : Nat) : Int) = _
  rw [h1, h2, wrapm_u32]
  unfold bvI at h3 ⊢
  omega
theorem and_bv (a b : BitVec 32) : ibits .and .u32 (bvI a) (bvI b) = bvI (a &&& b) := by
  have h1 := ofInt_bvI a
  have h2 := ofInt_bvI b
  have h3 := bvI_lt (a &&& b)
  show IntKind.wrap .u32 (((BitVec.ofInt 32 (bvI a) &&& BitVec.ofInt 32 (bvI b)).toNat : Nat) : Int) = _
  rw [h1, h2, wrapm_u32]
  unfold bvI at h3 ⊢
  omega
theorem xor_bv' {x y : Int} (a b : BitVec 32) (hx : x = bvI a) (hy : y = bvI b) : ibits .xor .u32 x y = bvI (a ^^^ b) := by rw [hx, hy, xor_bv]
theorem shr1_bv (a : BitVec 32) : shrI .u32 (bvI a) 1 = bvI (a >>> 1) := by
  unfold shrI
  have e : ((2 : Int) ^ (min (Int.toNat 1) (IntKind.bits .u32))) = 2 := by decide
  rw [e, Int.fdiv_eq_ediv_of_nonneg _ (by decide)]
  unfold bvI
  rw [BitVec.toNat_ushiftRight, Nat.shiftRight_eq_div_pow]
  omega
theorem bvI_inj {a b : BitVec 32} (h : bvI a = bvI b) : a = b := by rw [← ofInt_bvI a, h, ofInt_bvI]
theorem low_bv (a : BitVec 32) : (ibits .and .u32 (bvI a) 1 == 0) = decide (a &&& 1#32 = 0#32) := by
  rw [show (1 : Int) = bvI 1#32 from rfl, and_bv]
  by_cases h : a &&& 1#32 = 0#32
  · rw [h]; rfl
  · rw [decide_eq_false h, beq_eq_false_iff_ne]
    exact fun e => h (bvI_inj (e.trans (show (0 : Int) = bvI 0#32 from rfl)))
theorem low_mod (a : BitVec 32) : decide (a &&& 1#32 = 0#32) = decide (a.toNat % 2 = 0) := by
  have : (a &&& 1#32).toNat = a.toNat % 2 := by
    rw [BitVec.toNat_and]
    exact Nat.and_one_is_mod a.toNat
  rw [decide_eq_decide]
  constructor
  · intro h
    rw [h] at this
    exact this.symm
  · intro h
    apply BitVec.eq_of_toNat_eq
    rw [this, h]; rfl
theorem P_crc_sum_take (s c : Int) (h0 : 0 ≤ s) (h1 : s < 4294967296) (h2 : 0 ≤ c) (h3 : c < 256) : D_crc_sum_take s c = N_crc_sum_take (s, (c, ())) := by
  have e0 : ibits .xor .u32 s (IntKind.wrap .u32 c) = bvI (BitVec.ofInt 32 s ^^^ BitVec.ofInt 32 c) := by
    rw [wrapm_u32, Int.emod_eq_of_lt h2 (by omega)]
    exact xor_bv' _ _ (bvI_ofInt h0 h1).symm (bvI_ofInt h2 (by omega)).symm
  simp only [D_crc_sum_take, N_crc_sum_take, e0]
  refine loopO_for (step := D_crc_sum_take_l1) (fun k => (bvI (crcSteps (BitVec.ofInt 32 s ^^^ BitVec.ofInt 32 c) k), ((k : Int), ()))) 8 (e1 (bvI (crcT (BitVec.ofInt 32 s) c))) (fun k hk => ?_) ?_
  · have hd : decide ((k : Int) < 8) = true := by simp; omega
    have hw : IntKind.wrap .i64 ((k : Int) + 1) = ((k + 1 : Nat) : Int) := wrap_succ (k := k) (by rw [maxLen_eq]; omega)
    simp only [D_crc_sum_take_l1, hd, if_true, hw, low_bv, shr1_bv, show decide ((0 : Int) ≤ 1) = true from rfl]
    by_cases h : crcSteps (BitVec.ofInt 32 s ^^^ BitVec.ofInt 32 c) k &&& 1#32 = 0#32
    · simp only [h, decide_true, if_true, crcSteps, crcStep]
    · simp only [h, decide_false, if_false, Bool.false_eq_true, crcSteps, crcStep, xor_bv' _ (3988292384#32) rfl (show (3988292384 : Int) = bvI 3988292384#32 from rfl)]
  · simp [D_crc_sum_take_l1, e1, crcT]
theorem P_ref02_Taken (s c : Int) (h0 : 0 ≤ s) (h1 : s < 4294967296) (h2 : 0 ≤ c) (h3 : c < 256) : D_ref02_Taken s c = N_ref02_Taken (s, (c, ())) := by
  have e0 : ibits .xor .u32 s (IntKind.wrap .u32 c) = bvI (BitVec.ofInt 32 s ^^^ BitVec.ofInt 32 c) := by
    rw [wrapm_u32, Int.emod_eq_of_lt h2 (by omega)]
    exact xor_bv' _ _ (bvI_ofInt h0 h1).symm (bvI_ofInt h2 (by omega)).symm
  simp only [D_ref02_Taken, N_ref02_Taken, N_crc_sum_take, e0]
  refine loopO_for (step := D_ref02_Taken_l1) (fun k => (bvI (crcSteps (BitVec.ofInt 32 s ^^^ BitVec.ofInt 32 c) k), ((k : Int), ()))) 8 (e1 (bvI (crcT (BitVec.ofInt 32 s) c))) (fun k hk => ?_) ?_
  · have hd : decide ((k : Int) < 8) = true := by simp; omega
    have hw : IntKind.wrap .i64 ((k : Int) + 1) = ((k + 1 : Nat) : Int) := wrap_succ (k := k) (by rw [maxLen_eq]; omega)
    have hn : ((2 : Int) != 0) = true := rfl
    show D_ref02_Taken_l1 (bvI (crcSteps (BitVec.ofInt 32 s ^^^ BitVec.ofInt 32 c) k), ((k : Int), ())) = some (.inl (bvI (crcStep (crcSteps (BitVec.ofInt 32 s ^^^ BitVec.ofInt 32 c) k)), (((k + 1 : Nat) : Int), ())))
    generalize crcSteps (BitVec.ofInt 32 s ^^^ BitVec.ofInt 32 c) k = a
    have hdiv : IntKind.wrap .u32 (Int.tdiv (bvI a) 2) = bvI (a >>> 1) := by
      have := bvI_lt a
      rw [wrapm_u32, Int.tdiv_eq_ediv_of_nonneg this.1]
      unfold bvI at this ⊢
      rw [BitVec.toNat_ushiftRight, Nat.shiftRight_eq_div_pow]
      omega
    have hmod : (Int.tmod (bvI a) 2 == 1) = !decide (a &&& 1#32 = 0#32) := by
      rw [low_mod, Int.tmod_eq_emod_of_nonneg (bvI_lt a).1]
      unfold bvI
      by_cases h : a.toNat % 2 = 0
      · rw [decide_eq_true h]
        simp; omega
      · rw [decide_eq_false h]
        simp; omega
    simp only [D_ref02_Taken_l1, hd, if_true, hw, hn, hmod, hdiv]
    by_cases h : a &&& 1#32 = 0#32
    · simp only [h, decide_true, Bool.not_true, Bool.false_eq_true, if_false, crcStep, if_true]
    · simp only [h, decide_false, Bool.not_false, if_true, if_false, crcStep, xor_bv' _ (3988292384#32) rfl (show (3988292384 : Int) = bvI 3988292384#32 from rfl)]
  · simp [D_ref02_Taken_l1, e1, crcT]
end Go.Cat

set_option linter.unusedSimpArgs false
set_option linter.unusedVariables false
namespace Go.Cat
open Go
theorem not_u32 (a : BitVec 32) : ibits .xor .u32 (if ((IntKind.signed IntKind.u32) = Bool.true) then (-(1 : Int)) else (IntKind.max IntKind.u32)) (bvI a) = bvI (BitVec.allOnes 32 ^^^ a) := by
  have e : (if ((IntKind.signed IntKind.u32) = Bool.true) then (-(1 : Int)) else (IntKind.max IntKind.u32)) = bvI (BitVec.allOnes 32) := by decide
  rw [e, xor_bv]
theorem take_len {α : Type} [Inhabited α] {l : List α} {k : Nat} (h : k < l.length) : l.take (k + 1) = l.take k ++ [l[k]] := (take_succ_len h).symm
theorem crcFold_take (a : BitVec 32) {l : List Int} {k : Nat} (h : k < l.length) : crcFold a (l.take (k + 1)) = crcT (crcFold a (l.take k)) l[k] := by
  rw [take_len h, crcFold, List.foldl_append]; rfl
theorem P_crc_More (s : Int) (l : List Int) (h0 : 0 ≤ s) (h1 : s < 4294967296) (hl : l.length ≤ maxLen) : D_crc_More s l = N_crc_More (s, (l, ())) := by
  have e0 : ibits .xor .u32 (if ((IntKind.signed IntKind.u32) = Bool.true) then (-(1 : Int)) else (IntKind.max IntKind.u32)) s = bvI (BitVec.allOnes 32 ^^^ BitVec.ofInt 32 s) := by
    rw [← not_u32, bvI_ofInt h0 h1]
  simp only [D_crc_More, N_crc_More, e0]
  refine loopO_for (step := D_crc_More_l1) (fun k => (bvI (crcFold (BitVec.allOnes 32 ^^^ BitVec.ofInt 32 s) (l.take k)), (l, ((l.length : Int), ((k : Int), ()))))) l.length _ (fun k hk => ?_) ?_
  · have hd : decide ((k : Int) < (l.length : Int)) = true := by simp; omega
    have hd2 : decide ((0 : Int) ≤ (k : Int) ∧ (k : Int) < (l.length : Int)) = true := by simp; omega
    simp only [D_crc_More_l1, hd, hd2, if_true, wrap_succ (Nat.lt_of_lt_of_le hk hl), Int.toNat_natCast, nth_lt hk, N_crc_sum_take, e1, ofInt_bvI, Option.bind_some, crcFold_take _ hk]
  · have hd : ¬ (decide ((l.length : Int) < (l.length : Int)) = true) := by simp
    simp only [D_crc_More_l1, hd, List.take_length, not_u32, e1]
    rfl
theorem P_ref02_Behind (s : Int) (l : List Int) (h0 : 0 ≤ s) (h1 : s < 4294967296) (hl : l.length ≤ maxLen) : D_ref02_Behind s l = N_ref02_Behind (s, (l, ())) := by
  have e0 : s = bvI (crcFold (BitVec.ofInt 32 s) (l.take 0)) := (bvI_ofInt h0 h1).symm
  simp only [D_ref02_Behind, N_ref02_Behind]
  refine (congrArg (fun z => loopO D_ref02_Behind_l1 (z, (l, ((0 : Int), ())))) e0).trans (loopO_for (step := D_ref02_Behind_l1) (fun k => (bvI (crcFold (BitVec.ofInt 32 s) (l.take k)), (l, ((k : Int), ())))) l.length _ (fun k hk => ?_) ?_)
  · have hd : decide ((k : Int) < (l.length : Int)) = true := by simp; omega
    have hd2 : decide ((0 : Int) ≤ (k : Int) ∧ (k : Int) < (l.length : Int)) = true := by simp; omega
    simp only [D_ref02_Behind_l1, hd, hd2, if_true, wrap_succ (Nat.lt_of_lt_of_le hk hl), Int.toNat_natCast, nth_lt hk, N_ref02_Taken, N_crc_sum_take, e1, ofInt_bvI, Option.bind_some, crcFold_take _ hk]
  · have hd : ¬ (decide ((l.length : Int) < (l.length : Int)) = true) := by simp
    simp only [D_ref02_Behind_l1, hd, List.take_length, e1]
    rfl
theorem P_crc_Sum (l : List Int) : D_crc_Sum l = N_crc_Sum (l, ()) := by
  simp only [D_crc_Sum, N_crc_More, N_crc_Sum, e1, Option.bind_some, crcSum]
  have : BitVec.allOnes 32 ^^^ BitVec.ofInt 32 0 = BitVec.allOnes 32 := by decide
  rw [this]
theorem P_ref02_Sum (l : List Int) : D_ref02_Sum l = N_ref02_Sum (l, ()) := by
  have e : BitVec.ofInt 32 4294967295 = BitVec.allOnes 32 := by decide
  simp only [D_ref02_Sum, N_ref02_Behind, N_ref02_Sum, N_crc_Sum, e1, Option.bind_some, crcSum, e]
  rw [show (4294967295 : Int) = bvI (BitVec.allOnes 32) from rfl, xor_bv, BitVec.xor_comm]
theorem byte0 (a : BitVec 32) : IntKind.wrap .u8 (bvI a) = byteAt a 0 := by
  rw [wrapm_u8]; unfold bvI byteAt; omega
theorem byteS (a : BitVec 32) (k : Nat) (hk : k ≤ 32) : IntKind.wrap .u8 (shrI .u32 (bvI a) (k : Int)) = byteAt a k := by
  rw [wrapm_u8]
  unfold shrI bvI byteAt
  have e : min (Int.toNat (k : Int)) (IntKind.bits .u32) = k := by
    rw [Int.toNat_natCast]; exact Nat.min_eq_left hk
  rw [e, Int.fdiv_eq_ediv_of_nonneg _ (Int.le_of_lt (Int.pow_pos (by decide))), show ((2 : Int) ^ k) = ((2 ^ k : Nat) : Int) from (Int.natCast_pow 2 k).symm, ← Int.natCast_ediv]
  generalize a.toNat / 2 ^ k = x
  omega
theorem byteD (a : BitVec 32) (k : Nat) : IntKind.wrap .u8 (IntKind.wrap .u32 (Int.tdiv (bvI a) ((2 ^ k : Nat) : Int))) = byteAt a k := by
  have h := bvI_lt a
  rw [Int.tdiv_eq_ediv_of_nonneg h.1, wrapm_u32, wrapm_u8]
  unfold bvI byteAt
  have hd : a.toNat / 2 ^ k ≤ a.toNat := Nat.div_le_self _ _
  have := a.isLt
  rw [← Int.natCast_ediv]
  omega
theorem byteS8 (a : BitVec 32) : IntKind.wrap .u8 (shrI .u32 (bvI a) 8) = byteAt a 8 := byteS a 8 (by decide)
theorem byteS16 (a : BitVec 32) : IntKind.wrap .u8 (shrI .u32 (bvI a) 16) = byteAt a 16 := byteS a 16 (by decide)
theorem byteS24 (a : BitVec 32) : IntKind.wrap .u8 (shrI .u32 (bvI a) 24) = byteAt a 24 := byteS a 24 (by decide)
theorem byteD8 (a : BitVec 32) : IntKind.wrap .u8 (IntKind.wrap .u32 (Int.tdiv (bvI a) 256)) = byteAt a 8 := byteD a 8
theorem byteD16 (a : BitVec 32) : IntKind.wrap .u8 (IntKind.wrap .u32 (Int.tdiv (bvI a) 65536)) = byteAt a 16 := byteD a 16
theorem byteD24 (a : BitVec 32) : IntKind.wrap .u8 (IntKind.wrap .u32 (Int.tdiv (bvI a) 16777216)) = byteAt a 24 := byteD a 24
theorem seal_body (l : List Int) (h : l.length ≤ 4096) {A : Type} (f : List Int → A) :
    (if (decide (((0 : Int) ≤ (0 : Int)) ∧ (((0 : Int) ≤ (IntKind.wrap IntKind.i64 ((((List.length l) : Nat) : Int) + (4 : Int)))) ∧ ((IntKind.wrap IntKind.i64 ((((List.length l) : Nat) : Int) + (4 : Int))) ≤ ((big : Nat) : Int))))) then
      if (decide (((List.length (List.replicate (Int.toNat (0 : Int)) (0 : Int))) + (List.length l)) ≤ big)) then
      if (decide ((0 : Int) ≤ (8 : Int))) then
      if (decide ((0 : Int) ≤ (16 : Int))) then
      if (decide ((0 : Int) ≤ (24 : Int))) then
      if (decide (((List.length ((List.replicate (Int.toNat (0 : Int)) (0 : Int)) ++ l)) + (List.length ((IntKind.wrap IntKind.u8 (bvI (crcSum l))) :: ((IntKind.wrap IntKind.u8 (shrI IntKind.u32 (bvI (crcSum l)) (8 : Int))) :: ((IntKind.wrap IntKind.u8 (shrI IntKind.u32 (bvI (crcSum l)) (16 : Int))) :: ((IntKind.wrap IntKind.u8 (shrI IntKind.u32 (bvI (crcSum l)) (24 : Int))) :: [])))))) ≤ big)) then
      some (f (((List.replicate (Int.toNat (0 : Int)) (0 : Int)) ++ l) ++ ((IntKind.wrap IntKind.u8 (bvI (crcSum l))) :: ((IntKind.wrap IntKind.u8 (shrI IntKind.u32 (bvI (crcSum l)) (8 : Int))) :: ((IntKind.wrap IntKind.u8 (shrI IntKind.u32 (bvI (crcSum l)) (16 : Int))) :: ((IntKind.wrap IntKind.u8 (shrI IntKind.u32 (bvI (crcSum l)) (24 : Int))) :: []))))))
      else none
      else none
      else none
      else none
      else none
      else none) = some (f (sealed_ l)) := by
  have hb := big_eq
  have hw : IntKind.wrap .i64 ((l.length : Int) + 4) = (l.length : Int) + 4 := wrap_i64 (by omega) (by omega)
  have e1 : decide (((0 : Int) ≤ (0 : Int)) ∧ (((0 : Int) ≤ (l.length : Int) + 4) ∧ ((l.length : Int) + 4 ≤ ((big : Nat) : Int)))) = true := by simp; omega
  have e2 : decide ((List.replicate (Int.toNat (0 : Int)) (0 : Int)).length + l.length ≤ big) = true := by simp; omega
  have e3 : ∀ a b c d : Int, decide ((List.replicate (Int.toNat (0 : Int)) (0 : Int) ++ l).length + [a, b, c, d].length ≤ big) = true := by intro a b c d; simp; omega
  simp only [hw, e1, e2, e3, if_true, byte0, byteS8, byteS16, byteS24]
  rfl
theorem P_crc_Seal (l : List Int) : D_crc_Seal l = N_crc_Seal (l, ()) := by
  simp only [D_crc_Seal, N_crc_Sum, N_crc_Seal, e1, Option.bind_some]
  by_cases h : l.length ≤ 4096
  · have hd : ¬ (decide ((l.length : Int) > 4096) = true) := by simp; omega
    rw [if_neg hd, if_pos h]
    exact seal_body l h (fun x => (x, ((0 : Int), ())))
  · have hd : decide ((l.length : Int) > 4096) = true := by simp; omega
    rw [if_pos hd, if_neg h]
theorem P_req_Write (a b : Int) : D_req_Write a b = N_req_Write (a, (b, ())) := by
  simp only [D_req_Write, N_crc_Sum, N_req_Write, e1, Option.bind_some]
  rw [if_neg (by simp)]
  exact seal_body [199, 1, a, b] (by simp) (fun x => (x, ()))
theorem P_ref02_Sealed (l : List Int) (h : l.length ≤ 1000000) : D_ref02_Sealed l = N_ref02_Sealed (l, ()) := by
  have hb := big_eq
  have e2 : decide (0 + l.length ≤ big) = true := by simp; omega
  have e3 : ∀ a b c d : Int, decide (([] ++ l).length + [a, b, c, d].length ≤ big) = true := by intro a b c d; simp; omega
  have n1 : ((256 : Int) != 0) = true := rfl
  have n2 : ((65536 : Int) != 0) = true := rfl
  have n3 : ((16777216 : Int) != 0) = true := rfl
  simp only [D_ref02_Sealed, N_ref02_Sum, N_crc_Sum, N_ref02_Sealed, e1, Option.bind_some, e2, e3, n1, n2, n3, h, if_true, byte0, byteD8, byteD16, byteD24]
  rfl
theorem sealed_len (l : List Int) : (sealed_ l).length = l.length + 4 := by simp [sealed_, tailOf]
theorem P_crc_Open (t : List Int) (hl : t.length ≤ maxLen) : D_crc_Open t = N_crc_Open (t, ()) := by
  have hm := maxLen_eq
  have hb := big_eq
  have hw : IntKind.wrap .i64 ((t.length : Int) - 4) = (t.length : Int) - 4 := wrap_i64 (by omega) (by omega)
  simp only [D_crc_Open, N_crc_Open, N_crc_Seal, hw]
  by_cases h1 : t.length < 4
  · have hd : decide ((t.length : Int) - 4 < 0) = true := by simp; omega
    simp only [hd, h1, if_true]
  · have hd : ¬ (decide ((t.length : Int) - 4 < 0) = true) := by simp; omega
    simp only [hd, h1, if_false, Bool.false_eq_true]
    by_cases h2 : t.length - 4 > 4096
    · have hd : decide ((t.length : Int) - 4 > 4096) = true := by simp; omega
      simp only [hd, h2, if_true]
    · have hd : ¬ (decide ((t.length : Int) - 4 > 4096) = true) := by simp; omega
      have hn : ((t.length : Int) - 4).toNat = t.length - 4 := by omega
      have hd2 : decide (((0 : Int) ≤ (0 : Int)) ∧ (((0 : Int) ≤ (t.length : Int) - 4) ∧ (((t.length : Int) - 4 ≤ (t.length : Int)) ∧ ((t.length : Int) ≤ (t.length : Int))))) = true := by simp; omega
      have hlt : (t.take (t.length - 4)).length ≤ 4096 := by simp; omega
      have hlb : decide (0 + (t.take (t.length - 4)).length ≤ big) = true := by simp only [decide_eq_true_eq]; omega
      simp only [hd, h2, if_false, Bool.false_eq_true, hn, hd2, if_true, Int.toNat_zero, List.drop_zero, hlt, hlb, Option.bind_some, List.nil_append]
      by_cases h3 : sealed_ (t.take (t.length - 4)) = t
      · simp only [h3, bne_self_eq_false, Bool.false_eq_true, if_false, Bool.false_eq_true, if_true]
      · have : (sealed_ (t.take (t.length - 4)) != t) = true := by simp [h3]
        simp only [this, h3, if_true, if_false, Bool.false_eq_true]
theorem P_ref28_Read (t : List Int) : D_ref28_Read t = N_ref28_Read (t, ()) := by
  simp only [D_ref28_Read, N_ref28_Read, N_req_Read, readT]
  by_cases h1 : t.length < 8
  · have hd : decide ((t.length : Int) < 8) = true := by simp; omega
    simp only [hd, h1, if_true]
  · have hd : ¬ (decide ((t.length : Int) < 8) = true) := by simp; omega
    simp only [hd, h1, if_false, Bool.false_eq_true]
    by_cases h2 : t.length > 8
    · have hd : decide ((t.length : Int) > 8) = true := by simp; omega
      simp only [hd, h2, if_true]
    · have hd : ¬ (decide ((t.length : Int) > 8) = true) := by simp; omega
      have h8 : t.length = 8 := by omega
      have hlt : (t.take 4).length ≤ 1000000 := by simp; omega
      have t4 : Int.toNat (4 : Int) = 4 := rfl
      have t0 : Int.toNat (0 : Int) = 0 := rfl
      have t1 : Int.toNat (1 : Int) = 1 := rfl
      have t2 : Int.toNat (2 : Int) = 2 := rfl
      have t3 : Int.toNat (3 : Int) = 3 := rfl
      simp only [hd, h2, if_false, Bool.false_eq_true, h8, t0, t1, t2, t3, t4, List.drop_zero, N_ref02_Sealed, hlt, if_true, Option.bind_some]
      by_cases h3 : sealed_ (t.take 4) = t
      · by_cases h4 : nth t 0 = 199
        · by_cases h5 : nth t 1 = 1
          · simp [h3, h4, h5]
          · simp [h3, h4, h5]
        · simp [h3, h4]
      · simp [h3]
theorem P_req_Read (t : List Int) : D_req_Read t = N_req_Read (t, ()) := by
  simp only [D_req_Read, N_req_Read, readT, N_crc_Open]
  by_cases h1 : t.length < 8
  · have hd : decide ((t.length : Int) < 8) = true := by simp; omega
    simp only [hd, h1, if_true]
  · have hd : ¬ (decide ((t.length : Int) < 8) = true) := by simp; omega
    simp only [hd, h1, if_false, Bool.false_eq_true]
    by_cases h2 : t.length > 8
    · have hd : decide ((t.length : Int) > 8) = true := by simp; omega
      simp only [hd, h2, if_true]
    · have hd : ¬ (decide ((t.length : Int) > 8) = true) := by simp; omega
      obtain ⟨a0, a1, a2, a3, a4, a5, a6, a7, rfl⟩ : ∃ a0 a1 a2 a3 a4 a5 a6 a7, t = [a0, a1, a2, a3, a4, a5, a6, a7] := by
        match t, h1, h2 with
        | [a0, a1, a2, a3, a4, a5, a6, a7], _, _ => exact ⟨a0, a1, a2, a3, a4, a5, a6, a7, rfl⟩
        | [], h, _ => simp at h
        | [_], h, _ => simp at h
        | [_, _], h, _ => simp at h
        | [_, _, _], h, _ => simp at h
        | [_, _, _, _], h, _ => simp at h
        | [_, _, _, _, _], h, _ => simp at h
        | [_, _, _, _, _, _], h, _ => simp at h
        | [_, _, _, _, _, _, _], h, _ => simp at h
        | _ :: _ :: _ :: _ :: _ :: _ :: _ :: _ :: _ :: r, _, h => simp at h
      by_cases h3 : sealed_ [a0, a1, a2, a3] = [a0, a1, a2, a3, a4, a5, a6, a7]
      · simp [h3]
        by_cases h4 : a0 = 199
        · by_cases h5 : a1 = 1
          · simp [h4, h5, nth]
          · simp [h4, h5, nth]
        · simp [h4, nth]
      · simp [h3]
theorem P_law28_alive : D_law28_alive = N_law28_alive () := by
  have hr : readT (sealed_ [199, 1, 11, 1]) = (11, (1, 0)) := by
    simp [readT, sealed_len, sealed_, tailOf, nth]
  have h7 : readT (List.replicate 7 0) = (0, (0, 10)) := by simp [readT]
  have h9 : readT (List.replicate 9 0) = (0, (0, 4)) := by simp [readT]
  have t7 : Int.toNat (7 : Int) = 7 := rfl
  have t9 : Int.toNat (9 : Int) = 9 := rfl
  have b7 : decide (((0 : Int) ≤ (7 : Int)) ∧ (((7 : Int) ≤ (7 : Int)) ∧ ((7 : Int) ≤ ((big : Nat) : Int)))) = true := by decide
  have b9 : decide (((0 : Int) ≤ (9 : Int)) ∧ (((9 : Int) ≤ (9 : Int)) ∧ ((9 : Int) ≤ ((big : Nat) : Int)))) = true := by decide
  have hs : strOf (ByteArray.mk (List.toArray (199 :: (1 :: (11 :: (1 :: [])))))) = [199, 1, 11, 1] := rfl
  have hl : (((sealed_ [199, 1, 11, 1]).length : Nat) : Int) = 8 := rfl
  simp only [D_law28_alive, N_law28_alive, N_req_Write, N_req_Read, Option.bind_some, t7, t9, hr, h7, h9, b7, b9, if_true, hs, hl, b1]
  simp [sealed_]
end Go.Cat

set_option linter.unusedSimpArgs false
set_option linter.unusedVariables false
namespace Go.Cat
open Go
theorem le_big {n : Nat} (h : n ≤ 1000000) : n ≤ big := by have := big_eq; omega
theorem P_msg_Twin (m : Msg) (h : fitMsg m = true) : D_msg_Twin m = N_msg_Twin (m, ()) := by
  have h' := h
  simp only [fitMsg, Bool.and_eq_true, decide_eq_true_eq] at h'
  simp only [D_msg_Twin, N_msg_Twin, N_slices_Clone_byte_byte, le_big h'.1, le_big h'.2, h, if_true, Option.bind_some]
theorem P_act_reply (r : Reply) (h : r.bytes.length ≤ 1000000) : D_act_reply r = N_act_reply (r, ()) := by
  simp only [D_act_reply, N_act_reply, N_slices_Clone_byte_byte, le_big h, h, if_true, Option.bind_some]
theorem set_mid {α : Type} (a : List α) (d x : α) (m : Nat) : (a ++ List.replicate (m + 1) d).set a.length x = (a ++ [x]) ++ List.replicate m d := by
  rw [List.set_append_right _ _ (Nat.le_refl _)]
  simp [List.replicate_succ]
theorem P_ring_Twin (q : Queue) (h : fitAll q.items = true) : D_ring_Twin q = N_ring_Twin (q, ()) := by
  have hb := big_eq
  have h' := h
  simp only [fitAll, Bool.and_eq_true, decide_eq_true_eq, List.all_eq_true] at h'
  have hg : (decide (((0 : Int) ≤ (((List.length q.items) : Nat) : Int)) ∧ (((((List.length q.items) : Nat) : Int) ≤ (((List.length q.items) : Nat) : Int)) ∧ ((((List.length q.items) : Nat) : Int) ≤ ((big : Nat) : Int))))) = true := by simp; omega
  simp only [D_ring_Twin, hg, if_true, N_ring_Twin, h, Int.toNat_natCast]
  refine loopO_for (step := D_ring_Twin_l1) (fun k => ((q.items.take k ++ List.replicate (q.items.length - k) [], (q.head, (q.many, ()))), (q.items, ((q.items.length : Int), ((k : Int), ()))))) q.items.length _ (fun k hk => ?_) ?_
  · have hd : decide ((k : Int) < (q.items.length : Int)) = true := by simp; omega
    have hd2 : decide ((0 : Int) ≤ (k : Int) ∧ (k : Int) < (q.items.length : Int)) = true := by simp; omega
    have hlen : (q.items.take k ++ List.replicate (q.items.length - k) ([] : List Int)).length = q.items.length := by simp; omega
    have ht := h'.2 _ (List.getElem_mem hk)
    have hset : (q.items.take k ++ List.replicate (q.items.length - k) ([] : List Int)).set k q.items[k] = q.items.take (k + 1) ++ List.replicate (q.items.length - (k + 1)) [] := by
      have e1 : q.items.length - k = (q.items.length - (k + 1)) + 1 := by omega
      have e2 : (q.items.take k).length = k := by simp; omega
      have := set_mid (q.items.take k) [] q.items[k] (q.items.length - (k + 1))
      rw [e2, take_succ_len hk] at this
      rw [e1]; exact this
    simp only [D_ring_Twin_l1, hd, hd2, hlen, if_true, wrap_succ (k := k) (by rw [maxLen_eq]; omega), Int.toNat_natCast, nth_lt hk, N_ring_text, ht, Option.bind_some, hset]
  · have hd : ¬ (decide ((q.items.length : Int) < (q.items.length : Int)) = true) := by simp
    simp only [D_ring_Twin_l1, hd, List.take_length, Nat.sub_self, List.replicate_zero, List.append_nil]
    rfl
theorem P_sess_Twin (e : End) (h : fitAll e.out.items = true) : D_sess_Twin e = N_sess_Twin (e, ()) := by
  simp only [D_sess_Twin, N_ring_Twin, N_sess_Twin, h, if_true, Option.bind_some]
theorem P_disk_Twin (d : Disk) (h : fitDisk d = true) : D_disk_Twin d = N_disk_Twin (d, ()) := by
  obtain ⟨h1, h2, h3, h4⟩ := (fit_iff d).1 h
  have hb := big_eq
  have hc : ∀ l, loopO D_disk_Twin_l1 ((l, ([], ())), (d.cache, ((d.cache.length : Int), ((0 : Int), ())))) = some (⟨l, d.cache⟩, ()) := by
    intro l
    refine loopO_for (fun k => ((l, (d.cache.take k, ())), (d.cache, ((d.cache.length : Int), ((k : Int), ()))))) d.cache.length _ (fun k hk => ?_) ?_
    · have c1 := le_big (h4 _ (List.getElem_mem hk))
      have hd : decide ((k : Int) < (d.cache.length : Int)) = true := by simp; omega
      have hd2 : decide ((0 : Int) ≤ (k : Int) ∧ (k : Int) < (d.cache.length : Int)) = true := by simp; omega
      have hd3 : decide ((d.cache.take k).length + 1 ≤ big) = true := by simp; omega
      simp only [D_disk_Twin_l1, hd, hd2, if_true, wrap_succ (k := k) (by rw [maxLen_eq]; omega), Int.toNat_natCast, nth_lt hk, N_slices_Clone_byte_byte, c1, Option.bind_some, List.length_singleton, hd3, take_succ_len hk]
    · have hd : ¬ (decide ((d.cache.length : Int) < (d.cache.length : Int)) = true) := by simp
      simp only [D_disk_Twin_l1, hd, List.take_length]
      rfl
  have hs : loopO (D_disk_Twin_l3 d) (([], ([], ())), (d.sectors, ((d.sectors.length : Int), ((0 : Int), ())))) = some (d, ()) := by
    refine loopO_for (fun k => ((d.sectors.take k, ([], ())), (d.sectors, ((d.sectors.length : Int), ((k : Int), ()))))) d.sectors.length _ (fun k hk => ?_) ?_
    · have c1 := le_big (h3 _ (List.getElem_mem hk))
      have hd : decide ((k : Int) < (d.sectors.length : Int)) = true := by simp; omega
      have hd2 : decide ((0 : Int) ≤ (k : Int) ∧ (k : Int) < (d.sectors.length : Int)) = true := by simp; omega
      have hd3 : decide ((d.sectors.take k).length + 1 ≤ big) = true := by simp; omega
      simp only [D_disk_Twin_l3, hd, hd2, if_true, wrap_succ (k := k) (by rw [maxLen_eq]; omega), Int.toNat_natCast, nth_lt hk, N_slices_Clone_byte_byte, c1, Option.bind_some, List.length_singleton, hd3, take_succ_len hk]
    · have hd : ¬ (decide ((d.sectors.length : Int) < (d.sectors.length : Int)) = true) := by simp
      simp only [D_disk_Twin_l3, hd, List.take_length]
      exact congrArg (Option.map Sum.inr) (hc d.sectors)
  simp only [D_disk_Twin, hs, N_disk_Twin, h, if_true]
theorem P_act_Twin (s : Site) (h : smallSite s = true) : D_act_Twin s = N_act_Twin (s, ()) := by
  have q := small_r h
  have hw := q.words
  simp only [smallWords, Bool.and_eq_true, List.all_eq_true, decide_eq_true_eq] at hw
  have hbig := big_eq
  have h_replies : ∀ a : Unit, D_act_Twin_t2 s (s.disk, ()) (s.end_, ()) (s.met.table, ()) (s.syncs, ()) (s.sides, (s.sides, ((s.sides.length : Int), ((s.sides.length : Int), ())))) (s.plan, (s.plan, ((s.plan.length : Int), ((s.plan.length : Int), ())))) (s.mail, (s.mail, ((s.mail.length : Int), ((s.mail.length : Int), ())))) (s.asks, (s.asks, ((s.asks.length : Int), ((s.asks.length : Int), ())))) = some (s, ()) := by
    intro _
    unfold D_act_Twin_t2
    refine loopO_for (fun k => (s.replies.take k, (s.replies, ((s.replies.length : Int), ((k : Int), ()))))) s.replies.length _ (fun k hk => ?_) ?_
    · have hq := q.replies
      have := hw.2 _ (List.getElem_mem hk)
      have c1 : s.replies[k].bytes.length ≤ 1000000 := by omega
      have hd : decide ((k : Int) < (s.replies.length : Int)) = true := by simp; omega
      have hd2 : decide ((0 : Int) ≤ (k : Int) ∧ (k : Int) < (s.replies.length : Int)) = true := by simp; omega
      have hd3 : decide ((s.replies.take k).length + 1 ≤ big) = true := by simp; omega
      have ht := take_succ_len hk
      simp only [D_act_Twin_l1, hd, hd2, if_true, wrap_succ (k := k) (by rw [maxLen_eq]; omega), Int.toNat_natCast, nth_lt hk, N_act_reply, c1, Option.bind_some, List.length_singleton, hd3, ht]
    · have hd : ¬ (decide ((s.replies.length : Int) < (s.replies.length : Int)) = true) := by simp
      simp only [D_act_Twin_l1, hd, List.take_length]
      rfl
  have h_asks : ∀ a : Unit, D_act_Twin_t4 s (s.disk, ()) (s.end_, ()) (s.met.table, ()) (s.syncs, ()) (s.sides, (s.sides, ((s.sides.length : Int), ((s.sides.length : Int), ())))) (s.plan, (s.plan, ((s.plan.length : Int), ((s.plan.length : Int), ())))) (s.mail, (s.mail, ((s.mail.length : Int), ((s.mail.length : Int), ())))) = some (s, ()) := by
    intro _
    unfold D_act_Twin_t4
    refine loopO_for (fun k => (s.asks.take k, (s.asks, ((s.asks.length : Int), ((k : Int), ()))))) s.asks.length _ (fun k hk => ?_) ?_
    · have hq := q.asks
      have := hw.1 _ (List.getElem_mem hk)
      have c1 : s.asks[k].bytes.length ≤ big := by omega
      have hd : decide ((k : Int) < (s.asks.length : Int)) = true := by simp; omega
      have hd2 : decide ((0 : Int) ≤ (k : Int) ∧ (k : Int) < (s.asks.length : Int)) = true := by simp; omega
      have hd3 : decide ((s.asks.take k).length + 1 ≤ big) = true := by simp; omega
      have ht := take_succ_len hk
      simp only [D_act_Twin_l3, hd, hd2, if_true, wrap_succ (k := k) (by rw [maxLen_eq]; omega), Int.toNat_natCast, nth_lt hk, N_bytes_Clone, c1, Option.bind_some, List.length_singleton, hd3, ht]
    · have hd : ¬ (decide ((s.asks.length : Int) < (s.asks.length : Int)) = true) := by simp
      simp only [D_act_Twin_l3, hd, List.take_length]
      exact congrArg (Option.map Sum.inr) (h_replies ())
  have h_mail : ∀ a : Unit, D_act_Twin_t6 s (s.disk, ()) (s.end_, ()) (s.met.table, ()) (s.syncs, ()) (s.sides, (s.sides, ((s.sides.length : Int), ((s.sides.length : Int), ())))) (s.plan, (s.plan, ((s.plan.length : Int), ((s.plan.length : Int), ())))) = some (s, ()) := by
    intro _
    unfold D_act_Twin_t6
    refine loopO_for (fun k => (s.mail.take k, (s.mail, ((s.mail.length : Int), ((k : Int), ()))))) s.mail.length _ (fun k hk => ?_) ?_
    · have hq := q.mail
      have := q.mails _ (List.getElem_mem hk)
      simp only [smallMail, Bool.and_eq_true, decide_eq_true_eq] at this
      have c1 : fitMsg s.mail[k].msg = true := by simp only [fitMsg, Bool.and_eq_true, decide_eq_true_eq]; omega
      have hd : decide ((k : Int) < (s.mail.length : Int)) = true := by simp; omega
      have hd2 : decide ((0 : Int) ≤ (k : Int) ∧ (k : Int) < (s.mail.length : Int)) = true := by simp; omega
      have hd3 : decide ((s.mail.take k).length + 1 ≤ big) = true := by simp; omega
      have ht := take_succ_len hk
      simp only [D_act_Twin_l5, hd, hd2, if_true, wrap_succ (k := k) (by rw [maxLen_eq]; omega), Int.toNat_natCast, nth_lt hk, N_msg_Twin, c1, Option.bind_some, List.length_singleton, hd3, ht]
    · have hd : ¬ (decide ((s.mail.length : Int) < (s.mail.length : Int)) = true) := by simp
      simp only [D_act_Twin_l5, hd, List.take_length]
      exact congrArg (Option.map Sum.inr) (h_asks ())
  have h_plan : ∀ a : Unit, D_act_Twin_t8 s (s.disk, ()) (s.end_, ()) (s.met.table, ()) (s.syncs, ()) (s.sides, (s.sides, ((s.sides.length : Int), ((s.sides.length : Int), ())))) = some (s, ()) := by
    intro _
    unfold D_act_Twin_t8
    refine loopO_for (fun k => (s.plan.take k, (s.plan, ((s.plan.length : Int), ((k : Int), ()))))) s.plan.length _ (fun k hk => ?_) ?_
    · have hq := q.plan
      have := q.acts _ (List.getElem_mem hk)
      simp only [smallAct, Bool.and_eq_true, decide_eq_true_eq] at this
      have c1 : fitMsg s.plan[k].msg = true := by simp only [fitMsg, Bool.and_eq_true, decide_eq_true_eq]; omega
      have c2 : s.plan[k].bytes.length ≤ big := by omega
      have c3 : s.plan[k].reply.bytes.length ≤ 1000000 := by omega
      have hd : decide ((k : Int) < (s.plan.length : Int)) = true := by simp; omega
      have hd2 : decide ((0 : Int) ≤ (k : Int) ∧ (k : Int) < (s.plan.length : Int)) = true := by simp; omega
      have hd3 : decide ((s.plan.take k).length + 1 ≤ big) = true := by simp; omega
      have ht := take_succ_len hk
      simp only [D_act_Twin_l7, hd, hd2, if_true, wrap_succ (k := k) (by rw [maxLen_eq]; omega), Int.toNat_natCast, nth_lt hk, N_msg_Twin, N_bytes_Clone, N_act_reply, c1, c2, c3, Option.bind_some, List.length_singleton, hd3, ht]
    · have hd : ¬ (decide ((s.plan.length : Int) < (s.plan.length : Int)) = true) := by simp
      simp only [D_act_Twin_l7, hd, List.take_length]
      exact congrArg (Option.map Sum.inr) (h_mail ())
  have h_sides : loopO (D_act_Twin_l9 s (s.disk, ()) (s.end_, ()) (s.met.table, ()) (s.syncs, ())) ([], (s.sides, ((((List.length s.sides) : Nat) : Int), ((0 : Int), ())))) = some (s, ()) := by
    refine loopO_for (fun k => (s.sides.take k, (s.sides, ((s.sides.length : Int), ((k : Int), ()))))) s.sides.length _ (fun k hk => ?_) ?_
    · have hq := q.sides
      obtain ⟨g1, g2, g3, g4, g5⟩ := (side_iff _).1 (q.side _ (List.getElem_mem hk))
      have c1 : s.sides[k].marks.length ≤ big := by omega
      have c2 : s.sides[k].work.length ≤ big := by omega
      have c3 : s.sides[k].need.length ≤ big := by omega
      have c4 : s.sides[k].out.length ≤ big := by omega
      have c5 : s.sides[k].waits.length ≤ big := by omega
      have hd : decide ((k : Int) < (s.sides.length : Int)) = true := by simp; omega
      have hd2 : decide ((0 : Int) ≤ (k : Int) ∧ (k : Int) < (s.sides.length : Int)) = true := by simp; omega
      have hd3 : decide ((s.sides.take k).length + 1 ≤ big) = true := by simp; omega
      have ht := take_succ_len hk
      simp only [D_act_Twin_l9, hd, hd2, if_true, wrap_succ (k := k) (by rw [maxLen_eq]; omega), Int.toNat_natCast, nth_lt hk, N_bytes_Clone, N_slices_Clone_api_Sent_api_Sent, N_slices_Clone_api_Wait_api_Wait, c1, c2, c3, c4, c5, Option.bind_some, List.length_singleton, hd3, ht]
    · have hd : ¬ (decide ((s.sides.length : Int) < (s.sides.length : Int)) = true) := by simp
      simp only [D_act_Twin_l9, hd, List.take_length]
      exact congrArg (Option.map Sum.inr) (h_plan ())
  have hfit : fitDisk s.disk = true := by
    have := q.disk
    simp only [smallDisk, Bool.and_eq_true, decide_eq_true_eq, List.all_eq_true] at this
    rw [fit_iff]
    refine ⟨by omega, by omega, fun x hx => ?_, fun x hx => ?_⟩
    · have := this.1.2 x hx; omega
    · have := this.2 x hx; omega
  have htab : s.met.table.length ≤ big := by have := q.table; omega
  have hsync : s.syncs.length ≤ big := by have := q.syncs; omega
  simp only [D_act_Twin, N_disk_Twin, hfit, N_slices_Clone_api_Rec_api_Rec, htab, N_slices_Clone_int_int, N_sess_Twin, q.items, if_true, Option.bind_some, hsync, N_act_Twin, h]
  exact h_sides
end Go.Cat

set_option linter.unusedSimpArgs false
set_option linter.unusedVariables false
namespace Go.Cat
open Go
theorem e_ok (b : Bool) : ((if b = true then (0 : Int) else 8) != 0) = !b := by cases b <;> rfl
theorem may_pairs {c : Config} {s : Site} (h : maySite c s = true) : 1 ≤ c.pairs := by
  have := ((site_iff c s).1 h).1
  simp only [mayVol, mayConf, Bool.and_eq_true, decide_eq_true_eq] at this
  omega
theorem P_host_Answer (c : Config) (s : Site) (r : Reply) (h : smallSite s = true) (hr : r.bytes.length ≤ 1000000) : D_host_Answer c s r = N_host_Answer (c, (s, (r, ()))) := by
  have q := small_r h
  have hb := big_eq
  have hp := q.plan
  simp only [D_host_Answer, N_host_Answer, N_act_Check, h, hr, if_true, e1, Option.bind_some, and_self, e_ok]
  by_cases hm : maySite c s = true
  · have h1 := may_pairs hm
    have hd : ¬ (decide ((0 : Int) ≥ c.pairs) = true) := by simp; omega
    have hd2 : ∀ a : Act, decide (s.plan.length + [a].length ≤ big) = true := by intro a; simp; omega
    simp only [hm, Bool.not_true, Bool.false_eq_true, if_false, Bool.false_eq_true, hd, N_act_Twin, h, if_true, Option.bind_some, N_slices_Clone_byte_byte, le_big hr, hd2]
    rfl
  · simp only [hm, Bool.not_eq_true] at *
    simp only [hm, Bool.not_false, if_true, Bool.false_eq_true, if_false, Bool.false_eq_true]
    rfl
theorem P_site_Ask (c : Config) (s : Site) (a : Ask) (h : smallSite s = true) (hr : a.bytes.length ≤ 1000000) : D_site_Ask c s a = N_site_Ask (c, (s, (a, ()))) := by
  have q := small_r h
  have hb := big_eq
  have hp := q.asks
  simp only [D_site_Ask, N_site_Ask, N_act_Check, h, hr, if_true, e1, Option.bind_some, and_self, e_ok]
  by_cases hm : maySite c s = true
  · simp only [hm, Bool.not_true, Bool.false_eq_true, if_false, Bool.false_eq_true, if_true]
    by_cases h1 : a.kind < 1
    · simp only [h1, decide_true, if_true, true_or]
      rfl
    · by_cases h3 : 3 < a.kind
      · have hd : decide (a.kind > 3) = true := by simp; omega
        simp only [h1, decide_false, Bool.false_eq_true, if_false, Bool.false_eq_true, hd, if_true, h3, or_true]
        rfl
      · have hd : ¬ (decide (a.kind > 3) = true) := by simp; omega
        simp only [h1, decide_false, Bool.false_eq_true, if_false, Bool.false_eq_true, hd, h3, or_self]
        by_cases h6 : 64 ≤ s.asks.length
        · have hd : decide ((s.asks.length : Int) ≥ 64) = true := by simp; omega
          simp only [hd, h6, if_true]
          rfl
        · have hd : ¬ (decide ((s.asks.length : Int) ≥ 64) = true) := by simp; omega
          have hd2 : ∀ a : Ask, decide (s.asks.length + [a].length ≤ big) = true := by intro a; simp; omega
          simp only [hd, h6, if_false, Bool.false_eq_true, N_act_Twin, h, if_true, Option.bind_some, N_slices_Clone_byte_byte, le_big hr, hd2]
          rfl
  · simp only [Bool.not_eq_true] at hm
    simp only [hm, Bool.not_false, if_true, Bool.false_eq_true, if_false, Bool.false_eq_true]
    rfl
theorem readT_pair {t : List Int} (ht : ∀ x ∈ t, 0 ≤ x ∧ x ≤ 255) : 0 ≤ (readT t).2.1 ∧ (readT t).2.1 ≤ 255 := by
  have hn : 0 ≤ nth t 3 ∧ nth t 3 ≤ 255 := by
    by_cases h : 3 < t.length
    · rw [nth_lt h]; exact ht _ (List.getElem_mem h)
    · simp [nth, List.getElem?_eq_none (Nat.le_of_not_lt h)]
  unfold readT
  split
  · decide
  · split
    · decide
    · split
      · decide
      · split
        · decide
        · split
          · decide
          · exact hn
theorem readT_wrap {t : List Int} (ht : ∀ x ∈ t, 0 ≤ x ∧ x ≤ 255) : IntKind.wrap .i64 (readT t).2.1 = (readT t).2.1 := by
  have := readT_pair ht
  exact wrap_i64 (by omega) (by omega)
theorem P_req_Submit (c : Config) (s : Site) (id : Int) (t : List Int) (h : smallSite s = true) (ht : ∀ x ∈ t, 0 ≤ x ∧ x ≤ 255) : D_req_Submit c s id t = N_req_Submit (c, (s, (id, (t, ())))) := by
  simp only [D_req_Submit, N_req_Submit, N_act_Check, h, if_true, e1, Option.bind_some, e_ok, submitT]
  by_cases hm : maySite c s = true
  · simp only [hm, Bool.not_true, Bool.false_eq_true, if_false, Bool.false_eq_true, if_true]
    by_cases h1 : t.length > 4096
    · have hd : decide ((t.length : Int) > 4096) = true := by simp; omega
      simp only [hd, h1, if_true]
      rfl
    · have hd : ¬ (decide ((t.length : Int) > 4096) = true) := by simp; omega
      simp only [hd, h1, if_false, Bool.false_eq_true, N_req_Read, Option.bind_some, readT_wrap ht]
      by_cases h2 : (readT t).2.2 = 0
      · simp only [h2, bne_self_eq_false, Bool.false_eq_true, if_false, Bool.false_eq_true, ne_eq, not_true_eq_false, N_site_Ask, h, hm, List.length_nil, Nat.zero_le, and_self, if_true]
        by_cases h6 : 64 ≤ s.asks.length
        · simp only [h6, if_true]; rfl
        · simp only [h6, if_false, Bool.false_eq_true]; rfl
      · have hn : ((readT t).2.2 != 0) = true := by simp [h2]
        simp only [hn, h2, if_true, ne_eq, not_false_eq_true, N_host_Answer, h, hm, List.length_nil, Nat.zero_le, and_self, Option.bind_some]
  · simp only [Bool.not_eq_true] at hm
    simp only [hm, Bool.not_false, if_true, Bool.false_eq_true, if_false, Bool.false_eq_true]
    rfl
theorem P_ref22_Answered (s : Site) (r : Reply) (h : s.plan.length ≤ 1000000) : D_ref22_Answered s r = N_ref22_Answered (s, (r, ())) := by
  have hb := big_eq
  have hd : decide (0 + s.plan.length ≤ big) = true := by simp; omega
  have hd2 : ∀ a : Act, decide (([] ++ s.plan).length + [a].length ≤ big) = true := by intro a; simp; omega
  simp only [D_ref22_Answered, N_ref22_Answered, h, hd, hd2, if_true]
  rfl
theorem P_ref22_Code (s : Site) (a b : Int) (h : s.plan.length ≤ 1000000) : D_ref22_Code s a b = N_ref22_Code (s, (a, (b, ()))) := by
  simp only [D_ref22_Code, N_ref22_Answered, N_ref22_Code, h, if_true, Option.bind_some]
theorem P_ref27_Asked (s : Site) (a : Ask) : D_ref27_Asked s a = N_ref27_Asked (s, (a, ())) := by
  have hb := big_eq
  simp only [D_ref27_Asked, N_ref27_Asked]
  by_cases h6 : 64 ≤ s.asks.length
  · have hd : decide ((s.asks.length : Int) ≥ 64) = true := by simp; omega
    simp only [hd, h6, if_true]
  · have hd : ¬ (decide ((s.asks.length : Int) ≥ 64) = true) := by simp; omega
    have hd1 : decide (0 + s.asks.length ≤ big) = true := by simp; omega
    have hd2 : ∀ a : Ask, decide (([] ++ s.asks).length + [a].length ≤ big) = true := by intro a; simp; omega
    simp only [hd, h6, if_false, Bool.false_eq_true, hd1, hd2, if_true]
    rfl
theorem P_ref28_Submitted (s : Site) (id : Int) (t : List Int) (h : s.plan.length ≤ 1000000) (ht : ∀ x ∈ t, 0 ≤ x ∧ x ≤ 255) : D_ref28_Submitted s id t = N_ref28_Submitted (s, (id, (t, ()))) := by
  simp only [D_ref28_Submitted, N_ref28_Read, N_req_Read, N_ref28_Submitted, h, if_true, Option.bind_some, N_ref22_Code, N_ref27_Asked, readT_wrap ht]
  by_cases h2 : (readT t).2.2 = 0
  · simp only [h2, bne_self_eq_false, Bool.false_eq_true, if_false, Bool.false_eq_true, ne_eq, not_true_eq_false]
    by_cases h6 : 64 ≤ s.asks.length
    · simp only [h6, if_true]; rfl
    · simp only [h6, if_false, Bool.false_eq_true]; rfl
  · have hn : ((readT t).2.2 != 0) = true := by simp [h2]
    simp only [hn, h2, if_true, ne_eq, not_false_eq_true]
theorem P_ref28_Submit (c : Config) (s : Site) (id : Int) (t : List Int) (h : smallSite s = true) : D_ref28_Submit c s id t = N_ref28_Submit (c, (s, (id, (t, ())))) := by
  have hp : s.plan.length ≤ 1000000 := by have := (small_r h).plan; omega
  simp only [D_ref28_Submit, N_ref21_May, N_ref28_Submit, N_req_Submit, h, if_true, b1, Option.bind_some, submitT, N_ref28_Submitted, hp]
  by_cases hm : maySite c s = true
  · simp only [hm, Bool.not_true, Bool.false_eq_true, if_false, Bool.false_eq_true, if_true]
    by_cases h1 : t.length > 4096
    · have hd : decide ((t.length : Int) > 4096) = true := by simp; omega
      simp only [hd, h1, if_true]
      rfl
    · have hd : ¬ (decide ((t.length : Int) > 4096) = true) := by simp; omega
      simp only [hd, h1, if_false, Bool.false_eq_true]
      by_cases h2 : (readT t).2.2 = 0
      · simp only [h2, ne_eq, not_true_eq_false, if_false, Bool.false_eq_true]
        by_cases h6 : 64 ≤ s.asks.length
        · simp only [h6, if_true]; rfl
        · simp only [h6, if_false, Bool.false_eq_true]; rfl
      · simp only [h2, ne_eq, not_false_eq_true, if_true]; rfl
  · simp only [Bool.not_eq_true] at hm
    simp only [hm, Bool.not_false, if_true, Bool.false_eq_true, if_false, Bool.false_eq_true]
    rfl
theorem P_law28_ReqSubmits (c : Config) (s : Site) (id : Int) (t : List Int) : D_law28_ReqSubmits c s id t = some (true, ()) := by
  by_cases h : smallSite s = true
  · have core : (Option.bind (N_ref21_Twin (s, ())) fun r5 => Option.bind (N_req_Submit (c, (r5.1, (id, (t, ()))))) fun r6 => Option.bind (N_ref28_Submit (c, (s, (id, (t, ()))))) fun r7 => Option.bind (N_ref21_Same (r6.1, (r7.1, ()))) fun r8 =>
        if r8.1 then (if (r6.2.1 == r7.2.1) then Option.bind (N_ref21_Same (r5.1, (s, ()))) fun r9 => some (r9.1, ()) else some (false, ())) else some (false, ())) = some (true, ()) := by
      simp only [N_ref21_Twin, h, if_true, Option.bind_some, N_req_Submit, N_ref28_Submit, N_ref21_Same, b1, beq_self_eq_true]
    simp only [D_law28_ReqSubmits, core, N_ref21_Great, h, b1, Option.bind_some, Bool.not_true, Bool.false_eq_true, if_false, Bool.false_eq_true]
    simp
  · simp only [Bool.not_eq_true] at h
    simp only [D_law28_ReqSubmits, N_ref21_Great, h, b1, Option.bind_some, Bool.not_false, if_true]
end Go.Cat

set_option linter.unusedSimpArgs false
set_option linter.unusedVariables false
namespace Go.Cat
open Go
theorem crcStep_eq (x : BitVec 32) : crcStep x = (x >>> 1) ^^^ (if x.toNat % 2 = 1 then 3988292384#32 else 0#32) := by
  have h := low_mod x
  rw [decide_eq_decide] at h
  unfold crcStep
  by_cases h2 : x.toNat % 2 = 0
  · rw [if_pos (h.2 h2), if_neg (by omega)]
    simp
  · rw [if_neg (fun e => h2 (h.1 e)), if_pos (by omega)]
theorem xor_mod2 (a b : Nat) : (a ^^^ b) % 2 = (a % 2 + b % 2) % 2 := by
  have h := Nat.xor_mod_two_pow (a := a) (b := b) (n := 1)
  have e : (2 : Nat) ^ 1 = 2 := rfl
  rw [e] at h
  rw [h]
  rcases Nat.mod_two_eq_zero_or_one a with ha | ha <;> rcases Nat.mod_two_eq_zero_or_one b with hb | hb <;> rw [ha, hb] <;> rfl
theorem crcStep_xor (a b : BitVec 32) : crcStep (a ^^^ b) = crcStep a ^^^ crcStep b := by
  rw [crcStep_eq, crcStep_eq, crcStep_eq, BitVec.ushiftRight_xor_distrib, BitVec.toNat_xor, xor_mod2]
  generalize a >>> 1 = x
  generalize b >>> 1 = y
  rcases Nat.mod_two_eq_zero_or_one a.toNat with ha | ha <;> rcases Nat.mod_two_eq_zero_or_one b.toNat with hb | hb <;> rw [ha, hb]
  · simp
  · simp [BitVec.xor_assoc]
  · simp only [show ((1 + 0) % 2 = 1) = True by simp, if_true, show ((0 : Nat) = 1) = False by simp, if_false, Bool.false_eq_true]
    rw [BitVec.xor_zero, BitVec.xor_assoc, BitVec.xor_assoc, BitVec.xor_comm y]
  · simp only [show ((1 + 1) % 2 = 1) = False by simp, if_true, if_false, Bool.false_eq_true, BitVec.xor_zero]
    rw [BitVec.xor_assoc, ← BitVec.xor_assoc (3988292384#32) y, BitVec.xor_comm (3988292384#32) y, BitVec.xor_assoc y, BitVec.xor_self, BitVec.xor_zero]
theorem crcSteps_xor (a b : BitVec 32) (k : Nat) : crcSteps (a ^^^ b) k = crcSteps a k ^^^ crcSteps b k := by
  induction k with
  | zero => rfl
  | succ k ih => simp only [crcSteps, ih, crcStep_xor]
theorem crcSteps_zero (k : Nat) : crcSteps 0#32 k = 0#32 := by
  induction k with
  | zero => rfl
  | succ k ih => simp only [crcSteps, ih]; decide
theorem crcSteps_add (a : BitVec 32) (m n : Nat) : crcSteps a (m + n) = crcSteps (crcSteps a m) n := by
  induction n with
  | zero => rfl
  | succ n ih => show crcStep (crcSteps a (m + n)) = _; rw [ih]; rfl
theorem crcStep_zero {a : BitVec 32} (h : crcStep a = 0#32) : a = 0#32 := by
  rw [crcStep_eq] at h
  by_cases h2 : a.toNat % 2 = 1
  · rw [if_pos h2, BitVec.xor_eq_zero_iff] at h
    have := congrArg BitVec.toNat h
    rw [BitVec.toNat_ushiftRight, Nat.shiftRight_eq_div_pow] at this
    have hlt := a.isLt
    have e : (3988292384#32).toNat = 3988292384 := rfl
    omega
  · rw [if_neg h2, BitVec.xor_zero] at h
    have := congrArg BitVec.toNat h
    rw [BitVec.toNat_ushiftRight, Nat.shiftRight_eq_div_pow] at this
    have e : (0#32).toNat = 0 := rfl
    apply BitVec.eq_of_toNat_eq
    omega
theorem crcSteps_nil {a : BitVec 32} {k : Nat} (h : crcSteps a k = 0#32) : a = 0#32 := by
  induction k with
  | zero => exact h
  | succ k ih => exact ih (crcStep_zero h)
theorem crcSteps_inj {a b : BitVec 32} {k : Nat} (h : crcSteps a k = crcSteps b k) : a = b := by
  rw [← BitVec.xor_eq_zero_iff]
  apply crcSteps_nil (k := k)
  rw [crcSteps_xor, h, BitVec.xor_self]
theorem crcSteps_shift (a : BitVec 32) (k : Nat) (h : a.toNat % 2 ^ k = 0) : crcSteps a k = a >>> k := by
  induction k with
  | zero => simp [crcSteps]
  | succ k ih =>
    have h1 : a.toNat % 2 ^ k = 0 := by
      rw [← Nat.mod_mod_of_dvd a.toNat (Nat.pow_dvd_pow 2 (Nat.le_succ k)), h]; simp
    have h2 : (a.toNat / 2 ^ k) % 2 = 0 := by
      rw [Nat.pow_succ] at h
      have := Nat.mod_mul_right_div_self a.toNat (2 ^ k) 2
      rw [h] at this
      simpa using this.symm
    show crcStep (crcSteps a k) = _
    rw [ih h1, crcStep_eq, BitVec.toNat_ushiftRight, Nat.shiftRight_eq_div_pow, if_neg (by omega), BitVec.xor_zero]
    rw [BitVec.shiftRight_add]
theorem burst (em ew : BitVec 32) (at_ : Nat) (hat : at_ ≤ 32) (h1 : em.toNat % 2 ^ at_ = 0) (h2 : ew.toNat < 2 ^ at_) (h : crcSteps em 32 = ew) : em = 0#32 := by
  have e32 : at_ + (32 - at_) = 32 := by omega
  have hp : 2 ^ at_ * 2 ^ (32 - at_) = 2 ^ 32 := by rw [← Nat.pow_add, e32]
  have hpos : 0 < 2 ^ (32 - at_) := Nat.pow_pos (by decide)
  have hpos2 : 0 < 2 ^ at_ := Nat.pow_pos (by decide)
  have hov : ew.toNat * 2 ^ (32 - at_) < 2 ^ 32 := by
    rw [← hp]; exact Nat.mul_lt_mul_of_pos_right h2 hpos
  have hs : (ew <<< (32 - at_)).toNat = ew.toNat * 2 ^ (32 - at_) := by
    rw [BitVec.toNat_shiftLeft, Nat.shiftLeft_eq, Nat.mod_eq_of_lt hov]
  have h3 : crcSteps (ew <<< (32 - at_)) (32 - at_) = ew := by
    rw [crcSteps_shift _ _ (by rw [hs]; exact Nat.mul_mod_left _ _)]
    apply BitVec.eq_of_toNat_eq
    rw [BitVec.toNat_ushiftRight, Nat.shiftRight_eq_div_pow, hs, Nat.mul_div_cancel _ hpos]
  have h4 : crcSteps (em >>> at_) (32 - at_) = ew := by
    rw [← crcSteps_shift em at_ h1, ← crcSteps_add, e32, h]
  have h5 := congrArg BitVec.toNat (crcSteps_inj (h4.trans h3.symm))
  rw [hs, BitVec.toNat_ushiftRight, Nat.shiftRight_eq_div_pow] at h5
  have h6 : em.toNat / 2 ^ at_ < 2 ^ (32 - at_) := by
    rw [Nat.div_lt_iff_lt_mul hpos2, Nat.mul_comm, hp]; exact em.isLt
  have h7 : ew.toNat = 0 := by
    rcases Nat.eq_zero_or_pos ew.toNat with h | h
    · exact h
    · have := Nat.le_mul_of_pos_left (2 ^ (32 - at_)) h
      omega
  rw [h7, Nat.zero_mul] at h5
  apply BitVec.eq_of_toNat_eq
  have := Nat.div_add_mod em.toNat (2 ^ at_)
  rw [h5, h1] at this
  simpa using this.symm
def bytes8 (n : Nat) : List Int := (List.range 8).map fun j => ((n / 2 ^ (8 * j) % 256 : Nat) : Int)
def bytes4 (n : Nat) : List Int := [((n % 256 : Nat) : Int), ((n / 256 % 256 : Nat) : Int), ((n / 65536 % 256 : Nat) : Int), ((n / 16777216 % 256 : Nat) : Int)]
theorem tail4 (s : BitVec 32) : tailOf s = bytes4 s.toNat := by
  simp [tailOf, bytes4, byteAt]
theorem bytes8_split (n : Nat) : bytes8 n = bytes4 (BitVec.ofNat 32 n).toNat ++ bytes4 (BitVec.ofNat 32 (n / 2 ^ 32)).toNat := by
  simp only [bytes8, bytes4, List.range, List.range.loop, List.map_cons, List.map_nil, List.cons_append, List.nil_append, BitVec.toNat_ofNat]
  refine List.cons_eq_cons.2 ⟨?_, List.cons_eq_cons.2 ⟨?_, List.cons_eq_cons.2 ⟨?_, List.cons_eq_cons.2 ⟨?_, List.cons_eq_cons.2 ⟨?_, List.cons_eq_cons.2 ⟨?_, List.cons_eq_cons.2 ⟨?_, List.cons_eq_cons.2 ⟨?_, rfl⟩⟩⟩⟩⟩⟩⟩⟩ <;> simp <;> omega
theorem bytes4_inj {a b : BitVec 32} (h : bytes4 a.toNat = bytes4 b.toNat) : a = b := by
  simp only [bytes4, List.cons.injEq, and_true] at h
  have h1 := a.isLt
  have h2 := b.isLt
  apply BitVec.eq_of_toNat_eq
  omega
theorem crcT_word (a w : BitVec 32) : crcSteps (a ^^^ w) 8 = crcT a ((w.toNat % 256 : Nat) : Int) ^^^ (w >>> 8) := by
  have hw : w = BitVec.ofInt 32 ((w.toNat % 256 : Nat) : Int) ^^^ ((w >>> 8) <<< 8) := by
    apply BitVec.eq_of_getLsbD_eq
    intro i hi
    have hlo : (BitVec.ofInt 32 ((w.toNat % 256 : Nat) : Int)) = BitVec.ofNat 32 (w.toNat % 2 ^ 8) := by
      apply BitVec.eq_of_toNat_eq
      rw [BitVec.toNat_ofInt, BitVec.toNat_ofNat]
      omega
    rw [hlo]
    simp only [BitVec.getLsbD_xor, BitVec.getLsbD_shiftLeft, BitVec.getLsbD_ushiftRight, BitVec.getLsbD_ofNat, Nat.testBit_mod_two_pow, BitVec.testBit_toNat]
    by_cases h8 : i < 8
    · simp [h8, hi]
    · have e : 8 + (i - 8) = i := by omega
      simp [h8, hi, e]
  have hs : ((w >>> 8) <<< 8).toNat % 2 ^ 8 = 0 := by
    rw [BitVec.toNat_shiftLeft, Nat.shiftLeft_eq]
    omega
  have h8 : (((w >>> 8) <<< 8) >>> 8) = w >>> 8 := by
    apply BitVec.eq_of_toNat_eq
    rw [BitVec.toNat_ushiftRight, BitVec.toNat_shiftLeft, BitVec.toNat_ushiftRight]
    have := w.isLt
    simp only [Nat.shiftLeft_eq, Nat.shiftRight_eq_div_pow]
    omega
  have : crcSteps (a ^^^ w) 8 = crcSteps (a ^^^ (BitVec.ofInt 32 ((w.toNat % 256 : Nat) : Int) ^^^ ((w >>> 8) <<< 8))) 8 := by rw [← hw]
  rw [this, ← BitVec.xor_assoc, crcSteps_xor, crcSteps_shift _ _ hs, h8]
  rfl
theorem fold4 (a w : BitVec 32) : crcFold a (bytes4 w.toNat) = crcSteps (a ^^^ w) 32 := by
  have s1 := crcT_word a w
  have s2 := crcT_word (crcT a ((w.toNat % 256 : Nat) : Int)) (w >>> 8)
  have s3 := crcT_word (crcT (crcT a ((w.toNat % 256 : Nat) : Int)) (((w >>> 8).toNat % 256 : Nat) : Int)) ((w >>> 8) >>> 8)
  have s4 := crcT_word (crcT (crcT (crcT a ((w.toNat % 256 : Nat) : Int)) (((w >>> 8).toNat % 256 : Nat) : Int)) ((((w >>> 8) >>> 8).toNat % 256 : Nat) : Int)) (((w >>> 8) >>> 8) >>> 8)
  have hz : ((((w >>> 8) >>> 8) >>> 8) >>> 8) = 0#32 := by
    apply BitVec.eq_of_toNat_eq
    have := w.isLt
    simp only [BitVec.toNat_ushiftRight, Nat.shiftRight_eq_div_pow]
    show _ = 0
    omega
  rw [hz, BitVec.xor_zero] at s4
  show _ = crcSteps (a ^^^ w) (8 + 8 + 8 + 8)
  rw [crcSteps_add, crcSteps_add, crcSteps_add, s1, s2, s3, s4]
  have w1 : (w >>> 8).toNat = w.toNat / 256 := by rw [BitVec.toNat_ushiftRight, Nat.shiftRight_eq_div_pow]
  have w2 : ((w >>> 8) >>> 8).toNat = w.toNat / 65536 := by rw [BitVec.toNat_ushiftRight, Nat.shiftRight_eq_div_pow, w1]; omega
  have w3 : (((w >>> 8) >>> 8) >>> 8).toNat = w.toNat / 16777216 := by rw [BitVec.toNat_ushiftRight, Nat.shiftRight_eq_div_pow, w2]; omega
  rw [w1, w2, w3]
  rfl
theorem sealed_word (n : Nat) : sealed_ ((bytes8 n).take 4) = bytes8 n ↔ BitVec.ofNat 32 (n / 2 ^ 32) = BitVec.allOnes 32 ^^^ crcSteps (BitVec.allOnes 32 ^^^ BitVec.ofNat 32 n) 32 := by
  have ht : (bytes8 n).take 4 = bytes4 (BitVec.ofNat 32 n).toNat := by
    rw [bytes8_split]; rfl
  rw [ht, sealed_, crcSum, fold4, tail4, bytes8_split]
  constructor
  · intro h
    have := List.append_cancel_left h
    exact (bytes4_inj this).symm
  · intro h
    rw [h]
theorem lo_xor (a b : Nat) : BitVec.ofNat 32 (a ^^^ b) = BitVec.ofNat 32 a ^^^ BitVec.ofNat 32 b := by
  apply BitVec.eq_of_toNat_eq
  rw [BitVec.toNat_xor, BitVec.toNat_ofNat, BitVec.toNat_ofNat, BitVec.toNat_ofNat, Nat.xor_mod_two_pow]
theorem div_xor (a b k : Nat) : (a ^^^ b) / 2 ^ k = (a / 2 ^ k) ^^^ (b / 2 ^ k) := by
  rw [← Nat.shiftRight_eq_div_pow, ← Nat.shiftRight_eq_div_pow, ← Nat.shiftRight_eq_div_pow, Nat.shiftRight_xor_distrib]
theorem burst_sealed (n e at_ mask : Nat) (hm : mask < 2 ^ 32) (he : e = (mask <<< at_) % 2 ^ 64) (h1 : sealed_ ((bytes8 n).take 4) = bytes8 n) (h2 : sealed_ ((bytes8 (n ^^^ e)).take 4) = bytes8 (n ^^^ e)) : e = 0 := by
  rw [sealed_word] at h1 h2
  rw [div_xor, lo_xor, lo_xor, h1] at h2
  have hk : crcSteps (BitVec.ofNat 32 e) 32 = BitVec.ofNat 32 (e / 2 ^ 32) := by
    rw [← BitVec.xor_assoc (BitVec.allOnes 32) (BitVec.ofNat 32 n), crcSteps_xor (BitVec.allOnes 32 ^^^ BitVec.ofNat 32 n), BitVec.xor_assoc] at h2
    exact (BitVec.xor_right_inj _ |>.1 (BitVec.xor_right_inj _ |>.1 h2)).symm
  have hlt : e < 2 ^ 64 := by rw [he]; exact Nat.mod_lt _ (by decide)
  have fin : BitVec.ofNat 32 e = 0#32 → e = 0 := by
    intro h0
    rw [h0, crcSteps_zero] at hk
    have a1 := congrArg BitVec.toNat h0
    have a2 := congrArg BitVec.toNat hk
    simp only [BitVec.toNat_ofNat] at a1 a2
    omega
  rw [Nat.shiftLeft_eq] at he
  by_cases hat : at_ ≤ 32
  · refine fin (burst _ _ at_ hat ?_ ?_ hk)
    · rw [BitVec.toNat_ofNat, Nat.mod_mod_of_dvd _ (Nat.pow_dvd_pow 2 hat), he, Nat.mod_mod_of_dvd _ (Nat.pow_dvd_pow 2 (by omega : at_ ≤ 64))]
      exact Nat.mul_mod_left _ _
    · have hle : e < 2 ^ 32 * 2 ^ at_ := by
        rw [he]
        refine Nat.lt_of_le_of_lt (Nat.mod_le _ _) ?_
        exact Nat.mul_lt_mul_of_pos_right hm (Nat.pow_pos (by decide))
      rw [BitVec.toNat_ofNat]
      refine Nat.lt_of_le_of_lt (Nat.mod_le _ _) ?_
      rw [Nat.div_lt_iff_lt_mul (by decide), Nat.mul_comm]
      exact hle
  · refine fin ?_
    apply BitVec.eq_of_toNat_eq
    rw [BitVec.toNat_ofNat, he, Nat.mod_mod_of_dvd _ (by decide : 2 ^ 32 ∣ 2 ^ 64)]
    obtain ⟨d, rfl⟩ : ∃ d, at_ = d + 32 := ⟨at_ - 32, by omega⟩
    rw [Nat.pow_add, ← Nat.mul_assoc]
    exact Nat.mul_mod_left _ _
def turnedBits (mask a k : Nat) : Nat := ((mask % 2 ^ k) <<< a) % 2 ^ 64
theorem turned_same {mask a k : Nat} (h : mask.testBit k = false ∨ 64 ≤ a + k) : turnedBits mask a (k + 1) = turnedBits mask a k := by
  apply Nat.eq_of_testBit_eq
  intro i
  simp only [turnedBits, Nat.testBit_mod_two_pow, Nat.testBit_shiftLeft]
  by_cases hi : i < 64
  · by_cases ha : a ≤ i
    · by_cases e : i - a = k
      · rcases h with h | h
        · simp [hi, ha, e, h]
        · omega
      · have : (i - a < k + 1) = (i - a < k) := by
          apply propext; omega
        simp [hi, ha, this]
    · have : ¬ i ≥ a := ha
      simp [this]
  · simp [hi]
theorem turned_one {mask a k : Nat} (h : mask.testBit k = true) (hk : a + k < 64) : turnedBits mask a (k + 1) = turnedBits mask a k ^^^ 2 ^ (a + k) := by
  apply Nat.eq_of_testBit_eq
  intro i
  simp only [turnedBits, Nat.testBit_mod_two_pow, Nat.testBit_shiftLeft, Nat.testBit_xor, Nat.testBit_two_pow]
  by_cases e : a + k = i
  · subst e
    have : a + k - a = k := by omega
    simp [hk, this, h]
  · by_cases hi : i < 64
    · by_cases ha : a ≤ i
      · have : (i - a < k + 1) = (i - a < k) := by
          apply propext; omega
        simp [hi, ha, this, e]
      · have : ¬ i ≥ a := ha
        simp [this, e]
    · simp [hi, e]
theorem turned_ne {mask a k : Nat} (h : mask.testBit k = true) (hk : a + k < 64) : turnedBits mask a (k + 1) ≠ 0 := by
  intro h0
  have : (turnedBits mask a (k + 1)).testBit (a + k) = true := by
    simp only [turnedBits, Nat.testBit_mod_two_pow, Nat.testBit_shiftLeft]
    have : a + k - a = k := by omega
    simp [hk, this, h]
  rw [h0] at this
  simp at this
theorem xor_u8 {a b : Nat} (ha : a < 256) (hb : b < 256) : ibits .xor .u8 (a : Int) (b : Int) = ((a ^^^ b : Nat) : Int) := by
  have hx : a ^^^ b < 2 ^ 8 := Nat.xor_lt_two_pow ha hb
  show IntKind.wrap .u8 (((BitVec.ofInt 8 (a : Int) ^^^ BitVec.ofInt 8 (b : Int)).toNat : Nat) : Int) = _
  have e1 : (BitVec.ofInt 8 (a : Int)).toNat = a := by rw [BitVec.toNat_ofInt]; omega
  have e2 : (BitVec.ofInt 8 (b : Int)).toNat = b := by rw [BitVec.toNat_ofInt]; omega
  rw [BitVec.toNat_xor, e1, e2, wrapm_u8]
  omega
theorem bit_byte (n j : Nat) : 2 ^ n / 2 ^ (8 * j) % 256 = if j = n / 8 then 2 ^ (n % 8) else 0 := by
  by_cases h : 8 * j ≤ n
  · rw [Nat.pow_div h (by decide)]
    by_cases e : j = n / 8
    · have : n - 8 * j = n % 8 := by omega
      rw [if_pos e, this, Nat.mod_eq_of_lt]
      exact Nat.pow_lt_pow_right (by decide : 1 < 2) (by omega : n % 8 < 8)
    · rw [if_neg e]
      obtain ⟨d, hd⟩ : ∃ d, n - 8 * j = d + 8 := ⟨n - 8 * j - 8, by omega⟩
      rw [hd, Nat.pow_add]
      exact Nat.mul_mod_left _ _
  · have : 2 ^ n < 2 ^ (8 * j) := Nat.pow_lt_pow_right (by decide) (by omega)
    rw [Nat.div_eq_of_lt this, if_neg (by omega)]
theorem bytes8_len (n : Nat) : (bytes8 n).length = 8 := by simp [bytes8]
theorem nth_bytes8 {n j : Nat} (h : j < 8) : nth (bytes8 n) j = ((n / 2 ^ (8 * j) % 256 : Nat) : Int) := by
  rw [nth_lt (by rw [bytes8_len]; exact h)]
  simp [bytes8]
theorem bytes8_turn (t n : Nat) (hn : n < 64) : (bytes8 t).set (n / 8) (ibits .xor .u8 (nth (bytes8 t) (n / 8)) (2 ^ (n % 8) : Nat)) = bytes8 (t ^^^ 2 ^ n) := by
  have hp : 2 ^ (n % 8) < 256 := Nat.pow_lt_pow_right (by decide : 1 < 2) (by omega : n % 8 < 8)
  have hj : n / 8 < 8 := by omega
  apply List.ext_getElem
  · simp [bytes8_len]
  · intro j h1 h2
    rw [bytes8_len] at h2
    have hx : ∀ j, j < 8 → (t ^^^ 2 ^ n) / 2 ^ (8 * j) % 256 = (t / 2 ^ (8 * j) % 256) ^^^ (if j = n / 8 then 2 ^ (n % 8) else 0) := by
      intro j _
      rw [div_xor, ← bit_byte n j]
      exact Nat.xor_mod_two_pow (n := 8)
    rw [List.getElem_set]
    by_cases e : n / 8 = j
    · rw [if_pos e, nth_bytes8 hj, xor_u8 (Nat.mod_lt _ (by decide)) hp]
      simp only [bytes8, List.getElem_map, List.getElem_range]
      rw [hx j h2, if_pos e.symm, e]
    · rw [if_neg e]
      simp only [bytes8, List.getElem_map, List.getElem_range]
      rw [hx j h2, if_neg (fun h => e h.symm), Nat.xor_zero]
theorem shl_u8 {r : Nat} (h : r < 8) : shlI .u8 1 (r : Int) = ((2 ^ r : Nat) : Int) := by
  have hp : 2 ^ r < 256 := Nat.pow_lt_pow_right (by decide : 1 < 2) h
  have e : min (Int.toNat (r : Int)) (IntKind.bits .u8) = r := by
    rw [Int.toNat_natCast]
    have : IntKind.bits .u8 = 8 := rfl
    omega
  unfold shlI
  rw [e, wrapm_u8, Int.one_mul]
  have : ((2 : Int) ^ r) = ((2 ^ r : Nat) : Int) := by norm_cast
  rw [this]
  generalize 2 ^ r = x at hp
  omega
theorem shr_bit {mask : Nat} {k : Nat} (hk : k < 32) : (Int.tmod (shrI IntKind.u32 (mask : Int) (k : Int)) 2 == 1) = mask.testBit k := by
  have e : min (Int.toNat (k : Int)) (IntKind.bits .u32) = k := by
    rw [Int.toNat_natCast]
    have : IntKind.bits .u32 = 32 := rfl
    omega
  unfold shrI
  rw [e, Int.fdiv_eq_ediv_of_nonneg _ (Int.le_of_lt (Int.pow_pos (by decide)))]
  have : ((mask : Int) / 2 ^ k) = ((mask / 2 ^ k : Nat) : Int) := by norm_cast
  rw [this, Int.tmod_eq_emod_of_nonneg (Int.natCast_nonneg _), Nat.testBit_eq_decide_div_mod_eq]
  by_cases h : mask / 2 ^ k % 2 = 1
  · rw [decide_eq_true h, beq_iff_eq]; omega
  · rw [decide_eq_false h, beq_eq_false_iff_ne]; omega
theorem sealed_bytes8 (op pair : Nat) (h1 : op < 256) (h2 : pair < 256) : ∃ n, sealed_ [199, 1, (op : Int), (pair : Int)] = bytes8 n ∧ sealed_ ((bytes8 n).take 4) = bytes8 n := by
  let w : BitVec 32 := BitVec.ofNat 32 (199 + 256 + 65536 * op + 16777216 * pair)
  have hw : w.toNat = 199 + 256 + 65536 * op + 16777216 * pair := by
    show (BitVec.ofNat 32 _).toNat = _
    rw [BitVec.toNat_ofNat]; omega
  have hb : [199, 1, (op : Int), (pair : Int)] = bytes4 w.toNat := by
    rw [hw]
    simp only [bytes4, List.cons.injEq, and_true]
    omega
  let s := crcSum (bytes4 w.toNat)
  let n := w.toNat + 2 ^ 32 * s.toNat
  have hlo : BitVec.ofNat 32 n = w := by
    apply BitVec.eq_of_toNat_eq
    have := w.isLt
    rw [BitVec.toNat_ofNat]
    show (w.toNat + 2 ^ 32 * s.toNat) % 2 ^ 32 = _
    omega
  have hhi : BitVec.ofNat 32 (n / 2 ^ 32) = s := by
    apply BitVec.eq_of_toNat_eq
    have := w.isLt
    have := s.isLt
    rw [BitVec.toNat_ofNat]
    show (w.toNat + 2 ^ 32 * s.toNat) / 2 ^ 32 % 2 ^ 32 = _
    omega
  have he : sealed_ [199, 1, (op : Int), (pair : Int)] = bytes8 n := by
    rw [hb, bytes8_split, hlo, hhi, sealed_, tail4]
  refine ⟨n, he, ?_⟩
  rw [← he]
  rfl
theorem spoilt {t : List Int} (hl : t.length = 8) (h : sealed_ (t.take 4) ≠ t) : readT t = (0, (0, 20)) := by
  unfold readT
  rw [if_neg (by omega), if_neg (by omega), if_pos h]
theorem P_law28_ReqBurst (c : Config) (s : Site) (id op pair at_ mask : Int) (ho : 0 ≤ op ∧ op ≤ 255) (hp : 0 ≤ pair ∧ pair ≤ 255) (ha : 0 ≤ at_ ∧ at_ ≤ 255) (hm : 0 ≤ mask ∧ mask ≤ 4294967295) : D_law28_ReqBurst c s id op pair at_ mask = some (true, ()) := by
  obtain ⟨op, rfl⟩ := Int.eq_ofNat_of_zero_le ho.1
  obtain ⟨pair, rfl⟩ := Int.eq_ofNat_of_zero_le hp.1
  obtain ⟨a, rfl⟩ := Int.eq_ofNat_of_zero_le ha.1
  obtain ⟨mask, rfl⟩ := Int.eq_ofNat_of_zero_le hm.1
  have hl8 : (((sealed_ [199, 1, (op : Int), (pair : Int)]).length : Nat) : Int) = 8 := rfl
  simp only [D_law28_ReqBurst, N_law28_alive, b1, Option.bind_some, N_req_Write, N_ref21_Great, hl8, if_true]
  by_cases h : smallSite s = true
  case neg =>
    simp only [Bool.not_eq_true] at h
    simp only [h, Bool.not_false, if_true]
  simp only [h, Bool.not_true, Bool.false_eq_true, if_false, Bool.false_eq_true, bne_self_eq_false]
  obtain ⟨n, hn, hs⟩ := sealed_bytes8 op pair (by omega) (by omega)
  rw [hn]
  have e0 : bytes8 n = bytes8 (n ^^^ turnedBits mask (a % 64) 0) := by
    have : turnedBits mask (a % 64) 0 = 0 := by simp [turnedBits, Nat.mod_one]
    rw [this, Nat.xor_zero]
  have e1 : false = decide (turnedBits mask (a % 64) 0 ≠ 0) := by
    have : turnedBits mask (a % 64) 0 = 0 := by simp [turnedBits, Nat.mod_one]
    rw [this]; rfl
  refine (congrArg (fun y => loopO (D_law28_ReqBurst_l2 c s) (id, ((a : Int), ((mask : Int), (true, (y, (false, ((0 : Int), ())))))))) e0).trans ?_
  refine (congrArg (fun z => loopO (D_law28_ReqBurst_l2 c s) (id, ((a : Int), ((mask : Int), (true, (bytes8 (n ^^^ turnedBits mask (a % 64) 0), (z, ((0 : Int), ())))))))) e1).trans ?_
  refine loopO_for (step := D_law28_ReqBurst_l2 c s) (fun k => (id, ((a : Int), ((mask : Int), (true, (bytes8 (n ^^^ turnedBits mask (a % 64) k), (decide (turnedBits mask (a % 64) k ≠ 0), ((k : Int), ())))))))) 32 _ (fun k hk => ?_) ?_
  · have hd : decide ((k : Int) < 32) = true := by simp; omega
    have hw64 : IntKind.wrap .u64 (k : Int) = (k : Int) := wrap_u64 (by omega) (by omega)
    have hd2 : decide ((0 : Int) ≤ (k : Int)) = true := by simp
    have hn64 : ((64 : Int) != 0) = true := rfl
    have hn2 : ((2 : Int) != 0) = true := rfl
    have hn8 : ((8 : Int) != 0) = true := rfl
    have htm : Int.tmod (a : Int) 64 = ((a % 64 : Nat) : Int) := rfl
    have hwa : IntKind.wrap .i64 ((a % 64 : Nat) : Int) = ((a % 64 : Nat) : Int) := wrap_i64 (by omega) (by omega)
    have hwk : IntKind.wrap .i64 (((a % 64 : Nat) : Int) + (k : Int)) = ((a % 64 + k : Nat) : Int) := wrap_i64 (by omega) (by omega)
    have hws : IntKind.wrap .i64 ((k : Int) + 1) = ((k + 1 : Nat) : Int) := wrap_succ (k := k) (by rw [maxLen_eq]; omega)
    simp only [D_law28_ReqBurst_l2, hd, hn64, hn2, hn8, hw64, hd2, htm, hwa, hwk, hws, if_true, shr_bit hk]
    by_cases hb : mask.testBit k = true
    · by_cases hlt : a % 64 + k < 64
      · have hd3 : decide (((a % 64 + k : Nat) : Int) < 64) = true := by simp; omega
        have hdiv : IntKind.wrap .i64 (Int.tdiv ((a % 64 + k : Nat) : Int) 8) = (((a % 64 + k) / 8 : Nat) : Int) := by
          have : Int.tdiv ((a % 64 + k : Nat) : Int) 8 = (((a % 64 + k) / 8 : Nat) : Int) := rfl
          rw [this]; exact wrap_i64 (by omega) (by omega)
        have hmod : IntKind.wrap .u64 (Int.tmod ((a % 64 + k : Nat) : Int) 8) = (((a % 64 + k) % 8 : Nat) : Int) := by
          have : Int.tmod ((a % 64 + k : Nat) : Int) 8 = (((a % 64 + k) % 8 : Nat) : Int) := rfl
          rw [this]; exact wrap_u64 (by omega) (by omega)
        have hd4 : decide ((0 : Int) ≤ (((a % 64 + k) / 8 : Nat) : Int) ∧ (((a % 64 + k) / 8 : Nat) : Int) < (8 : Nat)) = true := by simp; omega
        have hd5 : decide ((0 : Int) ≤ (((a % 64 + k) % 8 : Nat) : Int)) = true := by simp; omega
        have hset := bytes8_turn (n ^^^ turnedBits mask (a % 64) k) (a % 64 + k) hlt
        rw [Nat.xor_assoc, ← turned_one hb hlt] at hset
        have htr : decide (turnedBits mask (a % 64) (k + 1) ≠ 0) = true := decide_eq_true (turned_ne hb hlt)
        have hsh := shl_u8 (r := (a % 64 + k) % 8) (by omega)
        simp only [hb, hd3, hdiv, hmod, bytes8_len, hd4, hd5, if_true, Int.toNat_natCast, hsh, hset, htr]
      · have hd3 : ¬ (decide (((a % 64 + k : Nat) : Int) < 64) = true) := by simp; omega
        rw [turned_same (Or.inr (by omega))]
        simp only [hb, if_true, hd3, if_false, Bool.false_eq_true]
    · simp only [Bool.not_eq_true] at hb
      rw [turned_same (Or.inl hb)]
      simp only [hb, Bool.false_eq_true, if_false, Bool.false_eq_true]
  · have hd : ¬ (decide (((32 : Nat) : Int) < 32) = true) := by simp
    simp only [D_law28_ReqBurst_l2, hd, if_false, Bool.false_eq_true]
    refine congrArg (Option.map Sum.inr) ?_
    simp only [D_law28_ReqBurst_t1, N_req_Submit, h, if_true, Option.bind_some]
    by_cases ht : turnedBits mask (a % 64) 32 = 0
    · simp only [ht, ne_eq, not_true_eq_false, decide_false, Bool.not_false, if_true, ite_self]
    · have hr : readT (bytes8 (n ^^^ turnedBits mask (a % 64) 32)) = (0, (0, 20)) := by
        apply spoilt (bytes8_len _)
        intro h2
        exact ht (burst_sealed n _ (a % 64) (mask % 2 ^ 32) (Nat.mod_lt _ (by decide)) rfl hs h2)
      have hl : ¬ ((bytes8 (n ^^^ turnedBits mask (a % 64) 32)).length > 4096) := by rw [bytes8_len]; decide
      simp only [submitT, hr, hl, if_false, Bool.false_eq_true]
      by_cases hms : maySite c s = true
      · have q := small_r h
        have hq := q.plan
        have hpl : ((s.plan ++ [(⟨4, 0, [], 0, 0, noMsg, ⟨id, 20, 0, []⟩, 0⟩ : Act)]).length : Int) = (s.plan.length : Int) + 1 := by simp
        have hw : IntKind.wrap .i64 ((s.plan.length : Int) + 1) = (s.plan.length : Int) + 1 := wrap_i64 (by omega) (by omega)
        have hnth : nth (s.plan ++ [(⟨4, 0, [], 0, 0, noMsg, ⟨id, 20, 0, []⟩, 0⟩ : Act)]) s.plan.length = ⟨4, 0, [], 0, 0, noMsg, ⟨id, 20, 0, []⟩, 0⟩ := by simp [nth]
        have htk : (s.plan ++ [(⟨4, 0, [], 0, 0, noMsg, ⟨id, 20, 0, []⟩, 0⟩ : Act)]).take s.plan.length = s.plan := by simp
        have g1 : decide (((0 : Int) ≤ (((List.length s.plan) : Nat) : Int)) ∧ ((((List.length s.plan) : Nat) : Int) < (s.plan.length : Int) + 1)) = true := by simp; omega
        have g2 : decide (((0 : Int) ≤ (0 : Int)) ∧ (((0 : Int) ≤ (((List.length s.plan) : Nat) : Int)) ∧ (((((List.length s.plan) : Nat) : Int) ≤ (s.plan.length : Int) + 1) ∧ ((s.plan.length : Int) + 1 ≤ (s.plan.length : Int) + 1)))) = true := by simp; omega
        have nt : decide (turnedBits mask (a % 64) 32 ≠ 0) = true := decide_eq_true ht
        simp only [hms, if_true, ne_eq, show ((20 : Int) = 0) = False by simp, not_false_eq_true, bne_self_eq_false, Bool.false_eq_true, if_false, Bool.false_eq_true, answered, planned, hpl, hw, g1, g2, hnth, beq_self_eq_true, Int.toNat_natCast, htk, Int.toNat_zero, List.drop_zero, N_ref21_Same, b1, Option.bind_some, decide_not, ht, decide_false, Bool.not_false, Bool.not_true, ite_self]
      · simp only [Bool.not_eq_true] at hms
        simp only [hms, Bool.false_eq_true, if_false, Bool.false_eq_true]
        rfl
end Go.Cat

set_option linter.unusedVariables false
namespace Go.Cat
open Go
theorem okI_u32 {n : Int} (h : OkT (.int .u32) n) : 0 ≤ n ∧ n < 4294967296 := by
  have := okL_u32 (h (.int .u32 n) (List.mem_singleton.2 rfl)); omega
theorem okI_u8 {n : Int} (h : OkT (.int .u8) n) : 0 ≤ n ∧ n ≤ 255 := okL_u8 (h (.int .u8 n) (List.mem_singleton.2 rfl))
theorem Q_act_Twin (x : TT [(.st .Site)]) (r : TT [(.st .Site)]) (h : OkTT [(.st .Site)] x) (hn : N_act_Twin x = some r) : D_act_Twin x.1 = some r := (P_act_Twin x.1 (ite_some hn)).trans hn
theorem Q_sess_Twin (x : TT [(.st .End)]) (r : TT [(.st .End)]) (h : OkTT [(.st .End)] x) (hn : N_sess_Twin x = some r) : D_sess_Twin x.1 = some r := (P_sess_Twin x.1 (ite_some hn)).trans hn
theorem Q_disk_Twin (x : TT [(.st .Disk)]) (r : TT [(.st .Disk)]) (h : OkTT [(.st .Disk)] x) (hn : N_disk_Twin x = some r) : D_disk_Twin x.1 = some r := (P_disk_Twin x.1 (ite_some hn)).trans hn
theorem Q_msg_Twin (x : TT [(.st .Msg)]) (r : TT [(.st .Msg)]) (h : OkTT [(.st .Msg)] x) (hn : N_msg_Twin x = some r) : D_msg_Twin x.1 = some r := (P_msg_Twin x.1 (ite_some hn)).trans hn
theorem Q_ring_Twin (x : TT [(.st .Queue)]) (r : TT [(.st .Queue)]) (h : OkTT [(.st .Queue)] x) (hn : N_ring_Twin x = some r) : D_ring_Twin x.1 = some r := (P_ring_Twin x.1 (ite_some hn)).trans hn
theorem Q_act_reply (x : TT [(.st .Reply)]) (r : TT [(.st .Reply)]) (h : OkTT [(.st .Reply)] x) (hn : N_act_reply x = some r) : D_act_reply x.1 = some r := (P_act_reply x.1 (ite_some hn)).trans hn
theorem Q_crc_Sum (x : TT [(.sl (.int .u8))]) (r : TT [(.int .u32)]) (h : OkTT [(.sl (.int .u8))] x) (hn : N_crc_Sum x = some r) : D_crc_Sum x.1 = some r := (P_crc_Sum x.1).trans hn
theorem Q_crc_Seal (x : TT [(.sl (.int .u8))]) (r : TT [(.sl (.int .u8)), (.int .i64)]) (h : OkTT [(.sl (.int .u8))] x) (hn : N_crc_Seal x = some r) : D_crc_Seal x.1 = some r := (P_crc_Seal x.1).trans hn
theorem Q_crc_Open (x : TT [(.sl (.int .u8))]) (r : TT [(.sl (.int .u8)), (.int .i64)]) (h : OkTT [(.sl (.int .u8))] x) (hn : N_crc_Open x = some r) : D_crc_Open x.1 = some r := (P_crc_Open x.1 (okSl h.1)).trans hn
theorem Q_crc_More (x : TT [(.int .u32), (.sl (.int .u8))]) (r : TT [(.int .u32)]) (h : OkTT [(.int .u32), (.sl (.int .u8))] x) (hn : N_crc_More x = some r) : D_crc_More x.1 x.2.1 = some r := (P_crc_More x.1 x.2.1 (okI_u32 h.1).1 (okI_u32 h.1).2 (okSl h.2.1)).trans hn
theorem Q_crc_sum_take (x : TT [(.int .u32), (.int .u8)]) (r : TT [(.int .u32)]) (h : OkTT [(.int .u32), (.int .u8)] x) (hn : N_crc_sum_take x = some r) : D_crc_sum_take x.1 x.2.1 = some r := (P_crc_sum_take x.1 x.2.1 (okI_u32 h.1).1 (okI_u32 h.1).2 (okI_u8 h.2.1).1 (Int.lt_of_le_of_lt (okI_u8 h.2.1).2 (by decide))).trans hn
theorem Q_ref02_Taken (x : TT [(.int .u32), (.int .u8)]) (r : TT [(.int .u32)]) (h : OkTT [(.int .u32), (.int .u8)] x) (hn : N_ref02_Taken x = some r) : D_ref02_Taken x.1 x.2.1 = some r := (P_ref02_Taken x.1 x.2.1 (okI_u32 h.1).1 (okI_u32 h.1).2 (okI_u8 h.2.1).1 (Int.lt_of_le_of_lt (okI_u8 h.2.1).2 (by decide))).trans hn
theorem Q_ref02_Behind (x : TT [(.int .u32), (.sl (.int .u8))]) (r : TT [(.int .u32)]) (h : OkTT [(.int .u32), (.sl (.int .u8))] x) (hn : N_ref02_Behind x = some r) : D_ref02_Behind x.1 x.2.1 = some r := (P_ref02_Behind x.1 x.2.1 (okI_u32 h.1).1 (okI_u32 h.1).2 (okSl h.2.1)).trans hn
theorem Q_ref02_Sum (x : TT [(.sl (.int .u8))]) (r : TT [(.int .u32)]) (h : OkTT [(.sl (.int .u8))] x) (hn : N_ref02_Sum x = some r) : D_ref02_Sum x.1 = some r := (P_ref02_Sum x.1).trans hn
theorem Q_ref02_Sealed (x : TT [(.sl (.int .u8))]) (r : TT [(.sl (.int .u8))]) (h : OkTT [(.sl (.int .u8))] x) (hn : N_ref02_Sealed x = some r) : D_ref02_Sealed x.1 = some r := (P_ref02_Sealed x.1 (ite_some hn)).trans hn
theorem Q_req_Read (x : TT [(.sl (.int .u8))]) (r : TT [(.int .u8), (.int .u8), (.int .i64)]) (h : OkTT [(.sl (.int .u8))] x) (hn : N_req_Read x = some r) : D_req_Read x.1 = some r := (P_req_Read x.1).trans hn
theorem Q_ref28_Read (x : TT [(.sl (.int .u8))]) (r : TT [(.int .u8), (.int .u8), (.int .i64)]) (h : OkTT [(.sl (.int .u8))] x) (hn : N_ref28_Read x = some r) : D_ref28_Read x.1 = some r := (P_ref28_Read x.1).trans hn
theorem Q_req_Write (x : TT [(.int .u8), (.int .u8)]) (r : TT [(.sl (.int .u8))]) (h : OkTT [(.int .u8), (.int .u8)] x) (hn : N_req_Write x = some r) : D_req_Write x.1 x.2.1 = some r := (P_req_Write x.1 x.2.1).trans hn
theorem Q_host_Answer (x : TT [(.st .Config), (.st .Site), (.st .Reply)]) (r : TT [(.st .Site), (.int .i64)]) (h : OkTT [(.st .Config), (.st .Site), (.st .Reply)] x) (hn : N_host_Answer x = some r) : D_host_Answer x.1 x.2.1 x.2.2.1 = some r := (P_host_Answer x.1 x.2.1 x.2.2.1 (ite_some hn).1 (ite_some hn).2).trans hn
theorem Q_site_Ask (x : TT [(.st .Config), (.st .Site), (.st .Ask)]) (r : TT [(.st .Site), (.int .i64)]) (h : OkTT [(.st .Config), (.st .Site), (.st .Ask)] x) (hn : N_site_Ask x = some r) : D_site_Ask x.1 x.2.1 x.2.2.1 = some r := (P_site_Ask x.1 x.2.1 x.2.2.1 (ite_some hn).1 (ite_some hn).2).trans hn
theorem Q_req_Submit (x : TT [(.st .Config), (.st .Site), (.int .i64), (.sl (.int .u8))]) (r : TT [(.st .Site), (.int .i64)]) (h : OkTT [(.st .Config), (.st .Site), (.int .i64), (.sl (.int .u8))] x) (hn : N_req_Submit x = some r) : D_req_Submit x.1 x.2.1 x.2.2.1 x.2.2.2.1 = some r := (P_req_Submit x.1 x.2.1 x.2.2.1 x.2.2.2.1 (ite_some hn) (okU8 h.2.2.2.1)).trans hn
theorem Q_ref28_Submit (x : TT [(.st .Config), (.st .Site), (.int .i64), (.sl (.int .u8))]) (r : TT [(.st .Site), (.int .i64)]) (h : OkTT [(.st .Config), (.st .Site), (.int .i64), (.sl (.int .u8))] x) (hn : N_ref28_Submit x = some r) : D_ref28_Submit x.1 x.2.1 x.2.2.1 x.2.2.2.1 = some r := (P_ref28_Submit x.1 x.2.1 x.2.2.1 x.2.2.2.1 (ite_some hn)).trans hn
theorem Q_ref28_Submitted (x : TT [(.st .Site), (.int .i64), (.sl (.int .u8))]) (r : TT [(.st .Site), .bool]) (h : OkTT [(.st .Site), (.int .i64), (.sl (.int .u8))] x) (hn : N_ref28_Submitted x = some r) : D_ref28_Submitted x.1 x.2.1 x.2.2.1 = some r := (P_ref28_Submitted x.1 x.2.1 x.2.2.1 (ite_some hn) (okU8 h.2.2.1)).trans hn
theorem Q_ref22_Code (x : TT [(.st .Site), (.int .i64), (.int .i64)]) (r : TT [(.st .Site)]) (h : OkTT [(.st .Site), (.int .i64), (.int .i64)] x) (hn : N_ref22_Code x = some r) : D_ref22_Code x.1 x.2.1 x.2.2.1 = some r := (P_ref22_Code x.1 x.2.1 x.2.2.1 (ite_some hn)).trans hn
theorem Q_ref22_Answered (x : TT [(.st .Site), (.st .Reply)]) (r : TT [(.st .Site)]) (h : OkTT [(.st .Site), (.st .Reply)] x) (hn : N_ref22_Answered x = some r) : D_ref22_Answered x.1 x.2.1 = some r := (P_ref22_Answered x.1 x.2.1 (ite_some hn)).trans hn
theorem Q_ref27_Asked (x : TT [(.st .Site), (.st .Ask)]) (r : TT [(.st .Site), .bool]) (h : OkTT [(.st .Site), (.st .Ask)] x) (hn : N_ref27_Asked x = some r) : D_ref27_Asked x.1 x.2.1 = some r := (P_ref27_Asked x.1 x.2.1).trans hn
theorem Q_law28_alive (x : TT []) (r : TT [.bool]) (h : OkTT [] x) (hn : N_law28_alive x = some r) : D_law28_alive = some r := P_law28_alive.trans hn
end Go.Cat

namespace Go.Cat
open Go
variable {P : Program} {E : Env} {R : CallRel} {ops : Array Oper} {w0 : Pt} {β : Pl} {ro : Snap} {D : Nat → Prop} {w : World}
theorem not_defer_of_call {op : Op} {x : Operand × Array Operand} (h : callOf op = some x) : ∀ c, op ≠ .defer c := by
  rintro c rfl
  simp [callOf] at h
theorem not_defer_of_op {ρ : Operand → SV} {nid : Nat} {op : Op} {H : Heap} {rs : List Nat} {r : Ans × List Nat} (h : (opT E ρ nid op).run H rs = some r) : ∀ c, op ≠ .defer c := by
  rintro c rfl
  simp [opT, OT.run] at h
theorem step_in (lp m : Nat) (hE : TysOk P E) (hR : CallGood P R) (hS : SpecSound P E) {i : Nat} {o : Oper} (hi : ops[i]? = some o) {S : St} {a : Go.Act} (hs : Sat w0 β ro D S a w) {nid : Nat} {g : Bool} {v : SV} {m' : Mem} {fp : Foot}
    (hc : Core E R ops nid g o S.tmps S.m v m' fp) (hn : ∀ k, k < 64 → ¬ D (nid + k)) (hDm : ∀ id, D id → id < S.m.next) {K : Go.Act → World → Prop} {Q : Exit → Go.Act → World → Prop}
    (hK : ∀ a' w' β' ro', β.ext β' → ro.ext ro' → Sat w0 β' ro' (fun id => D id ∨ (nid ≤ id ∧ id < nid + 64) ∨ (S.m.next ≤ id ∧ id < m'.next)) ⟨setT S.tmps o.dst v, m'⟩ a' w' → K a' w') : wpOpIn (Fence.wide.inRound lp) m P ops Q i K a w := by
  unfold wpOpIn
  simp only [hi]
  have lit : ∀ {β' : Pl} {ro' : Snap} {v : SV} {x : Value}, RepS β' ro' v x → RepS β' ro' (litV g v) x := by
    intro β' ro' v x hv
    unfold litV
    split
    · cases hv with | leaf h => cases h with | bool b => exact .lit (.inl rfl)
    · exact hv
  cases hc with
  | off hw =>
    rw [wanted_sound hs hw]
    exact ⟨fun _ _ => trivial, hK _ _ β ro β.ext_refl ro.ext_refl (hs.put β.ext_refl ro.ext_refl (hs.h.less (fun _ _ h => h) (fun id h => .inl h)) (.lit (.inr rfl)) o.dst)⟩
  | op hw t ht v u rs hr =>
    rw [wanted_sound hs hw, if_pos rfl]
    refine ⟨fun _ _ => trivial, ?_⟩
    unfold otOf at ht
    split at ht
    · rename_i f args hcall
      split at ht
      · rename_i n as hcal
        split at ht
        · rename_i s hspec
          cases ht
          obtain ⟨he, hgood⟩ := hS.good n s nid as S.m.objs v u rs hspec hr
          obtain ⟨vs, hvs, hrun⟩ := call_run (P := P) (w := w) hs.ev hcall hcal he
          have hcalls := hgood w0 β ro D w vs hs.h hn hvs
          rw [Oper.semAt_eq _ _ _ (not_defer_of_call hcall), hrun]
          refine ⟨fun h => (by cases h), CallsIn.mono (CallsIn.inRound lp (callsIn_wide.2 hcalls)) ?_⟩
          rintro e w' ⟨x, β', ro', rfl, h1, h2, h3, h4⟩
          exact hK _ _ β' ro' h1 h2 (hs.put h1 h2 (h4.less (fun _ _ h => h) (fun id h => h.imp (fun x => x) .inl)) (lit h3) o.dst)
        · cases ht
      · cases ht
    · cases ht
      obtain ⟨w', β', ro', h1, h2, h3, h4⟩ := op_sound (P := P) (o := o) (D' := fun id => D id ∨ (nid ≤ id ∧ id < nid + 64) ∨ (S.m.next ≤ id ∧ id < S.m.next)) hE hs.h hs.ev (by simpa using hn 0 (by omega)) (fun id h => .inl h) (.inr (.inl ⟨Nat.le_refl _, by omega⟩)) hr
      rw [Oper.semAt_eq _ _ _ (not_defer_of_op hr)]
      rcases h4 with ⟨x, h5, h6⟩ | ⟨h5, rfl⟩
      · rw [h5]
        exact hK _ _ β' ro' h1 h2 (hs.put h1 h2 h3 (lit h6) o.dst)
      · rw [h5]
        exact hK _ _ β' ro' h1 h2 (hs.put h1 h2 h3 (lit (.lit (.inr rfl))) o.dst)
  | call hw n as ht v m' hr =>
    rw [wanted_sound hs hw, if_pos rfl]
    refine ⟨fun _ _ => trivial, ?_⟩
    obtain ⟨he, hfr, hgood⟩ := hR.good n as S.m v m' hr
    unfold inlOf at ht
    split at ht
    · rename_i f args hcall
      split at ht
      · rename_i n' as' hcal
        split at ht
        · cases ht
        · cases ht
          obtain ⟨vs, hvs, hrun⟩ := call_run (P := P) (w := w) hs.ev hcall hcal he
          have hcalls := hgood w0 β ro D w vs hs.h hDm hvs
          rw [Oper.semAt_eq _ _ _ (not_defer_of_call hcall), hrun]
          refine ⟨fun h => (by cases h), CallsIn.mono (CallsIn.inRound lp (callsIn_wide.2 hcalls)) ?_⟩
          rintro e w' ⟨x, β', ro', rfl, h1, h2, h3, h4⟩
          exact hK _ _ β' ro' h1 h2 (hs.put h1 h2 (h4.less (fun _ _ h => h) (fun id h => h.imp (fun x => x) .inr)) (lit h3) o.dst)
      · cases ht
    · cases ht
section
variable (hE : TysOk P E) (hR : CallGood P R) (hS : SpecSound P E)
include hE hR hS
theorem run_text_in (lp m : Nat) {D0 : Nat → Prop} {base : Nat} (h0 : ∀ id, D0 id → id < base) {fps : Nat → Foot} {Q : Exit → Go.Act → World → Prop} : ∀ {l : List Nat} {S S' : St}, RunL E R ops base fps l S S' → ∀ (isDone : Nat → Prop) (β : Pl) (ro : Snap) (a : Go.Act) (w : World),
    (∀ i ∈ l, i < ops.size ∧ ¬ isDone i) → l.Nodup → base + 64 * ops.size ≤ S.m.next → Sat w0 β ro (Taken D0 base ops.size isDone S.m.next) S a w →
    (∀ a' w' β' ro', β.ext β' → ro.ext ro' → Sat w0 β' ro' (fun id => D0 id ∨ (base ≤ id ∧ id < S'.m.next)) S' a' w' → Q .normal a' w') → wpOpsIn (Fence.wide.inRound lp) m P ops Q l a w := by
  intro l S S' h
  induction h with
  | nil S =>
    intro isDone β ro a w _ _ hn hs hq
    exact hq a w β ro β.ext_refl ro.ext_refl ⟨hs.h.less (fun _ _ h => h) (Taken.out hn), hs.sz, hs.t, hs.df⟩
  | @cons i rest S S' o hi v m' hs hr ih =>
    intro isDone β ro a w hl hnd hn hsat hq
    obtain ⟨hin, hid⟩ := hl i List.mem_cons_self
    rw [wpOpsIn_cons]
    have hle := hs.next hR
    refine step_in lp m hE hR hS hi hsat hs (fun k hk => Taken.fresh h0 hin hid k hk) (Taken.lt h0 hn) fun a' w' β' ro' hb hr' hsat' => ?_
    refine ih (fun j => isDone j ∨ j = i) β' ro' a' w' (fun j hj => ?_) (List.nodup_cons.1 hnd).2 (Nat.le_trans hn hle) ?_ (fun a'' w'' β'' ro'' k1 k2 k3 => hq a'' w'' β'' ro'' (Pl.ext_trans hb k1) (Snap.ext_trans hr' k2) k3)
    · obtain ⟨q1, q2⟩ := hl j (List.mem_cons_of_mem _ hj)
      exact ⟨q1, fun hor => hor.elim q2 fun e => (List.nodup_cons.1 hnd).1 (e ▸ hj)⟩
    · exact ⟨hsat'.h.less (fun _ _ h => h) (Taken.step hin hn hle), hsat'.sz, hsat'.t, hsat'.df⟩
theorem run_any_in (lp m : Nat) {D0 : Nat → Prop} {base : Nat} (h0 : ∀ id, D0 id → id < base) {fps : Nat → Foot} {Q : Exit → Go.Act → World → Prop} (hback : ∀ j o, ops[j]? = some o → ∀ e ∈ o.after.toList, Region.binds .any e = true → e.on < j)
    (hind : ∀ p q a b, p < q → ops[p]? = some a → ops[q]? = some b → (((ancs ops.toList)[q]?).getD 0).testBit p = true ∨ (Apart ops a b ∧ FootApart (fps p) (fps q))) :
    ∀ (n : Nat) (l : List Nat) (listed : Array Bool) (S S' : St) (β : Pl) (ro : Snap) (a : Go.Act) (w : World), l.length = n → Left ops listed l → RunL E R ops base fps l S S' →
    base + 64 * ops.size ≤ S.m.next → Sat w0 β ro (Taken D0 base ops.size (fun j => listed.getD j false = true) S.m.next) S a w →
    (∀ a' w' β' ro', β.ext β' → ro.ext ro' → Sat w0 β' ro' (fun id => D0 id ∨ (base ≤ id ∧ id < S'.m.next)) S' a' w' → Q .normal a' w') → wpAnyIn (Fence.wide.inRound lp) m P .any ops Q n listed a w := by
  intro n
  induction n with
  | zero =>
    intro l listed S S' β ro a w hlen hl hr hn hs hq
    have : l = [] := List.eq_nil_of_length_eq_zero hlen
    subst this
    refine ⟨?_, ?_⟩
    · rw [List.eq_nil_iff_forall_not_mem]
      intro i hi
      obtain ⟨h1, h2, _⟩ := ready_mem hi
      have := (hl.mem i).2 ⟨h1, h2⟩
      cases this
    · cases hr with
      | nil => exact hq a w β ro β.ext_refl ro.ext_refl ⟨hs.h.less (fun _ _ h => h) (Taken.out hn), hs.sz, hs.t, hs.df⟩
  | succ n ih =>
    intro l listed S S' β ro a w hlen hl hr hn hs hq
    refine ⟨fun hnil => ?_, fun i hi => ?_⟩
    ·
      cases l with
      | nil => simp at hlen
      | cons i r =>
        exfalso
        obtain ⟨h1, h2⟩ := (hl.mem i).1 List.mem_cons_self
        have ho := Array.getElem?_eq_getElem h1
        have : i ∈ Region.ready .any ops listed := by
          unfold Region.ready
          rw [List.mem_filter, List.mem_range]
          refine ⟨h1, ?_⟩
          simp only [Bool.and_eq_true, Bool.not_eq_true']
          refine ⟨h2, ?_⟩
          rw [ho]
          simp only [Option.map_some, Option.getD_some, Array.all_eq_true', Bool.or_eq_true, Bool.not_eq_true']
          intro e he
          cases hb : Region.binds .any e with
          | false => exact .inl rfl
          | true =>
            refine .inr ?_
            have hlt := hback i _ ho e (by simpa using he) hb
            cases hd : listed.getD e.on true with
            | false =>
              have hm := (hl.mem e.on).2 ⟨by omega, hd⟩
              have hpw := List.pairwise_cons.1 hl.sorted
              rcases List.mem_cons.1 hm with h | h
              · omega
              · have := hpw.1 _ h; omega
            | true =>
              have hsz : e.on < listed.size := by rw [hl.size]; omega
              rw [Array.getD_eq_getD_getElem?, Array.getElem?_eq_getElem hsz] at hd ⊢
              exact hd
        rw [hnil] at this; cases this
    · obtain ⟨h1, h2, o, ho, hdep⟩ := ready_mem hi
      have him := (hl.mem i).2 ⟨h1, h2⟩
      obtain ⟨pre, post, rfl⟩ := List.append_of_mem him
      obtain ⟨s1, s2, s3⟩ := sorted_split hl.sorted
      have hiL : i < listed.size := by rw [hl.size]; exact h1
      have hpre : ∀ j ∈ pre, ∀ oj, ops[j]? = some oj → Apart ops oj o ∧ FootApart (fps j) (fps i) := by
        intro j hj oj hoj
        rcases hind j i oj o (s1 j hj) hoj ho with h | h
        · exfalso
          have hlj := hl.anc (i + 1) i (by omega) o ho hdep j h
          obtain ⟨q1, q2⟩ := (hl.mem j).1 (List.mem_append_left _ hj)
          have hsz : j < listed.size := by rw [hl.size]; exact q1
          rw [Array.getD_eq_getD_getElem?, Array.getElem?_eq_getElem hsz] at hlj q2
          rw [Option.getD_some] at hlj q2
          rw [hlj] at q2; cases q2
        · exact h
      obtain ⟨v, m', k1, k2⟩ := RunL.front (fun _ _ _ _ _ h => (hR.good _ _ _ _ _ h).2.1) ho pre hpre hr
      have hnotdone : ¬ (listed.getD i false = true) := by
        rw [Array.getD_eq_getD_getElem?, Array.getElem?_eq_getElem hiL] at h2 ⊢
        rw [Option.getD_some] at h2 ⊢
        rw [h2]; simp
      have hle := k1.next hR
      refine step_in lp m hE hR hS ho hs k1 (fun k hk => Taken.fresh h0 h1 hnotdone k hk) (Taken.lt h0 hn) fun a' w' β' ro' hb hr' hsat' => ?_
      refine ih (pre ++ post) (listed.setIfInBounds i true) _ S' β' ro' a' w' (by simp at hlen ⊢; omega) ⟨by simp [hl.size], s2, fun j => ?_, fun j oj hoj hlj e he hbd => ?_⟩ k2 (Nat.le_trans hn hle) ?_
        (fun a'' w'' β'' ro'' q1 q2 q3 => hq a'' w'' β'' ro'' (Pl.ext_trans hb q1) (Snap.ext_trans hr' q2) q3)
      · rw [getD_set hiL]
        by_cases hji : j = i
        · subst hji; simp [s3]
        · rw [if_neg hji, ← hl.mem j]
          simp [hji]
      · rw [getD_set hiL] at hlj ⊢
        by_cases heo : e.on = i
        · simp [heo]
        · rw [if_neg heo]
          by_cases hji : j = i
          · subst hji
            rw [ho] at hoj; cases hoj
            exact hdep e he hbd
          · rw [if_neg hji] at hlj
            exact hl.closed j oj hoj hlj e he hbd
      · refine ⟨hsat'.h.less (fun _ _ h => h) fun id hid => ?_, hsat'.sz, hsat'.t, hsat'.df⟩
        have := Taken.step h1 hn hle id hid
        rcases this with h | ⟨j, q1, q2, q3, q4⟩ | h
        · exact .inl h
        · refine .inr (.inl ⟨j, q1, ?_, q3, q4⟩)
          show (listed.setIfInBounds i true).getD j false = true
          rw [getD_set hiL]
          rcases q2 with q2 | rfl
          · split
            · rfl
            · exact q2
          · simp
        · exact .inr (.inr h)
end
theorem regionK_in (lp m : Nat) (hE : TysOk P E) (hR : CallGood P R) (hS : SpecSound P E) (hmix : P.follows .mixedOrders = true) {call : CallK} (hc : CallDen R call) {draw : Bool} {X : Type} {S : St} {k : St → Tr X} {r : X}
    (h : (regionK E call ops draw S k).den = some r) : ∃ S', (k S').den = some r ∧ MFrame S.m S'.m ∧ ∀ (w0 : Pt) (β : Pl) (ro : Snap) (D0 : Nat → Prop) (a : Go.Act) (w : World) (id : Nat) (Q : Exit → Go.Act → World → Prop), (∀ id, D0 id → id < S.m.next) →
      Sat w0 β ro D0 S a w → (∀ a' w' β' ro', β.ext β' → ro.ext ro' → Sat w0 β' ro' (fun id => D0 id ∨ (S.m.next ≤ id ∧ id < S'.m.next)) S' a' w' → Q .normal a' w') → (Code.region id ops draw).wpIn (Fence.wide.inRound lp) m P Q a w := by
  unfold regionK at h
  obtain ⟨S1, ff, h1, h2⟩ := opsK_den hc ops.toList 0 (fun j => by simp) h
  simp only [List.reverse_nil, List.nil_append, Array.length_toList] at h1 h2
  have hrange : List.range' 0 ops.size = List.range ops.size := List.range_eq_range'.symm
  split at h2
  · rename_i hchk
    have hnext := h1.next hR
    simp only at hnext
    refine ⟨_, h2, ?_, ?_⟩
    · obtain ⟨new, e1, e2⟩ := h1.frame hR
      refine ⟨by simp only; omega, ((List.range' 0 ops.size).map ff).flatMap (·.wr) ++ new, by simp only; rw [e1, List.append_assoc], fun id hid hn => ?_⟩
      simp only [List.mem_append, not_or] at hn
      refine e2 id (by simp only; omega) hn.2 ?_
      simpa [List.flatMap_map] using hn.1
    · intro w0 β ro D0 a w rid Q hD0 hs hq
      have hs0 : ∀ isDone : Nat → Prop, (∀ j, ¬ isDone j) → Sat w0 β ro (Taken D0 S.m.next ops.size isDone (S.m.next + 64 * ops.size)) { S with m := { S.m with next := S.m.next + 64 * ops.size } } a w := fun isDone _ =>
        ⟨hs.h.less (fun _ _ h => h) (fun id hid => .inl hid), hs.sz, hs.t, hs.df⟩
      cases draw with
      | false =>
        refine wpIn_region ?_
        rw [← hrange]
        refine run_text_in hE hR hS lp m hD0 h1 (fun _ => False) β ro a w (fun i hi => ⟨by rw [hrange] at hi; exact List.mem_range.1 hi, fun h => h⟩) (by rw [hrange]; exact List.nodup_range) (Nat.le_refl _) (hs0 _ (fun _ h => h))
          fun a' w' β' ro' k1 k2 k3 => hq a' w' β' ro' k1 k2 ⟨k3.h, k3.sz, k3.t, k3.df⟩
      | true =>
        simp only [Bool.not_true, Bool.false_or, Bool.and_eq_true] at hchk
        refine wpIn_region_any hmix ?_
        have hl0 : Left ops (Array.replicate ops.size false) (List.range' 0 ops.size) := by
          refine ⟨by simp, ?_, fun j => ?_, fun j o _ hj => ?_⟩
          · rw [hrange]; exact List.pairwise_lt_range
          · rw [hrange, List.mem_range]
            constructor
            · intro h; exact ⟨h, by simp [Array.getD_eq_getD_getElem?, h]⟩
            · exact fun h => h.1
          · exfalso
            rw [Array.getD_eq_getD_getElem?, Array.getElem?_replicate] at hj
            split at hj <;> cases hj
        refine run_any_in hE hR hS lp m hD0 (fun j o ho => ?_) (fun p q x y hpq hp hq' => ?_) ops.size (List.range' 0 ops.size) _ _ S1 β ro a _ (by simp) hl0 h1 (Nat.le_refl _) ?_
          fun a' w' β' ro' k1 k2 k3 => hq a' w' β' ro' k1 k2 ⟨k3.h, k3.sz, k3.t, k3.df⟩
        · intro e he hb
          have := backB_spec ops.toList 0 hchk.1 j o (by simpa using ho) e he hb
          omega
        · have := indepAll_spec _ 0 [] hchk.2 p q _ _ hpq (by simpa using rowsOf_at rfl hp) (by simpa using rowsOf_at rfl hq') (by simp)
          exact this.imp (fun x => x) indep_spec
        · have hd : ∀ j, ¬ ((Array.replicate ops.size false).getD j false = true) := by
            intro j hj
            rw [Array.getD_eq_getD_getElem?, Array.getElem?_replicate] at hj
            split at hj <;> cases hj
          have := hs0 _ hd
          exact ⟨this.h.drew, this.sz, this.t, this.df⟩
  · simp [Tr.den] at h2
end Go.Cat
