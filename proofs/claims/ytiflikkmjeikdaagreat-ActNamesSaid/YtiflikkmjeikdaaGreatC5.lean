/-
  My own text: a part of the proof.
  My own text: a part of the proof.
  My own text: a part of the proof.
  My own text: a part of the proof.
  My own text: a part of the proof.
-/
import Derived.Test.YtiflikkmjeikdaaGreatC4
set_option linter.unusedVariables false
set_option linter.unusedSimpArgs false
set_option linter.unusedVariables false
namespace Go.Cat
open Go
noncomputable def D_ref21_Great_t1 (p1 : Site) : Option (Bool × Unit) :=
    Option.bind (N_ref21_greatWords (p1, ())) fun r1 =>
    some (r1.1, ())
noncomputable def D_ref21_Great_l2 (p1 : Site) (l1 : (Int × Unit)) : Option ((Int × Unit) ⊕ (Bool × Unit)) :=
    if (decide (l1.1 < (((List.length p1.end_.out.items) : Nat) : Int))) then
    if (decide (((0 : Int) ≤ l1.1) ∧ (l1.1 < (((List.length p1.end_.out.items) : Nat) : Int)))) then
    if (decide ((((List.length (nth p1.end_.out.items (Int.toNat l1.1))) : Nat) : Int) > (100 : Int))) then
      some (Sum.inr (Bool.true, ()))
    else
      some (Sum.inl ((IntKind.wrap IntKind.i64 (l1.1 + (1 : Int))), ()))
    else none
  else
    Option.map Sum.inr (D_ref21_Great_t1 p1)
noncomputable def D_ref21_Great_l3 (p1 : Site) (l1 : (Int × Unit)) : Option ((Int × Unit) ⊕ (Bool × Unit)) :=
    if (decide (l1.1 < (((List.length p1.mail) : Nat) : Int))) then
    if (decide (((0 : Int) ≤ l1.1) ∧ (l1.1 < (((List.length p1.mail) : Nat) : Int)))) then
    if (decide ((((List.length (nth p1.mail (Int.toNat l1.1)).msg.bytes) : Nat) : Int) > (100 : Int))) then
      some (Sum.inr (Bool.true, ()))
    else
      if (decide (((0 : Int) ≤ l1.1) ∧ (l1.1 < (((List.length p1.mail) : Nat) : Int)))) then
      if (decide ((((List.length (nth p1.mail (Int.toNat l1.1)).msg.marks) : Nat) : Int) > (100 : Int))) then
        some (Sum.inr (Bool.true, ()))
      else
        some (Sum.inl ((IntKind.wrap IntKind.i64 (l1.1 + (1 : Int))), ()))
      else none
    else none
  else
    Option.map Sum.inr (loopO (D_ref21_Great_l2 p1) ((0 : Int), ()))
noncomputable def D_ref21_Great_l4 (p1 : Site) (l1 : (Int × Unit)) : Option ((Int × Unit) ⊕ (Bool × Unit)) :=
    if (decide (l1.1 < (((List.length p1.plan) : Nat) : Int))) then
    if (decide (((0 : Int) ≤ l1.1) ∧ (l1.1 < (((List.length p1.plan) : Nat) : Int)))) then
    if (decide ((((List.length (nth p1.plan (Int.toNat l1.1)).bytes) : Nat) : Int) > (100 : Int))) then
      some (Sum.inr (Bool.true, ()))
    else
      if (decide (((0 : Int) ≤ l1.1) ∧ (l1.1 < (((List.length p1.plan) : Nat) : Int)))) then
      if (decide ((((List.length (nth p1.plan (Int.toNat l1.1)).msg.bytes) : Nat) : Int) > (100 : Int))) then
        some (Sum.inr (Bool.true, ()))
      else
        if (decide (((0 : Int) ≤ l1.1) ∧ (l1.1 < (((List.length p1.plan) : Nat) : Int)))) then
        if (decide ((((List.length (nth p1.plan (Int.toNat l1.1)).msg.marks) : Nat) : Int) > (100 : Int))) then
          some (Sum.inr (Bool.true, ()))
        else
          if (decide (((0 : Int) ≤ l1.1) ∧ (l1.1 < (((List.length p1.plan) : Nat) : Int)))) then
          if (decide ((((List.length (nth p1.plan (Int.toNat l1.1)).reply.bytes) : Nat) : Int) > (100 : Int))) then
            some (Sum.inr (Bool.true, ()))
          else
            some (Sum.inl ((IntKind.wrap IntKind.i64 (l1.1 + (1 : Int))), ()))
          else none
        else none
      else none
    else none
  else
    Option.map Sum.inr (loopO (D_ref21_Great_l3 p1) ((0 : Int), ()))
noncomputable def D_ref21_Great_l5 (p1 : Site) (l1 : (Int × Unit)) : Option ((Int × Unit) ⊕ (Bool × Unit)) :=
    if (decide (l1.1 < (((List.length p1.sides) : Nat) : Int))) then
    if (decide (((0 : Int) ≤ l1.1) ∧ (l1.1 < (((List.length p1.sides) : Nat) : Int)))) then
    if (decide ((((List.length (nth p1.sides (Int.toNat l1.1)).marks) : Nat) : Int) > (100 : Int))) then
      some (Sum.inr (Bool.true, ()))
    else
      if (decide ((((List.length (nth p1.sides (Int.toNat l1.1)).work) : Nat) : Int) > (100 : Int))) then
        some (Sum.inr (Bool.true, ()))
      else
        if (decide ((((List.length (nth p1.sides (Int.toNat l1.1)).need) : Nat) : Int) > (100 : Int))) then
          some (Sum.inr (Bool.true, ()))
        else
          if (decide ((((List.length (nth p1.sides (Int.toNat l1.1)).out) : Nat) : Int) > (100 : Int))) then
            some (Sum.inr (Bool.true, ()))
          else
            if (decide ((((List.length (nth p1.sides (Int.toNat l1.1)).waits) : Nat) : Int) > (100 : Int))) then
              some (Sum.inr (Bool.true, ()))
            else
              some (Sum.inl ((IntKind.wrap IntKind.i64 (l1.1 + (1 : Int))), ()))
    else none
  else
    Option.map Sum.inr (loopO (D_ref21_Great_l4 p1) ((0 : Int), ()))
noncomputable def D_ref21_Great (p1 : Site) : Option (Bool × Unit) :=
  Option.bind (N_ref05_Great (p1.disk, ((300 : Int), ()))) fun r1 =>
    if r1.1 then
      some (Bool.true, ())
    else
      if (decide ((((List.length p1.met.table) : Nat) : Int) > (100 : Int))) then
        some (Bool.true, ())
      else
        if (decide ((((List.length p1.sides) : Nat) : Int) > (10 : Int))) then
          some (Bool.true, ())
        else
          if (decide ((((List.length p1.plan) : Nat) : Int) > (200 : Int))) then
            some (Bool.true, ())
          else
            if (decide ((((List.length p1.mail) : Nat) : Int) > (200 : Int))) then
              some (Bool.true, ())
            else
              if (decide ((((List.length p1.asks) : Nat) : Int) > (200 : Int))) then
                some (Bool.true, ())
              else
                if (decide ((((List.length p1.replies) : Nat) : Int) > (2000 : Int))) then
                  some (Bool.true, ())
                else
                  if (decide ((((List.length p1.syncs) : Nat) : Int) > (2000 : Int))) then
                    some (Bool.true, ())
                  else
                    if (decide ((((List.length p1.end_.out.items) : Nat) : Int) > (100 : Int))) then
                      some (Bool.true, ())
                    else
                      loopO (D_ref21_Great_l5 p1) ((0 : Int), ())
noncomputable def D_ref05_Great_t1 (p1 : Disk) (l1 : (Int × (Int × Unit))) : Option (Bool × Unit) :=
    if (decide ((((List.length p1.sectors) : Nat) : Int) > l1.1)) then
    some (Bool.true, ())
  else
    some ((decide ((((List.length p1.cache) : Nat) : Int) > (100 : Int))), ())
noncomputable def D_ref05_Great_l2 (p1 : Disk) (l1 : (Int × (Int × Unit))) : Option ((Int × (Int × Unit)) ⊕ (Bool × Unit)) :=
    if (decide (l1.2.1 < (((List.length p1.cache) : Nat) : Int))) then
    if (decide (l1.2.1 < (100 : Int))) then
      if (decide (((0 : Int) ≤ l1.2.1) ∧ (l1.2.1 < (((List.length p1.cache) : Nat) : Int)))) then
      if (decide ((((List.length (nth p1.cache (Int.toNat l1.2.1)).bytes) : Nat) : Int) > (100 : Int))) then
        some (Sum.inr (Bool.true, ()))
      else
        some (Sum.inl (l1.1, ((IntKind.wrap IntKind.i64 (l1.2.1 + (1 : Int))), ())))
      else none
    else
      Option.map Sum.inr (D_ref05_Great_t1 p1 l1)
  else
    Option.map Sum.inr (D_ref05_Great_t1 p1 l1)
noncomputable def D_ref05_Great_l3 (p1 : Disk) (l1 : (Int × (Int × Unit))) : Option ((Int × (Int × Unit)) ⊕ (Bool × Unit)) :=
    if (decide (l1.2.1 < (((List.length p1.sectors) : Nat) : Int))) then
    if (decide (l1.2.1 < l1.1)) then
      if (decide (((0 : Int) ≤ l1.2.1) ∧ (l1.2.1 < (((List.length p1.sectors) : Nat) : Int)))) then
      if (decide ((((List.length (nth p1.sectors (Int.toNat l1.2.1)).bytes) : Nat) : Int) > (100 : Int))) then
        some (Sum.inr (Bool.true, ()))
      else
        some (Sum.inl (l1.1, ((IntKind.wrap IntKind.i64 (l1.2.1 + (1 : Int))), ())))
      else none
    else
      Option.map Sum.inr (loopO (D_ref05_Great_l2 p1) (l1.1, ((0 : Int), ())))
  else
    Option.map Sum.inr (loopO (D_ref05_Great_l2 p1) (l1.1, ((0 : Int), ())))
noncomputable def D_ref05_Great (p1 : Disk) (p2 : Int) : Option (Bool × Unit) :=
  loopO (D_ref05_Great_l3 p1) (p2, ((0 : Int), ()))
noncomputable def D_ref21_greatWords_l1 (p1 : Site) (l1 : (Int × Unit)) : Option ((Int × Unit) ⊕ (Bool × Unit)) :=
    if (decide (l1.1 < (((List.length p1.replies) : Nat) : Int))) then
    if (decide (((0 : Int) ≤ l1.1) ∧ (l1.1 < (((List.length p1.replies) : Nat) : Int)))) then
    if (decide ((((List.length (nth p1.replies (Int.toNat l1.1)).bytes) : Nat) : Int) > (100 : Int))) then
      some (Sum.inr (Bool.true, ()))
    else
      some (Sum.inl ((IntKind.wrap IntKind.i64 (l1.1 + (1 : Int))), ()))
    else none
  else
    some (Sum.inr (Bool.false, ()))
noncomputable def D_ref21_greatWords_l2 (p1 : Site) (l1 : (Int × Unit)) : Option ((Int × Unit) ⊕ (Bool × Unit)) :=
    if (decide (l1.1 < (((List.length p1.asks) : Nat) : Int))) then
    if (decide (((0 : Int) ≤ l1.1) ∧ (l1.1 < (((List.length p1.asks) : Nat) : Int)))) then
    if (decide ((((List.length (nth p1.asks (Int.toNat l1.1)).bytes) : Nat) : Int) > (100 : Int))) then
      some (Sum.inr (Bool.true, ()))
    else
      some (Sum.inl ((IntKind.wrap IntKind.i64 (l1.1 + (1 : Int))), ()))
    else none
  else
    Option.map Sum.inr (loopO (D_ref21_greatWords_l1 p1) ((0 : Int), ()))
noncomputable def D_ref21_greatWords (p1 : Site) : Option (Bool × Unit) :=
  loopO (D_ref21_greatWords_l2 p1) ((0 : Int), ())
noncomputable def D_ref21_Twin_l1 (p1 : Site) (l1 : ((Int × ((List Sector) × ((List Pend) × (Int × (Int × (Int × (Int × (Int × ((List Rec) × ((List Side) × (Int × (Int × (Bool × (Bool × (Int × (Int × ((List (List Int)) × (Int × (Int × (Int × (Int × ((List Act) × ((List Mail) × ((List Ask) × ((List Reply) × ((List Int) × (Int × (Bool × Unit)))))))))))))))))))))))))))) × (Int × Unit))) : Option (((Int × ((List Sector) × ((List Pend) × (Int × (Int × (Int × (Int × (Int × ((List Rec) × ((List Side) × (Int × (Int × (Bool × (Bool × (Int × (Int × ((List (List Int)) × (Int × (Int × (Int × (Int × ((List Act) × ((List Mail) × ((List Ask) × ((List Reply) × ((List Int) × (Int × (Bool × Unit)))))))))))))))))))))))))))) × (Int × Unit)) ⊕ (Site × Unit)) :=
    if (decide (l1.2.1 < (((List.length p1.replies) : Nat) : Int))) then
    if (decide (((0 : Int) ≤ l1.2.1) ∧ (l1.2.1 < (((List.length p1.replies) : Nat) : Int)))) then
    Option.bind (N_ref21_bytes ((nth p1.replies (Int.toNat l1.2.1)).bytes, ())) fun r2 =>
      if (decide (((List.length l1.1.2.2.2.2.2.2.2.2.2.2.2.2.2.2.2.2.2.2.2.2.2.2.2.2.1) + (List.length ((Reply.mk (nth p1.replies (Int.toNat l1.2.1)).ask (nth p1.replies (Int.toNat l1.2.1)).code (nth p1.replies (Int.toNat l1.2.1)).state r2.1) :: []))) ≤ big)) then
      some (Sum.inl ((l1.1.1, (l1.1.2.1, (l1.1.2.2.1, (l1.1.2.2.2.1, (l1.1.2.2.2.2.1, (l1.1.2.2.2.2.2.1, (l1.1.2.2.2.2.2.2.1, (l1.1.2.2.2.2.2.2.2.1, (l1.1.2.2.2.2.2.2.2.2.1, (l1.1.2.2.2.2.2.2.2.2.2.1, (l1.1.2.2.2.2.2.2.2.2.2.2.1, (l1.1.2.2.2.2.2.2.2.2.2.2.2.1, (l1.1.2.2.2.2.2.2.2.2.2.2.2.2.1, (l1.1.2.2.2.2.2.2.2.2.2.2.2.2.2.1, (l1.1.2.2.2.2.2.2.2.2.2.2.2.2.2.2.1, (l1.1.2.2.2.2.2.2.2.2.2.2.2.2.2.2.2.1, (l1.1.2.2.2.2.2.2.2.2.2.2.2.2.2.2.2.2.1, (l1.1.2.2.2.2.2.2.2.2.2.2.2.2.2.2.2.2.2.1, (l1.1.2.2.2.2.2.2.2.2.2.2.2.2.2.2.2.2.2.2.1, (l1.1.2.2.2.2.2.2.2.2.2.2.2.2.2.2.2.2.2.2.2.1, (l1.1.2.2.2.2.2.2.2.2.2.2.2.2.2.2.2.2.2.2.2.2.1, (l1.1.2.2.2.2.2.2.2.2.2.2.2.2.2.2.2.2.2.2.2.2.2.1, (l1.1.2.2.2.2.2.2.2.2.2.2.2.2.2.2.2.2.2.2.2.2.2.2.1, (l1.1.2.2.2.2.2.2.2.2.2.2.2.2.2.2.2.2.2.2.2.2.2.2.2.1, ((l1.1.2.2.2.2.2.2.2.2.2.2.2.2.2.2.2.2.2.2.2.2.2.2.2.2.1 ++ ((Reply.mk (nth p1.replies (Int.toNat l1.2.1)).ask (nth p1.replies (Int.toNat l1.2.1)).code (nth p1.replies (Int.toNat l1.2.1)).state r2.1) :: [])), (l1.1.2.2.2.2.2.2.2.2.2.2.2.2.2.2.2.2.2.2.2.2.2.2.2.2.2.1, l1.1.2.2.2.2.2.2.2.2.2.2.2.2.2.2.2.2.2.2.2.2.2.2.2.2.2.2)))))))))))))))))))))))))), ((IntKind.wrap IntKind.i64 (l1.2.1 + (1 : Int))), ())))
      else none
    else none
  else
    some (Sum.inr ((Site.mk l1.1.1 (Disk.mk l1.1.2.1 l1.1.2.2.1) (Meta.mk (Super.mk l1.1.2.2.2.1 l1.1.2.2.2.2.1 l1.1.2.2.2.2.2.1) l1.1.2.2.2.2.2.2.1 l1.1.2.2.2.2.2.2.2.1 l1.1.2.2.2.2.2.2.2.2.1) l1.1.2.2.2.2.2.2.2.2.2.1 (End.mk l1.1.2.2.2.2.2.2.2.2.2.2.1 l1.1.2.2.2.2.2.2.2.2.2.2.2.1 l1.1.2.2.2.2.2.2.2.2.2.2.2.2.1 l1.1.2.2.2.2.2.2.2.2.2.2.2.2.2.1 l1.1.2.2.2.2.2.2.2.2.2.2.2.2.2.2.1 l1.1.2.2.2.2.2.2.2.2.2.2.2.2.2.2.2.1 (Queue.mk l1.1.2.2.2.2.2.2.2.2.2.2.2.2.2.2.2.2.1 l1.1.2.2.2.2.2.2.2.2.2.2.2.2.2.2.2.2.2.1 l1.1.2.2.2.2.2.2.2.2.2.2.2.2.2.2.2.2.2.2.1) l1.1.2.2.2.2.2.2.2.2.2.2.2.2.2.2.2.2.2.2.2.1 l1.1.2.2.2.2.2.2.2.2.2.2.2.2.2.2.2.2.2.2.2.2.1) l1.1.2.2.2.2.2.2.2.2.2.2.2.2.2.2.2.2.2.2.2.2.2.1 l1.1.2.2.2.2.2.2.2.2.2.2.2.2.2.2.2.2.2.2.2.2.2.2.1 l1.1.2.2.2.2.2.2.2.2.2.2.2.2.2.2.2.2.2.2.2.2.2.2.2.1 l1.1.2.2.2.2.2.2.2.2.2.2.2.2.2.2.2.2.2.2.2.2.2.2.2.2.1 l1.1.2.2.2.2.2.2.2.2.2.2.2.2.2.2.2.2.2.2.2.2.2.2.2.2.2.1 l1.1.2.2.2.2.2.2.2.2.2.2.2.2.2.2.2.2.2.2.2.2.2.2.2.2.2.2.1 l1.1.2.2.2.2.2.2.2.2.2.2.2.2.2.2.2.2.2.2.2.2.2.2.2.2.2.2.2.1), ()))
noncomputable def D_ref21_Twin_t2 (p1 : Site) (l1 : ((Int × ((List Sector) × ((List Pend) × (Int × (Int × (Int × (Int × (Int × ((List Rec) × ((List Side) × (Int × (Int × (Bool × (Bool × (Int × (Int × ((List (List Int)) × (Int × (Int × (Int × (Int × ((List Act) × ((List Mail) × ((List Ask) × ((List Reply) × ((List Int) × (Int × (Bool × Unit)))))))))))))))))))))))))))) × (Int × Unit))) : Option (Site × Unit) :=
    loopO (D_ref21_Twin_l1 p1) ((l1.1.1, (l1.1.2.1, (l1.1.2.2.1, (l1.1.2.2.2.1, (l1.1.2.2.2.2.1, (l1.1.2.2.2.2.2.1, (l1.1.2.2.2.2.2.2.1, (l1.1.2.2.2.2.2.2.2.1, (l1.1.2.2.2.2.2.2.2.2.1, (l1.1.2.2.2.2.2.2.2.2.2.1, (l1.1.2.2.2.2.2.2.2.2.2.2.1, (l1.1.2.2.2.2.2.2.2.2.2.2.2.1, (l1.1.2.2.2.2.2.2.2.2.2.2.2.2.1, (l1.1.2.2.2.2.2.2.2.2.2.2.2.2.2.1, (l1.1.2.2.2.2.2.2.2.2.2.2.2.2.2.2.1, (l1.1.2.2.2.2.2.2.2.2.2.2.2.2.2.2.2.1, (l1.1.2.2.2.2.2.2.2.2.2.2.2.2.2.2.2.2.1, (l1.1.2.2.2.2.2.2.2.2.2.2.2.2.2.2.2.2.2.1, (l1.1.2.2.2.2.2.2.2.2.2.2.2.2.2.2.2.2.2.2.1, (l1.1.2.2.2.2.2.2.2.2.2.2.2.2.2.2.2.2.2.2.2.1, (l1.1.2.2.2.2.2.2.2.2.2.2.2.2.2.2.2.2.2.2.2.2.1, (l1.1.2.2.2.2.2.2.2.2.2.2.2.2.2.2.2.2.2.2.2.2.2.1, (l1.1.2.2.2.2.2.2.2.2.2.2.2.2.2.2.2.2.2.2.2.2.2.2.1, (l1.1.2.2.2.2.2.2.2.2.2.2.2.2.2.2.2.2.2.2.2.2.2.2.2.1, (l1.1.2.2.2.2.2.2.2.2.2.2.2.2.2.2.2.2.2.2.2.2.2.2.2.2.1, (l1.1.2.2.2.2.2.2.2.2.2.2.2.2.2.2.2.2.2.2.2.2.2.2.2.2.2.1, l1.1.2.2.2.2.2.2.2.2.2.2.2.2.2.2.2.2.2.2.2.2.2.2.2.2.2.2)))))))))))))))))))))))))), ((0 : Int), ()))
noncomputable def D_ref21_Twin_l3 (p1 : Site) (l1 : ((Int × ((List Sector) × ((List Pend) × (Int × (Int × (Int × (Int × (Int × ((List Rec) × ((List Side) × (Int × (Int × (Bool × (Bool × (Int × (Int × ((List (List Int)) × (Int × (Int × (Int × (Int × ((List Act) × ((List Mail) × ((List Ask) × ((List Reply) × ((List Int) × (Int × (Bool × Unit)))))))))))))))))))))))))))) × (Int × Unit))) : Option (((Int × ((List Sector) × ((List Pend) × (Int × (Int × (Int × (Int × (Int × ((List Rec) × ((List Side) × (Int × (Int × (Bool × (Bool × (Int × (Int × ((List (List Int)) × (Int × (Int × (Int × (Int × ((List Act) × ((List Mail) × ((List Ask) × ((List Reply) × ((List Int) × (Int × (Bool × Unit)))))))))))))))))))))))))))) × (Int × Unit)) ⊕ (Site × Unit)) :=
    if (decide (l1.2.1 < (((List.length p1.asks) : Nat) : Int))) then
    if (decide (((0 : Int) ≤ l1.2.1) ∧ (l1.2.1 < (((List.length p1.asks) : Nat) : Int)))) then
    Option.bind (N_ref21_bytes ((nth p1.asks (Int.toNat l1.2.1)).bytes, ())) fun r2 =>
      if (decide (((List.length l1.1.2.2.2.2.2.2.2.2.2.2.2.2.2.2.2.2.2.2.2.2.2.2.2.1) + (List.length ((Ask.mk (nth p1.asks (Int.toNat l1.2.1)).id (nth p1.asks (Int.toNat l1.2.1)).kind (nth p1.asks (Int.toNat l1.2.1)).pair (nth p1.asks (Int.toNat l1.2.1)).track (nth p1.asks (Int.toNat l1.2.1)).op r2.1) :: []))) ≤ big)) then
      some (Sum.inl ((l1.1.1, (l1.1.2.1, (l1.1.2.2.1, (l1.1.2.2.2.1, (l1.1.2.2.2.2.1, (l1.1.2.2.2.2.2.1, (l1.1.2.2.2.2.2.2.1, (l1.1.2.2.2.2.2.2.2.1, (l1.1.2.2.2.2.2.2.2.2.1, (l1.1.2.2.2.2.2.2.2.2.2.1, (l1.1.2.2.2.2.2.2.2.2.2.2.1, (l1.1.2.2.2.2.2.2.2.2.2.2.2.1, (l1.1.2.2.2.2.2.2.2.2.2.2.2.2.1, (l1.1.2.2.2.2.2.2.2.2.2.2.2.2.2.1, (l1.1.2.2.2.2.2.2.2.2.2.2.2.2.2.2.1, (l1.1.2.2.2.2.2.2.2.2.2.2.2.2.2.2.2.1, (l1.1.2.2.2.2.2.2.2.2.2.2.2.2.2.2.2.2.1, (l1.1.2.2.2.2.2.2.2.2.2.2.2.2.2.2.2.2.2.1, (l1.1.2.2.2.2.2.2.2.2.2.2.2.2.2.2.2.2.2.2.1, (l1.1.2.2.2.2.2.2.2.2.2.2.2.2.2.2.2.2.2.2.2.1, (l1.1.2.2.2.2.2.2.2.2.2.2.2.2.2.2.2.2.2.2.2.2.1, (l1.1.2.2.2.2.2.2.2.2.2.2.2.2.2.2.2.2.2.2.2.2.2.1, (l1.1.2.2.2.2.2.2.2.2.2.2.2.2.2.2.2.2.2.2.2.2.2.2.1, ((l1.1.2.2.2.2.2.2.2.2.2.2.2.2.2.2.2.2.2.2.2.2.2.2.2.1 ++ ((Ask.mk (nth p1.asks (Int.toNat l1.2.1)).id (nth p1.asks (Int.toNat l1.2.1)).kind (nth p1.asks (Int.toNat l1.2.1)).pair (nth p1.asks (Int.toNat l1.2.1)).track (nth p1.asks (Int.toNat l1.2.1)).op r2.1) :: [])), (l1.1.2.2.2.2.2.2.2.2.2.2.2.2.2.2.2.2.2.2.2.2.2.2.2.2.1, (l1.1.2.2.2.2.2.2.2.2.2.2.2.2.2.2.2.2.2.2.2.2.2.2.2.2.2.1, l1.1.2.2.2.2.2.2.2.2.2.2.2.2.2.2.2.2.2.2.2.2.2.2.2.2.2.2)))))))))))))))))))))))))), ((IntKind.wrap IntKind.i64 (l1.2.1 + (1 : Int))), ())))
      else none
    else none
  else
    Option.map Sum.inr (D_ref21_Twin_t2 p1 l1)
noncomputable def D_ref21_Twin_t4 (p1 : Site) (l1 : ((Int × ((List Sector) × ((List Pend) × (Int × (Int × (Int × (Int × (Int × ((List Rec) × ((List Side) × (Int × (Int × (Bool × (Bool × (Int × (Int × ((List (List Int)) × (Int × (Int × (Int × (Int × ((List Act) × ((List Mail) × ((List Ask) × ((List Reply) × ((List Int) × (Int × (Bool × Unit)))))))))))))))))))))))))))) × (Int × Unit))) : Option (Site × Unit) :=
    loopO (D_ref21_Twin_l3 p1) ((l1.1.1, (l1.1.2.1, (l1.1.2.2.1, (l1.1.2.2.2.1, (l1.1.2.2.2.2.1, (l1.1.2.2.2.2.2.1, (l1.1.2.2.2.2.2.2.1, (l1.1.2.2.2.2.2.2.2.1, (l1.1.2.2.2.2.2.2.2.2.1, (l1.1.2.2.2.2.2.2.2.2.2.1, (l1.1.2.2.2.2.2.2.2.2.2.2.1, (l1.1.2.2.2.2.2.2.2.2.2.2.2.1, (l1.1.2.2.2.2.2.2.2.2.2.2.2.2.1, (l1.1.2.2.2.2.2.2.2.2.2.2.2.2.2.1, (l1.1.2.2.2.2.2.2.2.2.2.2.2.2.2.2.1, (l1.1.2.2.2.2.2.2.2.2.2.2.2.2.2.2.2.1, (l1.1.2.2.2.2.2.2.2.2.2.2.2.2.2.2.2.2.1, (l1.1.2.2.2.2.2.2.2.2.2.2.2.2.2.2.2.2.2.1, (l1.1.2.2.2.2.2.2.2.2.2.2.2.2.2.2.2.2.2.2.1, (l1.1.2.2.2.2.2.2.2.2.2.2.2.2.2.2.2.2.2.2.2.1, (l1.1.2.2.2.2.2.2.2.2.2.2.2.2.2.2.2.2.2.2.2.2.1, (l1.1.2.2.2.2.2.2.2.2.2.2.2.2.2.2.2.2.2.2.2.2.2.1, (l1.1.2.2.2.2.2.2.2.2.2.2.2.2.2.2.2.2.2.2.2.2.2.2.1, (l1.1.2.2.2.2.2.2.2.2.2.2.2.2.2.2.2.2.2.2.2.2.2.2.2.1, (l1.1.2.2.2.2.2.2.2.2.2.2.2.2.2.2.2.2.2.2.2.2.2.2.2.2.1, (l1.1.2.2.2.2.2.2.2.2.2.2.2.2.2.2.2.2.2.2.2.2.2.2.2.2.2.1, l1.1.2.2.2.2.2.2.2.2.2.2.2.2.2.2.2.2.2.2.2.2.2.2.2.2.2.2)))))))))))))))))))))))))), ((0 : Int), ()))
noncomputable def D_ref21_Twin_l5 (p1 : Site) (l1 : ((Int × ((List Sector) × ((List Pend) × (Int × (Int × (Int × (Int × (Int × ((List Rec) × ((List Side) × (Int × (Int × (Bool × (Bool × (Int × (Int × ((List (List Int)) × (Int × (Int × (Int × (Int × ((List Act) × ((List Mail) × ((List Ask) × ((List Reply) × ((List Int) × (Int × (Bool × Unit)))))))))))))))))))))))))))) × (Int × Unit))) : Option (((Int × ((List Sector) × ((List Pend) × (Int × (Int × (Int × (Int × (Int × ((List Rec) × ((List Side) × (Int × (Int × (Bool × (Bool × (Int × (Int × ((List (List Int)) × (Int × (Int × (Int × (Int × ((List Act) × ((List Mail) × ((List Ask) × ((List Reply) × ((List Int) × (Int × (Bool × Unit)))))))))))))))))))))))))))) × (Int × Unit)) ⊕ (Site × Unit)) :=
    if (decide (l1.2.1 < (((List.length p1.mail) : Nat) : Int))) then
    if (decide (((0 : Int) ≤ l1.2.1) ∧ (l1.2.1 < (((List.length p1.mail) : Nat) : Int)))) then
    Option.bind (N_ref20_Twin ((nth p1.mail (Int.toNat l1.2.1)).msg, ())) fun r2 =>
      if (decide (((List.length l1.1.2.2.2.2.2.2.2.2.2.2.2.2.2.2.2.2.2.2.2.2.2.2.1) + (List.length ((Mail.mk (nth p1.mail (Int.toNat l1.2.1)).kind (nth p1.mail (Int.toNat l1.2.1)).me (nth p1.mail (Int.toNat l1.2.1)).you r2.1) :: []))) ≤ big)) then
      some (Sum.inl ((l1.1.1, (l1.1.2.1, (l1.1.2.2.1, (l1.1.2.2.2.1, (l1.1.2.2.2.2.1, (l1.1.2.2.2.2.2.1, (l1.1.2.2.2.2.2.2.1, (l1.1.2.2.2.2.2.2.2.1, (l1.1.2.2.2.2.2.2.2.2.1, (l1.1.2.2.2.2.2.2.2.2.2.1, (l1.1.2.2.2.2.2.2.2.2.2.2.1, (l1.1.2.2.2.2.2.2.2.2.2.2.2.1, (l1.1.2.2.2.2.2.2.2.2.2.2.2.2.1, (l1.1.2.2.2.2.2.2.2.2.2.2.2.2.2.1, (l1.1.2.2.2.2.2.2.2.2.2.2.2.2.2.2.1, (l1.1.2.2.2.2.2.2.2.2.2.2.2.2.2.2.2.1, (l1.1.2.2.2.2.2.2.2.2.2.2.2.2.2.2.2.2.1, (l1.1.2.2.2.2.2.2.2.2.2.2.2.2.2.2.2.2.2.1, (l1.1.2.2.2.2.2.2.2.2.2.2.2.2.2.2.2.2.2.2.1, (l1.1.2.2.2.2.2.2.2.2.2.2.2.2.2.2.2.2.2.2.2.1, (l1.1.2.2.2.2.2.2.2.2.2.2.2.2.2.2.2.2.2.2.2.2.1, (l1.1.2.2.2.2.2.2.2.2.2.2.2.2.2.2.2.2.2.2.2.2.2.1, ((l1.1.2.2.2.2.2.2.2.2.2.2.2.2.2.2.2.2.2.2.2.2.2.2.1 ++ ((Mail.mk (nth p1.mail (Int.toNat l1.2.1)).kind (nth p1.mail (Int.toNat l1.2.1)).me (nth p1.mail (Int.toNat l1.2.1)).you r2.1) :: [])), (l1.1.2.2.2.2.2.2.2.2.2.2.2.2.2.2.2.2.2.2.2.2.2.2.2.1, (l1.1.2.2.2.2.2.2.2.2.2.2.2.2.2.2.2.2.2.2.2.2.2.2.2.2.1, (l1.1.2.2.2.2.2.2.2.2.2.2.2.2.2.2.2.2.2.2.2.2.2.2.2.2.2.1, l1.1.2.2.2.2.2.2.2.2.2.2.2.2.2.2.2.2.2.2.2.2.2.2.2.2.2.2)))))))))))))))))))))))))), ((IntKind.wrap IntKind.i64 (l1.2.1 + (1 : Int))), ())))
      else none
    else none
  else
    Option.map Sum.inr (D_ref21_Twin_t4 p1 l1)
noncomputable def D_ref21_Twin_t6 (p1 : Site) (l1 : ((Int × ((List Sector) × ((List Pend) × (Int × (Int × (Int × (Int × (Int × ((List Rec) × ((List Side) × (Int × (Int × (Bool × (Bool × (Int × (Int × ((List (List Int)) × (Int × (Int × (Int × (Int × ((List Act) × ((List Mail) × ((List Ask) × ((List Reply) × ((List Int) × (Int × (Bool × Unit)))))))))))))))))))))))))))) × (Int × Unit))) : Option (Site × Unit) :=
    loopO (D_ref21_Twin_l5 p1) ((l1.1.1, (l1.1.2.1, (l1.1.2.2.1, (l1.1.2.2.2.1, (l1.1.2.2.2.2.1, (l1.1.2.2.2.2.2.1, (l1.1.2.2.2.2.2.2.1, (l1.1.2.2.2.2.2.2.2.1, (l1.1.2.2.2.2.2.2.2.2.1, (l1.1.2.2.2.2.2.2.2.2.2.1, (l1.1.2.2.2.2.2.2.2.2.2.2.1, (l1.1.2.2.2.2.2.2.2.2.2.2.2.1, (l1.1.2.2.2.2.2.2.2.2.2.2.2.2.1, (l1.1.2.2.2.2.2.2.2.2.2.2.2.2.2.1, (l1.1.2.2.2.2.2.2.2.2.2.2.2.2.2.2.1, (l1.1.2.2.2.2.2.2.2.2.2.2.2.2.2.2.2.1, (l1.1.2.2.2.2.2.2.2.2.2.2.2.2.2.2.2.2.1, (l1.1.2.2.2.2.2.2.2.2.2.2.2.2.2.2.2.2.2.1, (l1.1.2.2.2.2.2.2.2.2.2.2.2.2.2.2.2.2.2.2.1, (l1.1.2.2.2.2.2.2.2.2.2.2.2.2.2.2.2.2.2.2.2.1, (l1.1.2.2.2.2.2.2.2.2.2.2.2.2.2.2.2.2.2.2.2.2.1, (l1.1.2.2.2.2.2.2.2.2.2.2.2.2.2.2.2.2.2.2.2.2.2.1, (l1.1.2.2.2.2.2.2.2.2.2.2.2.2.2.2.2.2.2.2.2.2.2.2.1, (l1.1.2.2.2.2.2.2.2.2.2.2.2.2.2.2.2.2.2.2.2.2.2.2.2.1, (l1.1.2.2.2.2.2.2.2.2.2.2.2.2.2.2.2.2.2.2.2.2.2.2.2.2.1, (l1.1.2.2.2.2.2.2.2.2.2.2.2.2.2.2.2.2.2.2.2.2.2.2.2.2.2.1, l1.1.2.2.2.2.2.2.2.2.2.2.2.2.2.2.2.2.2.2.2.2.2.2.2.2.2.2)))))))))))))))))))))))))), ((0 : Int), ()))
noncomputable def D_ref21_Twin_l7 (p1 : Site) (l1 : ((Int × ((List Sector) × ((List Pend) × (Int × (Int × (Int × (Int × (Int × ((List Rec) × ((List Side) × (Int × (Int × (Bool × (Bool × (Int × (Int × ((List (List Int)) × (Int × (Int × (Int × (Int × ((List Act) × ((List Mail) × ((List Ask) × ((List Reply) × ((List Int) × (Int × (Bool × Unit)))))))))))))))))))))))))))) × (Int × Unit))) : Option (((Int × ((List Sector) × ((List Pend) × (Int × (Int × (Int × (Int × (Int × ((List Rec) × ((List Side) × (Int × (Int × (Bool × (Bool × (Int × (Int × ((List (List Int)) × (Int × (Int × (Int × (Int × ((List Act) × ((List Mail) × ((List Ask) × ((List Reply) × ((List Int) × (Int × (Bool × Unit)))))))))))))))))))))))))))) × (Int × Unit)) ⊕ (Site × Unit)) :=
    if (decide (l1.2.1 < (((List.length p1.plan) : Nat) : Int))) then
    if (decide (((0 : Int) ≤ l1.2.1) ∧ (l1.2.1 < (((List.length p1.plan) : Nat) : Int)))) then
    Option.bind (N_ref21_bytes ((nth p1.plan (Int.toNat l1.2.1)).bytes, ())) fun r2 =>
      Option.bind (N_ref20_Twin ((nth p1.plan (Int.toNat l1.2.1)).msg, ())) fun r3 =>
        Option.bind (N_ref21_bytes ((nth p1.plan (Int.toNat l1.2.1)).reply.bytes, ())) fun r4 =>
          if (decide (((List.length l1.1.2.2.2.2.2.2.2.2.2.2.2.2.2.2.2.2.2.2.2.2.2.1) + (List.length ((Act.mk (nth p1.plan (Int.toNat l1.2.1)).kind (nth p1.plan (Int.toNat l1.2.1)).at_ r2.1 (nth p1.plan (Int.toNat l1.2.1)).me (nth p1.plan (Int.toNat l1.2.1)).you r3.1 (Reply.mk (nth p1.plan (Int.toNat l1.2.1)).reply.ask (nth p1.plan (Int.toNat l1.2.1)).reply.code (nth p1.plan (Int.toNat l1.2.1)).reply.state r4.1) (nth p1.plan (Int.toNat l1.2.1)).pair) :: []))) ≤ big)) then
          some (Sum.inl ((l1.1.1, (l1.1.2.1, (l1.1.2.2.1, (l1.1.2.2.2.1, (l1.1.2.2.2.2.1, (l1.1.2.2.2.2.2.1, (l1.1.2.2.2.2.2.2.1, (l1.1.2.2.2.2.2.2.2.1, (l1.1.2.2.2.2.2.2.2.2.1, (l1.1.2.2.2.2.2.2.2.2.2.1, (l1.1.2.2.2.2.2.2.2.2.2.2.1, (l1.1.2.2.2.2.2.2.2.2.2.2.2.1, (l1.1.2.2.2.2.2.2.2.2.2.2.2.2.1, (l1.1.2.2.2.2.2.2.2.2.2.2.2.2.2.1, (l1.1.2.2.2.2.2.2.2.2.2.2.2.2.2.2.1, (l1.1.2.2.2.2.2.2.2.2.2.2.2.2.2.2.2.1, (l1.1.2.2.2.2.2.2.2.2.2.2.2.2.2.2.2.2.1, (l1.1.2.2.2.2.2.2.2.2.2.2.2.2.2.2.2.2.2.1, (l1.1.2.2.2.2.2.2.2.2.2.2.2.2.2.2.2.2.2.2.1, (l1.1.2.2.2.2.2.2.2.2.2.2.2.2.2.2.2.2.2.2.2.1, (l1.1.2.2.2.2.2.2.2.2.2.2.2.2.2.2.2.2.2.2.2.2.1, ((l1.1.2.2.2.2.2.2.2.2.2.2.2.2.2.2.2.2.2.2.2.2.2.1 ++ ((Act.mk (nth p1.plan (Int.toNat l1.2.1)).kind (nth p1.plan (Int.toNat l1.2.1)).at_ r2.1 (nth p1.plan (Int.toNat l1.2.1)).me (nth p1.plan (Int.toNat l1.2.1)).you r3.1 (Reply.mk (nth p1.plan (Int.toNat l1.2.1)).reply.ask (nth p1.plan (Int.toNat l1.2.1)).reply.code (nth p1.plan (Int.toNat l1.2.1)).reply.state r4.1) (nth p1.plan (Int.toNat l1.2.1)).pair) :: [])), (l1.1.2.2.2.2.2.2.2.2.2.2.2.2.2.2.2.2.2.2.2.2.2.2.1, (l1.1.2.2.2.2.2.2.2.2.2.2.2.2.2.2.2.2.2.2.2.2.2.2.2.1, (l1.1.2.2.2.2.2.2.2.2.2.2.2.2.2.2.2.2.2.2.2.2.2.2.2.2.1, (l1.1.2.2.2.2.2.2.2.2.2.2.2.2.2.2.2.2.2.2.2.2.2.2.2.2.2.1, l1.1.2.2.2.2.2.2.2.2.2.2.2.2.2.2.2.2.2.2.2.2.2.2.2.2.2.2)))))))))))))))))))))))))), ((IntKind.wrap IntKind.i64 (l1.2.1 + (1 : Int))), ())))
          else none
    else none
  else
    Option.map Sum.inr (D_ref21_Twin_t6 p1 l1)
noncomputable def D_ref21_Twin_t8 (p1 : Site) (l1 : ((Int × ((List Sector) × ((List Pend) × (Int × (Int × (Int × (Int × (Int × ((List Rec) × ((List Side) × (Int × (Int × (Bool × (Bool × (Int × (Int × ((List (List Int)) × (Int × (Int × (Int × (Int × ((List Act) × ((List Mail) × ((List Ask) × ((List Reply) × ((List Int) × (Int × (Bool × Unit)))))))))))))))))))))))))))) × (Int × Unit))) : Option (Site × Unit) :=
    loopO (D_ref21_Twin_l7 p1) ((l1.1.1, (l1.1.2.1, (l1.1.2.2.1, (l1.1.2.2.2.1, (l1.1.2.2.2.2.1, (l1.1.2.2.2.2.2.1, (l1.1.2.2.2.2.2.2.1, (l1.1.2.2.2.2.2.2.2.1, (l1.1.2.2.2.2.2.2.2.2.1, (l1.1.2.2.2.2.2.2.2.2.2.1, (l1.1.2.2.2.2.2.2.2.2.2.2.1, (l1.1.2.2.2.2.2.2.2.2.2.2.2.1, (l1.1.2.2.2.2.2.2.2.2.2.2.2.2.1, (l1.1.2.2.2.2.2.2.2.2.2.2.2.2.2.1, (l1.1.2.2.2.2.2.2.2.2.2.2.2.2.2.2.1, (l1.1.2.2.2.2.2.2.2.2.2.2.2.2.2.2.2.1, (l1.1.2.2.2.2.2.2.2.2.2.2.2.2.2.2.2.2.1, (l1.1.2.2.2.2.2.2.2.2.2.2.2.2.2.2.2.2.2.1, (l1.1.2.2.2.2.2.2.2.2.2.2.2.2.2.2.2.2.2.2.1, (l1.1.2.2.2.2.2.2.2.2.2.2.2.2.2.2.2.2.2.2.2.1, (l1.1.2.2.2.2.2.2.2.2.2.2.2.2.2.2.2.2.2.2.2.2.1, (l1.1.2.2.2.2.2.2.2.2.2.2.2.2.2.2.2.2.2.2.2.2.2.1, (l1.1.2.2.2.2.2.2.2.2.2.2.2.2.2.2.2.2.2.2.2.2.2.2.1, (l1.1.2.2.2.2.2.2.2.2.2.2.2.2.2.2.2.2.2.2.2.2.2.2.2.1, (l1.1.2.2.2.2.2.2.2.2.2.2.2.2.2.2.2.2.2.2.2.2.2.2.2.2.1, (l1.1.2.2.2.2.2.2.2.2.2.2.2.2.2.2.2.2.2.2.2.2.2.2.2.2.2.1, l1.1.2.2.2.2.2.2.2.2.2.2.2.2.2.2.2.2.2.2.2.2.2.2.2.2.2.2)))))))))))))))))))))))))), ((0 : Int), ()))
noncomputable def D_ref21_Twin_l9 (p1 : Site) (l1 : ((Int × ((List Sector) × ((List Pend) × (Int × (Int × (Int × (Int × (Int × ((List Rec) × ((List Side) × (Int × (Int × (Bool × (Bool × (Int × (Int × ((List (List Int)) × (Int × (Int × (Int × (Int × ((List Act) × ((List Mail) × ((List Ask) × ((List Reply) × ((List Int) × (Int × (Bool × Unit)))))))))))))))))))))))))))) × (Int × Unit))) : Option (((Int × ((List Sector) × ((List Pend) × (Int × (Int × (Int × (Int × (Int × ((List Rec) × ((List Side) × (Int × (Int × (Bool × (Bool × (Int × (Int × ((List (List Int)) × (Int × (Int × (Int × (Int × ((List Act) × ((List Mail) × ((List Ask) × ((List Reply) × ((List Int) × (Int × (Bool × Unit)))))))))))))))))))))))))))) × (Int × Unit)) ⊕ (Site × Unit)) :=
    if (decide (l1.2.1 < (((List.length p1.sides) : Nat) : Int))) then
    if (decide (((0 : Int) ≤ l1.2.1) ∧ (l1.2.1 < (((List.length p1.sides) : Nat) : Int)))) then
    Option.bind (N_ref21_TwinSide ((nth p1.sides (Int.toNat l1.2.1)), ())) fun r2 =>
      if (decide (((List.length l1.1.2.2.2.2.2.2.2.2.2.1) + (List.length (r2.1 :: []))) ≤ big)) then
      some (Sum.inl ((l1.1.1, (l1.1.2.1, (l1.1.2.2.1, (l1.1.2.2.2.1, (l1.1.2.2.2.2.1, (l1.1.2.2.2.2.2.1, (l1.1.2.2.2.2.2.2.1, (l1.1.2.2.2.2.2.2.2.1, (l1.1.2.2.2.2.2.2.2.2.1, ((l1.1.2.2.2.2.2.2.2.2.2.1 ++ (r2.1 :: [])), (l1.1.2.2.2.2.2.2.2.2.2.2.1, (l1.1.2.2.2.2.2.2.2.2.2.2.2.1, (l1.1.2.2.2.2.2.2.2.2.2.2.2.2.1, (l1.1.2.2.2.2.2.2.2.2.2.2.2.2.2.1, (l1.1.2.2.2.2.2.2.2.2.2.2.2.2.2.2.1, (l1.1.2.2.2.2.2.2.2.2.2.2.2.2.2.2.2.1, (l1.1.2.2.2.2.2.2.2.2.2.2.2.2.2.2.2.2.1, (l1.1.2.2.2.2.2.2.2.2.2.2.2.2.2.2.2.2.2.1, (l1.1.2.2.2.2.2.2.2.2.2.2.2.2.2.2.2.2.2.2.1, (l1.1.2.2.2.2.2.2.2.2.2.2.2.2.2.2.2.2.2.2.2.1, (l1.1.2.2.2.2.2.2.2.2.2.2.2.2.2.2.2.2.2.2.2.2.1, (l1.1.2.2.2.2.2.2.2.2.2.2.2.2.2.2.2.2.2.2.2.2.2.1, (l1.1.2.2.2.2.2.2.2.2.2.2.2.2.2.2.2.2.2.2.2.2.2.2.1, (l1.1.2.2.2.2.2.2.2.2.2.2.2.2.2.2.2.2.2.2.2.2.2.2.2.1, (l1.1.2.2.2.2.2.2.2.2.2.2.2.2.2.2.2.2.2.2.2.2.2.2.2.2.1, (l1.1.2.2.2.2.2.2.2.2.2.2.2.2.2.2.2.2.2.2.2.2.2.2.2.2.2.1, l1.1.2.2.2.2.2.2.2.2.2.2.2.2.2.2.2.2.2.2.2.2.2.2.2.2.2.2)))))))))))))))))))))))))), ((IntKind.wrap IntKind.i64 (l1.2.1 + (1 : Int))), ())))
      else none
    else none
  else
    Option.map Sum.inr (D_ref21_Twin_t8 p1 l1)
noncomputable def D_ref21_Twin (p1 : Site) : Option (Site × Unit) :=
  Option.bind (N_ref05_Twin (p1.disk, ())) fun r1 =>
    Option.bind (N_ref12_Twin (p1.met, ())) fun r2 =>
      Option.bind (N_ref17_Twin (p1.end_, ())) fun r3 =>
        if (decide ((0 + (List.length p1.syncs)) ≤ big)) then
        loopO (D_ref21_Twin_l9 p1) ((p1.id, (r1.1.sectors, (r1.1.cache, (r2.1.super.boot, (r2.1.super.area, (r2.1.super.gen, (r2.1.count, (r2.1.turn, (r2.1.table, ([], (r3.1.me, (r3.1.you, (r3.1.up, (r3.1.dead, (r3.1.sent, (r3.1.done, (r3.1.out.items, (r3.1.out.head, (r3.1.out.many, (r3.1.got, (r3.1.quiet, ([], ([], ([], ([], (([] ++ p1.syncs), (p1.born, (p1.ready, ())))))))))))))))))))))))))))), ((0 : Int), ()))
        else none
noncomputable def D_ref05_Twin_l1 (p1 : Disk) (l1 : (((List Sector) × ((List Pend) × Unit)) × (Int × Unit))) : Option ((((List Sector) × ((List Pend) × Unit)) × (Int × Unit)) ⊕ (Disk × Unit)) :=
    if (decide (l1.2.1 < (((List.length p1.cache) : Nat) : Int))) then
    if (decide (((0 : Int) ≤ l1.2.1) ∧ (l1.2.1 < (((List.length p1.cache) : Nat) : Int)))) then
    if (decide (((0 : Int) ≤ l1.2.1) ∧ (l1.2.1 < (((List.length p1.cache) : Nat) : Int)))) then
    if (decide ((0 + (List.length (nth p1.cache (Int.toNat l1.2.1)).bytes)) ≤ big)) then
    if (decide (((List.length l1.1.2.1) + (List.length ((Pend.mk (nth p1.cache (Int.toNat l1.2.1)).at_ ([] ++ (nth p1.cache (Int.toNat l1.2.1)).bytes)) :: []))) ≤ big)) then
    some (Sum.inl ((l1.1.1, ((l1.1.2.1 ++ ((Pend.mk (nth p1.cache (Int.toNat l1.2.1)).at_ ([] ++ (nth p1.cache (Int.toNat l1.2.1)).bytes)) :: [])), ())), ((IntKind.wrap IntKind.i64 (l1.2.1 + (1 : Int))), ())))
    else none
    else none
    else none
    else none
  else
    some (Sum.inr ((Disk.mk l1.1.1 l1.1.2.1), ()))
noncomputable def D_ref05_Twin_t2 (p1 : Disk) (l1 : (((List Sector) × ((List Pend) × Unit)) × (Int × Unit))) : Option (Disk × Unit) :=
    loopO (D_ref05_Twin_l1 p1) ((l1.1.1, (l1.1.2.1, ())), ((0 : Int), ()))
noncomputable def D_ref05_Twin_l3 (p1 : Disk) (l1 : (((List Sector) × ((List Pend) × Unit)) × (Int × Unit))) : Option ((((List Sector) × ((List Pend) × Unit)) × (Int × Unit)) ⊕ (Disk × Unit)) :=
    if (decide (l1.2.1 < (((List.length p1.sectors) : Nat) : Int))) then
    if (decide (((0 : Int) ≤ l1.2.1) ∧ (l1.2.1 < (((List.length p1.sectors) : Nat) : Int)))) then
    if (decide ((0 + (List.length (nth p1.sectors (Int.toNat l1.2.1)).bytes)) ≤ big)) then
    if (decide (((0 : Int) ≤ l1.2.1) ∧ (l1.2.1 < (((List.length p1.sectors) : Nat) : Int)))) then
    if (decide (((List.length l1.1.1) + (List.length ((Sector.mk ([] ++ (nth p1.sectors (Int.toNat l1.2.1)).bytes) (nth p1.sectors (Int.toNat l1.2.1)).bad) :: []))) ≤ big)) then
    some (Sum.inl (((l1.1.1 ++ ((Sector.mk ([] ++ (nth p1.sectors (Int.toNat l1.2.1)).bytes) (nth p1.sectors (Int.toNat l1.2.1)).bad) :: [])), (l1.1.2.1, ())), ((IntKind.wrap IntKind.i64 (l1.2.1 + (1 : Int))), ())))
    else none
    else none
    else none
    else none
  else
    Option.map Sum.inr (D_ref05_Twin_t2 p1 l1)
noncomputable def D_ref05_Twin (p1 : Disk) : Option (Disk × Unit) :=
  loopO (D_ref05_Twin_l3 p1) (([], ([], ())), ((0 : Int), ()))
noncomputable def D_ref12_Twin (p1 : Meta) : Option (Meta × Unit) :=
  if (decide ((0 + (List.length p1.table)) ≤ big)) then
  some ((Meta.mk p1.super p1.count p1.turn ([] ++ p1.table)), ())
  else none
noncomputable def D_ref17_Twin (p1 : End) : Option (End × Unit) :=
  Option.bind (N_ref04_TwinAll (p1.out.items, ())) fun r1 =>
    some ((End.mk p1.me p1.you p1.up p1.dead p1.sent p1.done (Queue.mk r1.1 p1.out.head p1.out.many) p1.got p1.quiet), ())
noncomputable def D_ref04_TwinAll_l1  (l1 : ((List (List Int)) × ((List (List Int)) × (Int × Unit)))) : Option (((List (List Int)) × ((List (List Int)) × (Int × Unit))) ⊕ ((List (List Int)) × Unit)) :=
    if (decide (l1.2.2.1 < (((List.length l1.1) : Nat) : Int))) then
    if (decide (((0 : Int) ≤ l1.2.2.1) ∧ (l1.2.2.1 < (((List.length l1.1) : Nat) : Int)))) then
    if (decide ((0 + (List.length (nth l1.1 (Int.toNat l1.2.2.1)))) ≤ big)) then
    if (decide (((List.length l1.2.1) + (List.length (([] ++ (nth l1.1 (Int.toNat l1.2.2.1))) :: []))) ≤ big)) then
    some (Sum.inl (l1.1, ((l1.2.1 ++ (([] ++ (nth l1.1 (Int.toNat l1.2.2.1))) :: [])), ((IntKind.wrap IntKind.i64 (l1.2.2.1 + (1 : Int))), ()))))
    else none
    else none
    else none
  else
    some (Sum.inr (l1.2.1, ()))
noncomputable def D_ref04_TwinAll (p1 : (List (List Int))) : Option ((List (List Int)) × Unit) :=
  loopO (D_ref04_TwinAll_l1 ) (p1, ([], ((0 : Int), ())))
noncomputable def D_ref21_TwinSide (p1 : Side) : Option (Side × Unit) :=
  Option.bind (N_ref21_bytes (p1.marks, ())) fun r1 =>
    Option.bind (N_ref21_bytes (p1.work, ())) fun r2 =>
      Option.bind (N_ref21_bytes (p1.need, ())) fun r3 =>
        if (decide ((0 + (List.length p1.out)) ≤ big)) then
        if (decide ((0 + (List.length p1.waits)) ≤ big)) then
        some ((Side.mk r1.1 r2.1 ([] ++ p1.out) p1.n ([] ++ p1.waits) r3.1 p1.first p1.next p1.op p1.ask p1.knows p1.over p1.clean p1.again), ())
        else none
        else none
noncomputable def D_ref21_bytes (p1 : (List Int)) : Option ((List Int) × Unit) :=
  if (decide ((0 + (List.length p1)) ≤ big)) then
  some (([] ++ p1), ())
  else none
noncomputable def D_ref20_Twin (p1 : Msg) : Option (Msg × Unit) :=
  if (decide ((0 + (List.length p1.marks)) ≤ big)) then
  if (decide ((0 + (List.length p1.bytes)) ≤ big)) then
  some ((Msg.mk p1.kind p1.pair p1.has p1.rec_ p1.op p1.born p1.epoch p1.track p1.n p1.code ([] ++ p1.marks) ([] ++ p1.bytes)), ())
  else none
  else none
noncomputable def D_ref05_Same_l1 (p1 : Disk) (p2 : Disk) (l1 : (Int × Unit)) : Option ((Int × Unit) ⊕ (Bool × Unit)) :=
    if (decide (l1.1 < (((List.length p1.cache) : Nat) : Int))) then
    if (decide (((0 : Int) ≤ l1.1) ∧ (l1.1 < (((List.length p1.cache) : Nat) : Int)))) then
    if (decide (((0 : Int) ≤ l1.1) ∧ (l1.1 < (((List.length p2.cache) : Nat) : Int)))) then
    if ((nth p1.cache (Int.toNat l1.1)).at_ != (nth p2.cache (Int.toNat l1.1)).at_) then
      some (Sum.inr (Bool.false, ()))
    else
      if (decide (((0 : Int) ≤ l1.1) ∧ (l1.1 < (((List.length p1.cache) : Nat) : Int)))) then
      if (decide (((0 : Int) ≤ l1.1) ∧ (l1.1 < (((List.length p2.cache) : Nat) : Int)))) then
      if ((nth p1.cache (Int.toNat l1.1)).bytes != (nth p2.cache (Int.toNat l1.1)).bytes) then
        some (Sum.inr (Bool.false, ()))
      else
        some (Sum.inl ((IntKind.wrap IntKind.i64 (l1.1 + (1 : Int))), ()))
      else none
      else none
    else none
    else none
  else
    some (Sum.inr (Bool.true, ()))
noncomputable def D_ref05_Same_l2 (p1 : Disk) (p2 : Disk) (l1 : (Int × Unit)) : Option ((Int × Unit) ⊕ (Bool × Unit)) :=
    if (decide (l1.1 < (((List.length p1.sectors) : Nat) : Int))) then
    if (decide (((0 : Int) ≤ l1.1) ∧ (l1.1 < (((List.length p1.sectors) : Nat) : Int)))) then
    if (decide (((0 : Int) ≤ l1.1) ∧ (l1.1 < (((List.length p2.sectors) : Nat) : Int)))) then
    if (!((nth p1.sectors (Int.toNat l1.1)).bad == (nth p2.sectors (Int.toNat l1.1)).bad)) then
      some (Sum.inr (Bool.false, ()))
    else
      if (decide (((0 : Int) ≤ l1.1) ∧ (l1.1 < (((List.length p1.sectors) : Nat) : Int)))) then
      if (decide (((0 : Int) ≤ l1.1) ∧ (l1.1 < (((List.length p2.sectors) : Nat) : Int)))) then
      if ((nth p1.sectors (Int.toNat l1.1)).bytes != (nth p2.sectors (Int.toNat l1.1)).bytes) then
        some (Sum.inr (Bool.false, ()))
      else
        some (Sum.inl ((IntKind.wrap IntKind.i64 (l1.1 + (1 : Int))), ()))
      else none
      else none
    else none
    else none
  else
    Option.map Sum.inr (loopO (D_ref05_Same_l1 p1 p2) ((0 : Int), ()))
noncomputable def D_ref05_Same (p1 : Disk) (p2 : Disk) : Option (Bool × Unit) :=
  if ((((List.length p1.sectors) : Nat) : Int) != (((List.length p2.sectors) : Nat) : Int)) then
    some (Bool.false, ())
  else
    if ((((List.length p1.cache) : Nat) : Int) != (((List.length p2.cache) : Nat) : Int)) then
      some (Bool.false, ())
    else
      loopO (D_ref05_Same_l2 p1 p2) ((0 : Int), ())
noncomputable def D_ref21_Same_t1 (p1 : Site) (p2 : Site) : Option (Bool × Unit) :=
    Option.bind (N_ref05_Same (p1.disk, (p2.disk, ()))) fun r1 =>
    if r1.1 then
      Option.bind (N_ref12_Same (p1.met, (p2.met, ()))) fun r2 =>
        if r2.1 then
          Option.bind (N_ref17_Same (p1.end_, (p2.end_, ()))) fun r3 =>
            if r3.1 then
              Option.bind (N_ref21_samePlan (p1.plan, (p2.plan, ()))) fun r4 =>
                if r4.1 then
                  Option.bind (N_ref21_sameCome (p1, (p2, ()))) fun r5 =>
                    if r5.1 then
                      Option.bind (N_ref21_SameReplies (p1.replies, (p2.replies, ()))) fun r6 =>
                        some (r6.1, ())
                    else
                      some (Bool.false, ())
                else
                  some (Bool.false, ())
            else
              some (Bool.false, ())
        else
          some (Bool.false, ())
    else
      some (Bool.false, ())
noncomputable def D_ref21_Same_l2 (p1 : Site) (p2 : Site) (l1 : (Int × Unit)) : Option ((Int × Unit) ⊕ (Bool × Unit)) :=
    if (decide (l1.1 < (((List.length p1.syncs) : Nat) : Int))) then
    if (decide (((0 : Int) ≤ l1.1) ∧ (l1.1 < (((List.length p1.syncs) : Nat) : Int)))) then
    if (decide (((0 : Int) ≤ l1.1) ∧ (l1.1 < (((List.length p2.syncs) : Nat) : Int)))) then
    if ((nth p1.syncs (Int.toNat l1.1)) != (nth p2.syncs (Int.toNat l1.1))) then
      some (Sum.inr (Bool.false, ()))
    else
      some (Sum.inl ((IntKind.wrap IntKind.i64 (l1.1 + (1 : Int))), ()))
    else none
    else none
  else
    Option.map Sum.inr (D_ref21_Same_t1 p1 p2)
noncomputable def D_ref21_Same_l3 (p1 : Site) (p2 : Site) (l1 : (Int × Unit)) : Option ((Int × Unit) ⊕ (Bool × Unit)) :=
    if (decide (l1.1 < (((List.length p1.sides) : Nat) : Int))) then
    if (decide (((0 : Int) ≤ l1.1) ∧ (l1.1 < (((List.length p1.sides) : Nat) : Int)))) then
    if (decide (((0 : Int) ≤ l1.1) ∧ (l1.1 < (((List.length p2.sides) : Nat) : Int)))) then
    Option.bind (N_ref21_SameSide ((nth p1.sides (Int.toNat l1.1)), ((nth p2.sides (Int.toNat l1.1)), ()))) fun r2 =>
      if (!r2.1) then
        some (Sum.inr (Bool.false, ()))
      else
        some (Sum.inl ((IntKind.wrap IntKind.i64 (l1.1 + (1 : Int))), ()))
    else none
    else none
  else
    Option.map Sum.inr (loopO (D_ref21_Same_l2 p1 p2) ((0 : Int), ()))
noncomputable def D_ref21_Same (p1 : Site) (p2 : Site) : Option (Bool × Unit) :=
  if (p1.id != p2.id) then
    some (Bool.false, ())
  else
    if (p1.born != p2.born) then
      some (Bool.false, ())
    else
      if (!(p1.ready == p2.ready)) then
        some (Bool.false, ())
      else
        if ((((List.length p1.sides) : Nat) : Int) != (((List.length p2.sides) : Nat) : Int)) then
          some (Bool.false, ())
        else
          if ((((List.length p1.syncs) : Nat) : Int) != (((List.length p2.syncs) : Nat) : Int)) then
            some (Bool.false, ())
          else
            loopO (D_ref21_Same_l3 p1 p2) ((0 : Int), ())
noncomputable def D_ref21_SameSide_t1 (p1 : Side) (p2 : Side) : Option (Bool × Unit) :=
    if (p1.n == p2.n) then
    if (p1.first == p2.first) then
      if (p1.next == p2.next) then
        if (p1.op == p2.op) then
          if (p1.ask == p2.ask) then
            if (p1.knows == p2.knows) then
              if (p1.over == p2.over) then
                if (p1.clean == p2.clean) then
                  some ((p1.again == p2.again), ())
                else
                  some (Bool.false, ())
              else
                some (Bool.false, ())
            else
              some (Bool.false, ())
          else
            some (Bool.false, ())
        else
          some (Bool.false, ())
      else
        some (Bool.false, ())
    else
      some (Bool.false, ())
  else
    some (Bool.false, ())
noncomputable def D_ref21_SameSide_l2 (p1 : Side) (p2 : Side) (l1 : (Int × Unit)) : Option ((Int × Unit) ⊕ (Bool × Unit)) :=
    if (decide (l1.1 < (((List.length p1.waits) : Nat) : Int))) then
    if (decide (((0 : Int) ≤ l1.1) ∧ (l1.1 < (((List.length p1.waits) : Nat) : Int)))) then
    if (decide (((0 : Int) ≤ l1.1) ∧ (l1.1 < (((List.length p2.waits) : Nat) : Int)))) then
    if (!(((nth p1.waits (Int.toNat l1.1)).ask == (nth p2.waits (Int.toNat l1.1)).ask) && (((nth p1.waits (Int.toNat l1.1)).track == (nth p2.waits (Int.toNat l1.1)).track) && (((nth p1.waits (Int.toNat l1.1)).n == (nth p2.waits (Int.toNat l1.1)).n) && (((nth p1.waits (Int.toNat l1.1)).read == (nth p2.waits (Int.toNat l1.1)).read) && Bool.true))))) then
      some (Sum.inr (Bool.false, ()))
    else
      some (Sum.inl ((IntKind.wrap IntKind.i64 (l1.1 + (1 : Int))), ()))
    else none
    else none
  else
    Option.map Sum.inr (D_ref21_SameSide_t1 p1 p2)
noncomputable def D_ref21_SameSide_l3 (p1 : Side) (p2 : Side) (l1 : (Int × Unit)) : Option ((Int × Unit) ⊕ (Bool × Unit)) :=
    if (decide (l1.1 < (((List.length p1.out) : Nat) : Int))) then
    if (decide (((0 : Int) ≤ l1.1) ∧ (l1.1 < (((List.length p1.out) : Nat) : Int)))) then
    if (decide (((0 : Int) ≤ l1.1) ∧ (l1.1 < (((List.length p2.out) : Nat) : Int)))) then
    if (!(((nth p1.out (Int.toNat l1.1)).track == (nth p2.out (Int.toNat l1.1)).track) && (((nth p1.out (Int.toNat l1.1)).n == (nth p2.out (Int.toNat l1.1)).n) && (((nth p1.out (Int.toNat l1.1)).dirty == (nth p2.out (Int.toNat l1.1)).dirty) && Bool.true)))) then
      some (Sum.inr (Bool.false, ()))
    else
      some (Sum.inl ((IntKind.wrap IntKind.i64 (l1.1 + (1 : Int))), ()))
    else none
    else none
  else
    Option.map Sum.inr (loopO (D_ref21_SameSide_l2 p1 p2) ((0 : Int), ()))
noncomputable def D_ref21_SameSide (p1 : Side) (p2 : Side) : Option (Bool × Unit) :=
  if (p1.marks != p2.marks) then
    some (Bool.false, ())
  else
    if (p1.work != p2.work) then
      some (Bool.false, ())
    else
      if (p1.need != p2.need) then
        some (Bool.false, ())
      else
        if ((((List.length p1.out) : Nat) : Int) != (((List.length p2.out) : Nat) : Int)) then
          some (Bool.false, ())
        else
          if ((((List.length p1.waits) : Nat) : Int) != (((List.length p2.waits) : Nat) : Int)) then
            some (Bool.false, ())
          else
            loopO (D_ref21_SameSide_l3 p1 p2) ((0 : Int), ())
noncomputable def D_ref21_SameReply (p1 : Reply) (p2 : Reply) : Option (Bool × Unit) :=
  if (p1.ask == p2.ask) then
    if (p1.code == p2.code) then
      if (p1.state == p2.state) then
        some ((p1.bytes == p2.bytes), ())
      else
        some (Bool.false, ())
    else
      some (Bool.false, ())
  else
    some (Bool.false, ())
noncomputable def D_ref21_SameReplies_l1  (l1 : ((List Reply) × ((List Reply) × (Int × Unit)))) : Option (((List Reply) × ((List Reply) × (Int × Unit))) ⊕ (Bool × Unit)) :=
    if (decide (l1.2.2.1 < (((List.length l1.1) : Nat) : Int))) then
    if (decide (((0 : Int) ≤ l1.2.2.1) ∧ (l1.2.2.1 < (((List.length l1.1) : Nat) : Int)))) then
    if (decide (((0 : Int) ≤ l1.2.2.1) ∧ (l1.2.2.1 < (((List.length l1.2.1) : Nat) : Int)))) then
    Option.bind (N_ref21_SameReply ((nth l1.1 (Int.toNat l1.2.2.1)), ((nth l1.2.1 (Int.toNat l1.2.2.1)), ()))) fun r2 =>
      if (!r2.1) then
        some (Sum.inr (Bool.false, ()))
      else
        some (Sum.inl (l1.1, (l1.2.1, ((IntKind.wrap IntKind.i64 (l1.2.2.1 + (1 : Int))), ()))))
    else none
    else none
  else
    some (Sum.inr (Bool.true, ()))
noncomputable def D_ref21_SameReplies (p1 : (List Reply)) (p2 : (List Reply)) : Option (Bool × Unit) :=
  if ((((List.length p1) : Nat) : Int) != (((List.length p2) : Nat) : Int)) then
    some (Bool.false, ())
  else
    loopO (D_ref21_SameReplies_l1 ) (p1, (p2, ((0 : Int), ())))
noncomputable def D_ref21_samePlan_l1  (l1 : ((List Act) × ((List Act) × (Int × Unit)))) : Option (((List Act) × ((List Act) × (Int × Unit))) ⊕ (Bool × Unit)) :=
    if (decide (l1.2.2.1 < (((List.length l1.1) : Nat) : Int))) then
    if (decide (((0 : Int) ≤ l1.2.2.1) ∧ (l1.2.2.1 < (((List.length l1.1) : Nat) : Int)))) then
    if (decide (((0 : Int) ≤ l1.2.2.1) ∧ (l1.2.2.1 < (((List.length l1.2.1) : Nat) : Int)))) then
    if ((nth l1.1 (Int.toNat l1.2.2.1)).kind != (nth l1.2.1 (Int.toNat l1.2.2.1)).kind) then
      some (Sum.inr (Bool.false, ()))
    else
      if ((nth l1.1 (Int.toNat l1.2.2.1)).at_ != (nth l1.2.1 (Int.toNat l1.2.2.1)).at_) then
        some (Sum.inr (Bool.false, ()))
      else
        if ((nth l1.1 (Int.toNat l1.2.2.1)).bytes != (nth l1.2.1 (Int.toNat l1.2.2.1)).bytes) then
          some (Sum.inr (Bool.false, ()))
        else
          if ((nth l1.1 (Int.toNat l1.2.2.1)).me != (nth l1.2.1 (Int.toNat l1.2.2.1)).me) then
            some (Sum.inr (Bool.false, ()))
          else
            if ((nth l1.1 (Int.toNat l1.2.2.1)).you != (nth l1.2.1 (Int.toNat l1.2.2.1)).you) then
              some (Sum.inr (Bool.false, ()))
            else
              Option.bind (N_ref20_Same ((nth l1.1 (Int.toNat l1.2.2.1)).msg, ((nth l1.2.1 (Int.toNat l1.2.2.1)).msg, ()))) fun r2 =>
                if (!r2.1) then
                  some (Sum.inr (Bool.false, ()))
                else
                  Option.bind (N_ref21_SameReply ((nth l1.1 (Int.toNat l1.2.2.1)).reply, ((nth l1.2.1 (Int.toNat l1.2.2.1)).reply, ()))) fun r3 =>
                    if (!r3.1) then
                      some (Sum.inr (Bool.false, ()))
                    else
                      if ((nth l1.1 (Int.toNat l1.2.2.1)).pair != (nth l1.2.1 (Int.toNat l1.2.2.1)).pair) then
                        some (Sum.inr (Bool.false, ()))
                      else
                        some (Sum.inl (l1.1, (l1.2.1, ((IntKind.wrap IntKind.i64 (l1.2.2.1 + (1 : Int))), ()))))
    else none
    else none
  else
    some (Sum.inr (Bool.true, ()))
noncomputable def D_ref21_samePlan (p1 : (List Act)) (p2 : (List Act)) : Option (Bool × Unit) :=
  if ((((List.length p1) : Nat) : Int) != (((List.length p2) : Nat) : Int)) then
    some (Bool.false, ())
  else
    loopO (D_ref21_samePlan_l1 ) (p1, (p2, ((0 : Int), ())))
noncomputable def D_ref21_sameCome_l1 (p1 : Site) (p2 : Site) (l1 : (Int × Unit)) : Option ((Int × Unit) ⊕ (Bool × Unit)) :=
    if (decide (l1.1 < (((List.length p1.asks) : Nat) : Int))) then
    if (decide (((0 : Int) ≤ l1.1) ∧ (l1.1 < (((List.length p1.asks) : Nat) : Int)))) then
    if (decide (((0 : Int) ≤ l1.1) ∧ (l1.1 < (((List.length p2.asks) : Nat) : Int)))) then
    if ((nth p1.asks (Int.toNat l1.1)).id != (nth p2.asks (Int.toNat l1.1)).id) then
      some (Sum.inr (Bool.false, ()))
    else
      if ((nth p1.asks (Int.toNat l1.1)).kind != (nth p2.asks (Int.toNat l1.1)).kind) then
        some (Sum.inr (Bool.false, ()))
      else
        if ((nth p1.asks (Int.toNat l1.1)).pair != (nth p2.asks (Int.toNat l1.1)).pair) then
          some (Sum.inr (Bool.false, ()))
        else
          if ((nth p1.asks (Int.toNat l1.1)).track != (nth p2.asks (Int.toNat l1.1)).track) then
            some (Sum.inr (Bool.false, ()))
          else
            if ((nth p1.asks (Int.toNat l1.1)).op != (nth p2.asks (Int.toNat l1.1)).op) then
              some (Sum.inr (Bool.false, ()))
            else
              if ((nth p1.asks (Int.toNat l1.1)).bytes != (nth p2.asks (Int.toNat l1.1)).bytes) then
                some (Sum.inr (Bool.false, ()))
              else
                some (Sum.inl ((IntKind.wrap IntKind.i64 (l1.1 + (1 : Int))), ()))
    else none
    else none
  else
    some (Sum.inr (Bool.true, ()))
noncomputable def D_ref21_sameCome_l2 (p1 : Site) (p2 : Site) (l1 : (Int × Unit)) : Option ((Int × Unit) ⊕ (Bool × Unit)) :=
    if (decide (l1.1 < (((List.length p1.mail) : Nat) : Int))) then
    if (decide (((0 : Int) ≤ l1.1) ∧ (l1.1 < (((List.length p1.mail) : Nat) : Int)))) then
    if (decide (((0 : Int) ≤ l1.1) ∧ (l1.1 < (((List.length p2.mail) : Nat) : Int)))) then
    if ((nth p1.mail (Int.toNat l1.1)).kind != (nth p2.mail (Int.toNat l1.1)).kind) then
      some (Sum.inr (Bool.false, ()))
    else
      if ((nth p1.mail (Int.toNat l1.1)).me != (nth p2.mail (Int.toNat l1.1)).me) then
        some (Sum.inr (Bool.false, ()))
      else
        if ((nth p1.mail (Int.toNat l1.1)).you != (nth p2.mail (Int.toNat l1.1)).you) then
          some (Sum.inr (Bool.false, ()))
        else
          Option.bind (N_ref20_Same ((nth p1.mail (Int.toNat l1.1)).msg, ((nth p2.mail (Int.toNat l1.1)).msg, ()))) fun r2 =>
            if (!r2.1) then
              some (Sum.inr (Bool.false, ()))
            else
              some (Sum.inl ((IntKind.wrap IntKind.i64 (l1.1 + (1 : Int))), ()))
    else none
    else none
  else
    Option.map Sum.inr (loopO (D_ref21_sameCome_l1 p1 p2) ((0 : Int), ()))
noncomputable def D_ref21_sameCome (p1 : Site) (p2 : Site) : Option (Bool × Unit) :=
  if ((((List.length p1.mail) : Nat) : Int) != (((List.length p2.mail) : Nat) : Int)) then
    some (Bool.false, ())
  else
    if ((((List.length p1.asks) : Nat) : Int) != (((List.length p2.asks) : Nat) : Int)) then
      some (Bool.false, ())
    else
      loopO (D_ref21_sameCome_l2 p1 p2) ((0 : Int), ())
noncomputable def D_ref12_Same (p1 : Meta) (p2 : Meta) : Option (Bool × Unit) :=
  if ((p1.super.boot == p2.super.boot) && ((p1.super.area == p2.super.area) && ((p1.super.gen == p2.super.gen) && Bool.true))) then
    if (p1.count == p2.count) then
      if (p1.turn == p2.turn) then
        Option.bind (N_ref11_Same (p1.table, (p2.table, ()))) fun r2 =>
          some (r2.1, ())
      else
        some (Bool.false, ())
    else
      some (Bool.false, ())
  else
    some (Bool.false, ())
noncomputable def D_ref11_Same_l1  (l1 : ((List Rec) × ((List Rec) × (Int × Unit)))) : Option (((List Rec) × ((List Rec) × (Int × Unit))) ⊕ (Bool × Unit)) :=
    if (decide (l1.2.2.1 < (((List.length l1.1) : Nat) : Int))) then
    if (decide (((0 : Int) ≤ l1.2.2.1) ∧ (l1.2.2.1 < (((List.length l1.1) : Nat) : Int)))) then
    if (decide (((0 : Int) ≤ l1.2.2.1) ∧ (l1.2.2.1 < (((List.length l1.2.1) : Nat) : Int)))) then
    if (!(((nth l1.1 (Int.toNat l1.2.2.1)).pair == (nth l1.2.1 (Int.toNat l1.2.2.1)).pair) && (((nth l1.1 (Int.toNat l1.2.2.1)).born == (nth l1.2.1 (Int.toNat l1.2.2.1)).born) && (((nth l1.1 (Int.toNat l1.2.2.1)).epoch == (nth l1.2.1 (Int.toNat l1.2.2.1)).epoch) && (((nth l1.1 (Int.toNat l1.2.2.1)).lead == (nth l1.2.1 (Int.toNat l1.2.2.1)).lead) && (((nth l1.1 (Int.toNat l1.2.2.1)).phase == (nth l1.2.1 (Int.toNat l1.2.2.1)).phase) && (((nth l1.1 (Int.toNat l1.2.2.1)).from_ == (nth l1.2.1 (Int.toNat l1.2.2.1)).from_) && (((nth l1.1 (Int.toNat l1.2.2.1)).quick == (nth l1.2.1 (Int.toNat l1.2.2.1)).quick) && (((nth l1.1 (Int.toNat l1.2.2.1)).alone == (nth l1.2.1 (Int.toNat l1.2.2.1)).alone) && Bool.true))))))))) then
      some (Sum.inr (Bool.false, ()))
    else
      some (Sum.inl (l1.1, (l1.2.1, ((IntKind.wrap IntKind.i64 (l1.2.2.1 + (1 : Int))), ()))))
    else none
    else none
  else
    some (Sum.inr (Bool.true, ()))
noncomputable def D_ref11_Same (p1 : (List Rec)) (p2 : (List Rec)) : Option (Bool × Unit) :=
  if ((((List.length p1) : Nat) : Int) != (((List.length p2) : Nat) : Int)) then
    some (Bool.false, ())
  else
    loopO (D_ref11_Same_l1 ) (p1, (p2, ((0 : Int), ())))
noncomputable def D_ref17_Same (p1 : End) (p2 : End) : Option (Bool × Unit) :=
  if (p1.me == p2.me) then
    if (p1.you == p2.you) then
      if (p1.up == p2.up) then
        if (p1.dead == p2.dead) then
          if (p1.sent == p2.sent) then
            if (p1.done == p2.done) then
              if (p1.got == p2.got) then
                if (p1.quiet == p2.quiet) then
                  Option.bind (N_ref04_Same (p1.out, (p2.out, ()))) fun r2 =>
                    some (r2.1, ())
                else
                  some (Bool.false, ())
              else
                some (Bool.false, ())
            else
              some (Bool.false, ())
          else
            some (Bool.false, ())
        else
          some (Bool.false, ())
      else
        some (Bool.false, ())
    else
      some (Bool.false, ())
  else
    some (Bool.false, ())
noncomputable def D_ref04_Same (p1 : Queue) (p2 : Queue) : Option (Bool × Unit) :=
  if (p1.head == p2.head) then
    if (p1.many == p2.many) then
      Option.bind (N_ref04_SameAll (p1.items, (p2.items, ()))) fun r2 =>
        some (r2.1, ())
    else
      some (Bool.false, ())
  else
    some (Bool.false, ())
noncomputable def D_ref04_SameAll_l1  (l1 : ((List (List Int)) × ((List (List Int)) × (Int × Unit)))) : Option (((List (List Int)) × ((List (List Int)) × (Int × Unit))) ⊕ (Bool × Unit)) :=
    if (decide (l1.2.2.1 < (((List.length l1.1) : Nat) : Int))) then
    if (decide (((0 : Int) ≤ l1.2.2.1) ∧ (l1.2.2.1 < (((List.length l1.1) : Nat) : Int)))) then
    if (decide (((0 : Int) ≤ l1.2.2.1) ∧ (l1.2.2.1 < (((List.length l1.2.1) : Nat) : Int)))) then
    if ((nth l1.1 (Int.toNat l1.2.2.1)) != (nth l1.2.1 (Int.toNat l1.2.2.1))) then
      some (Sum.inr (Bool.false, ()))
    else
      some (Sum.inl (l1.1, (l1.2.1, ((IntKind.wrap IntKind.i64 (l1.2.2.1 + (1 : Int))), ()))))
    else none
    else none
  else
    some (Sum.inr (Bool.true, ()))
noncomputable def D_ref04_SameAll (p1 : (List (List Int))) (p2 : (List (List Int))) : Option (Bool × Unit) :=
  if ((((List.length p1) : Nat) : Int) != (((List.length p2) : Nat) : Int)) then
    some (Bool.false, ())
  else
    loopO (D_ref04_SameAll_l1 ) (p1, (p2, ((0 : Int), ())))
noncomputable def D_ref20_Same (p1 : Msg) (p2 : Msg) : Option (Bool × Unit) :=
  if (p1.kind == p2.kind) then
    if (p1.pair == p2.pair) then
      if (p1.has == p2.has) then
        if ((p1.rec_.pair == p2.rec_.pair) && ((p1.rec_.born == p2.rec_.born) && ((p1.rec_.epoch == p2.rec_.epoch) && ((p1.rec_.lead == p2.rec_.lead) && ((p1.rec_.phase == p2.rec_.phase) && ((p1.rec_.from_ == p2.rec_.from_) && ((p1.rec_.quick == p2.rec_.quick) && ((p1.rec_.alone == p2.rec_.alone) && Bool.true)))))))) then
          if (p1.op == p2.op) then
            if (p1.born == p2.born) then
              if (p1.epoch == p2.epoch) then
                if (p1.track == p2.track) then
                  if (p1.n == p2.n) then
                    if (p1.code == p2.code) then
                      if (p1.marks == p2.marks) then
                        some ((p1.bytes == p2.bytes), ())
                      else
                        some (Bool.false, ())
                    else
                      some (Bool.false, ())
                  else
                    some (Bool.false, ())
                else
                  some (Bool.false, ())
              else
                some (Bool.false, ())
            else
              some (Bool.false, ())
          else
            some (Bool.false, ())
        else
          some (Bool.false, ())
      else
        some (Bool.false, ())
    else
      some (Bool.false, ())
  else
    some (Bool.false, ())
noncomputable def D_act_Check_t1 (l1 : ((List Ask) × (Int × (Int × Unit)))) : Option (Int × Unit) :=
    if (decide (l1.2.2.1 ≥ (0 : Int))) then
    some ((8 : Int), ())
  else
    some ((0 : Int), ())
noncomputable def D_act_Check_l2  (l1 : ((List Ask) × (Int × (Int × Unit)))) : Option (((List Ask) × (Int × (Int × Unit))) ⊕ (Int × Unit)) :=
    if (decide (l1.2.2.1 < l1.2.1)) then
    if (decide (((0 : Int) ≤ l1.2.2.1) ∧ (l1.2.2.1 < (((List.length l1.1) : Nat) : Int)))) then
    if (decide ((nth l1.1 (Int.toNat l1.2.2.1)).kind < (1 : Int))) then
      Option.map Sum.inr (D_act_Check_t1 l1)
    else
      if (decide ((nth l1.1 (Int.toNat l1.2.2.1)).kind > (3 : Int))) then
        Option.map Sum.inr (D_act_Check_t1 l1)
      else
        some (Sum.inl (l1.1, (l1.2.1, ((IntKind.wrap IntKind.i64 (l1.2.2.1 + (1 : Int))), ()))))
    else none
  else
    some (Sum.inr ((0 : Int), ()))
noncomputable def D_act_Check_t3 (p2 : Site) (l1 : ((List Mail) × (Int × (Int × Unit)))) : Option (Int × Unit) :=
    if (decide (l1.2.2.1 ≥ (0 : Int))) then
    some ((8 : Int), ())
  else
    loopO (D_act_Check_l2 ) (p2.asks, ((((List.length p2.asks) : Nat) : Int), ((0 : Int), ())))
noncomputable def D_act_Check_t4 (p2 : Site) : Option (Int × Unit) :=
    loopO (D_act_Check_l2 ) (p2.asks, ((((List.length p2.asks) : Nat) : Int), ((0 : Int), ())))
noncomputable def D_act_Check_l5 (p1 : Config) (p2 : Site) (l1 : ((List Mail) × (Int × (Int × Unit)))) : Option (((List Mail) × (Int × (Int × Unit))) ⊕ (Int × Unit)) :=
    if (decide (l1.2.2.1 < l1.2.1)) then
    if (decide (((0 : Int) ≤ l1.2.2.1) ∧ (l1.2.2.1 < (((List.length l1.1) : Nat) : Int)))) then
    Option.bind (N_act_limits_mail (p1, ((nth l1.1 (Int.toNat l1.2.2.1)), ()))) fun r2 =>
      if (!r2.1) then
        Option.map Sum.inr (D_act_Check_t3 p2 l1)
      else
        some (Sum.inl (l1.1, (l1.2.1, ((IntKind.wrap IntKind.i64 (l1.2.2.1 + (1 : Int))), ()))))
    else none
  else
    Option.map Sum.inr (D_act_Check_t4 p2)
noncomputable def D_act_Check_t6 (p1 : Config) (p2 : Site) (l1 : ((List Act) × (Int × (Int × Unit)))) : Option (Int × Unit) :=
    if (decide (l1.2.2.1 ≥ (0 : Int))) then
    some ((8 : Int), ())
  else
    loopO (D_act_Check_l5 p1 p2) (p2.mail, ((((List.length p2.mail) : Nat) : Int), ((0 : Int), ())))
noncomputable def D_act_Check_t7 (p1 : Config) (p2 : Site) : Option (Int × Unit) :=
    loopO (D_act_Check_l5 p1 p2) (p2.mail, ((((List.length p2.mail) : Nat) : Int), ((0 : Int), ())))
noncomputable def D_act_Check_l8 (p1 : Config) (p2 : Site) (l1 : ((List Act) × (Int × (Int × Unit)))) : Option (((List Act) × (Int × (Int × Unit))) ⊕ (Int × Unit)) :=
    if (decide (l1.2.2.1 < l1.2.1)) then
    if (decide (((0 : Int) ≤ l1.2.2.1) ∧ (l1.2.2.1 < (((List.length l1.1) : Nat) : Int)))) then
    Option.bind (N_act_limits_act (p1, ((nth l1.1 (Int.toNat l1.2.2.1)), ((((List.length p2.disk.sectors) : Nat) : Int), ())))) fun r2 =>
      if (!r2.1) then
        Option.map Sum.inr (D_act_Check_t6 p1 p2 l1)
      else
        some (Sum.inl (l1.1, (l1.2.1, ((IntKind.wrap IntKind.i64 (l1.2.2.1 + (1 : Int))), ()))))
    else none
  else
    Option.map Sum.inr (D_act_Check_t7 p1 p2)
noncomputable def D_act_Check_t9 (p1 : Config) (p2 : Site) (l1 : ((List Side) × (Int × (Int × Unit)))) : Option (Int × Unit) :=
    if (decide (l1.2.2.1 ≥ (0 : Int))) then
    some ((8 : Int), ())
  else
    loopO (D_act_Check_l8 p1 p2) (p2.plan, ((((List.length p2.plan) : Nat) : Int), ((0 : Int), ())))
noncomputable def D_act_Check_t10 (p1 : Config) (p2 : Site) : Option (Int × Unit) :=
    loopO (D_act_Check_l8 p1 p2) (p2.plan, ((((List.length p2.plan) : Nat) : Int), ((0 : Int), ())))
noncomputable def D_act_Check_l11 (p1 : Config) (p2 : Site) (l1 : ((List Side) × (Int × (Int × Unit)))) : Option (((List Side) × (Int × (Int × Unit))) ⊕ (Int × Unit)) :=
    if (decide (l1.2.2.1 < l1.2.1)) then
    if (decide (((0 : Int) ≤ l1.2.2.1) ∧ (l1.2.2.1 < (((List.length l1.1) : Nat) : Int)))) then
    Option.bind (N_act_limits_side (p1, ((nth l1.1 (Int.toNat l1.2.2.1)), ()))) fun r2 =>
      if (!r2.1) then
        Option.map Sum.inr (D_act_Check_t9 p1 p2 l1)
      else
        some (Sum.inl (l1.1, (l1.2.1, ((IntKind.wrap IntKind.i64 (l1.2.2.1 + (1 : Int))), ()))))
    else none
  else
    Option.map Sum.inr (D_act_Check_t10 p1 p2)
noncomputable def D_act_Check_t12 (p1 : Config) (p2 : Site) (l1 : ((List Rec) × (Int × (Int × Unit)))) : Option (Int × Unit) :=
    if (decide (l1.2.2.1 ≥ (0 : Int))) then
    some ((8 : Int), ())
  else
    loopO (D_act_Check_l11 p1 p2) (p2.sides, ((((List.length p2.sides) : Nat) : Int), ((0 : Int), ())))
noncomputable def D_act_Check_t13 (p1 : Config) (p2 : Site) : Option (Int × Unit) :=
    loopO (D_act_Check_l11 p1 p2) (p2.sides, ((((List.length p2.sides) : Nat) : Int), ((0 : Int), ())))
noncomputable def D_act_Check_l14 (p1 : Config) (p2 : Site) (l1 : ((List Rec) × (Int × (Int × Unit)))) : Option (((List Rec) × (Int × (Int × Unit))) ⊕ (Int × Unit)) :=
    if (decide (l1.2.2.1 < l1.2.1)) then
    if (decide (((0 : Int) ≤ l1.2.2.1) ∧ (l1.2.2.1 < (((List.length l1.1) : Nat) : Int)))) then
    Option.bind (N_act_limits_pair (p1, ((nth l1.1 (Int.toNat l1.2.2.1)).pair, ()))) fun r2 =>
      if (!r2.1) then
        Option.map Sum.inr (D_act_Check_t12 p1 p2 l1)
      else
        some (Sum.inl (l1.1, (l1.2.1, ((IntKind.wrap IntKind.i64 (l1.2.2.1 + (1 : Int))), ()))))
    else none
  else
    Option.map Sum.inr (D_act_Check_t13 p1 p2)
noncomputable def D_act_Check (p1 : Config) (p2 : Site) : Option (Int × Unit) :=
  Option.bind (N_place_Check (p1, ())) fun r2 =>
    if (r2.1 != (0 : Int)) then
      some ((8 : Int), ())
    else
      if (p2.id != (0 : Int)) then
        if (p2.id != (1 : Int)) then
          some ((8 : Int), ())
        else
          Option.bind (N_track_Check (p1, (p2.disk, ()))) fun r3 =>
            if (r3.1 != (0 : Int)) then
              some ((8 : Int), ())
            else
              Option.bind (N_meta_Check (p1, (p2.met, ()))) fun r4 =>
                if (r4.1 != (0 : Int)) then
                  some ((8 : Int), ())
                else
                  Option.bind (N_sess_Check (p1, (p2.end_, ()))) fun r5 =>
                    if (r5.1 != (0 : Int)) then
                      some ((8 : Int), ())
                    else
                      if ((((List.length p2.sides) : Nat) : Int) != p1.pairs) then
                        some ((8 : Int), ())
                      else
                        if (decide (p2.born > (64 : Int))) then
                          some ((8 : Int), ())
                        else
                          loopO (D_act_Check_l14 p1 p2) (p2.met.table, ((((List.length p2.met.table) : Nat) : Int), ((0 : Int), ())))
      else
        Option.bind (N_track_Check (p1, (p2.disk, ()))) fun r3 =>
          if (r3.1 != (0 : Int)) then
            some ((8 : Int), ())
          else
            Option.bind (N_meta_Check (p1, (p2.met, ()))) fun r4 =>
              if (r4.1 != (0 : Int)) then
                some ((8 : Int), ())
              else
                Option.bind (N_sess_Check (p1, (p2.end_, ()))) fun r5 =>
                  if (r5.1 != (0 : Int)) then
                    some ((8 : Int), ())
                  else
                    if ((((List.length p2.sides) : Nat) : Int) != p1.pairs) then
                      some ((8 : Int), ())
                    else
                      if (decide (p2.born > (64 : Int))) then
                        some ((8 : Int), ())
                      else
                        loopO (D_act_Check_l14 p1 p2) (p2.met.table, ((((List.length p2.met.table) : Nat) : Int), ((0 : Int), ())))
noncomputable def D_disk_Crash_l1  (l1 : (((List Sector) × ((List Pend) × Unit)) × (Int × (Int × Unit)))) : Option ((((List Sector) × ((List Pend) × Unit)) × (Int × (Int × Unit))) ⊕ (Disk × (Int × Unit))) :=
    if (decide (l1.2.2.1 < l1.2.1)) then
    if (decide (((0 : Int) ≤ l1.2.2.1) ∧ (l1.2.2.1 < (((List.length l1.1.1) : Nat) : Int)))) then
    Option.bind (N_slices_Clone_byte_byte ((nth l1.1.1 (Int.toNat l1.2.2.1)).bytes, ())) fun r2 =>
      if (decide (((0 : Int) ≤ l1.2.2.1) ∧ (l1.2.2.1 < (((List.length l1.1.1) : Nat) : Int)))) then
      some (Sum.inl (((List.set l1.1.1 (Int.toNat l1.2.2.1) (Sector.mk r2.1 (nth l1.1.1 (Int.toNat l1.2.2.1)).bad)), (l1.1.2.1, ())), (l1.2.1, ((IntKind.wrap IntKind.i64 (l1.2.2.1 + (1 : Int))), ()))))
      else none
    else none
  else
    some (Sum.inr ((Disk.mk l1.1.1 []), ((0 : Int), ())))
noncomputable def D_disk_Crash_t2 (l1 : ((List Int) × (((List Sector) × ((List Pend) × Unit)) × ((List Pend) × (Int × (Int × Unit)))))) : Option (Disk × (Int × Unit)) :=
    loopO (D_disk_Crash_l1 ) ((l1.2.1.1, (l1.2.1.2.1, ())), ((((List.length l1.2.1.1) : Nat) : Int), ((0 : Int), ())))
noncomputable def D_disk_Crash_l3  (l1 : ((List Int) × (((List Sector) × ((List Pend) × Unit)) × ((List Pend) × (Int × (Int × Unit)))))) : Option (((List Int) × (((List Sector) × ((List Pend) × Unit)) × ((List Pend) × (Int × (Int × Unit))))) ⊕ (Disk × (Int × Unit))) :=
    if (decide (l1.2.2.2.2.1 < l1.2.2.2.1)) then
    if (decide (((0 : Int) ≤ l1.2.2.2.2.1) ∧ (l1.2.2.2.2.1 < (((List.length l1.2.2.1) : Nat) : Int)))) then
    if (decide (l1.2.2.2.2.1 ≥ (((List.length l1.1) : Nat) : Int))) then
      Option.map Sum.inr (D_disk_Crash_t2 l1)
    else
      if (decide (((0 : Int) ≤ l1.2.2.2.2.1) ∧ (l1.2.2.2.2.1 < (((List.length l1.1) : Nat) : Int)))) then
      if ((3 : Int) != (0 : Int)) then
      if ((Int.tmod (nth l1.1 (Int.toNat l1.2.2.2.2.1)) (3 : Int)) == (1 : Int)) then
        if (decide (((0 : Int) ≤ (nth l1.2.2.1 (Int.toNat l1.2.2.2.2.1)).at_) ∧ ((nth l1.2.2.1 (Int.toNat l1.2.2.2.2.1)).at_ < (((List.length l1.2.1.1) : Nat) : Int)))) then
        some (Sum.inl (l1.1, (((List.set l1.2.1.1 (Int.toNat (nth l1.2.2.1 (Int.toNat l1.2.2.2.2.1)).at_) (Sector.mk (nth l1.2.2.1 (Int.toNat l1.2.2.2.2.1)).bytes Bool.false)), (l1.2.1.2.1, ())), (l1.2.2.1, (l1.2.2.2.1, ((IntKind.wrap IntKind.i64 (l1.2.2.2.2.1 + (1 : Int))), ()))))))
        else none
      else
        if ((Int.tmod (nth l1.1 (Int.toNat l1.2.2.2.2.1)) (3 : Int)) == (2 : Int)) then
          Option.bind (N_disk_none ()) fun r2 =>
            if (decide (((0 : Int) ≤ (nth l1.2.2.1 (Int.toNat l1.2.2.2.2.1)).at_) ∧ ((nth l1.2.2.1 (Int.toNat l1.2.2.2.2.1)).at_ < (((List.length l1.2.1.1) : Nat) : Int)))) then
            some (Sum.inl (l1.1, (((List.set l1.2.1.1 (Int.toNat (nth l1.2.2.1 (Int.toNat l1.2.2.2.2.1)).at_) (Sector.mk r2.1 Bool.true)), (l1.2.1.2.1, ())), (l1.2.2.1, (l1.2.2.2.1, ((IntKind.wrap IntKind.i64 (l1.2.2.2.2.1 + (1 : Int))), ()))))))
            else none
        else
          some (Sum.inl (l1.1, ((l1.2.1.1, (l1.2.1.2.1, ())), (l1.2.2.1, (l1.2.2.2.1, ((IntKind.wrap IntKind.i64 (l1.2.2.2.2.1 + (1 : Int))), ()))))))
      else none
      else none
    else none
  else
    Option.map Sum.inr (D_disk_Crash_t2 l1)
noncomputable def D_disk_Crash_t4 (p2 : (List Int)) (l1 : (((List Sector) × ((List Pend) × Unit)) × ((List Pend) × (Int × (Int × Unit))))) : Option (Disk × (Int × Unit)) :=
    loopO (D_disk_Crash_l3 ) (p2, ((l1.1.1, (l1.1.2.1, ())), (l1.1.2.1, ((((List.length l1.1.2.1) : Nat) : Int), ((0 : Int), ())))))
noncomputable def D_disk_Crash_l5 (p2 : (List Int)) (l1 : (((List Sector) × ((List Pend) × Unit)) × ((List Pend) × (Int × (Int × Unit))))) : Option ((((List Sector) × ((List Pend) × Unit)) × ((List Pend) × (Int × (Int × Unit)))) ⊕ (Disk × (Int × Unit))) :=
    if (decide (l1.2.2.2.1 < l1.2.2.1)) then
    if (decide (((0 : Int) ≤ l1.2.2.2.1) ∧ (l1.2.2.2.1 < (((List.length l1.2.1) : Nat) : Int)))) then
    Option.bind (N_slices_Clone_byte_byte ((nth l1.2.1 (Int.toNat l1.2.2.2.1)).bytes, ())) fun r2 =>
      if (decide (((List.length l1.1.2.1) + (List.length ((Pend.mk (nth l1.2.1 (Int.toNat l1.2.2.2.1)).at_ r2.1) :: []))) ≤ big)) then
      some (Sum.inl ((l1.1.1, ((l1.1.2.1 ++ ((Pend.mk (nth l1.2.1 (Int.toNat l1.2.2.2.1)).at_ r2.1) :: [])), ())), (l1.2.1, (l1.2.2.1, ((IntKind.wrap IntKind.i64 (l1.2.2.2.1 + (1 : Int))), ())))))
      else none
    else none
  else
    Option.map Sum.inr (D_disk_Crash_t4 p2 l1)
noncomputable def D_disk_Crash_t6 (p1 : Disk) (p2 : (List Int)) (l1 : (((List Sector) × ((List Pend) × Unit)) × ((List Sector) × (Int × (Int × Unit))))) : Option (Disk × (Int × Unit)) :=
    loopO (D_disk_Crash_l5 p2) ((l1.1.1, (l1.1.2.1, ())), (p1.cache, ((((List.length p1.cache) : Nat) : Int), ((0 : Int), ()))))
noncomputable def D_disk_Crash_l7 (p1 : Disk) (p2 : (List Int)) (l1 : (((List Sector) × ((List Pend) × Unit)) × ((List Sector) × (Int × (Int × Unit))))) : Option ((((List Sector) × ((List Pend) × Unit)) × ((List Sector) × (Int × (Int × Unit)))) ⊕ (Disk × (Int × Unit))) :=
    if (decide (l1.2.2.2.1 < l1.2.2.1)) then
    if (decide (((0 : Int) ≤ l1.2.2.2.1) ∧ (l1.2.2.2.1 < (((List.length l1.2.1) : Nat) : Int)))) then
    Option.bind (N_slices_Clone_byte_byte ((nth l1.2.1 (Int.toNat l1.2.2.2.1)).bytes, ())) fun r2 =>
      if (decide (((List.length l1.1.1) + (List.length ((Sector.mk r2.1 (nth l1.2.1 (Int.toNat l1.2.2.2.1)).bad) :: []))) ≤ big)) then
      some (Sum.inl (((l1.1.1 ++ ((Sector.mk r2.1 (nth l1.2.1 (Int.toNat l1.2.2.2.1)).bad) :: [])), (l1.1.2.1, ())), (l1.2.1, (l1.2.2.1, ((IntKind.wrap IntKind.i64 (l1.2.2.2.1 + (1 : Int))), ())))))
      else none
    else none
  else
    Option.map Sum.inr (D_disk_Crash_t6 p1 p2 l1)
noncomputable def D_disk_Crash (p1 : Disk) (p2 : (List Int)) : Option (Disk × (Int × Unit)) :=
  Option.bind (N_disk_Check (p1, ())) fun r2 =>
    if (r2.1 != (0 : Int)) then
      some ((Disk.mk [] []), (r2.1, ()))
    else
      loopO (D_disk_Crash_l7 p1 p2) (([], ([], ())), (p1.sectors, ((((List.length p1.sectors) : Nat) : Int), ((0 : Int), ()))))
noncomputable def D_disk_Check_l1 (p1 : Disk) (l1 : ((List Pend) × (Int × (Int × Unit)))) : Option (((List Pend) × (Int × (Int × Unit))) ⊕ (Int × Unit)) :=
    if (decide (l1.2.2.1 < l1.2.1)) then
    if (decide (((0 : Int) ≤ l1.2.2.1) ∧ (l1.2.2.1 < (((List.length l1.1) : Nat) : Int)))) then
    if (decide ((nth l1.1 (Int.toNat l1.2.2.1)).at_ < (0 : Int))) then
      some (Sum.inr ((8 : Int), ()))
    else
      if (decide ((nth l1.1 (Int.toNat l1.2.2.1)).at_ ≥ (((List.length p1.sectors) : Nat) : Int))) then
        some (Sum.inr ((8 : Int), ()))
      else
        Option.bind (N_disk_sized (((nth l1.1 (Int.toNat l1.2.2.1)).bytes :: []), ())) fun r2 =>
          if (!r2.1) then
            some (Sum.inr ((8 : Int), ()))
          else
            some (Sum.inl (l1.1, (l1.2.1, ((IntKind.wrap IntKind.i64 (l1.2.2.1 + (1 : Int))), ()))))
    else none
  else
    some (Sum.inr ((0 : Int), ()))
noncomputable def D_disk_Check_t2 (p1 : Disk) : Option (Int × Unit) :=
    loopO (D_disk_Check_l1 p1) (p1.cache, ((((List.length p1.cache) : Nat) : Int), ((0 : Int), ())))
noncomputable def D_disk_Check_l3 (p1 : Disk) (l1 : ((List Sector) × (Int × (Int × Unit)))) : Option (((List Sector) × (Int × (Int × Unit))) ⊕ (Int × Unit)) :=
    if (decide (l1.2.2.1 < l1.2.1)) then
    if (decide (((0 : Int) ≤ l1.2.2.1) ∧ (l1.2.2.1 < (((List.length l1.1) : Nat) : Int)))) then
    Option.bind (N_disk_sized (((nth l1.1 (Int.toNat l1.2.2.1)).bytes :: []), ())) fun r2 =>
      if (!r2.1) then
        some (Sum.inr ((8 : Int), ()))
      else
        if (nth l1.1 (Int.toNat l1.2.2.1)).bad then
          Option.bind (N_disk_none ()) fun r3 =>
            Option.bind (N_bytes_Equal ((nth l1.1 (Int.toNat l1.2.2.1)).bytes, (r3.1, ()))) fun r4 =>
              if (!r4.1) then
                some (Sum.inr ((8 : Int), ()))
              else
                some (Sum.inl (l1.1, (l1.2.1, ((IntKind.wrap IntKind.i64 (l1.2.2.1 + (1 : Int))), ()))))
        else
          some (Sum.inl (l1.1, (l1.2.1, ((IntKind.wrap IntKind.i64 (l1.2.2.1 + (1 : Int))), ()))))
    else none
  else
    Option.map Sum.inr (D_disk_Check_t2 p1)
noncomputable def D_disk_Check (p1 : Disk) : Option (Int × Unit) :=
  if (decide ((((List.length p1.sectors) : Nat) : Int) < (1 : Int))) then
    some ((8 : Int), ())
  else
    if (decide ((((List.length p1.sectors) : Nat) : Int) > (1024 : Int))) then
      some ((8 : Int), ())
    else
      if (decide ((((List.length p1.cache) : Nat) : Int) > (64 : Int))) then
        some ((8 : Int), ())
      else
        loopO (D_disk_Check_l3 p1) (p1.sectors, ((((List.length p1.sectors) : Nat) : Int), ((0 : Int), ())))
noncomputable def D_place_within_l1  (l1 : ((List Bound) × (Int × (Int × Unit)))) : Option (((List Bound) × (Int × (Int × Unit))) ⊕ (Bool × Unit)) :=
    if (decide (l1.2.2.1 < l1.2.1)) then
    if (decide (((0 : Int) ≤ l1.2.2.1) ∧ (l1.2.2.1 < (((List.length l1.1) : Nat) : Int)))) then
    if (decide ((nth l1.1 (Int.toNat l1.2.2.1)).a < (nth l1.1 (Int.toNat l1.2.2.1)).b)) then
      some (Sum.inr (Bool.false, ()))
    else
      if (decide ((nth l1.1 (Int.toNat l1.2.2.1)).a > (nth l1.1 (Int.toNat l1.2.2.1)).c)) then
        some (Sum.inr (Bool.false, ()))
      else
        some (Sum.inl (l1.1, (l1.2.1, ((IntKind.wrap IntKind.i64 (l1.2.2.1 + (1 : Int))), ()))))
    else none
  else
    some (Sum.inr (Bool.true, ()))
noncomputable def D_place_within (p1 : (List Bound)) : Option (Bool × Unit) :=
  loopO (D_place_within_l1 ) (p1, ((((List.length p1) : Nat) : Int), ((0 : Int), ())))
noncomputable def D_place_Check (p1 : Config) : Option (Int × Unit) :=
  Option.bind (N_place_within (((Bound.mk p1.pairs (1 : Int) (3 : Int)) :: ((Bound.mk p1.tracks (1 : Int) (16 : Int)) :: ((Bound.mk p1.area (1 : Int) (32 : Int)) :: ((Bound.mk p1.most (1 : Int) p1.pairs) :: ((Bound.mk p1.window (1 : Int) (4 : Int)) :: ((Bound.mk p1.quiet (4 : Int) (64 : Int)) :: [])))))), ())) fun r1 =>
    if (!r1.1) then
      some ((8 : Int), ())
    else
      if (decide (p1.area < (IntKind.wrap IntKind.i64 (p1.pairs + (2 : Int))))) then
        some ((8 : Int), ())
      else
        some ((0 : Int), ())
noncomputable def D_place_Sectors (p1 : Config) : Option (Int × (Int × Unit)) :=
  Option.bind (N_place_Check (p1, ())) fun r1 =>
    if (r1.1 != (0 : Int)) then
      some ((0 : Int), (r1.1, ()))
    else
      Option.bind (N_place_pages (p1, ())) fun r2 =>
        Option.bind (N_place_part_size ((Part.mk (1 : Int) (1 : Int) (1 : Int) (2 : Int)), ())) fun r3 =>
          Option.bind (N_place_part_size ((Part.mk (2 : Int) (2 : Int) p1.area (1 : Int)), ())) fun r4 =>
            Option.bind (N_place_part_size ((Part.mk (3 : Int) p1.pairs r2.1 (1 : Int)), ())) fun r5 =>
              Option.bind (N_place_part_size ((Part.mk (4 : Int) p1.pairs p1.tracks (4 : Int)), ())) fun r6 =>
                some ((IntKind.wrap IntKind.i64 ((IntKind.wrap IntKind.i64 ((IntKind.wrap IntKind.i64 ((IntKind.wrap IntKind.i64 ((0 : Int) + r3.1)) + r4.1)) + r5.1)) + r6.1)), ((0 : Int), ()))
noncomputable def D_track_Check (p1 : Config) (p2 : Disk) : Option (Int × Unit) :=
  Option.bind (N_place_Sectors (p1, ())) fun r2 =>
    if (r2.2.1 != (0 : Int)) then
      some (r2.2.1, ())
    else
      if ((((List.length p2.sectors) : Nat) : Int) != r2.1) then
        some ((8 : Int), ())
      else
        Option.bind (N_disk_Check (p2, ())) fun r3 =>
          some (r3.1, ())
noncomputable def D_meta_Check (p1 : Config) (p2 : Meta) : Option (Int × Unit) :=
  Option.bind (N_rec_Notes (p2.table, ())) fun r2 =>
    Option.bind (N_place_Check (p1, ())) fun r3 =>
      if (r3.1 != (0 : Int)) then
        some ((8 : Int), ())
      else
        if (decide (p2.super.area < (0 : Int))) then
          some ((8 : Int), ())
        else
          if (decide (p2.super.area > (1 : Int))) then
            some ((8 : Int), ())
          else
            if (decide (p2.count < (0 : Int))) then
              some ((8 : Int), ())
            else
              if (decide (p2.count > p1.area)) then
                some ((8 : Int), ())
              else
                if (decide (p2.turn < (0 : Int))) then
                  some ((8 : Int), ())
                else
                  if (decide (p2.turn > (65535 : Int))) then
                    some ((8 : Int), ())
                  else
                    if (r2.2.1 != (0 : Int)) then
                      some ((8 : Int), ())
                    else
                      some ((0 : Int), ())
noncomputable def D_rec_Notes_l1  (l1 : ((List (List Int)) × ((List Rec) × (Int × (Int × Unit))))) : Option (((List (List Int)) × ((List Rec) × (Int × (Int × Unit)))) ⊕ ((List (List Int)) × (Int × Unit))) :=
    if (decide (l1.2.2.2.1 < l1.2.2.1)) then
    if (decide (((0 : Int) ≤ l1.2.2.2.1) ∧ (l1.2.2.2.1 < (((List.length l1.2.1) : Nat) : Int)))) then
    Option.bind (N_rec_Note ((nth l1.2.1 (Int.toNat l1.2.2.2.1)), ())) fun r2 =>
      if (decide (((List.length l1.1) + (List.length (r2.1 :: []))) ≤ big)) then
      some (Sum.inl ((l1.1 ++ (r2.1 :: [])), (l1.2.1, (l1.2.2.1, ((IntKind.wrap IntKind.i64 (l1.2.2.2.1 + (1 : Int))), ())))))
      else none
    else none
  else
    some (Sum.inr (l1.1, ((0 : Int), ())))
noncomputable def D_rec_Notes_t2 (p1 : (List Rec)) : Option ((List (List Int)) × (Int × Unit)) :=
    loopO (D_rec_Notes_l1 ) ([], (p1, ((((List.length p1) : Nat) : Int), ((0 : Int), ()))))
noncomputable def D_rec_Notes_l3 (p1 : (List Rec)) (l1 : ((List Rec) × ((List Rec) × (Int × (Int × Unit))))) : Option (((List Rec) × ((List Rec) × (Int × (Int × Unit)))) ⊕ ((List (List Int)) × (Int × Unit))) :=
    if (decide (l1.2.2.2.1 < l1.2.2.1)) then
    if (decide (((0 : Int) ≤ l1.2.2.2.1) ∧ (l1.2.2.2.1 < (((List.length l1.2.1) : Nat) : Int)))) then
    Option.bind (N_rec_Check ((nth l1.2.1 (Int.toNat l1.2.2.2.1)), ())) fun r2 =>
      if (r2.1 != (0 : Int)) then
        some (Sum.inr ([], ((110 : Int), ())))
      else
        if (decide (l1.2.2.2.1 > (0 : Int))) then
          if (decide (((0 : Int) ≤ (IntKind.wrap IntKind.i64 (l1.2.2.2.1 - (1 : Int)))) ∧ ((IntKind.wrap IntKind.i64 (l1.2.2.2.1 - (1 : Int))) < (((List.length l1.1) : Nat) : Int)))) then
          if (decide ((nth l1.2.1 (Int.toNat l1.2.2.2.1)).pair ≤ (nth l1.1 (Int.toNat (IntKind.wrap IntKind.i64 (l1.2.2.2.1 - (1 : Int))))).pair)) then
            some (Sum.inr ([], ((110 : Int), ())))
          else
            some (Sum.inl (l1.1, (l1.2.1, (l1.2.2.1, ((IntKind.wrap IntKind.i64 (l1.2.2.2.1 + (1 : Int))), ())))))
          else none
        else
          some (Sum.inl (l1.1, (l1.2.1, (l1.2.2.1, ((IntKind.wrap IntKind.i64 (l1.2.2.2.1 + (1 : Int))), ())))))
    else none
  else
    Option.map Sum.inr (D_rec_Notes_t2 p1)
noncomputable def D_rec_Notes (p1 : (List Rec)) : Option ((List (List Int)) × (Int × Unit)) :=
  loopO (D_rec_Notes_l3 p1) (p1, (p1, ((((List.length p1) : Nat) : Int), ((0 : Int), ()))))
noncomputable def D_rec_Note (p1 : Rec) : Option ((List Int) × (Int × Unit)) :=
  Option.bind (N_rec_Check (p1, ())) fun r1 =>
    if (r1.1 != (0 : Int)) then
      some ([], (r1.1, ()))
    else
      if p1.quick then
        if p1.alone then
          Option.bind (N_rec_sizes ()) fun r2 =>
            Option.bind (N_num_Write (((1 : Int) :: ((IntKind.wrap IntKind.u64 p1.pair) :: ((IntKind.wrap IntKind.u64 p1.born) :: ((IntKind.wrap IntKind.u64 p1.epoch) :: ((IntKind.wrap IntKind.u64 p1.lead) :: ((IntKind.wrap IntKind.u64 p1.phase) :: ((IntKind.wrap IntKind.u64 p1.from_) :: ((ibits BinOp.or IntKind.u64 (ibits BinOp.or IntKind.u64 (0 : Int) (2 : Int)) (1 : Int)) :: [])))))))), (r2.1, ()))) fun r3 =>
              some (r3.1, (r3.2.1, ()))
        else
          Option.bind (N_rec_sizes ()) fun r2 =>
            Option.bind (N_num_Write (((1 : Int) :: ((IntKind.wrap IntKind.u64 p1.pair) :: ((IntKind.wrap IntKind.u64 p1.born) :: ((IntKind.wrap IntKind.u64 p1.epoch) :: ((IntKind.wrap IntKind.u64 p1.lead) :: ((IntKind.wrap IntKind.u64 p1.phase) :: ((IntKind.wrap IntKind.u64 p1.from_) :: ((ibits BinOp.or IntKind.u64 (0 : Int) (2 : Int)) :: [])))))))), (r2.1, ()))) fun r3 =>
              some (r3.1, (r3.2.1, ()))
      else
        if p1.alone then
          Option.bind (N_rec_sizes ()) fun r2 =>
            Option.bind (N_num_Write (((1 : Int) :: ((IntKind.wrap IntKind.u64 p1.pair) :: ((IntKind.wrap IntKind.u64 p1.born) :: ((IntKind.wrap IntKind.u64 p1.epoch) :: ((IntKind.wrap IntKind.u64 p1.lead) :: ((IntKind.wrap IntKind.u64 p1.phase) :: ((IntKind.wrap IntKind.u64 p1.from_) :: ((ibits BinOp.or IntKind.u64 (0 : Int) (1 : Int)) :: [])))))))), (r2.1, ()))) fun r3 =>
              some (r3.1, (r3.2.1, ()))
        else
          Option.bind (N_rec_sizes ()) fun r2 =>
            Option.bind (N_num_Write (((1 : Int) :: ((IntKind.wrap IntKind.u64 p1.pair) :: ((IntKind.wrap IntKind.u64 p1.born) :: ((IntKind.wrap IntKind.u64 p1.epoch) :: ((IntKind.wrap IntKind.u64 p1.lead) :: ((IntKind.wrap IntKind.u64 p1.phase) :: ((IntKind.wrap IntKind.u64 p1.from_) :: ((0 : Int) :: [])))))))), (r2.1, ()))) fun r3 =>
              some (r3.1, (r3.2.1, ()))
noncomputable def D_rec_Check (p1 : Rec) : Option (Int × Unit) :=
  if (decide (p1.pair ≥ (0 : Int))) then
    if (decide (p1.pair < (3 : Int))) then
      if (decide (p1.born > (0 : Int))) then
        if (decide (p1.epoch > (0 : Int))) then
          Option.bind (N_rec_site ((p1.lead :: (p1.from_ :: [])), ())) fun r1 =>
            if (p1.phase == (2 : Int)) then
              if r1.1 then
                if (p1.from_ == p1.lead) then
                  if (!p1.quick) then
                    some ((0 : Int), ())
                  else
                    if (!(p1.from_ != p1.lead)) then
                      some ((110 : Int), ())
                    else
                      some ((0 : Int), ())
                else
                  some ((110 : Int), ())
              else
                some ((110 : Int), ())
            else
              if (p1.phase == (3 : Int)) then
                if r1.1 then
                  if (p1.from_ == p1.lead) then
                    if (!p1.quick) then
                      some ((0 : Int), ())
                    else
                      if (!(p1.from_ != p1.lead)) then
                        some ((110 : Int), ())
                      else
                        some ((0 : Int), ())
                  else
                    some ((110 : Int), ())
                else
                  some ((110 : Int), ())
              else
                if (p1.phase == (1 : Int)) then
                  if r1.1 then
                    if (!p1.quick) then
                      some ((0 : Int), ())
                    else
                      if (!(p1.from_ != p1.lead)) then
                        some ((110 : Int), ())
                      else
                        some ((0 : Int), ())
                  else
                    some ((110 : Int), ())
                else
                  some ((110 : Int), ())
        else
          if (p1.phase == (2 : Int)) then
            some ((110 : Int), ())
          else
            if (p1.phase == (3 : Int)) then
              some ((110 : Int), ())
            else
              if (p1.phase == (1 : Int)) then
                some ((110 : Int), ())
              else
                some ((110 : Int), ())
      else
        if (p1.phase == (2 : Int)) then
          some ((110 : Int), ())
        else
          if (p1.phase == (3 : Int)) then
            some ((110 : Int), ())
          else
            if (p1.phase == (1 : Int)) then
              some ((110 : Int), ())
            else
              some ((110 : Int), ())
    else
      if (p1.phase == (2 : Int)) then
        some ((110 : Int), ())
      else
        if (p1.phase == (3 : Int)) then
          some ((110 : Int), ())
        else
          if (p1.phase == (1 : Int)) then
            some ((110 : Int), ())
          else
            some ((110 : Int), ())
  else
    if (p1.phase == (2 : Int)) then
      some ((110 : Int), ())
    else
      if (p1.phase == (3 : Int)) then
        some ((110 : Int), ())
      else
        if (p1.phase == (1 : Int)) then
          some ((110 : Int), ())
        else
          some ((110 : Int), ())
noncomputable def D_num_Write_t1 (l1 : ((List Int) × ((List Int) × ((List Int) × (Int × (Int × (Int × Unit))))))) (l2 : ((List Int) × (Int × (Int × (Int × Unit))))) : Option (((List Int) × ((List Int) × ((List Int) × (Int × (Int × (Int × Unit)))))) ⊕ ((List Int) × (Int × Unit))) :=
    if (!(l2.2.1 == (0 : Int))) then
    some (Sum.inr ([], ((4 : Int), ())))
  else
    if (decide (((0 : Int) ≤ l1.2.2.2.2.2.1) ∧ (l1.2.2.2.2.2.1 < (((List.length l1.2.1) : Nat) : Int)))) then
    some (Sum.inl (l1.1, (l1.2.1, (l2.1, ((IntKind.wrap IntKind.i64 (l1.2.2.2.1 + (nth l1.2.1 (Int.toNat l1.2.2.2.2.2.1)))), (l1.2.2.2.2.1, ((IntKind.wrap IntKind.i64 (l1.2.2.2.2.2.1 + (1 : Int))), ())))))))
    else none
noncomputable def D_num_Write_l2 (l1 : ((List Int) × ((List Int) × ((List Int) × (Int × (Int × (Int × Unit))))))) (l2 : ((List Int) × (Int × (Int × (Int × Unit))))) : Option (((List Int) × (Int × (Int × (Int × Unit)))) ⊕ (((List Int) × ((List Int) × ((List Int) × (Int × (Int × (Int × Unit)))))) ⊕ ((List Int) × (Int × Unit)))) :=
    if (decide (l2.2.2.2.1 < l2.2.2.1)) then
    if (decide (((0 : Int) ≤ (IntKind.wrap IntKind.i64 ((IntKind.wrap IntKind.i64 (((((Int.toNat (IntKind.wrap IntKind.i64 (l1.2.2.2.1 + (nth l1.2.1 (Int.toNat l1.2.2.2.2.2.1))))) - (Int.toNat l1.2.2.2.1)) : Nat) : Int) - (1 : Int))) - l2.2.2.2.1))) ∧ ((IntKind.wrap IntKind.i64 ((IntKind.wrap IntKind.i64 (((((Int.toNat (IntKind.wrap IntKind.i64 (l1.2.2.2.1 + (nth l1.2.1 (Int.toNat l1.2.2.2.2.2.1))))) - (Int.toNat l1.2.2.2.1)) : Nat) : Int) - (1 : Int))) - l2.2.2.2.1)) < ((((Int.toNat (IntKind.wrap IntKind.i64 (l1.2.2.2.1 + (nth l1.2.1 (Int.toNat l1.2.2.2.2.2.1))))) - (Int.toNat l1.2.2.2.1)) : Nat) : Int)))) then
    if (decide ((0 : Int) ≤ (8 : Int))) then
    if (decide (((Int.toNat l1.2.2.2.1) = (Int.toNat l1.2.2.2.1)) ∧ (((Int.toNat (IntKind.wrap IntKind.i64 (l1.2.2.2.1 + (nth l1.2.1 (Int.toNat l1.2.2.2.2.2.1))))) - (Int.toNat l1.2.2.2.1)) = ((Int.toNat (IntKind.wrap IntKind.i64 (l1.2.2.2.1 + (nth l1.2.1 (Int.toNat l1.2.2.2.2.2.1))))) - (Int.toNat l1.2.2.2.1))))) then
    some (Sum.inl ((List.set l2.1 ((Int.toNat l1.2.2.2.1) + (Int.toNat (IntKind.wrap IntKind.i64 ((IntKind.wrap IntKind.i64 (((((Int.toNat (IntKind.wrap IntKind.i64 (l1.2.2.2.1 + (nth l1.2.1 (Int.toNat l1.2.2.2.2.2.1))))) - (Int.toNat l1.2.2.2.1)) : Nat) : Int) - (1 : Int))) - l2.2.2.2.1)))) (IntKind.wrap IntKind.u8 l2.2.1)), ((shrI IntKind.u64 l2.2.1 (8 : Int)), (l2.2.2.1, ((IntKind.wrap IntKind.i64 (l2.2.2.2.1 + (1 : Int))), ())))))
    else none
    else none
    else none
  else
    Option.map Sum.inr (D_num_Write_t1 l1 l2)
noncomputable def D_num_Write_l3  (l1 : ((List Int) × ((List Int) × ((List Int) × (Int × (Int × (Int × Unit))))))) : Option (((List Int) × ((List Int) × ((List Int) × (Int × (Int × (Int × Unit)))))) ⊕ ((List Int) × (Int × Unit))) :=
    if (decide (l1.2.2.2.2.2.1 < l1.2.2.2.2.1)) then
    if (decide (((0 : Int) ≤ l1.2.2.2.2.2.1) ∧ (l1.2.2.2.2.2.1 < (((List.length l1.2.1) : Nat) : Int)))) then
    if (decide (((0 : Int) ≤ l1.2.2.2.2.2.1) ∧ (l1.2.2.2.2.2.1 < (((List.length l1.2.1) : Nat) : Int)))) then
    if (decide (((0 : Int) ≤ l1.2.2.2.1) ∧ ((l1.2.2.2.1 ≤ (IntKind.wrap IntKind.i64 (l1.2.2.2.1 + (nth l1.2.1 (Int.toNat l1.2.2.2.2.2.1))))) ∧ (((IntKind.wrap IntKind.i64 (l1.2.2.2.1 + (nth l1.2.1 (Int.toNat l1.2.2.2.2.2.1)))) ≤ (IntKind.wrap IntKind.i64 (l1.2.2.2.1 + (nth l1.2.1 (Int.toNat l1.2.2.2.2.2.1))))) ∧ ((IntKind.wrap IntKind.i64 (l1.2.2.2.1 + (nth l1.2.1 (Int.toNat l1.2.2.2.2.2.1)))) ≤ (((List.length l1.2.2.1) : Nat) : Int)))))) then
    if (decide (((0 : Int) ≤ l1.2.2.2.2.2.1) ∧ (l1.2.2.2.2.2.1 < (((List.length l1.1) : Nat) : Int)))) then
    if (decide (((Int.toNat l1.2.2.2.1) = (Int.toNat l1.2.2.2.1)) ∧ (((Int.toNat (IntKind.wrap IntKind.i64 (l1.2.2.2.1 + (nth l1.2.1 (Int.toNat l1.2.2.2.2.2.1))))) - (Int.toNat l1.2.2.2.1)) = ((Int.toNat (IntKind.wrap IntKind.i64 (l1.2.2.2.1 + (nth l1.2.1 (Int.toNat l1.2.2.2.2.2.1))))) - (Int.toNat l1.2.2.2.1))))) then
    loopO (D_num_Write_l2 l1) (l1.2.2.1, ((nth l1.1 (Int.toNat l1.2.2.2.2.2.1)), (((((Int.toNat (IntKind.wrap IntKind.i64 (l1.2.2.2.1 + (nth l1.2.1 (Int.toNat l1.2.2.2.2.2.1))))) - (Int.toNat l1.2.2.2.1)) : Nat) : Int), ((0 : Int), ()))))
    else none
    else none
    else none
    else none
    else none
  else
    some (Sum.inr (l1.2.2.1, ((0 : Int), ())))
noncomputable def D_num_Write_t4 (p1 : (List Int)) (p2 : (List Int)) (l1 : (Int × ((List Int) × (Int × (Int × Unit))))) : Option ((List Int) × (Int × Unit)) :=
    if ((((List.length p1) : Nat) : Int) != (((List.length p2) : Nat) : Int)) then
    some ([], ((2 : Int), ()))
  else
    if (decide (((0 : Int) ≤ l1.1) ∧ ((l1.1 ≤ l1.1) ∧ (l1.1 ≤ ((big : Nat) : Int))))) then
    loopO (D_num_Write_l3 ) (p1, (p2, ((List.replicate (Int.toNat l1.1) (0 : Int)), ((0 : Int), ((((List.length p1) : Nat) : Int), ((0 : Int), ()))))))
    else none
noncomputable def D_num_Write_l5 (p1 : (List Int)) (p2 : (List Int)) (l1 : (Int × ((List Int) × (Int × (Int × Unit))))) : Option ((Int × ((List Int) × (Int × (Int × Unit)))) ⊕ ((List Int) × (Int × Unit))) :=
    if (decide (l1.2.2.2.1 < l1.2.2.1)) then
    if (decide (((0 : Int) ≤ l1.2.2.2.1) ∧ (l1.2.2.2.1 < (((List.length l1.2.1) : Nat) : Int)))) then
    if (decide ((nth l1.2.1 (Int.toNat l1.2.2.2.1)) < (1 : Int))) then
      some (Sum.inr ([], ((2 : Int), ())))
    else
      if (decide ((nth l1.2.1 (Int.toNat l1.2.2.2.1)) > (8 : Int))) then
        some (Sum.inr ([], ((2 : Int), ())))
      else
        some (Sum.inl ((IntKind.wrap IntKind.i64 (l1.1 + (nth l1.2.1 (Int.toNat l1.2.2.2.1)))), (l1.2.1, (l1.2.2.1, ((IntKind.wrap IntKind.i64 (l1.2.2.2.1 + (1 : Int))), ())))))
    else none
  else
    Option.map Sum.inr (D_num_Write_t4 p1 p2 l1)
noncomputable def D_num_Write (p1 : (List Int)) (p2 : (List Int)) : Option ((List Int) × (Int × Unit)) :=
  if (decide ((((List.length p2) : Nat) : Int) > (16 : Int))) then
    some ([], ((2 : Int), ()))
  else
    loopO (D_num_Write_l5 p1 p2) ((0 : Int), (p2, ((((List.length p2) : Nat) : Int), ((0 : Int), ()))))
noncomputable def D_sess_Check_t1 (l1 : ((List (List Int)) × (Int × (Int × Unit)))) : Option (Int × Unit) :=
    if (decide (l1.2.2.1 ≥ (0 : Int))) then
    some ((8 : Int), ())
  else
    some ((0 : Int), ())
noncomputable def D_sess_Check_l2  (l1 : ((List (List Int)) × (Int × (Int × Unit)))) : Option (((List (List Int)) × (Int × (Int × Unit))) ⊕ (Int × Unit)) :=
    if (decide (l1.2.2.1 < l1.2.1)) then
    if (decide (((0 : Int) ≤ l1.2.2.1) ∧ (l1.2.2.1 < (((List.length l1.1) : Nat) : Int)))) then
    if (decide ((((List.length (nth l1.1 (Int.toNat l1.2.2.1))) : Nat) : Int) ≥ (1 : Int))) then
      if (!(decide ((((List.length (nth l1.1 (Int.toNat l1.2.2.1))) : Nat) : Int) ≤ (64 : Int)))) then
        Option.map Sum.inr (D_sess_Check_t1 l1)
      else
        some (Sum.inl (l1.1, (l1.2.1, ((IntKind.wrap IntKind.i64 (l1.2.2.1 + (1 : Int))), ()))))
    else
      Option.map Sum.inr (D_sess_Check_t1 l1)
    else none
  else
    some (Sum.inr ((0 : Int), ()))
noncomputable def D_sess_Check (p1 : Config) (p2 : End) : Option (Int × Unit) :=
  Option.bind (N_ring_List (p2.out, ())) fun r2 =>
    Option.bind (N_place_Check (p1, ())) fun r3 =>
      if (r3.1 != (0 : Int)) then
        some ((8 : Int), ())
      else
        if (r2.2.1 != (0 : Int)) then
          some ((8 : Int), ())
        else
          if (p2.me == (0 : Int)) then
            some ((8 : Int), ())
          else
            if ((((List.length p2.out.items) : Nat) : Int) != (64 : Int)) then
              some ((8 : Int), ())
            else
              if (decide (p2.done > p2.sent)) then
                some ((8 : Int), ())
              else
                if ((IntKind.wrap IntKind.u32 (p2.sent - p2.done)) != (IntKind.wrap IntKind.u32 (((List.length r2.1) : Nat) : Int))) then
                  some ((8 : Int), ())
                else
                  if (decide (p2.quiet < (0 : Int))) then
                    some ((8 : Int), ())
                  else
                    if (decide (p2.quiet ≥ p1.quiet)) then
                      some ((8 : Int), ())
                    else
                      if (p2.you == (0 : Int)) then
                        if p2.up then
                          some ((8 : Int), ())
                        else
                          if p2.dead then
                            if (p2.you != (0 : Int)) then
                              some ((8 : Int), ())
                            else
                              if (!p2.up) then
                                if (p2.sent != (0 : Int)) then
                                  some ((8 : Int), ())
                                else
                                  if (p2.done != (0 : Int)) then
                                    some ((8 : Int), ())
                                  else
                                    if (p2.got != (0 : Int)) then
                                      some ((8 : Int), ())
                                    else
                                      loopO (D_sess_Check_l2 ) (r2.1, ((((List.length r2.1) : Nat) : Int), ((0 : Int), ())))
                              else
                                loopO (D_sess_Check_l2 ) (r2.1, ((((List.length r2.1) : Nat) : Int), ((0 : Int), ())))
                          else
                            if (!p2.up) then
                              if (p2.sent != (0 : Int)) then
                                some ((8 : Int), ())
                              else
                                if (p2.done != (0 : Int)) then
                                  some ((8 : Int), ())
                                else
                                  if (p2.got != (0 : Int)) then
                                    some ((8 : Int), ())
                                  else
                                    loopO (D_sess_Check_l2 ) (r2.1, ((((List.length r2.1) : Nat) : Int), ((0 : Int), ())))
                            else
                              loopO (D_sess_Check_l2 ) (r2.1, ((((List.length r2.1) : Nat) : Int), ((0 : Int), ())))
                      else
                        if p2.dead then
                          if (p2.you != (0 : Int)) then
                            some ((8 : Int), ())
                          else
                            if (!p2.up) then
                              if (p2.sent != (0 : Int)) then
                                some ((8 : Int), ())
                              else
                                if (p2.done != (0 : Int)) then
                                  some ((8 : Int), ())
                                else
                                  if (p2.got != (0 : Int)) then
                                    some ((8 : Int), ())
                                  else
                                    loopO (D_sess_Check_l2 ) (r2.1, ((((List.length r2.1) : Nat) : Int), ((0 : Int), ())))
                            else
                              loopO (D_sess_Check_l2 ) (r2.1, ((((List.length r2.1) : Nat) : Int), ((0 : Int), ())))
                        else
                          if (!p2.up) then
                            if (p2.sent != (0 : Int)) then
                              some ((8 : Int), ())
                            else
                              if (p2.done != (0 : Int)) then
                                some ((8 : Int), ())
                              else
                                if (p2.got != (0 : Int)) then
                                  some ((8 : Int), ())
                                else
                                  loopO (D_sess_Check_l2 ) (r2.1, ((((List.length r2.1) : Nat) : Int), ((0 : Int), ())))
                          else
                            loopO (D_sess_Check_l2 ) (r2.1, ((((List.length r2.1) : Nat) : Int), ((0 : Int), ())))
noncomputable def D_ring_Check_l1 (p1 : Queue) (l1 : (Int × (Int × Unit))) : Option ((Int × (Int × Unit)) ⊕ (Int × Unit)) :=
    if (decide (l1.2.1 < l1.1)) then
    Option.bind (N_ring_round_byte_at ((Round.mk p1.items p1.head p1.many), l1.2)) fun r2 =>
      if (decide (((0 : Int) ≤ r2.1) ∧ (r2.1 < (((List.length p1.items) : Nat) : Int)))) then
      if (decide ((((List.length (nth p1.items (Int.toNat r2.1))) : Nat) : Int) > (0 : Int))) then
        some (Sum.inr ((8 : Int), ()))
      else
        some (Sum.inl (l1.1, ((IntKind.wrap IntKind.i64 (l1.2.1 + (1 : Int))), ())))
      else none
  else
    some (Sum.inr ((0 : Int), ()))
noncomputable def D_ring_Check (p1 : Queue) : Option (Int × Unit) :=
  if (decide ((((List.length p1.items) : Nat) : Int) < (1 : Int))) then
    some ((8 : Int), ())
  else
    if (decide ((((List.length p1.items) : Nat) : Int) > (64 : Int))) then
      some ((8 : Int), ())
    else
      if (decide ((Decidable.rec (fun h => p1.head) (fun h => p1.many) (Int.decLt p1.many p1.head)) < (0 : Int))) then
        some ((8 : Int), ())
      else
        if (decide (p1.head ≥ (((List.length p1.items) : Nat) : Int))) then
          some ((8 : Int), ())
        else
          if (decide (p1.many > (((List.length p1.items) : Nat) : Int))) then
            some ((8 : Int), ())
          else
            loopO (D_ring_Check_l1 p1) ((((List.length p1.items) : Nat) : Int), (p1.many, ()))
noncomputable def D_bits_Check_l1  (l1 : ((List Int) × ((List Int) × (Int × (Int × Unit))))) : Option (((List Int) × ((List Int) × (Int × (Int × Unit)))) ⊕ (Int × Unit)) :=
    if (decide (l1.2.2.2.1 < l1.2.2.1)) then
    if (decide (((0 : Int) ≤ l1.2.2.2.1) ∧ (l1.2.2.2.1 < (((List.length l1.2.1) : Nat) : Int)))) then
    if (decide (((0 : Int) ≤ l1.2.2.2.1) ∧ (l1.2.2.2.1 < (((List.length l1.1) : Nat) : Int)))) then
    if ((ibits BinOp.andNot IntKind.u8 (nth l1.2.1 (Int.toNat l1.2.2.2.1)) (nth l1.1 (Int.toNat l1.2.2.2.1))) != (0 : Int)) then
      some (Sum.inr ((8 : Int), ()))
    else
      some (Sum.inl (l1.1, (l1.2.1, (l1.2.2.1, ((IntKind.wrap IntKind.i64 (l1.2.2.2.1 + (1 : Int))), ())))))
    else none
    else none
  else
    some (Sum.inr ((0 : Int), ()))
noncomputable def D_bits_Check (p1 : Int) (p2 : (List Int)) : Option (Int × Unit) :=
  Option.bind (N_bits_All (p1, ())) fun r2 =>
    if (r2.2.1 != (0 : Int)) then
      some (r2.2.1, ())
    else
      if ((((List.length p2) : Nat) : Int) != (((List.length r2.1) : Nat) : Int)) then
        some ((8 : Int), ())
      else
        loopO (D_bits_Check_l1 ) (r2.1, (p2, ((((List.length p2) : Nat) : Int), ((0 : Int), ()))))
noncomputable def D_act_limits_side_t1 (p1 : Config) (p2 : Side) (l1 : ((List Wait) × (Int × (Int × Unit)))) : Option (Bool × Unit) :=
    if (!(decide (l1.2.2.1 ≥ (0 : Int)))) then
    if (p2.first == (-(1 : Int))) then
      if (decide (p2.next ≥ (0 : Int))) then
        if (decide (p2.next < p1.tracks)) then
          if (p2.op == (0 : Int)) then
            some (Bool.true, ())
          else
            if (decide (p2.op ≥ (2 : Int))) then
              some ((decide (p2.op ≤ (8 : Int))), ())
            else
              some (Bool.false, ())
        else
          some (Bool.false, ())
      else
        some (Bool.false, ())
    else
      if (decide (p2.first ≥ (0 : Int))) then
        if (decide (p2.first < p1.tracks)) then
          if (decide (p2.next ≥ (0 : Int))) then
            if (decide (p2.next < p1.tracks)) then
              if (p2.op == (0 : Int)) then
                some (Bool.true, ())
              else
                if (decide (p2.op ≥ (2 : Int))) then
                  some ((decide (p2.op ≤ (8 : Int))), ())
                else
                  some (Bool.false, ())
            else
              some (Bool.false, ())
          else
            some (Bool.false, ())
        else
          some (Bool.false, ())
      else
        some (Bool.false, ())
  else
    some (Bool.false, ())
noncomputable def D_act_limits_side_t2 (p1 : Config) (p2 : Side) : Option (Bool × Unit) :=
    if (p2.first == (-(1 : Int))) then
    if (decide (p2.next ≥ (0 : Int))) then
      if (decide (p2.next < p1.tracks)) then
        if (p2.op == (0 : Int)) then
          some (Bool.true, ())
        else
          if (decide (p2.op ≥ (2 : Int))) then
            some ((decide (p2.op ≤ (8 : Int))), ())
          else
            some (Bool.false, ())
      else
        some (Bool.false, ())
    else
      some (Bool.false, ())
  else
    if (decide (p2.first ≥ (0 : Int))) then
      if (decide (p2.first < p1.tracks)) then
        if (decide (p2.next ≥ (0 : Int))) then
          if (decide (p2.next < p1.tracks)) then
            if (p2.op == (0 : Int)) then
              some (Bool.true, ())
            else
              if (decide (p2.op ≥ (2 : Int))) then
                some ((decide (p2.op ≤ (8 : Int))), ())
              else
                some (Bool.false, ())
          else
            some (Bool.false, ())
        else
          some (Bool.false, ())
      else
        some (Bool.false, ())
    else
      some (Bool.false, ())
noncomputable def D_act_limits_side_l3 (p1 : Config) (p2 : Side) (l1 : ((List Wait) × (Int × (Int × Unit)))) : Option (((List Wait) × (Int × (Int × Unit))) ⊕ (Bool × Unit)) :=
    if (decide (l1.2.2.1 < l1.2.1)) then
    if (decide (((0 : Int) ≤ l1.2.2.1) ∧ (l1.2.2.1 < (((List.length l1.1) : Nat) : Int)))) then
    if (decide ((nth l1.1 (Int.toNat l1.2.2.1)).track ≥ (0 : Int))) then
      if (!(decide ((nth l1.1 (Int.toNat l1.2.2.1)).track < p1.tracks))) then
        Option.map Sum.inr (D_act_limits_side_t1 p1 p2 l1)
      else
        some (Sum.inl (l1.1, (l1.2.1, ((IntKind.wrap IntKind.i64 (l1.2.2.1 + (1 : Int))), ()))))
    else
      Option.map Sum.inr (D_act_limits_side_t1 p1 p2 l1)
    else none
  else
    Option.map Sum.inr (D_act_limits_side_t2 p1 p2)
noncomputable def D_act_limits_side_t4 (p1 : Config) (p2 : Side) (l1 : ((List Sent) × (Int × (Int × Unit)))) : Option (Bool × Unit) :=
    if (!(decide (l1.2.2.1 ≥ (0 : Int)))) then
    loopO (D_act_limits_side_l3 p1 p2) (p2.waits, ((((List.length p2.waits) : Nat) : Int), ((0 : Int), ())))
  else
    some (Bool.false, ())
noncomputable def D_act_limits_side_t5 (p1 : Config) (p2 : Side) : Option (Bool × Unit) :=
    loopO (D_act_limits_side_l3 p1 p2) (p2.waits, ((((List.length p2.waits) : Nat) : Int), ((0 : Int), ())))
noncomputable def D_act_limits_side_l6 (p1 : Config) (p2 : Side) (l1 : ((List Sent) × (Int × (Int × Unit)))) : Option (((List Sent) × (Int × (Int × Unit))) ⊕ (Bool × Unit)) :=
    if (decide (l1.2.2.1 < l1.2.1)) then
    if (decide (((0 : Int) ≤ l1.2.2.1) ∧ (l1.2.2.1 < (((List.length l1.1) : Nat) : Int)))) then
    if (decide ((nth l1.1 (Int.toNat l1.2.2.1)).track ≥ (0 : Int))) then
      if (!(decide ((nth l1.1 (Int.toNat l1.2.2.1)).track < p1.tracks))) then
        Option.map Sum.inr (D_act_limits_side_t4 p1 p2 l1)
      else
        some (Sum.inl (l1.1, (l1.2.1, ((IntKind.wrap IntKind.i64 (l1.2.2.1 + (1 : Int))), ()))))
    else
      Option.map Sum.inr (D_act_limits_side_t4 p1 p2 l1)
    else none
  else
    Option.map Sum.inr (D_act_limits_side_t5 p1 p2)
noncomputable def D_act_limits_side (p1 : Config) (p2 : Side) : Option (Bool × Unit) :=
  Option.bind (N_bits_Check (p1.tracks, (p2.marks, ()))) fun r2 =>
    if (r2.1 != (0 : Int)) then
      some (Bool.false, ())
    else
      Option.bind (N_bits_Check (p1.tracks, (p2.work, ()))) fun r3 =>
        if (r3.1 != (0 : Int)) then
          some (Bool.false, ())
        else
          Option.bind (N_bits_Check (p1.tracks, (p2.need, ()))) fun r4 =>
            if (r4.1 != (0 : Int)) then
              some (Bool.false, ())
            else
              if (decide ((((List.length p2.out) : Nat) : Int) ≤ p1.window)) then
                if (decide ((((List.length p2.waits) : Nat) : Int) ≤ (64 : Int))) then
                  loopO (D_act_limits_side_l6 p1 p2) (p2.out, ((((List.length p2.out) : Nat) : Int), ((0 : Int), ())))
                else
                  some (Bool.false, ())
              else
                some (Bool.false, ())
noncomputable def D_act_limits_act (p1 : Config) (p2 : Act) (p3 : Int) : Option (Bool × Unit) :=
  if (p2.kind == (1 : Int)) then
    if (decide (p2.at_ ≥ (0 : Int))) then
      if (decide (p2.at_ < p3)) then
        some (((((List.length p2.bytes) : Nat) : Int) == (32 : Int)), ())
      else
        some (Bool.false, ())
    else
      some (Bool.false, ())
  else
    if (p2.kind == (3 : Int)) then
      Option.bind (N_act_limits_message (p1, (p2.msg, ()))) fun r3 =>
        some (r3.1, ())
    else
      if (p2.kind == (5 : Int)) then
        Option.bind (N_act_limits_pair (p1, (p2.pair, ()))) fun r3 =>
          some (r3.1, ())
      else
        if (decide (p2.kind ≥ (1 : Int))) then
          some ((decide (p2.kind ≤ (6 : Int))), ())
        else
          some (Bool.false, ())
noncomputable def D_act_limits_mail (p1 : Config) (p2 : Mail) : Option (Bool × Unit) :=
  if (p2.kind == (0 : Int)) then
    Option.bind (N_act_limits_message (p1, (p2.msg, ()))) fun r2 =>
      some (r2.1, ())
  else
    some ((decide (p2.kind ≤ (3 : Int))), ())
noncomputable def D_msg_Check (p1 : Msg) : Option (Int × Unit) :=
  Option.bind (N_msg_used (p1, ())) fun r1 =>
    if (!r1.2.1) then
      some ((200 : Int), ())
    else
      Option.bind (N_msg_Same (r1.1, (p1, ()))) fun r2 =>
        if (!r2.1) then
          some ((200 : Int), ())
        else
          if (decide (p1.pair < (0 : Int))) then
            some ((200 : Int), ())
          else
            if (decide (p1.pair ≥ (3 : Int))) then
              some ((200 : Int), ())
            else
              if (decide (p1.track < (0 : Int))) then
                some ((200 : Int), ())
              else
                if (decide (p1.track ≥ (16 : Int))) then
                  some ((200 : Int), ())
                else
                  some ((0 : Int), ())
noncomputable def D_msg_used (p1 : Msg) : Option (Msg × (Bool × Unit)) :=
  if (decide (p1.born > (0 : Int))) then
    if (p1.kind == (1 : Int)) then
      if (!p1.has) then
        some ((Msg.mk p1.kind p1.pair Bool.false (Rec.mk (0 : Int) (0 : Int) (0 : Int) (0 : Int) (0 : Int) (0 : Int) Bool.false Bool.false) (0 : Int) (0 : Int) (0 : Int) (0 : Int) (0 : Int) (0 : Int) [] []), (Bool.true, ()))
      else
        Option.bind (N_rec_Check (p1.rec_, ())) fun r1 =>
          if (r1.1 == (0 : Int)) then
            if (p1.rec_.pair == p1.pair) then
              Option.bind (N_msg_marks (p1.marks, ())) fun r2 =>
                some ((Msg.mk p1.kind p1.pair Bool.true p1.rec_ (0 : Int) (0 : Int) (0 : Int) (0 : Int) (0 : Int) (0 : Int) p1.marks []), (r2.1, ()))
            else
              some ((Msg.mk p1.kind p1.pair Bool.true p1.rec_ (0 : Int) (0 : Int) (0 : Int) (0 : Int) (0 : Int) (0 : Int) p1.marks []), (Bool.false, ()))
          else
            some ((Msg.mk p1.kind p1.pair Bool.true p1.rec_ (0 : Int) (0 : Int) (0 : Int) (0 : Int) (0 : Int) (0 : Int) p1.marks []), (Bool.false, ()))
    else
      if (p1.kind == (2 : Int)) then
        if (decide (p1.epoch > (0 : Int))) then
          if (decide (p1.op ≥ (2 : Int))) then
            if (decide (p1.op ≤ (8 : Int))) then
              Option.bind (N_msg_marks (p1.marks, ())) fun r1 =>
                some ((Msg.mk p1.kind p1.pair Bool.false (Rec.mk (0 : Int) (0 : Int) (0 : Int) (0 : Int) (0 : Int) (0 : Int) Bool.false Bool.false) p1.op p1.born p1.epoch (0 : Int) (0 : Int) (0 : Int) p1.marks []), (r1.1, ()))
            else
              some ((Msg.mk p1.kind p1.pair Bool.false (Rec.mk (0 : Int) (0 : Int) (0 : Int) (0 : Int) (0 : Int) (0 : Int) Bool.false Bool.false) p1.op p1.born p1.epoch (0 : Int) (0 : Int) (0 : Int) p1.marks []), (Bool.false, ()))
          else
            some ((Msg.mk p1.kind p1.pair Bool.false (Rec.mk (0 : Int) (0 : Int) (0 : Int) (0 : Int) (0 : Int) (0 : Int) Bool.false Bool.false) p1.op p1.born p1.epoch (0 : Int) (0 : Int) (0 : Int) p1.marks []), (Bool.false, ()))
        else
          some ((Msg.mk p1.kind p1.pair Bool.false (Rec.mk (0 : Int) (0 : Int) (0 : Int) (0 : Int) (0 : Int) (0 : Int) Bool.false Bool.false) p1.op p1.born p1.epoch (0 : Int) (0 : Int) (0 : Int) p1.marks []), (Bool.false, ()))
      else
        if (p1.kind == (3 : Int)) then
          if (decide (p1.epoch > (0 : Int))) then
            if (decide (p1.op ≥ (2 : Int))) then
              if (decide (p1.op ≤ (8 : Int))) then
                Option.bind (N_msg_marks (p1.marks, ())) fun r1 =>
                  some ((Msg.mk p1.kind p1.pair Bool.false (Rec.mk (0 : Int) (0 : Int) (0 : Int) (0 : Int) (0 : Int) (0 : Int) Bool.false Bool.false) p1.op p1.born p1.epoch (0 : Int) (0 : Int) (0 : Int) p1.marks []), (r1.1, ()))
              else
                some ((Msg.mk p1.kind p1.pair Bool.false (Rec.mk (0 : Int) (0 : Int) (0 : Int) (0 : Int) (0 : Int) (0 : Int) Bool.false Bool.false) p1.op p1.born p1.epoch (0 : Int) (0 : Int) (0 : Int) p1.marks []), (Bool.false, ()))
            else
              some ((Msg.mk p1.kind p1.pair Bool.false (Rec.mk (0 : Int) (0 : Int) (0 : Int) (0 : Int) (0 : Int) (0 : Int) Bool.false Bool.false) p1.op p1.born p1.epoch (0 : Int) (0 : Int) (0 : Int) p1.marks []), (Bool.false, ()))
          else
            some ((Msg.mk p1.kind p1.pair Bool.false (Rec.mk (0 : Int) (0 : Int) (0 : Int) (0 : Int) (0 : Int) (0 : Int) Bool.false Bool.false) p1.op p1.born p1.epoch (0 : Int) (0 : Int) (0 : Int) p1.marks []), (Bool.false, ()))
        else
          if (p1.kind == (4 : Int)) then
            if (decide (p1.epoch > (0 : Int))) then
              if (decide (p1.op ≥ (1 : Int))) then
                if (decide (p1.op ≤ (8 : Int))) then
                  if (decide (p1.code ≥ (1 : Int))) then
                    some ((Msg.mk p1.kind p1.pair Bool.false (Rec.mk (0 : Int) (0 : Int) (0 : Int) (0 : Int) (0 : Int) (0 : Int) Bool.false Bool.false) p1.op p1.born p1.epoch (0 : Int) (0 : Int) p1.code [] []), ((decide (p1.code ≤ (999 : Int))), ()))
                  else
                    some ((Msg.mk p1.kind p1.pair Bool.false (Rec.mk (0 : Int) (0 : Int) (0 : Int) (0 : Int) (0 : Int) (0 : Int) Bool.false Bool.false) p1.op p1.born p1.epoch (0 : Int) (0 : Int) p1.code [] []), (Bool.false, ()))
                else
                  some ((Msg.mk p1.kind p1.pair Bool.false (Rec.mk (0 : Int) (0 : Int) (0 : Int) (0 : Int) (0 : Int) (0 : Int) Bool.false Bool.false) p1.op p1.born p1.epoch (0 : Int) (0 : Int) p1.code [] []), (Bool.false, ()))
              else
                some ((Msg.mk p1.kind p1.pair Bool.false (Rec.mk (0 : Int) (0 : Int) (0 : Int) (0 : Int) (0 : Int) (0 : Int) Bool.false Bool.false) p1.op p1.born p1.epoch (0 : Int) (0 : Int) p1.code [] []), (Bool.false, ()))
            else
              some ((Msg.mk p1.kind p1.pair Bool.false (Rec.mk (0 : Int) (0 : Int) (0 : Int) (0 : Int) (0 : Int) (0 : Int) Bool.false Bool.false) p1.op p1.born p1.epoch (0 : Int) (0 : Int) p1.code [] []), (Bool.false, ()))
          else
            if (p1.kind == (5 : Int)) then
              if (decide (p1.epoch > (0 : Int))) then
                some ((Msg.mk p1.kind p1.pair Bool.false (Rec.mk (0 : Int) (0 : Int) (0 : Int) (0 : Int) (0 : Int) (0 : Int) Bool.false Bool.false) (0 : Int) p1.born p1.epoch p1.track p1.n (0 : Int) [] p1.bytes), (((((List.length p1.bytes) : Nat) : Int) == (28 : Int)), ()))
              else
                some ((Msg.mk p1.kind p1.pair Bool.false (Rec.mk (0 : Int) (0 : Int) (0 : Int) (0 : Int) (0 : Int) (0 : Int) Bool.false Bool.false) (0 : Int) p1.born p1.epoch p1.track p1.n (0 : Int) [] p1.bytes), (Bool.false, ()))
            else
              if (p1.kind == (6 : Int)) then
                some ((Msg.mk p1.kind p1.pair Bool.false (Rec.mk (0 : Int) (0 : Int) (0 : Int) (0 : Int) (0 : Int) (0 : Int) Bool.false Bool.false) (0 : Int) p1.born p1.epoch (0 : Int) p1.n (0 : Int) [] []), ((decide (p1.epoch > (0 : Int))), ()))
              else
                if (p1.kind == (7 : Int)) then
                  some ((Msg.mk p1.kind p1.pair Bool.false (Rec.mk (0 : Int) (0 : Int) (0 : Int) (0 : Int) (0 : Int) (0 : Int) Bool.false Bool.false) (0 : Int) p1.born p1.epoch (0 : Int) (0 : Int) (0 : Int) [] []), ((decide (p1.epoch > (0 : Int))), ()))
                else
                  if (p1.kind == (8 : Int)) then
                    some ((Msg.mk p1.kind p1.pair Bool.false (Rec.mk (0 : Int) (0 : Int) (0 : Int) (0 : Int) (0 : Int) (0 : Int) Bool.false Bool.false) (0 : Int) p1.born p1.epoch p1.track (0 : Int) (0 : Int) [] []), ((decide (p1.epoch > (0 : Int))), ()))
                  else
                    some ((Msg.mk p1.kind p1.pair Bool.false (Rec.mk (0 : Int) (0 : Int) (0 : Int) (0 : Int) (0 : Int) (0 : Int) Bool.false Bool.false) (0 : Int) p1.born p1.epoch (0 : Int) (0 : Int) (0 : Int) [] []), (Bool.false, ()))
  else
    if (p1.kind == (1 : Int)) then
      if (!p1.has) then
        some ((Msg.mk p1.kind p1.pair Bool.false (Rec.mk (0 : Int) (0 : Int) (0 : Int) (0 : Int) (0 : Int) (0 : Int) Bool.false Bool.false) (0 : Int) (0 : Int) (0 : Int) (0 : Int) (0 : Int) (0 : Int) [] []), (Bool.true, ()))
      else
        Option.bind (N_rec_Check (p1.rec_, ())) fun r1 =>
          if (r1.1 == (0 : Int)) then
            if (p1.rec_.pair == p1.pair) then
              Option.bind (N_msg_marks (p1.marks, ())) fun r2 =>
                some ((Msg.mk p1.kind p1.pair Bool.true p1.rec_ (0 : Int) (0 : Int) (0 : Int) (0 : Int) (0 : Int) (0 : Int) p1.marks []), (r2.1, ()))
            else
              some ((Msg.mk p1.kind p1.pair Bool.true p1.rec_ (0 : Int) (0 : Int) (0 : Int) (0 : Int) (0 : Int) (0 : Int) p1.marks []), (Bool.false, ()))
          else
            some ((Msg.mk p1.kind p1.pair Bool.true p1.rec_ (0 : Int) (0 : Int) (0 : Int) (0 : Int) (0 : Int) (0 : Int) p1.marks []), (Bool.false, ()))
    else
      if (p1.kind == (2 : Int)) then
        some ((Msg.mk p1.kind p1.pair Bool.false (Rec.mk (0 : Int) (0 : Int) (0 : Int) (0 : Int) (0 : Int) (0 : Int) Bool.false Bool.false) p1.op p1.born p1.epoch (0 : Int) (0 : Int) (0 : Int) p1.marks []), (Bool.false, ()))
      else
        if (p1.kind == (3 : Int)) then
          some ((Msg.mk p1.kind p1.pair Bool.false (Rec.mk (0 : Int) (0 : Int) (0 : Int) (0 : Int) (0 : Int) (0 : Int) Bool.false Bool.false) p1.op p1.born p1.epoch (0 : Int) (0 : Int) (0 : Int) p1.marks []), (Bool.false, ()))
        else
          if (p1.kind == (4 : Int)) then
            some ((Msg.mk p1.kind p1.pair Bool.false (Rec.mk (0 : Int) (0 : Int) (0 : Int) (0 : Int) (0 : Int) (0 : Int) Bool.false Bool.false) p1.op p1.born p1.epoch (0 : Int) (0 : Int) p1.code [] []), (Bool.false, ()))
          else
            if (p1.kind == (5 : Int)) then
              some ((Msg.mk p1.kind p1.pair Bool.false (Rec.mk (0 : Int) (0 : Int) (0 : Int) (0 : Int) (0 : Int) (0 : Int) Bool.false Bool.false) (0 : Int) p1.born p1.epoch p1.track p1.n (0 : Int) [] p1.bytes), (Bool.false, ()))
            else
              if (p1.kind == (6 : Int)) then
                some ((Msg.mk p1.kind p1.pair Bool.false (Rec.mk (0 : Int) (0 : Int) (0 : Int) (0 : Int) (0 : Int) (0 : Int) Bool.false Bool.false) (0 : Int) p1.born p1.epoch (0 : Int) p1.n (0 : Int) [] []), (Bool.false, ()))
              else
                if (p1.kind == (7 : Int)) then
                  some ((Msg.mk p1.kind p1.pair Bool.false (Rec.mk (0 : Int) (0 : Int) (0 : Int) (0 : Int) (0 : Int) (0 : Int) Bool.false Bool.false) (0 : Int) p1.born p1.epoch (0 : Int) (0 : Int) (0 : Int) [] []), (Bool.false, ()))
                else
                  if (p1.kind == (8 : Int)) then
                    some ((Msg.mk p1.kind p1.pair Bool.false (Rec.mk (0 : Int) (0 : Int) (0 : Int) (0 : Int) (0 : Int) (0 : Int) Bool.false Bool.false) (0 : Int) p1.born p1.epoch p1.track (0 : Int) (0 : Int) [] []), (Bool.false, ()))
                  else
                    some ((Msg.mk p1.kind p1.pair Bool.false (Rec.mk (0 : Int) (0 : Int) (0 : Int) (0 : Int) (0 : Int) (0 : Int) Bool.false Bool.false) (0 : Int) p1.born p1.epoch (0 : Int) (0 : Int) (0 : Int) [] []), (Bool.false, ()))
noncomputable def D_msg_Same (p1 : Msg) (p2 : Msg) : Option (Bool × Unit) :=
  Option.bind (N_msg_of (p1, ())) fun r2 =>
    Option.bind (N_msg_of (p2, ())) fun r3 =>
      if ((r2.1.kind == r3.1.kind) && ((r2.1.op == r3.1.op) && ((r2.1.pair == r3.1.pair) && ((r2.1.track == r3.1.track) && ((r2.1.has == r3.1.has) && (((r2.1.rec_.pair == r3.1.rec_.pair) && ((r2.1.rec_.born == r3.1.rec_.born) && ((r2.1.rec_.epoch == r3.1.rec_.epoch) && ((r2.1.rec_.lead == r3.1.rec_.lead) && ((r2.1.rec_.phase == r3.1.rec_.phase) && ((r2.1.rec_.from_ == r3.1.rec_.from_) && ((r2.1.rec_.quick == r3.1.rec_.quick) && ((r2.1.rec_.alone == r3.1.rec_.alone) && Bool.true)))))))) && ((r2.1.born == r3.1.born) && ((r2.1.epoch == r3.1.epoch) && ((r2.1.num == r3.1.num) && ((r2.1.code == r3.1.code) && Bool.true)))))))))) then
        Option.bind (N_bytes_Equal (p1.marks, (p2.marks, ()))) fun r4 =>
          if r4.1 then
            Option.bind (N_bytes_Equal (p1.bytes, (p2.bytes, ()))) fun r5 =>
              some (r5.1, ())
          else
            some (Bool.false, ())
      else
        some (Bool.false, ())
noncomputable def D_disk_none  : Option ((List Int) × Unit) :=
  if (decide (((0 : Int) ≤ (32 : Int)) ∧ (((32 : Int) ≤ (32 : Int)) ∧ ((32 : Int) ≤ ((big : Nat) : Int))))) then
  some ((List.replicate (Int.toNat (32 : Int)) (0 : Int)), ())
  else none
noncomputable def D_bytes_Equal (p1 : (List Int)) (p2 : (List Int)) : Option (Bool × Unit) :=
  some ((p1 == p2), ())
noncomputable def D_disk_sized_l1  (l1 : ((List (List Int)) × (Int × (Int × Unit)))) : Option (((List (List Int)) × (Int × (Int × Unit))) ⊕ (Bool × Unit)) :=
    if (decide (l1.2.2.1 < l1.2.1)) then
    if (decide (((0 : Int) ≤ l1.2.2.1) ∧ (l1.2.2.1 < (((List.length l1.1) : Nat) : Int)))) then
    if ((((List.length (nth l1.1 (Int.toNat l1.2.2.1))) : Nat) : Int) != (32 : Int)) then
      some (Sum.inr ((!(decide (l1.2.2.1 ≥ (0 : Int)))), ()))
    else
      some (Sum.inl (l1.1, (l1.2.1, ((IntKind.wrap IntKind.i64 (l1.2.2.1 + (1 : Int))), ()))))
    else none
  else
    some (Sum.inr ((!(decide ((-(1 : Int)) ≥ (0 : Int)))), ()))
noncomputable def D_disk_sized (p1 : (List (List Int))) : Option (Bool × Unit) :=
  loopO (D_disk_sized_l1 ) (p1, ((((List.length p1) : Nat) : Int), ((0 : Int), ())))
noncomputable def D_rec_site_l1  (l1 : ((List Int) × (Int × (Int × Unit)))) : Option (((List Int) × (Int × (Int × Unit))) ⊕ (Bool × Unit)) :=
    if (decide (l1.2.2.1 < l1.2.1)) then
    if (decide (((0 : Int) ≤ l1.2.2.1) ∧ (l1.2.2.1 < (((List.length l1.1) : Nat) : Int)))) then
    if ((nth l1.1 (Int.toNat l1.2.2.1)) != (0 : Int)) then
      if ((nth l1.1 (Int.toNat l1.2.2.1)) != (1 : Int)) then
        some (Sum.inr ((!(decide (l1.2.2.1 ≥ (0 : Int)))), ()))
      else
        some (Sum.inl (l1.1, (l1.2.1, ((IntKind.wrap IntKind.i64 (l1.2.2.1 + (1 : Int))), ()))))
    else
      some (Sum.inl (l1.1, (l1.2.1, ((IntKind.wrap IntKind.i64 (l1.2.2.1 + (1 : Int))), ()))))
    else none
  else
    some (Sum.inr ((!(decide ((-(1 : Int)) ≥ (0 : Int)))), ()))
noncomputable def D_rec_site (p1 : (List Int)) : Option (Bool × Unit) :=
  loopO (D_rec_site_l1 ) (p1, ((((List.length p1) : Nat) : Int), ((0 : Int), ())))
noncomputable def D_msg_marks (p1 : (List Int)) : Option (Bool × Unit) :=
  if ((((List.length p1) : Nat) : Int) == (1 : Int)) then
    some (Bool.true, ())
  else
    some (((((List.length p1) : Nat) : Int) == (2 : Int)), ())
noncomputable def D_msg_of (p1 : Msg) : Option (Plain × Unit) :=
  some ((Plain.mk p1.kind p1.op p1.pair p1.track p1.has p1.rec_ p1.born p1.epoch p1.n p1.code), ())
noncomputable def D_rec_sizes  : Option ((List Int) × Unit) :=
  some (((1 : Int) :: ((1 : Int) :: ((4 : Int) :: ((4 : Int) :: ((1 : Int) :: ((1 : Int) :: ((1 : Int) :: ((1 : Int) :: [])))))))), ())
noncomputable def D_ring_round_byte_at (p1 : Round) (p2 : Int) : Option (Int × Unit) :=
  if ((((List.length p1.all) : Nat) : Int) != (0 : Int)) then
  some ((Int.tmod (IntKind.wrap IntKind.i64 (p1.from_ + p2)) (((List.length p1.all) : Nat) : Int)), ())
  else none
noncomputable def D_place_pages (p1 : Config) : Option (Int × Unit) :=
  if ((8 : Int) != (0 : Int)) then
  some ((IntKind.wrap IntKind.i64 (Int.tdiv (IntKind.wrap IntKind.i64 ((IntKind.wrap IntKind.i64 (p1.tracks + (8 : Int))) - (1 : Int))) (8 : Int))), ())
  else none
noncomputable def D_act_limits_message (p1 : Config) (p2 : Msg) : Option (Bool × Unit) :=
  Option.bind (N_msg_Check (p2, ())) fun r2 =>
    if (r2.1 == (0 : Int)) then
      Option.bind (N_act_limits_pair (p1, (p2.pair, ()))) fun r3 =>
        some (r3.1, ())
    else
      some (Bool.false, ())
noncomputable def D_act_limits_pair (p1 : Config) (p2 : Int) : Option (Bool × Unit) :=
  if (decide (p2 ≥ (0 : Int))) then
    some ((decide (p2 < p1.pairs)), ())
  else
    some (Bool.false, ())
noncomputable def D_place_part_size (p1 : Part) : Option (Int × Unit) :=
  some ((IntKind.wrap IntKind.i64 ((IntKind.wrap IntKind.i64 (p1.owners * p1.many)) * p1.own)), ())
noncomputable def D_bits_All_t1 (p1 : Int) (l1 : ((List Int) × (Int × Unit))) : Option ((List Int) × (Int × Unit)) :=
    if ((8 : Int) != (0 : Int)) then
  if (decide ((Int.tmod p1 (8 : Int)) > (0 : Int))) then
    if (decide ((0 : Int) ≤ (Int.tmod p1 (8 : Int)))) then
    if (decide (((0 : Int) ≤ (IntKind.wrap IntKind.i64 ((((List.length l1.1) : Nat) : Int) - (1 : Int)))) ∧ ((IntKind.wrap IntKind.i64 ((((List.length l1.1) : Nat) : Int) - (1 : Int))) < (((List.length l1.1) : Nat) : Int)))) then
    some ((List.set l1.1 (Int.toNat (IntKind.wrap IntKind.i64 ((((List.length l1.1) : Nat) : Int) - (1 : Int)))) (IntKind.wrap IntKind.u8 ((shlI IntKind.u8 (1 : Int) (Int.tmod p1 (8 : Int))) - (1 : Int)))), ((0 : Int), ()))
    else none
    else none
  else
    some (l1.1, ((0 : Int), ()))
  else none
noncomputable def D_bits_All_l2 (p1 : Int) (l1 : ((List Int) × (Int × Unit))) : Option (((List Int) × (Int × Unit)) ⊕ ((List Int) × (Int × Unit))) :=
    if (decide (l1.2.1 < (((List.length l1.1) : Nat) : Int))) then
    if (decide (((0 : Int) ≤ l1.2.1) ∧ ((l1.2.1 ≤ (((List.length l1.1) : Nat) : Int)) ∧ (((((List.length l1.1) : Nat) : Int) ≤ (((List.length l1.1) : Nat) : Int)) ∧ ((((List.length l1.1) : Nat) : Int) ≤ (((List.length l1.1) : Nat) : Int)))))) then
    if (decide (((0 : Int) ≤ (0 : Int)) ∧ (((0 : Int) ≤ l1.2.1) ∧ ((l1.2.1 ≤ (((List.length l1.1) : Nat) : Int)) ∧ ((((List.length l1.1) : Nat) : Int) ≤ (((List.length l1.1) : Nat) : Int)))))) then
    some (Sum.inl ((((List.take (Int.toNat l1.2.1) l1.1) ++ (List.take ((Int.toNat (((List.length l1.1) : Nat) : Int)) - (Int.toNat l1.2.1)) (List.take ((Int.toNat l1.2.1) - (Int.toNat (0 : Int))) (List.drop (Int.toNat (0 : Int)) l1.1)))) ++ (List.drop ((Int.toNat l1.2.1) + (min (List.length (List.take ((Int.toNat l1.2.1) - (Int.toNat (0 : Int))) (List.drop (Int.toNat (0 : Int)) l1.1))) ((Int.toNat (((List.length l1.1) : Nat) : Int)) - (Int.toNat l1.2.1)))) l1.1)), ((IntKind.wrap IntKind.i64 (l1.2.1 + (((min (List.length (List.take ((Int.toNat l1.2.1) - (Int.toNat (0 : Int))) (List.drop (Int.toNat (0 : Int)) l1.1))) ((Int.toNat (((List.length l1.1) : Nat) : Int)) - (Int.toNat l1.2.1))) : Nat) : Int))), ())))
    else none
    else none
  else
    Option.map Sum.inr (D_bits_All_t1 p1 l1)
noncomputable def D_bits_All (p1 : Int) : Option ((List Int) × (Int × Unit)) :=
  if (decide (p1 ≥ (1 : Int))) then
    if (!(decide (p1 ≤ (16 : Int)))) then
      some ([], ((2 : Int), ()))
    else
      if ((8 : Int) != (0 : Int)) then
      if (decide ((IntKind.wrap IntKind.i64 (Int.tdiv (IntKind.wrap IntKind.i64 ((IntKind.wrap IntKind.i64 (p1 + (8 : Int))) - (1 : Int))) (8 : Int))) < (0 : Int))) then
        none
      else
        if (decide ((0 : Int) ≤ (32 : Int))) then
        if (decide ((0 : Int) ≤ (32 : Int))) then
        if (decide ((0 : Int) ≤ (32 : Int))) then
        if (decide ((0 : Int) ≤ (32 : Int))) then
        if (decide ((0 : Int) ≤ (32 : Int))) then
        if (decide ((IntKind.wrap IntKind.u64 ((IntKind.wrap IntKind.u64 ((IntKind.wrap IntKind.u64 ((shrI IntKind.u64 (IntKind.wrap IntKind.u64 (((List.length ((255 : Int) :: [])) : Nat) : Int)) (32 : Int)) * (shrI IntKind.u64 (IntKind.wrap IntKind.u64 (IntKind.wrap IntKind.i64 (Int.tdiv (IntKind.wrap IntKind.i64 ((IntKind.wrap IntKind.i64 (p1 + (8 : Int))) - (1 : Int))) (8 : Int)))) (32 : Int)))) + (shrI IntKind.u64 (IntKind.wrap IntKind.u64 ((IntKind.wrap IntKind.u64 ((shrI IntKind.u64 (IntKind.wrap IntKind.u64 (((List.length ((255 : Int) :: [])) : Nat) : Int)) (32 : Int)) * (ibits BinOp.and IntKind.u64 (IntKind.wrap IntKind.u64 (IntKind.wrap IntKind.i64 (Int.tdiv (IntKind.wrap IntKind.i64 ((IntKind.wrap IntKind.i64 (p1 + (8 : Int))) - (1 : Int))) (8 : Int)))) (4294967295 : Int)))) + (shrI IntKind.u64 (IntKind.wrap IntKind.u64 ((ibits BinOp.and IntKind.u64 (IntKind.wrap IntKind.u64 (((List.length ((255 : Int) :: [])) : Nat) : Int)) (4294967295 : Int)) * (ibits BinOp.and IntKind.u64 (IntKind.wrap IntKind.u64 (IntKind.wrap IntKind.i64 (Int.tdiv (IntKind.wrap IntKind.i64 ((IntKind.wrap IntKind.i64 (p1 + (8 : Int))) - (1 : Int))) (8 : Int)))) (4294967295 : Int)))) (32 : Int)))) (32 : Int)))) + (shrI IntKind.u64 (IntKind.wrap IntKind.u64 ((ibits BinOp.and IntKind.u64 (IntKind.wrap IntKind.u64 ((IntKind.wrap IntKind.u64 ((shrI IntKind.u64 (IntKind.wrap IntKind.u64 (((List.length ((255 : Int) :: [])) : Nat) : Int)) (32 : Int)) * (ibits BinOp.and IntKind.u64 (IntKind.wrap IntKind.u64 (IntKind.wrap IntKind.i64 (Int.tdiv (IntKind.wrap IntKind.i64 ((IntKind.wrap IntKind.i64 (p1 + (8 : Int))) - (1 : Int))) (8 : Int)))) (4294967295 : Int)))) + (shrI IntKind.u64 (IntKind.wrap IntKind.u64 ((ibits BinOp.and IntKind.u64 (IntKind.wrap IntKind.u64 (((List.length ((255 : Int) :: [])) : Nat) : Int)) (4294967295 : Int)) * (ibits BinOp.and IntKind.u64 (IntKind.wrap IntKind.u64 (IntKind.wrap IntKind.i64 (Int.tdiv (IntKind.wrap IntKind.i64 ((IntKind.wrap IntKind.i64 (p1 + (8 : Int))) - (1 : Int))) (8 : Int)))) (4294967295 : Int)))) (32 : Int)))) (4294967295 : Int)) + (IntKind.wrap IntKind.u64 ((ibits BinOp.and IntKind.u64 (IntKind.wrap IntKind.u64 (((List.length ((255 : Int) :: [])) : Nat) : Int)) (4294967295 : Int)) * (shrI IntKind.u64 (IntKind.wrap IntKind.u64 (IntKind.wrap IntKind.i64 (Int.tdiv (IntKind.wrap IntKind.i64 ((IntKind.wrap IntKind.i64 (p1 + (8 : Int))) - (1 : Int))) (8 : Int)))) (32 : Int)))))) (32 : Int)))) > (0 : Int))) then
          none
        else
          if (decide ((IntKind.wrap IntKind.u64 ((IntKind.wrap IntKind.u64 (((List.length ((255 : Int) :: [])) : Nat) : Int)) * (IntKind.wrap IntKind.u64 (IntKind.wrap IntKind.i64 (Int.tdiv (IntKind.wrap IntKind.i64 ((IntKind.wrap IntKind.i64 (p1 + (8 : Int))) - (1 : Int))) (8 : Int)))))) > (9223372036854775807 : Int))) then
            none
          else
            if (decide (((0 : Int) ≤ (IntKind.wrap IntKind.i64 (IntKind.wrap IntKind.u64 ((IntKind.wrap IntKind.u64 (((List.length ((255 : Int) :: [])) : Nat) : Int)) * (IntKind.wrap IntKind.u64 (IntKind.wrap IntKind.i64 (Int.tdiv (IntKind.wrap IntKind.i64 ((IntKind.wrap IntKind.i64 (p1 + (8 : Int))) - (1 : Int))) (8 : Int)))))))) ∧ (((IntKind.wrap IntKind.i64 (IntKind.wrap IntKind.u64 ((IntKind.wrap IntKind.u64 (((List.length ((255 : Int) :: [])) : Nat) : Int)) * (IntKind.wrap IntKind.u64 (IntKind.wrap IntKind.i64 (Int.tdiv (IntKind.wrap IntKind.i64 ((IntKind.wrap IntKind.i64 (p1 + (8 : Int))) - (1 : Int))) (8 : Int))))))) ≤ (IntKind.wrap IntKind.i64 (IntKind.wrap IntKind.u64 ((IntKind.wrap IntKind.u64 (((List.length ((255 : Int) :: [])) : Nat) : Int)) * (IntKind.wrap IntKind.u64 (IntKind.wrap IntKind.i64 (Int.tdiv (IntKind.wrap IntKind.i64 ((IntKind.wrap IntKind.i64 (p1 + (8 : Int))) - (1 : Int))) (8 : Int)))))))) ∧ ((IntKind.wrap IntKind.i64 (IntKind.wrap IntKind.u64 ((IntKind.wrap IntKind.u64 (((List.length ((255 : Int) :: [])) : Nat) : Int)) * (IntKind.wrap IntKind.u64 (IntKind.wrap IntKind.i64 (Int.tdiv (IntKind.wrap IntKind.i64 ((IntKind.wrap IntKind.i64 (p1 + (8 : Int))) - (1 : Int))) (8 : Int))))))) ≤ ((big : Nat) : Int))))) then
            loopO (D_bits_All_l2 p1) (((List.take (List.length (List.replicate (Int.toNat (IntKind.wrap IntKind.i64 (IntKind.wrap IntKind.u64 ((IntKind.wrap IntKind.u64 (((List.length ((255 : Int) :: [])) : Nat) : Int)) * (IntKind.wrap IntKind.u64 (IntKind.wrap IntKind.i64 (Int.tdiv (IntKind.wrap IntKind.i64 ((IntKind.wrap IntKind.i64 (p1 + (8 : Int))) - (1 : Int))) (8 : Int)))))))) (0 : Int))) ((255 : Int) :: [])) ++ (List.drop (min (List.length ((255 : Int) :: [])) (List.length (List.replicate (Int.toNat (IntKind.wrap IntKind.i64 (IntKind.wrap IntKind.u64 ((IntKind.wrap IntKind.u64 (((List.length ((255 : Int) :: [])) : Nat) : Int)) * (IntKind.wrap IntKind.u64 (IntKind.wrap IntKind.i64 (Int.tdiv (IntKind.wrap IntKind.i64 ((IntKind.wrap IntKind.i64 (p1 + (8 : Int))) - (1 : Int))) (8 : Int)))))))) (0 : Int)))) (List.replicate (Int.toNat (IntKind.wrap IntKind.i64 (IntKind.wrap IntKind.u64 ((IntKind.wrap IntKind.u64 (((List.length ((255 : Int) :: [])) : Nat) : Int)) * (IntKind.wrap IntKind.u64 (IntKind.wrap IntKind.i64 (Int.tdiv (IntKind.wrap IntKind.i64 ((IntKind.wrap IntKind.i64 (p1 + (8 : Int))) - (1 : Int))) (8 : Int)))))))) (0 : Int)))), ((((min (List.length ((255 : Int) :: [])) (List.length (List.replicate (Int.toNat (IntKind.wrap IntKind.i64 (IntKind.wrap IntKind.u64 ((IntKind.wrap IntKind.u64 (((List.length ((255 : Int) :: [])) : Nat) : Int)) * (IntKind.wrap IntKind.u64 (IntKind.wrap IntKind.i64 (Int.tdiv (IntKind.wrap IntKind.i64 ((IntKind.wrap IntKind.i64 (p1 + (8 : Int))) - (1 : Int))) (8 : Int)))))))) (0 : Int)))) : Nat) : Int), ()))
            else none
        else none
        else none
        else none
        else none
        else none
      else none
  else
    some ([], ((2 : Int), ()))
end Go.Cat

namespace Go.Cat
open Go
theorem ite_b1 (b : Bool) : (if b = true then some (true, ()) else some (false, ())) = b1 b := by cases b <;> rfl
theorem maxLen_eq : maxLen = 9223372036854775807 := rfl
theorem big_eq : big = 1073741824 := rfl
theorem P_place_within (l : List Bound) (hl : l.length ≤ maxLen) : D_place_within l = N_place_within (l, ()) := by
  refine (loopO_all l (fun b => !(decide (b.a < b.b)) && !(decide (b.a > b.c))) (fun k => (l, ((l.length : Int), ((k : Int), ())))) (some (false, ())) (some (true, ())) (fun k h => ?_) ?_).trans (ite_b1 _)
  · simp only [D_place_within_l1, wrap_succ (Nat.lt_of_lt_of_le h hl), Int.toNat_natCast, nth_lt h]
    grind
  · simp [D_place_within_l1]
theorem P_disk_Check (d : Disk) (h1 : d.sectors.length ≤ maxLen) (h2 : d.cache.length ≤ maxLen) : D_disk_Check d = N_disk_Check (d, ()) := by
  have hc : loopO (D_disk_Check_l1 d) (d.cache, ((d.cache.length : Int), ((0 : Int), ()))) = if d.cache.all (mayPend d.sectors.length) = true then some (0, ()) else some (8, ()) := by
    refine loopO_all d.cache (mayPend d.sectors.length) (fun k => (d.cache, ((d.cache.length : Int), ((k : Int), ())))) (some (8, ())) (some (0, ())) (fun k h => ?_) ?_
    · simp only [D_disk_Check_l1, wrap_succ (Nat.lt_of_lt_of_le h h2), Int.toNat_natCast, nth_lt h, mayPend, N_disk_sized, b1]
      grind
    · simp [D_disk_Check_l1]
  have hs : loopO (D_disk_Check_l3 d) (d.sectors, ((d.sectors.length : Int), ((0 : Int), ()))) = if d.sectors.all maySector = true then (if d.cache.all (mayPend d.sectors.length) = true then some (0, ()) else some (8, ())) else some (8, ()) := by
    refine loopO_all d.sectors maySector (fun k => (d.sectors, ((d.sectors.length : Int), ((k : Int), ())))) (some (8, ())) _ (fun k h => ?_) ?_
    · have hz : ∀ b : List Int, b.length = 32 → (b == List.replicate 32 0) = b.all fun x => x == 0 := by
        intro b hb
        rw [Bool.eq_iff_iff, beq_iff_eq, List.eq_replicate_iff, List.all_eq_true]
        simp only [hb, true_and, beq_iff_eq]
      simp only [D_disk_Check_l3, wrap_succ (Nat.lt_of_lt_of_le h h1), Int.toNat_natCast, nth_lt h, maySector, N_disk_sized, N_disk_none, N_bytes_Equal, b1]
      have := hz d.sectors[k].bytes
      grind
    · simp [D_disk_Check_l3, D_disk_Check_t2, hc]
  simp only [D_disk_Check, hs, N_disk_Check, mayDisk, e1]
  grind
end Go.Cat

namespace Go.Cat
open Go
theorem conf_iff (c : Config) : mayConf c = true ↔ 1 ≤ c.pairs ∧ c.pairs ≤ 3 ∧ 1 ≤ c.tracks ∧ c.tracks ≤ 16 ∧ c.pairs + 2 ≤ c.area ∧ c.area ≤ 32 ∧ 1 ≤ c.most ∧ c.most ≤ c.pairs ∧ 1 ≤ c.window ∧ c.window ≤ 4 ∧ 4 ≤ c.quiet ∧ c.quiet ≤ 64 := by
  simp only [mayConf, Bool.and_eq_true, decide_eq_true_eq]
  omega
theorem P_place_Check (c : Config) : D_place_Check c = N_place_Check (c, ()) := by
  simp only [D_place_Check, N_place_Check, N_place_within, b1, e1, Option.bind_some]
  by_cases hp : 1 ≤ c.pairs ∧ c.pairs ≤ 3
  · rw [wrap_i64 (n := c.pairs + 2) (by omega) (by omega)]
    simp only [mayConf, List.all_cons, List.all_nil]
    grind
  · simp only [mayConf, List.all_cons, List.all_nil]
    grind
theorem many_le (c : Config) : 1 ≤ many c ∧ many c ≤ 2 := by unfold many; split <;> omega
theorem P_place_pages (c : Config) (h : mayConf c = true) : D_place_pages c = N_place_pages (c, ()) := by
  have hc := (conf_iff c).1 h
  simp only [D_place_pages, N_place_pages, e1, h, if_true, many]
  rw [wrap_i64 (n := c.tracks + 8) (by omega) (by omega), wrap_i64 (n := c.tracks + 8 - 1) (by omega) (by omega), Int.tdiv_eq_ediv_of_nonneg (by omega), wrap_i64 (by omega) (by omega)]
  simp only [bne_iff_ne, ne_eq, Option.some.injEq, Prod.mk.injEq, and_true]
  rw [if_pos (by decide)]
  simp only [Option.some.injEq, Prod.mk.injEq, and_true]
  split <;> omega
theorem P_place_part_size (p : Part) : D_place_part_size p = N_place_part_size (p, ()) := rfl
theorem mul_le {a b m n : Int} (ha : 0 ≤ a) (hb : 0 ≤ b) (h1 : a ≤ m) (h2 : b ≤ n) : 0 ≤ a * b ∧ a * b ≤ m * n := ⟨Int.mul_nonneg ha hb, Int.mul_le_mul h1 h2 hb (by omega)⟩
theorem P_place_Sectors (c : Config) : D_place_Sectors c = N_place_Sectors (c, ()) := by
  simp only [D_place_Sectors, N_place_Sectors, N_place_Check, N_place_pages, N_place_part_size, e1, Option.bind_some]
  cases h : mayConf c with
  | false => simp
  | true =>
    have hc := (conf_iff c).1 h
    have hm := many_le c
    have m1 := mul_le (a := c.pairs) (b := many c) (m := 3) (n := 2) (by omega) (by omega) (by omega) (by omega)
    have m2 := mul_le (a := c.pairs) (b := c.tracks) (m := 3) (n := 16) (by omega) (by omega) (by omega) (by omega)
    have e : 4 * c.pairs * c.tracks = 4 * (c.pairs * c.tracks) := by rw [Int.mul_assoc]
    simp only [if_true, Option.bind_some, sizeC, Int.mul_one, Int.one_mul, Int.zero_add, e]
    simp (disch := omega) only [wrap_i64]
    simp only [bne_self_eq_false, Bool.false_eq_true, if_false, Option.some.injEq, Prod.mk.injEq, and_true]
    omega
theorem P_track_Check (c : Config) (d : Disk) : D_track_Check c d = N_track_Check (c, (d, ())) := by
  simp only [D_track_Check, N_track_Check, N_place_Sectors, N_disk_Check, e1, mayVol]
  by_cases h : mayConf c = true
  · simp only [h, if_true, Option.bind_some]; grind
  · simp only [h, if_false, Option.bind_some]; grind
theorem P_disk_sized (l : List (List Int)) (hl : l.length ≤ maxLen) : D_disk_sized l = N_disk_sized (l, ()) := by
  refine (loopO_all l (fun b => b.length == 32) (fun k => (l, ((l.length : Int), ((k : Int), ())))) (some (false, ())) (some (true, ())) (fun k h => ?_) ?_).trans (ite_b1 _)
  · simp only [D_disk_sized_l1, wrap_succ (Nat.lt_of_lt_of_le h hl), Int.toNat_natCast, nth_lt h]
    grind
  · simp [D_disk_sized_l1]
theorem P_disk_none : D_disk_none = N_disk_none () := by
  simp only [D_disk_none, N_disk_none, big_eq]
  rfl
theorem P_bytes_Equal (a b : List Int) : D_bytes_Equal a b = N_bytes_Equal (a, (b, ())) := rfl
end Go.Cat

namespace Go.Cat
open Go
theorem take_succ_len {α : Type} [Inhabited α] {l : List α} {k : Nat} (h : k < l.length) : l.take k ++ [l[k]] = l.take (k + 1) := by
  rw [List.take_add_one, List.getElem?_eq_getElem h]; rfl
theorem fit_iff (d : Disk) : fitDisk d = true ↔ d.sectors.length ≤ 1000000 ∧ d.cache.length ≤ 1000000 ∧ (∀ s ∈ d.sectors, s.bytes.length ≤ 1000000) ∧ ∀ p ∈ d.cache, p.bytes.length ≤ 1000000 := by
  simp only [fitDisk, Bool.and_eq_true, decide_eq_true_eq, List.all_eq_true]
  grind
theorem P_ref05_Twin (d : Disk) (h : fitDisk d = true) : D_ref05_Twin d = N_ref05_Twin (d, ()) := by
  obtain ⟨h1, h2, h3, h4⟩ := (fit_iff d).1 h
  have hc : ∀ l, loopO (D_ref05_Twin_l1 d) ((l, ([], ())), ((0 : Int), ())) = some (⟨l, d.cache⟩, ()) := by
    intro l
    refine loopO_for (fun k => ((l, (d.cache.take k, ())), ((k : Int), ()))) d.cache.length _ (fun k hk => ?_) ?_
    · have := h4 _ (List.getElem_mem hk)
      simp only [D_ref05_Twin_l1, wrap_succ (k := k) (by rw [maxLen_eq]; omega), Int.toNat_natCast, nth_lt hk, big_eq, List.nil_append, List.length_take, List.length_singleton, take_succ_len hk]
      grind
    · simp [D_ref05_Twin_l1]
  have hs : loopO (D_ref05_Twin_l3 d) (([], ([], ())), ((0 : Int), ())) = some (d, ()) := by
    refine loopO_for (fun k => ((d.sectors.take k, ([], ())), ((k : Int), ()))) d.sectors.length _ (fun k hk => ?_) ?_
    · have := h3 _ (List.getElem_mem hk)
      simp only [D_ref05_Twin_l3, wrap_succ (k := k) (by rw [maxLen_eq]; omega), Int.toNat_natCast, nth_lt hk, big_eq, List.nil_append, List.length_take, List.length_singleton, take_succ_len hk]
      grind
    · simp [D_ref05_Twin_l3, D_ref05_Twin_t2, hc]
  simp only [D_ref05_Twin, hs, N_ref05_Twin, h, if_true]
theorem range_all {α : Type} [Inhabited α] (xs : List α) (q : α → Bool) : (List.range' 0 xs.length).all (fun k => q (nth xs k)) = xs.all q := by
  rw [Bool.eq_iff_iff, List.all_eq_true, List.all_eq_true]
  constructor
  · intro h x hx
    obtain ⟨i, hi, rfl⟩ := List.getElem_of_mem hx
    have := h i (by simp [List.mem_range'_1, hi])
    rwa [nth_lt hi] at this
  · intro h k hk
    simp only [List.mem_range'_1] at hk
    have hk' : k < xs.length := by omega
    simp only [nth_lt hk']
    exact h _ (List.getElem_mem hk')
theorem P_ref05_Great (d : Disk) (m : Int) (hm : 0 ≤ m ∧ m ≤ 1000) : D_ref05_Great d m = N_ref05_Great (d, (m, ())) := by
  have hc : loopO (D_ref05_Great_l2 d) (m, ((0 : Int), ())) = if (List.range' 0 (min d.cache.length 100 - 0)).all (fun k => decide ((nth d.cache k).bytes.length ≤ 100)) = true then D_ref05_Great_t1 d (m, (0, ())) else some (true, ()) := by
    refine loopO_allN 0 (min d.cache.length 100) (fun k => decide ((nth d.cache k).bytes.length ≤ 100)) (fun k => (m, ((k : Int), ()))) (some (true, ())) _ (by omega) (fun k _ hk => ?_) ?_
    · simp only [D_ref05_Great_l2, wrap_succ (k := k) (by rw [maxLen_eq]; omega), Int.toNat_natCast]
      grind
    · simp only [D_ref05_Great_l2, D_ref05_Great_t1]
      grind
  have hs : loopO (D_ref05_Great_l3 d) (m, ((0 : Int), ())) = if (List.range' 0 (min d.sectors.length m.toNat - 0)).all (fun k => decide ((nth d.sectors k).bytes.length ≤ 100)) = true then loopO (D_ref05_Great_l2 d) (m, ((0 : Int), ())) else some (true, ()) := by
    refine loopO_allN 0 (min d.sectors.length m.toNat) (fun k => decide ((nth d.sectors k).bytes.length ≤ 100)) (fun k => (m, ((k : Int), ()))) (some (true, ())) _ (by omega) (fun k _ hk => ?_) ?_
    · simp only [D_ref05_Great_l3, wrap_succ (k := k) (by rw [maxLen_eq]; omega), Int.toNat_natCast]
      grind
    · simp only [D_ref05_Great_l3]
      grind
  simp only [D_ref05_Great, hs, hc, N_ref05_Great, hm, and_self, if_true, D_ref05_Great_t1, smallDisk, b1, Nat.sub_zero]
  by_cases h1 : (d.sectors.length : Int) ≤ m
  · by_cases h2 : d.cache.length ≤ 100
    · have e1 := range_all d.cache (fun p => decide (p.bytes.length ≤ 100))
      have e2 := range_all d.sectors (fun p => decide (p.bytes.length ≤ 100))
      simp only [show min d.cache.length 100 = d.cache.length by omega, show min d.sectors.length m.toNat = d.sectors.length by omega, Nat.sub_zero, e1, e2]
      grind
    · grind
  · grind
theorem P_ref05_Same (d : Disk) (h1 : d.sectors.length ≤ maxLen) (h2 : d.cache.length ≤ maxLen) : D_ref05_Same d d = b1 true := by
  have hc : loopO (D_ref05_Same_l1 d d) ((0 : Int), ()) = some (true, ()) := by
    refine loopO_for (fun k => ((k : Int), ())) d.cache.length _ (fun k hk => ?_) ?_
    · simp only [D_ref05_Same_l1, wrap_succ (Nat.lt_of_lt_of_le hk h2), Int.toNat_natCast]
      grind
    · simp [D_ref05_Same_l1]
  have hs : loopO (D_ref05_Same_l2 d d) ((0 : Int), ()) = some (true, ()) := by
    refine loopO_for (fun k => ((k : Int), ())) d.sectors.length _ (fun k hk => ?_) ?_
    · simp only [D_ref05_Same_l2, wrap_succ (Nat.lt_of_lt_of_le hk h1), Int.toNat_natCast]
      grind
    · simp [D_ref05_Same_l2, hc]
  simp [D_ref05_Same, hs, b1]
theorem behindN_len (d : Disk) (l : List Int) : ∀ k, (behindN d l k).length = d.sectors.length
  | 0 => rfl
  | k + 1 => by
    simp only [behindN, fated]
    have := behindN_len d l k
    grind
theorem disk_iff (d : Disk) : mayDisk d = true ↔ 1 ≤ d.sectors.length ∧ d.sectors.length ≤ 1024 ∧ d.cache.length ≤ 64 ∧ (∀ s ∈ d.sectors, maySector s = true) ∧ ∀ p ∈ d.cache, mayPend d.sectors.length p = true := by
  simp only [mayDisk, Bool.and_eq_true, decide_eq_true_eq, List.all_eq_true]
  grind
theorem mayDisk_fit (d : Disk) (h : mayDisk d = true) : fitDisk d = true := by
  obtain ⟨h1, h2, h3, h4, h5⟩ := (disk_iff d).1 h
  rw [fit_iff]
  refine ⟨by omega, by omega, fun s hs => ?_, fun p hp => ?_⟩
  · have := h4 s hs
    simp only [maySector, Bool.and_eq_true, beq_iff_eq] at this
    omega
  · have := h5 p hp
    simp only [mayPend, Bool.and_eq_true, beq_iff_eq] at this
    omega
end Go.Cat

namespace Go.Cat
open Go
theorem behindN_bytes (d : Disk) (l : List Int) (h : mayDisk d = true) : ∀ k, k ≤ d.cache.length → ∀ s ∈ behindN d l k, s.bytes.length = 32
  | 0, _, s, hs => by
    have := ((disk_iff d).1 h).2.2.2.1 s hs
    simp only [maySector, Bool.and_eq_true, beq_iff_eq] at this
    exact this.1
  | k + 1, hk, s, hs => by
    have ih := behindN_bytes d l h k (by omega)
    have hk' : k < d.cache.length := by omega
    have q := ((disk_iff d).1 h).2.2.2.2 _ (List.getElem_mem hk')
    simp only [mayPend, Bool.and_eq_true, beq_iff_eq] at q
    simp only [behindN, fated, nth_lt hk'] at hs
    split at hs
    · rcases List.mem_or_eq_of_mem_set hs with h1 | h1
      · exact ih s h1
      · rw [h1]; exact q.2
    · split at hs
      · rcases List.mem_or_eq_of_mem_set hs with h1 | h1
        · exact ih s h1
        · rw [h1]; simp
      · exact ih s hs
theorem P_disk_Crash (d : Disk) (l : List Int) (hl : ∀ x ∈ l, 0 ≤ x ∧ x ≤ 255) : D_disk_Crash d l = N_disk_Crash (d, (l, ())) := by
  by_cases h : mayDisk d = true
  · obtain ⟨g1, g2, g3, g4, g5⟩ := (disk_iff d).1 h
    obtain ⟨h1, h2, h3, h4⟩ := (fit_iff d).1 (mayDisk_fit d h)
    have hz : loopO D_disk_Crash_l1 (((behind d l).sectors, (d.cache, ())), (((behind d l).sectors.length : Int), ((0 : Int), ()))) = some (behind d l, ((0 : Int), ())) := by
      have e1 : (behind d l).sectors.length = d.sectors.length := behindN_len d l _
      refine loopO_for (fun k => (((behind d l).sectors, (d.cache, ())), (((behind d l).sectors.length : Int), ((k : Int), ())))) (behind d l).sectors.length _ (fun k hk => ?_) ?_
      · have q1 : (behind d l).sectors[k].bytes.length = 32 := behindN_bytes d l h _ (Nat.min_le_left _ _) _ (List.getElem_mem hk)
        simp only [D_disk_Crash_l1, wrap_succ (k := k) (by rw [maxLen_eq]; omega), Int.toNat_natCast, big_eq, nth_lt hk, N_slices_Clone_byte_byte, q1]
        have e2 : (behind d l).sectors.set k ⟨(behind d l).sectors[k].bytes, (behind d l).sectors[k].bad⟩ = (behind d l).sectors := List.set_getElem_self hk
        simp only [show (32 : Nat) ≤ 1073741824 by omega, if_true, Option.bind_some, e2]
        grind
      · simp [D_disk_Crash_l1]
        simp [behind]
    have hb : loopO D_disk_Crash_l3 (l, ((d.sectors, (d.cache, ())), (d.cache, ((d.cache.length : Int), ((0 : Int), ()))))) = some (behind d l, ((0 : Int), ())) := by
      refine loopO_for (fun k => (l, ((behindN d l k, (d.cache, ())), (d.cache, ((d.cache.length : Int), ((k : Int), ())))))) (min d.cache.length l.length) _ (fun k hk => ?_) ?_
      · have hk1 : k < d.cache.length := by omega
        have hk2 : k < l.length := by omega
        have q1 := g5 _ (List.getElem_mem hk1)
        have q3 := hl _ (List.getElem_mem hk2)
        have q4 := behindN_len d l k
        simp only [mayPend, Bool.and_eq_true, beq_iff_eq, decide_eq_true_eq] at q1
        simp only [D_disk_Crash_l3, wrap_succ (k := k) (by rw [maxLen_eq]; omega), Int.toNat_natCast, behindN, fated, nth_lt hk1, nth_lt hk2, Int.tmod_eq_emod_of_nonneg q3.1, q4, N_disk_none, Option.bind_some]
        grind
      · have e : D_disk_Crash_t2 (l, ((behindN d l (min d.cache.length l.length), (d.cache, ())), (d.cache, ((d.cache.length : Int), (((min d.cache.length l.length : Nat) : Int), ()))))) = some (behind d l, ((0 : Int), ())) := hz
        simp only [D_disk_Crash_l3, e]
        grind
    have hc : loopO (D_disk_Crash_l5 l) ((d.sectors, ([], ())), (d.cache, ((d.cache.length : Int), ((0 : Int), ())))) = some (behind d l, ((0 : Int), ())) := by
      refine loopO_for (fun k => ((d.sectors, (d.cache.take k, ())), (d.cache, ((d.cache.length : Int), ((k : Int), ()))))) d.cache.length _ (fun k hk => ?_) ?_
      · have := h4 _ (List.getElem_mem hk)
        have e2 : d.cache.take k ++ [⟨d.cache[k].at_, d.cache[k].bytes⟩] = d.cache.take (k + 1) := take_succ_len hk
        simp only [D_disk_Crash_l5, wrap_succ (k := k) (by rw [maxLen_eq]; omega), Int.toNat_natCast, nth_lt hk, big_eq, List.length_take, List.length_singleton, N_slices_Clone_byte_byte, show d.cache[k].bytes.length ≤ 1073741824 by omega, if_true, Option.bind_some, e2]
        grind
      · have e : D_disk_Crash_t4 l ((d.sectors, (d.cache.take d.cache.length, ())), (d.cache, ((d.cache.length : Int), ((d.cache.length : Int), ())))) = some (behind d l, ((0 : Int), ())) := by
          simp only [List.take_length, D_disk_Crash_t4]; exact hb
        simp only [D_disk_Crash_l5, e]
        grind
    have hs : loopO (D_disk_Crash_l7 d l) (([], ([], ())), (d.sectors, ((d.sectors.length : Int), ((0 : Int), ())))) = some (behind d l, ((0 : Int), ())) := by
      refine loopO_for (fun k => ((d.sectors.take k, ([], ())), (d.sectors, ((d.sectors.length : Int), ((k : Int), ()))))) d.sectors.length _ (fun k hk => ?_) ?_
      · have := h3 _ (List.getElem_mem hk)
        have e2 : d.sectors.take k ++ [⟨d.sectors[k].bytes, d.sectors[k].bad⟩] = d.sectors.take (k + 1) := take_succ_len hk
        simp only [D_disk_Crash_l7, wrap_succ (k := k) (by rw [maxLen_eq]; omega), Int.toNat_natCast, nth_lt hk, big_eq, List.length_take, List.length_singleton, N_slices_Clone_byte_byte, show d.sectors[k].bytes.length ≤ 1073741824 by omega, if_true, Option.bind_some, e2]
        grind
      · have e : D_disk_Crash_t6 d l ((d.sectors.take d.sectors.length, ([], ())), (d.sectors, ((d.sectors.length : Int), ((d.sectors.length : Int), ())))) = some (behind d l, ((0 : Int), ())) := by
          simp only [List.take_length, D_disk_Crash_t6]; exact hc
        simp only [D_disk_Crash_l7, e]
        grind
    simp only [D_disk_Crash, N_disk_Check, e1, h, if_true, Option.bind_some, hs, N_disk_Crash]
    simp
  · simp only [D_disk_Crash, N_disk_Check, e1, h, if_false, Option.bind_some, N_disk_Crash]
    simp
end Go.Cat
