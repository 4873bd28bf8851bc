/-
  My own text: a part of the proof.
-/
import Derived.Test.YtiflikkmjeikdaaGreatC4
set_option linter.unusedVariables false
set_option linter.unusedSimpArgs false
set_option linter.unusedVariables false
namespace Go.Cat
open Go
noncomputable def D_ref21_Great_t1 (p1 : Site) : Option (Bool × Unit) :=
    Option.bind (N_ref21_greatWords (p1, ())) fun r1 =>
    some (r1.1, ())
noncomputable def D_ref21_Great_l2 (p1 : Site) (l1 : (Int × Unit)) : Option ((Int × Unit) ⊕ (Bool × Unit)) :=
    if (decide (l1.1 < (((List.length p1.end_.out.items) : Nat) : Int))) then
    if (decide (((0 : Int) ≤ l1.1) ∧ (l1.1 < (((List.length p1.end_.out.items) : Nat) : Int)))) then
    if (decide ((((List.length (nth p1.end_.out.items (Int.toNat l1.1))) : Nat) : Int) > (100 : Int))) then
      some (Sum.inr (Bool.true, ()))
    else
      some (Sum.inl ((IntKind.wrap IntKind.i64 (l1.1 + (1 : Int))), ()))
    else none
  else
    Option.map Sum.inr (D_ref21_Great_t1 p1)
noncomputable def D_ref21_Great_l3 (p1 : Site) (l1 : (Int × Unit)) : Option ((Int × Unit) ⊕ (Bool × Unit)) :=
    if (decide (l1.1 < (((List.length p1.mail) : Nat) : Int))) then
    if (decide (((0 : Int) ≤ l1.1) ∧ (l1.1 < (((List.length p1.mail) : Nat) : Int)))) then
    if (decide ((((List.length (nth p1.mail (Int.toNat l1.1)).msg.bytes) : Nat) : Int) > (100 : Int))) then
      some (Sum.inr (Bool.true, ()))
    else
      if (decide (((0 : Int) ≤ l1.1) ∧ (l1.1 < (((List.length p1.mail) : Nat) : Int)))) then
      if (decide ((((List.length (nth p1.mail (Int.toNat l1.1)).msg.marks) : Nat) : Int) > (100 : Int))) then
        some (Sum.inr (Bool.true, ()))
      else
        some (Sum.inl ((IntKind.wrap IntKind.i64 (l1.1 + (1 : Int))), ()))
      else none
    else none
  else
    Option.map Sum.inr (loopO (D_ref21_Great_l2 p1) ((0 : Int), ()))
noncomputable def D_ref21_Great_l4 (p1 : Site) (l1 : (Int × Unit)) : Option ((Int × Unit) ⊕ (Bool × Unit)) :=
    if (decide (l1.1 < (((List.length p1.plan) : Nat) : Int))) then
    if (decide (((0 : Int) ≤ l1.1) ∧ (l1.1 < (((List.length p1.plan) : Nat) : Int)))) then
    if (decide ((((List.length (nth p1.plan (Int.toNat l1.1)).bytes) : Nat) : Int) > (100 : Int))) then
      some (Sum.inr (Bool.true, ()))
    else
      if (decide (((0 : Int) ≤ l1.1) ∧ (l1.1 < (((List.length p1.plan) : Nat) : Int)))) then
      if (decide ((((List.length (nth p1.plan (Int.toNat l1.1)).msg.bytes) : Nat) : Int) > (100 : Int))) then
        some (Sum.inr (Bool.true, ()))
      else
        if (decide (((0 : Int) ≤ l1.1) ∧ (l1.1 < (((List.length p1.plan) : Nat) : Int)))) then
        if (decide ((((List.length (nth p1.plan (Int.toNat l1.1)).msg.marks) : Nat) : Int) > (100 : Int))) then
          some (Sum.inr (Bool.true, ()))
        else
          if (decide (((0 : Int) ≤ l1.1) ∧ (l1.1 < (((List.length p1.plan) : Nat) : Int)))) then
          if (decide ((((List.length (nth p1.plan (Int.toNat l1.1)).reply.bytes) : Nat) : Int) > (100 : Int))) then
            some (Sum.inr (Bool.true, ()))
          else
            some (Sum.inl ((IntKind.wrap IntKind.i64 (l1.1 + (1 : Int))), ()))
          else none
        else none
      else none
    else none
  else
    Option.map Sum.inr (loopO (D_ref21_Great_l3 p1) ((0 : Int), ()))
noncomputable def D_ref21_Great_l5 (p1 : Site) (l1 : (Int × Unit)) : Option ((Int × Unit) ⊕ (Bool × Unit)) :=
    if (decide (l1.1 < (((List.length p1.sides) : Nat) : Int))) then
    if (decide (((0 : Int) ≤ l1.1) ∧ (l1.1 < (((List.length p1.sides) : Nat) : Int)))) then
    if (decide ((((List.length (nth p1.sides (Int.toNat l1.1)).marks) : Nat) : Int) > (100 : Int))) then
      some (Sum.inr (Bool.true, ()))
    else
      if (decide ((((List.length (nth p1.sides (Int.toNat l1.1)).work) : Nat) : Int) > (100 : Int))) then
        some (Sum.inr (Bool.true, ()))
      else
        if (decide ((((List.length (nth p1.sides (Int.toNat l1.1)).need) : Nat) : Int) > (100 : Int))) then
          some (Sum.inr (Bool.true, ()))
        else
          if (decide ((((List.length (nth p1.sides (Int.toNat l1.1)).out) : Nat) : Int) > (100 : Int))) then
            some (Sum.inr (Bool.true, ()))
          else
            if (decide ((((List.length (nth p1.sides (Int.toNat l1.1)).waits) : Nat) : Int) > (100 : Int))) then
              some (Sum.inr (Bool.true, ()))
            else
              some (Sum.inl ((IntKind.wrap IntKind.i64 (l1.1 + (1 : Int))), ()))
    else none
  else
    Option.map Sum.inr (loopO (D_ref21_Great_l4 p1) ((0 : Int), ()))
noncomputable def D_ref21_Great (p1 : Site) : Option (Bool × Unit) :=
  Option.bind (N_ref05_Great (p1.disk, ((300 : Int), ()))) fun r1 =>
    if r1.1 then
      some (Bool.true, ())
    else
      if (decide ((((List.length p1.met.table) : Nat) : Int) > (100 : Int))) then
        some (Bool.true, ())
      else
        if (decide ((((List.length p1.sides) : Nat) : Int) > (10 : Int))) then
          some (Bool.true, ())
        else
          if (decide ((((List.length p1.plan) : Nat) : Int) > (200 : Int))) then
            some (Bool.true, ())
          else
            if (decide ((((List.length p1.mail) : Nat) : Int) > (200 : Int))) then
              some (Bool.true, ())
            else
              if (decide ((((List.length p1.asks) : Nat) : Int) > (200 : Int))) then
                some (Bool.true, ())
              else
                if (decide ((((List.length p1.replies) : Nat) : Int) > (2000 : Int))) then
                  some (Bool.true, ())
                else
                  if (decide ((((List.length p1.syncs) : Nat) : Int) > (2000 : Int))) then
                    some (Bool.true, ())
                  else
                    if (decide ((((List.length p1.end_.out.items) : Nat) : Int) > (100 : Int))) then
                      some (Bool.true, ())
                    else
                      loopO (D_ref21_Great_l5 p1) ((0 : Int), ())
noncomputable def D_ref05_Great_t1 (p1 : Disk) (l1 : (Int × (Int × Unit))) : Option (Bool × Unit) :=
    if (decide ((((List.length p1.sectors) : Nat) : Int) > l1.1)) then
    some (Bool.true, ())
  else
    some ((decide ((((List.length p1.cache) : Nat) : Int) > (100 : Int))), ())
noncomputable def D_ref05_Great_l2 (p1 : Disk) (l1 : (Int × (Int × Unit))) : Option ((Int × (Int × Unit)) ⊕ (Bool × Unit)) :=
    if (decide (l1.2.1 < (((List.length p1.cache) : Nat) : Int))) then
    if (decide (l1.2.1 < (100 : Int))) then
      if (decide (((0 : Int) ≤ l1.2.1) ∧ (l1.2.1 < (((List.length p1.cache) : Nat) : Int)))) then
      if (decide ((((List.length (nth p1.cache (Int.toNat l1.2.1)).bytes) : Nat) : Int) > (100 : Int))) then
        some (Sum.inr (Bool.true, ()))
      else
        some (Sum.inl (l1.1, ((IntKind.wrap IntKind.i64 (l1.2.1 + (1 : Int))), ())))
      else none
    else
      Option.map Sum.inr (D_ref05_Great_t1 p1 l1)
  else
    Option.map Sum.inr (D_ref05_Great_t1 p1 l1)
noncomputable def D_ref05_Great_l3 (p1 : Disk) (l1 : (Int × (Int × Unit))) : Option ((Int × (Int × Unit)) ⊕ (Bool × Unit)) :=
    if (decide (l1.2.1 < (((List.length p1.sectors) : Nat) : Int))) then
    if (decide (l1.2.1 < l1.1)) then
      if (decide (((0 : Int) ≤ l1.2.1) ∧ (l1.2.1 < (((List.length p1.sectors) : Nat) : Int)))) then
      if (decide ((((List.length (nth p1.sectors (Int.toNat l1.2.1)).bytes) : Nat) : Int) > (100 : Int))) then
        some (Sum.inr (Bool.true, ()))
      else
        some (Sum.inl (l1.1, ((IntKind.wrap IntKind.i64 (l1.2.1 + (1 : Int))), ())))
      else none
    else
      Option.map Sum.inr (loopO (D_ref05_Great_l2 p1) (l1.1, ((0 : Int), ())))
  else
    Option.map Sum.inr (loopO (D_ref05_Great_l2 p1) (l1.1, ((0 : Int), ())))
noncomputable def D_ref05_Great (p1 : Disk) (p2 : Int) : Option (Bool × Unit) :=
  loopO (D_ref05_Great_l3 p1) (p2, ((0 : Int), ()))
noncomputable def D_ref21_greatWords_l1 (p1 : Site) (l1 : (Int × Unit)) : Option ((Int × Unit) ⊕ (Bool × Unit)) :=
    if (decide (l1.1 < (((List.length p1.replies) : Nat) : Int))) then
    if (decide (((0 : Int) ≤ l1.1) ∧ (l1.1 < (((List.length p1.replies) : Nat) : Int)))) then
    if (decide ((((List.length (nth p1.replies (Int.toNat l1.1)).bytes) : Nat) : Int) > (100 : Int))) then
      some (Sum.inr (Bool.true, ()))
    else
      some (Sum.inl ((IntKind.wrap IntKind.i64 (l1.1 + (1 : Int))), ()))
    else none
  else
    some (Sum.inr (Bool.false, ()))
noncomputable def D_ref21_greatWords_l2 (p1 : Site) (l1 : (Int × Unit)) : Option ((Int × Unit) ⊕ (Bool × Unit)) :=
    if (decide (l1.1 < (((List.length p1.asks) : Nat) : Int))) then
    if (decide (((0 : Int) ≤ l1.1) ∧ (l1.1 < (((List.length p1.asks) : Nat) : Int)))) then
    if (decide ((((List.length (nth p1.asks (Int.toNat l1.1)).bytes) : Nat) : Int) > (100 : Int))) then
      some (Sum.inr (Bool.true, ()))
    else
      some (Sum.inl ((IntKind.wrap IntKind.i64 (l1.1 + (1 : Int))), ()))
    else none
  else
    Option.map Sum.inr (loopO (D_ref21_greatWords_l1 p1) ((0 : Int), ()))
noncomputable def D_ref21_greatWords (p1 : Site) : Option (Bool × Unit) :=
  loopO (D_ref21_greatWords_l2 p1) ((0 : Int), ())
noncomputable def D_ref21_Twin_l1 (p1 : Site) (l1 : ((Int × ((List Sector) × ((List Pend) × (Int × (Int × (Int × (Int × (Int × ((List Rec) × ((List Side) × (Int × (Int × (Bool × (Bool × (Int × (Int × ((List (List Int)) × (Int × (Int × (Int × (Int × ((List Act) × ((List Mail) × ((List Ask) × ((List Reply) × ((List Int) × (Int × (Bool × Unit)))))))))))))))))))))))))))) × (Int × Unit))) : Option (((Int × ((List Sector) × ((List Pend) × (Int × (Int × (Int × (Int × (Int × ((List Rec) × ((List Side) × (Int × (Int × (Bool × (Bool × (Int × (Int × ((List (List Int)) × (Int × (Int × (Int × (Int × ((List Act) × ((List Mail) × ((List Ask) × ((List Reply) × ((List Int) × (Int × (Bool × Unit)))))))))))))))))))))))))))) × (Int × Unit)) ⊕ (Site × Unit)) :=
    if (decide (l1.2.1 < (((List.length p1.replies) : Nat) : Int))) then
    if (decide (((0 : Int) ≤ l1.2.1) ∧ (l1.2.1 < (((List.length p1.replies) : Nat) : Int)))) then
    Option.bind (N_ref21_bytes ((nth p1.replies (Int.toNat l1.2.1)).bytes, ())) fun r2 =>
      if (decide (((List.length l1.1.2.2.2.2.2.2.2.2.2.2.2.2.2.2.2.2.2.2.2.2.2.2.2.2.1) + (List.length ((Reply.mk (nth p1.replies (Int.toNat l1.2.1)).ask (nth p1.replies (Int.toNat l1.2.1)).code (nth p1.replies (Int.toNat l1.2.1)).state r2.1) :: []))) ≤ big)) then
      some (Sum.inl ((l1.1.1, (l1.1.2.1, (l1.1.2.2.1, (l1.1.2.2.2.1, (l1.1.2.2.2.2.1, (l1.1.2.2.2.2.2.1, (l1.1.2.2.2.2.2.2.1, (l1.1.2.2.2.2.2.2.2.1, (l1.1.2.2.2.2.2.2.2.2.1, (l1.1.2.2.2.2.2.2.2.2.2.1, (l1.1.2.2.2.2.2.2.2.2.2.2.1, (l1.1.2.2.2.2.2.2.2.2.2.2.2.1, (l1.1.2.2.2.2.2.2.2.2.2.2.2.2.1, (l1.1.2.2.2.2.2.2.2.2.2.2.2.2.2.1, (l1.1.2.2.2.2.2.2.2.2.2.2.2.2.2.2.1, (l1.1.2.2.2.2.2.2.2.2.2.2.2.2.2.2.2.1, (l1.1.2.2.2.2.2.2.2.2.2.2.2.2.2.2.2.2.1, (l1.1.2.2.2.2.2.2.2.2.2.2.2.2.2.2.2.2.2.1, (l1.1.2.2.2.2.2.2.2.2.2.2.2.2.2.2.2.2.2.2.1, (l1.1.2.2.2.2.2.2.2.2.2.2.2.2.2.2.2.2.2.2.2.1, (l1.1.2.2.2.2.2.2.2.2.2.2.2.2.2.2.2.2.2.2.2.2.1, (l1.1.2.2.2.2.2.2.2.2.2.2.2.2.2.2.2.2.2.2.2.2.2.1, (l1.1.2.2.2.2.2.2.2.2.2.2.2.2.2.2.2.2.2.2.2.2.2.2.1, (l1.1.2.2.2.2.2.2.2.2.2.2.2.2.2.2.2.2.2.2.2.2.2.2.2.1, ((l1.1.2.2.2.2.2.2.2.2.2.2.2.2.2.2.2.2.2.2.2.2.2.2.2.2.1 ++ ((Reply.mk (nth p1.replies (Int.toNat l1.2.1)).ask (nth p1.replies (Int.toNat l1.2.1)).code (nth p1.replies (Int.toNat l1.2.1)).state r2.1) :: [])), (l1.1.2.2.2.2.2.2.2.2.2.2.2.2.2.2.2.2.2.2.2.2.2.2.2.2.2.1, l1.1.2.2.2.2.2.2.2.2.2.2.2.2.2.2.2.2.2.2.2.2.2.2.2.2.2.2)))))))))))))))))))))))))), ((IntKind.wrap IntKind.i64 (l1.2.1 + (1 : Int))), ())))
      else none
    else none
  else
    some (Sum.inr ((Site.mk l1.1.1 (Disk.mk l1.1.2.1 l1.1.2.2.1) (Meta.mk (Super.mk l1.1.2.2.2.1 l1.1.2.2.2.2.1 l1.1.2.2.2.2.2.1) l1.1.2.2.2.2.2.2.1 l1.1.2.2.2.2.2.2.2.1 l1.1.2.2.2.2.2.2.2.2.1) l1.1.2.2.2.2.2.2.2.2.2.1 (End.mk l1.1.2.2.2.2.2.2.2.2.2.2.1 l1.1.2.2.2.2.2.2.2.2.2.2.2.1 l1.1.2.2.2.2.2.2.2.2.2.2.2.2.1 l1.1.2.2.2.2.2.2.2.2.2.2.2.2.2.1 l1.1.2.2.2.2.2.2.2.2.2.2.2.2.2.2.1 l1.1.2.2.2.2.2.2.2.2.2.2.2.2.2.2.2.1 (Queue.mk l1.1.2.2.2.2.2.2.2.2.2.2.2.2.2.2.2.2.1 l1.1.2.2.2.2.2.2.2.2.2.2.2.2.2.2.2.2.2.1 l1.1.2.2.2.2.2.2.2.2.2.2.2.2.2.2.2.2.2.2.1) l1.1.2.2.2.2.2.2.2.2.2.2.2.2.2.2.2.2.2.2.2.1 l1.1.2.2.2.2.2.2.2.2.2.2.2.2.2.2.2.2.2.2.2.2.1) l1.1.2.2.2.2.2.2.2.2.2.2.2.2.2.2.2.2.2.2.2.2.2.1 l1.1.2.2.2.2.2.2.2.2.2.2.2.2.2.2.2.2.2.2.2.2.2.2.1 l1.1.2.2.2.2.2.2.2.2.2.2.2.2.2.2.2.2.2.2.2.2.2.2.2.1 l1.1.2.2.2.2.2.2.2.2.2.2.2.2.2.2.2.2.2.2.2.2.2.2.2.2.1 l1.1.2.2.2.2.2.2.2.2.2.2.2.2.2.2.2.2.2.2.2.2.2.2.2.2.2.1 l1.1.2.2.2.2.2.2.2.2.2.2.2.2.2.2.2.2.2.2.2.2.2.2.2.2.2.2.1 l1.1.2.2.2.2.2.2.2.2.2.2.2.2.2.2.2.2.2.2.2.2.2.2.2.2.2.2.2.1), ()))
noncomputable def D_ref21_Twin_t2 (p1 : Site) (l1 : ((Int × ((List Sector) × ((List Pend) × (Int × (Int × (Int × (Int × (Int × ((List Rec) × ((List Side) × (Int × (Int × (Bool × (Bool × (Int × (Int × ((List (List Int)) × (Int × (Int × (Int × (Int × ((List Act) × ((List Mail) × ((List Ask) × ((List Reply) × ((List Int) × (Int × (Bool × Unit)))))))))))))))))))))))))))) × (Int × Unit))) : Option (Site × Unit) :=
    loopO (D_ref21_Twin_l1 p1) ((l1.1.1, (l1.1.2.1, (l1.1.2.2.1, (l1.1.2.2.2.1, (l1.1.2.2.2.2.1, (l1.1.2.2.2.2.2.1, (l1.1.2.2.2.2.2.2.1, (l1.1.2.2.2.2.2.2.2.1, (l1.1.2.2.2.2.2.2.2.2.1, (l1.1.2.2.2.2.2.2.2.2.2.1, (l1.1.2.2.2.2.2.2.2.2.2.2.1, (l1.1.2.2.2.2.2.2.2.2.2.2.2.1, (l1.1.2.2.2.2.2.2.2.2.2.2.2.2.1, (l1.1.2.2.2.2.2.2.2.2.2.2.2.2.2.1, (l1.1.2.2.2.2.2.2.2.2.2.2.2.2.2.2.1, (l1.1.2.2.2.2.2.2.2.2.2.2.2.2.2.2.2.1, (l1.1.2.2.2.2.2.2.2.2.2.2.2.2.2.2.2.2.1, (l1.1.2.2.2.2.2.2.2.2.2.2.2.2.2.2.2.2.2.1, (l1.1.2.2.2.2.2.2.2.2.2.2.2.2.2.2.2.2.2.2.1, (l1.1.2.2.2.2.2.2.2.2.2.2.2.2.2.2.2.2.2.2.2.1, (l1.1.2.2.2.2.2.2.2.2.2.2.2.2.2.2.2.2.2.2.2.2.1, (l1.1.2.2.2.2.2.2.2.2.2.2.2.2.2.2.2.2.2.2.2.2.2.1, (l1.1.2.2.2.2.2.2.2.2.2.2.2.2.2.2.2.2.2.2.2.2.2.2.1, (l1.1.2.2.2.2.2.2.2.2.2.2.2.2.2.2.2.2.2.2.2.2.2.2.2.1, (l1.1.2.2.2.2.2.2.2.2.2.2.2.2.2.2.2.2.2.2.2.2.2.2.2.2.1, (l1.1.2.2.2.2.2.2.2.2.2.2.2.2.2.2.2.2.2.2.2.2.2.2.2.2.2.1, l1.1.2.2.2.2.2.2.2.2.2.2.2.2.2.2.2.2.2.2.2.2.2.2.2.2.2.2)))))))))))))))))))))))))), ((0 : Int), ()))
noncomputable def D_ref21_Twin_l3 (p1 : Site) (l1 : ((Int × ((List Sector) × ((List Pend) × (Int × (Int × (Int × (Int × (Int × ((List Rec) × ((List Side) × (Int × (Int × (Bool × (Bool × (Int × (Int × ((List (List Int)) × (Int × (Int × (Int × (Int × ((List Act) × ((List Mail) × ((List Ask) × ((List Reply) × ((List Int) × (Int × (Bool × Unit)))))))))))))))))))))))))))) × (Int × Unit))) : Option (((Int × ((List Sector) × ((List Pend) × (Int × (Int × (Int × (Int × (Int × ((List Rec) × ((List Side) × (Int × (Int × (Bool × (Bool × (Int × (Int × ((List (List Int)) × (Int × (Int × (Int × (Int × ((List Act) × ((List Mail) × ((List Ask) × ((List Reply) × ((List Int) × (Int × (Bool × Unit)))))))))))))))))))))))))))) × (Int × Unit)) ⊕ (Site × Unit)) :=
    if (decide (l1.2.1 < (((List.length p1.asks) : Nat) : Int))) then
    if (decide (((0 : Int) ≤ l1.2.1) ∧ (l1.2.1 < (((List.length p1.asks) : Nat) : Int)))) then
    Option.bind (N_ref21_bytes ((nth p1.asks (Int.toNat l1.2.1)).bytes, ())) fun r2 =>
      if (decide (((List.length l1.1.2.2.2.2.2.2.2.2.2.2.2.2.2.2.2.2.2.2.2.2.2.2.2.1) + (List.length ((Ask.mk (nth p1.asks (Int.toNat l1.2.1)).id (nth p1.asks (Int.toNat l1.2.1)).kind (nth p1.asks (Int.toNat l1.2.1)).pair (nth p1.asks (Int.toNat l1.2.1)).track (nth p1.asks (Int.toNat l1.2.1)).op r2.1) :: []))) ≤ big)) then
      some (Sum.inl ((l1.1.1, (l1.1.2.1, (l1.1.2.2.1, (l1.1.2.2.2.1, (l1.1.2.2.2.2.1, (l1.1.2.2.2.2.2.1, (l1.1.2.2.2.2.2.2.1, (l1.1.2.2.2.2.2.2.2.1, (l1.1.2.2.2.2.2.2.2.2.1, (l1.1.2.2.2.2.2.2.2.2.2.1, (l1.1.2.2.2.2.2.2.2.2.2.2.1, (l1.1.2.2.2.2.2.2.2.2.2.2.2.1, (l1.1.2.2.2.2.2.2.2.2.2.2.2.2.1, (l1.1.2.2.2.2.2.2.2.2.2.2.2.2.2.1, (l1.1.2.2.2.2.2.2.2.2.2.2.2.2.2.2.1, (l1.1.2.2.2.2.2.2.2.2.2.2.2.2.2.2.2.1, (l1.1.2.2.2.2.2.2.2.2.2.2.2.2.2.2.2.2.1, (l1.1.2.2.2.2.2.2.2.2.2.2.2.2.2.2.2.2.2.1, (l1.1.2.2.2.2.2.2.2.2.2.2.2.2.2.2.2.2.2.2.1, (l1.1.2.2.2.2.2.2.2.2.2.2.2.2.2.2.2.2.2.2.2.1, (l1.1.2.2.2.2.2.2.2.2.2.2.2.2.2.2.2.2.2.2.2.2.1, (l1.1.2.2.2.2.2.2.2.2.2.2.2.2.2.2.2.2.2.2.2.2.2.1, (l1.1.2.2.2.2.2.2.2.2.2.2.2.2.2.2.2.2.2.2.2.2.2.2.1, ((l1.1.2.2.2.2.2.2.2.2.2.2.2.2.2.2.2.2.2.2.2.2.2.2.2.1 ++ ((Ask.mk (nth p1.asks (Int.toNat l1.2.1)).id (nth p1.asks (Int.toNat l1.2.1)).kind (nth p1.asks (Int.toNat l1.2.1)).pair (nth p1.asks (Int.toNat l1.2.1)).track (nth p1.asks (Int.toNat l1.2.1)).op r2.1) :: [])), (l1.1.2.2.2.2.2.2.2.2.2.2.2.2.2.2.2.2.2.2.2.2.2.2.2.2.1, (l1.1.2.2.2.2.2.2.2.2.2.2.2.2.2.2.2.2.2.2.2.2.2.2.2.2.2.1, l1.1.2.2.2.2.2.2.2.2.2.2.2.2.2.2.2.2.2.2.2.2.2.2.2.2.2.2)))))))))))))))))))))))))), ((IntKind.wrap IntKind.i64 (l1.2.1 + (1 : Int))), ())))
      else none
    else none
  else
    Option.map Sum.inr (D_ref21_Twin_t2 p1 l1)
noncomputable def D_ref21_Twin_t4 (p1 : Site) (l1 : ((Int × ((List Sector) × ((List Pend) × (Int × (Int × (Int × (Int × (Int × ((List Rec) × ((List Side) × (Int × (Int × (Bool × (Bool × (Int × (Int × ((List (List Int)) × (Int × (Int × (Int × (Int × ((List Act) × ((List Mail) × ((List Ask) × ((List Reply) × ((List Int) × (Int × (Bool × Unit)))))))))))))))))))))))))))) × (Int × Unit))) : Option (Site × Unit) :=
    loopO (D_ref21_Twin_l3 p1) ((l1.1.1, (l1.1.2.1, (l1.1.2.2.1, (l1.1.2.2.2.1, (l1.1.2.2.2.2.1, (l1.1.2.2.2.2.2.1, (l1.1.2.2.2.2.2.2.1, (l1.1.2.2.2.2.2.2.2.1, (l1.1.2.2.2.2.2.2.2.2.1, (l1.1.2.2.2.2.2.2.2.2.2.1, (l1.1.2.2.2.2.2.2.2.2.2.2.1, (l1.1.2.2.2.2.2.2.2.2.2.2.2.1, (l1.1.2.2.2.2.2.2.2.2.2.2.2.2.1, (l1.1.2.2.2.2.2.2.2.2.2.2.2.2.2.1, (l1.1.2.2.2.2.2.2.2.2.2.2.2.2.2.2.1, (l1.1.2.2.2.2.2.2.2.2.2.2.2.2.2.2.2.1, (l1.1.2.2.2.2.2.2.2.2.2.2.2.2.2.2.2.2.1, (l1.1.2.2.2.2.2.2.2.2.2.2.2.2.2.2.2.2.2.1, (l1.1.2.2.2.2.2.2.2.2.2.2.2.2.2.2.2.2.2.2.1, (l1.1.2.2.2.2.2.2.2.2.2.2.2.2.2.2.2.2.2.2.2.1, (l1.1.2.2.2.2.2.2.2.2.2.2.2.2.2.2.2.2.2.2.2.2.1, (l1.1.2.2.2.2.2.2.2.2.2.2.2.2.2.2.2.2.2.2.2.2.2.1, (l1.1.2.2.2.2.2.2.2.2.2.2.2.2.2.2.2.2.2.2.2.2.2.2.1, (l1.1.2.2.2.2.2.2.2.2.2.2.2.2.2.2.2.2.2.2.2.2.2.2.2.1, (l1.1.2.2.2.2.2.2.2.2.2.2.2.2.2.2.2.2.2.2.2.2.2.2.2.2.1, (l1.1.2.2.2.2.2.2.2.2.2.2.2.2.2.2.2.2.2.2.2.2.2.2.2.2.2.1, l1.1.2.2.2.2.2.2.2.2.2.2.2.2.2.2.2.2.2.2.2.2.2.2.2.2.2.2)))))))))))))))))))))))))), ((0 : Int), ()))
noncomputable def D_ref21_Twin_l5 (p1 : Site) (l1 : ((Int × ((List Sector) × ((List Pend) × (Int × (Int × (Int × (Int × (Int × ((List Rec) × ((List Side) × (Int × (Int × (Bool × (Bool × (Int × (Int × ((List (List Int)) × (Int × (Int × (Int × (Int × ((List Act) × ((List Mail) × ((List Ask) × ((List Reply) × ((List Int) × (Int × (Bool × Unit)))))))))))))))))))))))))))) × (Int × Unit))) : Option (((Int × ((List Sector) × ((List Pend) × (Int × (Int × (Int × (Int × (Int × ((List Rec) × ((List Side) × (Int × (Int × (Bool × (Bool × (Int × (Int × ((List (List Int)) × (Int × (Int × (Int × (Int × ((List Act) × ((List Mail) × ((List Ask) × ((List Reply) × ((List Int) × (Int × (Bool × Unit)))))))))))))))))))))))))))) × (Int × Unit)) ⊕ (Site × Unit)) :=
    if (decide (l1.2.1 < (((List.length p1.mail) : Nat) : Int))) then
    if (decide (((0 : Int) ≤ l1.2.1) ∧ (l1.2.1 < (((List.length p1.mail) : Nat) : Int)))) then
    Option.bind (N_ref20_Twin ((nth p1.mail (Int.toNat l1.2.1)).msg, ())) fun r2 =>
      if (decide (((List.length l1.1.2.2.2.2.2.2.2.2.2.2.2.2.2.2.2.2.2.2.2.2.2.2.1) + (List.length ((Mail.mk (nth p1.mail (Int.toNat l1.2.1)).kind (nth p1.mail (Int.toNat l1.2.1)).me (nth p1.mail (Int.toNat l1.2.1)).you r2.1) :: []))) ≤ big)) then
      some (Sum.inl ((l1.1.1, (l1.1.2.1, (l1.1.2.2.1, (l1.1.2.2.2.1, (l1.1.2.2.2.2.1, (l1.1.2.2.2.2.2.1, (l1.1.2.2.2.2.2.2.1, (l1.1.2.2.2.2.2.2.2.1, (l1.1.2.2.2.2.2.2.2.2.1, (l1.1.2.2.2.2.2.2.2.2.2.1, (l1.1.2.2.2.2.2.2.2.2.2.2.1, (l1.1.2.2.2.2.2.2.2.2.2.2.2.1, (l1.1.2.2.2.2.2.2.2.2.2.2.2.2.1, (l1.1.2.2.2.2.2.2.2.2.2.2.2.2.2.1, (l1.1.2.2.2.2.2.2.2.2.2.2.2.2.2.2.1, (l1.1.2.2.2.2.2.2.2.2.2.2.2.2.2.2.2.1, (l1.1.2.2.2.2.2.2.2.2.2.2.2.2.2.2.2.2.1, (l1.1.2.2.2.2.2.2.2.2.2.2.2.2.2.2.2.2.2.1, (l1.1.2.2.2.2.2.2.2.2.2.2.2.2.2.2.2.2.2.2.1, (l1.1.2.2.2.2.2.2.2.2.2.2.2.2.2.2.2.2.2.2.2.1, (l1.1.2.2.2.2.2.2.2.2.2.2.2.2.2.2.2.2.2.2.2.2.1, (l1.1.2.2.2.2.2.2.2.2.2.2.2.2.2.2.2.2.2.2.2.2.2.1, ((l1.1.2.2.2.2.2.2.2.2.2.2.2.2.2.2.2.2.2.2.2.2.2.2.1 ++ ((Mail.mk (nth p1.mail (Int.toNat l1.2.1)).kind (nth p1.mail (Int.toNat l1.2.1)).me (nth p1.mail (Int.toNat l1.2.1)).you r2.1) :: [])), (l1.1.2.2.2.2.2.2.2.2.2.2.2.2.2.2.2.2.2.2.2.2.2.2.2.1, (l1.1.2.2.2.2.2.2.2.2.2.2.2.2.2.2.2.2.2.2.2.2.2.2.2.2.1, (l1.1.2.2.2.2.2.2.2.2.2.2.2.2.2.2.2.2.2.2.2.2.2.2.2.2.2.1, l1.1.2.2.2.2.2.2.2.2.2.2.2.2.2.2.2.2.2.2.2.2.2.2.2.2.2.2)))))))))))))))))))))))))), ((IntKind.wrap IntKind.i64 (l1.2.1 + (1 : Int))), ())))
      else none
    else none
  else
    Option.map Sum.inr (D_ref21_Twin_t4 p1 l1)
noncomputable def D_ref21_Twin_t6 (p1 : Site) (l1 : ((Int × ((List Sector) × ((List Pend) × (Int × (Int × (Int × (Int × (Int × ((List Rec) × ((List Side) × (Int × (Int × (Bool × (Bool × (Int × (Int × ((List (List Int)) × (Int × (Int × (Int × (Int × ((List Act) × ((List Mail) × ((List Ask) × ((List Reply) × ((List Int) × (Int × (Bool × Unit)))))))))))))))))))))))))))) × (Int × Unit))) : Option (Site × Unit) :=
    loopO (D_ref21_Twin_l5 p1) ((l1.1.1, (l1.1.2.1, (l1.1.2.2.1, (l1.1.2.2.2.1, (l1.1.2.2.2.2.1, (l1.1.2.2.2.2.2.1, (l1.1.2.2.2.2.2.2.1, (l1.1.2.2.2.2.2.2.2.1, (l1.1.2.2.2.2.2.2.2.2.1, (l1.1.2.2.2.2.2.2.2.2.2.1, (l1.1.2.2.2.2.2.2.2.2.2.2.1, (l1.1.2.2.2.2.2.2.2.2.2.2.2.1, (l1.1.2.2.2.2.2.2.2.2.2.2.2.2.1, (l1.1.2.2.2.2.2.2.2.2.2.2.2.2.2.1, (l1.1.2.2.2.2.2.2.2.2.2.2.2.2.2.2.1, (l1.1.2.2.2.2.2.2.2.2.2.2.2.2.2.2.2.1, (l1.1.2.2.2.2.2.2.2.2.2.2.2.2.2.2.2.2.1, (l1.1.2.2.2.2.2.2.2.2.2.2.2.2.2.2.2.2.2.1, (l1.1.2.2.2.2.2.2.2.2.2.2.2.2.2.2.2.2.2.2.1, (l1.1.2.2.2.2.2.2.2.2.2.2.2.2.2.2.2.2.2.2.2.1, (l1.1.2.2.2.2.2.2.2.2.2.2.2.2.2.2.2.2.2.2.2.2.1, (l1.1.2.2.2.2.2.2.2.2.2.2.2.2.2.2.2.2.2.2.2.2.2.1, (l1.1.2.2.2.2.2.2.2.2.2.2.2.2.2.2.2.2.2.2.2.2.2.2.1, (l1.1.2.2.2.2.2.2.2.2.2.2.2.2.2.2.2.2.2.2.2.2.2.2.2.1, (l1.1.2.2.2.2.2.2.2.2.2.2.2.2.2.2.2.2.2.2.2.2.2.2.2.2.1, (l1.1.2.2.2.2.2.2.2.2.2.2.2.2.2.2.2.2.2.2.2.2.2.2.2.2.2.1, l1.1.2.2.2.2.2.2.2.2.2.2.2.2.2.2.2.2.2.2.2.2.2.2.2.2.2.2)))))))))))))))))))))))))), ((0 : Int), ()))
noncomputable def D_ref21_Twin_l7 (p1 : Site) (l1 : ((Int × ((List Sector) × ((List Pend) × (Int × (Int × (Int × (Int × (Int × ((List Rec) × ((List Side) × (Int × (Int × (Bool × (Bool × (Int × (Int × ((List (List Int)) × (Int × (Int × (Int × (Int × ((List Act) × ((List Mail) × ((List Ask) × ((List Reply) × ((List Int) × (Int × (Bool × Unit)))))))))))))))))))))))))))) × (Int × Unit))) : Option (((Int × ((List Sector) × ((List Pend) × (Int × (Int × (Int × (Int × (Int × ((List Rec) × ((List Side) × (Int × (Int × (Bool × (Bool × (Int × (Int × ((List (List Int)) × (Int × (Int × (Int × (Int × ((List Act) × ((List Mail) × ((List Ask) × ((List Reply) × ((List Int) × (Int × (Bool × Unit)))))))))))))))))))))))))))) × (Int × Unit)) ⊕ (Site × Unit)) :=
    if (decide (l1.2.1 < (((List.length p1.plan) : Nat) : Int))) then
    if (decide (((0 : Int) ≤ l1.2.1) ∧ (l1.2.1 < (((List.length p1.plan) : Nat) : Int)))) then
    Option.bind (N_ref21_bytes ((nth p1.plan (Int.toNat l1.2.1)).bytes, ())) fun r2 =>
      Option.bind (N_ref20_Twin ((nth p1.plan (Int.toNat l1.2.1)).msg, ())) fun r3 =>
        Option.bind (N_ref21_bytes ((nth p1.plan (Int.toNat l1.2.1)).reply.bytes, ())) fun r4 =>
          if (decide (((List.length l1.1.2.2.2.2.2.2.2.2.2.2.2.2.2.2.2.2.2.2.2.2.2.1) + (List.length ((Act.mk (nth p1.plan (Int.toNat l1.2.1)).kind (nth p1.plan (Int.toNat l1.2.1)).at_ r2.1 (nth p1.plan (Int.toNat l1.2.1)).me (nth p1.plan (Int.toNat l1.2.1)).you r3.1 (Reply.mk (nth p1.plan (Int.toNat l1.2.1)).reply.ask (nth p1.plan (Int.toNat l1.2.1)).reply.code (nth p1.plan (Int.toNat l1.2.1)).reply.state r4.1) (nth p1.plan (Int.toNat l1.2.1)).pair) :: []))) ≤ big)) then
          some (Sum.inl ((l1.1.1, (l1.1.2.1, (l1.1.2.2.1, (l1.1.2.2.2.1, (l1.1.2.2.2.2.1, (l1.1.2.2.2.2.2.1, (l1.1.2.2.2.2.2.2.1, (l1.1.2.2.2.2.2.2.2.1, (l1.1.2.2.2.2.2.2.2.2.1, (l1.1.2.2.2.2.2.2.2.2.2.1, (l1.1.2.2.2.2.2.2.2.2.2.2.1, (l1.1.2.2.2.2.2.2.2.2.2.2.2.1, (l1.1.2.2.2.2.2.2.2.2.2.2.2.2.1, (l1.1.2.2.2.2.2.2.2.2.2.2.2.2.2.1, (l1.1.2.2.2.2.2.2.2.2.2.2.2.2.2.2.1, (l1.1.2.2.2.2.2.2.2.2.2.2.2.2.2.2.2.1, (l1.1.2.2.2.2.2.2.2.2.2.2.2.2.2.2.2.2.1, (l1.1.2.2.2.2.2.2.2.2.2.2.2.2.2.2.2.2.2.1, (l1.1.2.2.2.2.2.2.2.2.2.2.2.2.2.2.2.2.2.2.1, (l1.1.2.2.2.2.2.2.2.2.2.2.2.2.2.2.2.2.2.2.2.1, (l1.1.2.2.2.2.2.2.2.2.2.2.2.2.2.2.2.2.2.2.2.2.1, ((l1.1.2.2.2.2.2.2.2.2.2.2.2.2.2.2.2.2.2.2.2.2.2.1 ++ ((Act.mk (nth p1.plan (Int.toNat l1.2.1)).kind (nth p1.plan (Int.toNat l1.2.1)).at_ r2.1 (nth p1.plan (Int.toNat l1.2.1)).me (nth p1.plan (Int.toNat l1.2.1)).you r3.1 (Reply.mk (nth p1.plan (Int.toNat l1.2.1)).reply.ask (nth p1.plan (Int.toNat l1.2.1)).reply.code (nth p1.plan (Int.toNat l1.2.1)).reply.state r4.1) (nth p1.plan (Int.toNat l1.2.1)).pair) :: [])), (l1.1.2.2.2.2.2.2.2.2.2.2.2.2.2.2.2.2.2.2.2.2.2.2.1, (l1.1.2.2.2.2.2.2.2.2.2.2.2.2.2.2.2.2.2.2.2.2.2.2.2.1, (l1.1.2.2.2.2.2.2.2.2.2.2.2.2.2.2.2.2.2.2.2.2.2.2.2.2.1, (l1.1.2.2.2.2.2.2.2.2.2.2.2.2.2.2.2.2.2.2.2.2.2.2.2.2.2.1, l1.1.2.2.2.2.2.2.2.2.2.2.2.2.2.2.2.2.2.2.2.2.2.2.2.2.2.2)))))))))))))))))))))))))), ((IntKind.wrap IntKind.i64 (l1.2.1 + (1 : Int))), ())))
          else none
    else none
  else
    Option.map Sum.inr (D_ref21_Twin_t6 p1 l1)
noncomputable def D_ref21_Twin_t8 (p1 : Site) (l1 : ((Int × ((List Sector) × ((List Pend) × (Int × (Int × (Int × (Int × (Int × ((List Rec) × ((List Side) × (Int × (Int × (Bool × (Bool × (Int × (Int × ((List (List Int)) × (Int × (Int × (Int × (Int × ((List Act) × ((List Mail) × ((List Ask) × ((List Reply) × ((List Int) × (Int × (Bool × Unit)))))))))))))))))))))))))))) × (Int × Unit))) : Option (Site × Unit) :=
    loopO (D_ref21_Twin_l7 p1) ((l1.1.1, (l1.1.2.1, (l1.1.2.2.1, (l1.1.2.2.2.1, (l1.1.2.2.2.2.1, (l1.1.2.2.2.2.2.1, (l1.1.2.2.2.2.2.2.1, (l1.1.2.2.2.2.2.2.2.1, (l1.1.2.2.2.2.2.2.2.2.1, (l1.1.2.2.2.2.2.2.2.2.2.1, (l1.1.2.2.2.2.2.2.2.2.2.2.1, (l1.1.2.2.2.2.2.2.2.2.2.2.2.1, (l1.1.2.2.2.2.2.2.2.2.2.2.2.2.1, (l1.1.2.2.2.2.2.2.2.2.2.2.2.2.2.1, (l1.1.2.2.2.2.2.2.2.2.2.2.2.2.2.2.1, (l1.1.2.2.2.2.2.2.2.2.2.2.2.2.2.2.2.1, (l1.1.2.2.2.2.2.2.2.2.2.2.2.2.2.2.2.2.1, (l1.1.2.2.2.2.2.2.2.2.2.2.2.2.2.2.2.2.2.1, (l1.1.2.2.2.2.2.2.2.2.2.2.2.2.2.2.2.2.2.2.1, (l1.1.2.2.2.2.2.2.2.2.2.2.2.2.2.2.2.2.2.2.2.1, (l1.1.2.2.2.2.2.2.2.2.2.2.2.2.2.2.2.2.2.2.2.2.1, (l1.1.2.2.2.2.2.2.2.2.2.2.2.2.2.2.2.2.2.2.2.2.2.1, (l1.1.2.2.2.2.2.2.2.2.2.2.2.2.2.2.2.2.2.2.2.2.2.2.1, (l1.1.2.2.2.2.2.2.2.2.2.2.2.2.2.2.2.2.2.2.2.2.2.2.2.1, (l1.1.2.2.2.2.2.2.2.2.2.2.2.2.2.2.2.2.2.2.2.2.2.2.2.2.1, (l1.1.2.2.2.2.2.2.2.2.2.2.2.2.2.2.2.2.2.2.2.2.2.2.2.2.2.1, l1.1.2.2.2.2.2.2.2.2.2.2.2.2.2.2.2.2.2.2.2.2.2.2.2.2.2.2)))))))))))))))))))))))))), ((0 : Int), ()))
noncomputable def D_ref21_Twin_l9 (p1 : Site) (l1 : ((Int × ((List Sector) × ((List Pend) × (Int × (Int × (Int × (Int × (Int × ((List Rec) × ((List Side) × (Int × (Int × (Bool × (Bool × (Int × (Int × ((List (List Int)) × (Int × (Int × (Int × (Int × ((List Act) × ((List Mail) × ((List Ask) × ((List Reply) × ((List Int) × (Int × (Bool × Unit)))))))))))))))))))))))))))) × (Int × Unit))) : Option (((Int × ((List Sector) × ((List Pend) × (Int × (Int × (Int × (Int × (Int × ((List Rec) × ((List Side) × (Int × (Int × (Bool × (Bool × (Int × (Int × ((List (List Int)) × (Int × (Int × (Int × (Int × ((List Act) × ((List Mail) × ((List Ask) × ((List Reply) × ((List Int) × (Int × (Bool × Unit)))))))))))))))))))))))))))) × (Int × Unit)) ⊕ (Site × Unit)) :=
    if (decide (l1.2.1 < (((List.length p1.sides) : Nat) : Int))) then
    if (decide (((0 : Int) ≤ l1.2.1) ∧ (l1.2.1 < (((List.length p1.sides) : Nat) : Int)))) then
    Option.bind (N_ref21_TwinSide ((nth p1.sides (Int.toNat l1.2.1)), ())) fun r2 =>
      if (decide (((List.length l1.1.2.2.2.2.2.2.2.2.2.1) + (List.length (r2.1 :: []))) ≤ big)) then
      some (Sum.inl ((l1.1.1, (l1.1.2.1, (l1.1.2.2.1, (l1.1.2.2.2.1, (l1.1.2.2.2.2.1, (l1.1.2.2.2.2.2.1, (l1.1.2.2.2.2.2.2.1, (l1.1.2.2.2.2.2.2.2.1, (l1.1.2.2.2.2.2.2.2.2.1, ((l1.1.2.2.2.2.2.2.2.2.2.1 ++ (r2.1 :: [])), (l1.1.2.2.2.2.2.2.2.2.2.2.1, (l1.1.2.2.2.2.2.2.2.2.2.2.2.1, (l1.1.2.2.2.2.2.2.2.2.2.2.2.2.1, (l1.1.2.2.2.2.2.2.2.2.2.2.2.2.2.1, (l1.1.2.2.2.2.2.2.2.2.2.2.2.2.2.2.1, (l1.1.2.2.2.2.2.2.2.2.2.2.2.2.2.2.2.1, (l1.1.2.2.2.2.2.2.2.2.2.2.2.2.2.2.2.2.1, (l1.1.2.2.2.2.2.2.2.2.2.2.2.2.2.2.2.2.2.1, (l1.1.2.2.2.2.2.2.2.2.2.2.2.2.2.2.2.2.2.2.1, (l1.1.2.2.2.2.2.2.2.2.2.2.2.2.2.2.2.2.2.2.2.1, (l1.1.2.2.2.2.2.2.2.2.2.2.2.2.2.2.2.2.2.2.2.2.1, (l1.1.2.2.2.2.2.2.2.2.2.2.2.2.2.2.2.2.2.2.2.2.2.1, (l1.1.2.2.2.2.2.2.2.2.2.2.2.2.2.2.2.2.2.2.2.2.2.2.1, (l1.1.2.2.2.2.2.2.2.2.2.2.2.2.2.2.2.2.2.2.2.2.2.2.2.1, (l1.1.2.2.2.2.2.2.2.2.2.2.2.2.2.2.2.2.2.2.2.2.2.2.2.2.1, (l1.1.2.2.2.2.2.2.2.2.2.2.2.2.2.2.2.2.2.2.2.2.2.2.2.2.2.1, l1.1.2.2.2.2.2.2.2.2.2.2.2.2.2.2.2.2.2.2.2.2.2.2.2.2.2.2)))))))))))))))))))))))))), ((IntKind.wrap IntKind.i64 (l1.2.1 + (1 : Int))), ())))
      else none
    else none
  else
    Option.map Sum.inr (D_ref21_Twin_t8 p1 l1)
noncomputable def D_ref21_Twin (p1 : Site) : Option (Site × Unit) :=
  Option.bind (N_ref05_Twin (p1.disk, ())) fun r1 =>
    Option.bind (N_ref12_Twin (p1.met, ())) fun r2 =>
      Option.bind (N_ref17_Twin (p1.end_, ())) fun r3 =>
        if (decide ((0 + (List.length p1.syncs)) ≤ big)) then
        loopO (D_ref21_Twin_l9 p1) ((p1.id, (r1.1.sectors, (r1.1.cache, (r2.1.super.boot, (r2.1.super.area, (r2.1.super.gen, (r2.1.count, (r2.1.turn, (r2.1.table, ([], (r3.1.me, (r3.1.you, (r3.1.up, (r3.1.dead, (r3.1.sent, (r3.1.done, (r3.1.out.items, (r3.1.out.head, (r3.1.out.many, (r3.1.got, (r3.1.quiet, ([], ([], ([], ([], (([] ++ p1.syncs), (p1.born, (p1.ready, ())))))))))))))))))))))))))))), ((0 : Int), ()))
        else none
noncomputable def D_ref05_Twin_l1 (p1 : Disk) (l1 : (((List Sector) × ((List Pend) × Unit)) × (Int × Unit))) : Option ((((List Sector) × ((List Pend) × Unit)) × (Int × Unit)) ⊕ (Disk × Unit)) :=
    if (decide (l1.2.1 < (((List.length p1.cache) : Nat) : Int))) then
    if (decide (((0 : Int) ≤ l1.2.1) ∧ (l1.2.1 < (((List.length p1.cache) : Nat) : Int)))) then
    if (decide (((0 : Int) ≤ l1.2.1) ∧ (l1.2.1 < (((List.length p1.cache) : Nat) : Int)))) then
    if (decide ((0 + (List.length (nth p1.cache (Int.toNat l1.2.1)).bytes)) ≤ big)) then
    if (decide (((List.length l1.1.2.1) + (List.length ((Pend.mk (nth p1.cache (Int.toNat l1.2.1)).at_ ([] ++ (nth p1.cache (Int.toNat l1.2.1)).bytes)) :: []))) ≤ big)) then
    some (Sum.inl ((l1.1.1, ((l1.1.2.1 ++ ((Pend.mk (nth p1.cache (Int.toNat l1.2.1)).at_ ([] ++ (nth p1.cache (Int.toNat l1.2.1)).bytes)) :: [])), ())), ((IntKind.wrap IntKind.i64 (l1.2.1 + (1 : Int))), ())))
    else none
    else none
    else none
    else none
  else
    some (Sum.inr ((Disk.mk l1.1.1 l1.1.2.1), ()))
noncomputable def D_ref05_Twin_t2 (p1 : Disk) (l1 : (((List Sector) × ((List Pend) × Unit)) × (Int × Unit))) : Option (Disk × Unit) :=
    loopO (D_ref05_Twin_l1 p1) ((l1.1.1, (l1.1.2.1, ())), ((0 : Int), ()))
noncomputable def D_ref05_Twin_l3 (p1 : Disk) (l1 : (((List Sector) × ((List Pend) × Unit)) × (Int × Unit))) : Option ((((List Sector) × ((List Pend) × Unit)) × (Int × Unit)) ⊕ (Disk × Unit)) :=
    if (decide (l1.2.1 < (((List.length p1.sectors) : Nat) : Int))) then
    if (decide (((0 : Int) ≤ l1.2.1) ∧ (l1.2.1 < (((List.length p1.sectors) : Nat) : Int)))) then
    if (decide ((0 + (List.length (nth p1.sectors (Int.toNat l1.2.1)).bytes)) ≤ big)) then
    if (decide (((0 : Int) ≤ l1.2.1) ∧ (l1.2.1 < (((List.length p1.sectors) : Nat) : Int)))) then
    if (decide (((List.length l1.1.1) + (List.length ((Sector.mk ([] ++ (nth p1.sectors (Int.toNat l1.2.1)).bytes) (nth p1.sectors (Int.toNat l1.2.1)).bad) :: []))) ≤ big)) then
    some (Sum.inl (((l1.1.1 ++ ((Sector.mk ([] ++ (nth p1.sectors (Int.toNat l1.2.1)).bytes) (nth p1.sectors (Int.toNat l1.2.1)).bad) :: [])), (l1.1.2.1, ())), ((IntKind.wrap IntKind.i64 (l1.2.1 + (1 : Int))), ())))
    else none
    else none
    else none
    else none
  else
    Option.map Sum.inr (D_ref05_Twin_t2 p1 l1)
noncomputable def D_ref05_Twin (p1 : Disk) : Option (Disk × Unit) :=
  loopO (D_ref05_Twin_l3 p1) (([], ([], ())), ((0 : Int), ()))
noncomputable def D_ref12_Twin (p1 : Meta) : Option (Meta × Unit) :=
  if (decide ((0 + (List.length p1.table)) ≤ big)) then
  some ((Meta.mk p1.super p1.count p1.turn ([] ++ p1.table)), ())
  else none
noncomputable def D_ref17_Twin (p1 : End) : Option (End × Unit) :=
  Option.bind (N_ref04_TwinAll (p1.out.items, ())) fun r1 =>
    some ((End.mk p1.me p1.you p1.up p1.dead p1.sent p1.done (Queue.mk r1.1 p1.out.head p1.out.many) p1.got p1.quiet), ())
noncomputable def D_ref04_TwinAll_l1  (l1 : ((List (List Int)) × ((List (List Int)) × (Int × Unit)))) : Option (((List (List Int)) × ((List (List Int)) × (Int × Unit))) ⊕ ((List (List Int)) × Unit)) :=
    if (decide (l1.2.2.1 < (((List.length l1.1) : Nat) : Int))) then
    if (decide (((0 : Int) ≤ l1.2.2.1) ∧ (l1.2.2.1 < (((List.length l1.1) : Nat) : Int)))) then
    if (decide ((0 + (List.length (nth l1.1 (Int.toNat l1.2.2.1)))) ≤ big)) then
    if (decide (((List.length l1.2.1) + (List.length (([] ++ (nth l1.1 (Int.toNat l1.2.2.1))) :: []))) ≤ big)) then
    some (Sum.inl (l1.1, ((l1.2.1 ++ (([] ++ (nth l1.1 (Int.toNat l1.2.2.1))) :: [])), ((IntKind.wrap IntKind.i64 (l1.2.2.1 + (1 : Int))), ()))))
    else none
    else none
    else none
  else
    some (Sum.inr (l1.2.1, ()))
noncomputable def D_ref04_TwinAll (p1 : (List (List Int))) : Option ((List (List Int)) × Unit) :=
  loopO (D_ref04_TwinAll_l1 ) (p1, ([], ((0 : Int), ())))
noncomputable def D_ref21_TwinSide (p1 : Side) : Option (Side × Unit) :=
  Option.bind (N_ref21_bytes (p1.marks, ())) fun r1 =>
    Option.bind (N_ref21_bytes (p1.work, ())) fun r2 =>
      Option.bind (N_ref21_bytes (p1.need, ())) fun r3 =>
        if (decide ((0 + (List.length p1.out)) ≤ big)) then
        if (decide ((0 + (List.length p1.waits)) ≤ big)) then
        some ((Side.mk r1.1 r2.1 ([] ++ p1.out) p1.n ([] ++ p1.waits) r3.1 p1.first p1.next p1.op p1.ask p1.knows p1.over p1.clean p1.again), ())
        else none
        else none
noncomputable def D_ref21_bytes (p1 : (List Int)) : Option ((List Int) × Unit) :=
  if (decide ((0 + (List.length p1)) ≤ big)) then
  some (([] ++ p1), ())
  else none
noncomputable def D_ref20_Twin (p1 : Msg) : Option (Msg × Unit) :=
  if (decide ((0 + (List.length p1.marks)) ≤ big)) then
  if (decide ((0 + (List.length p1.bytes)) ≤ big)) then
  some ((Msg.mk p1.kind p1.pair p1.has p1.rec_ p1.op p1.born p1.epoch p1.track p1.n p1.code ([] ++ p1.marks) ([] ++ p1.bytes)), ())
  else none
  else none
noncomputable def D_ref05_Same_l1 (p1 : Disk) (p2 : Disk) (l1 : (Int × Unit)) : Option ((Int × Unit) ⊕ (Bool × Unit)) :=
    if (decide (l1.1 < (((List.length p1.cache) : Nat) : Int))) then
    if (decide (((0 : Int) ≤ l1.1) ∧ (l1.1 < (((List.length p1.cache) : Nat) : Int)))) then
    if (decide (((0 : Int) ≤ l1.1) ∧ (l1.1 < (((List.length p2.cache) : Nat) : Int)))) then
    if ((nth p1.cache (Int.toNat l1.1)).at_ != (nth p2.cache (Int.toNat l1.1)).at_) then
      some (Sum.inr (Bool.false, ()))
    else
      if (decide (((0 : Int) ≤ l1.1) ∧ (l1.1 < (((List.length p1.cache) : Nat) : Int)))) then
      if (decide (((0 : Int) ≤ l1.1) ∧ (l1.1 < (((List.length p2.cache) : Nat) : Int)))) then
      if ((nth p1.cache (Int.toNat l1.1)).bytes != (nth p2.cache (Int.toNat l1.1)).bytes) then
        some (Sum.inr (Bool.false, ()))
      else
        some (Sum.inl ((IntKind.wrap IntKind.i64 (l1.1 + (1 : Int))), ()))
      else none
      else none
    else none
    else none
  else
    some (Sum.inr (Bool.true, ()))
noncomputable def D_ref05_Same_l2 (p1 : Disk) (p2 : Disk) (l1 : (Int × Unit)) : Option ((Int × Unit) ⊕ (Bool × Unit)) :=
    if (decide (l1.1 < (((List.length p1.sectors) : Nat) : Int))) then
    if (decide (((0 : Int) ≤ l1.1) ∧ (l1.1 < (((List.length p1.sectors) : Nat) : Int)))) then
    if (decide (((0 : Int) ≤ l1.1) ∧ (l1.1 < (((List.length p2.sectors) : Nat) : Int)))) then
    if (!((nth p1.sectors (Int.toNat l1.1)).bad == (nth p2.sectors (Int.toNat l1.1)).bad)) then
      some (Sum.inr (Bool.false, ()))
    else
      if (decide (((0 : Int) ≤ l1.1) ∧ (l1.1 < (((List.length p1.sectors) : Nat) : Int)))) then
      if (decide (((0 : Int) ≤ l1.1) ∧ (l1.1 < (((List.length p2.sectors) : Nat) : Int)))) then
      if ((nth p1.sectors (Int.toNat l1.1)).bytes != (nth p2.sectors (Int.toNat l1.1)).bytes) then
        some (Sum.inr (Bool.false, ()))
      else
        some (Sum.inl ((IntKind.wrap IntKind.i64 (l1.1 + (1 : Int))), ()))
      else none
      else none
    else none
    else none
  else
    Option.map Sum.inr (loopO (D_ref05_Same_l1 p1 p2) ((0 : Int), ()))
noncomputable def D_ref05_Same (p1 : Disk) (p2 : Disk) : Option (Bool × Unit) :=
  if ((((List.length p1.sectors) : Nat) : Int) != (((List.length p2.sectors) : Nat) : Int)) then
    some (Bool.false, ())
  else
    if ((((List.length p1.cache) : Nat) : Int) != (((List.length p2.cache) : Nat) : Int)) then
      some (Bool.false, ())
    else
      loopO (D_ref05_Same_l2 p1 p2) ((0 : Int), ())
noncomputable def D_ref21_Same_t1 (p1 : Site) (p2 : Site) : Option (Bool × Unit) :=
    Option.bind (N_ref05_Same (p1.disk, (p2.disk, ()))) fun r1 =>
    if r1.1 then
      Option.bind (N_ref12_Same (p1.met, (p2.met, ()))) fun r2 =>
        if r2.1 then
          Option.bind (N_ref17_Same (p1.end_, (p2.end_, ()))) fun r3 =>
            if r3.1 then
              Option.bind (N_ref21_samePlan (p1.plan, (p2.plan, ()))) fun r4 =>
                if r4.1 then
                  Option.bind (N_ref21_sameCome (p1, (p2, ()))) fun r5 =>
                    if r5.1 then
                      Option.bind (N_ref21_SameReplies (p1.replies, (p2.replies, ()))) fun r6 =>
                        some (r6.1, ())
                    else
                      some (Bool.false, ())
                else
                  some (Bool.false, ())
            else
              some (Bool.false, ())
        else
          some (Bool.false, ())
    else
      some (Bool.false, ())
noncomputable def D_ref21_Same_l2 (p1 : Site) (p2 : Site) (l1 : (Int × Unit)) : Option ((Int × Unit) ⊕ (Bool × Unit)) :=
    if (decide (l1.1 < (((List.length p1.syncs) : Nat) : Int))) then
    if (decide (((0 : Int) ≤ l1.1) ∧ (l1.1 < (((List.length p1.syncs) : Nat) : Int)))) then
    if (decide (((0 : Int) ≤ l1.1) ∧ (l1.1 < (((List.length p2.syncs) : Nat) : Int)))) then
    if ((nth p1.syncs (Int.toNat l1.1)) != (nth p2.syncs (Int.toNat l1.1))) then
      some (Sum.inr (Bool.false, ()))
    else
      some (Sum.inl ((IntKind.wrap IntKind.i64 (l1.1 + (1 : Int))), ()))
    else none
    else none
  else
    Option.map Sum.inr (D_ref21_Same_t1 p1 p2)
noncomputable def D_ref21_Same_l3 (p1 : Site) (p2 : Site) (l1 : (Int × Unit)) : Option ((Int × Unit) ⊕ (Bool × Unit)) :=
    if (decide (l1.1 < (((List.length p1.sides) : Nat) : Int))) then
    if (decide (((0 : Int) ≤ l1.1) ∧ (l1.1 < (((List.length p1.sides) : Nat) : Int)))) then
    if (decide (((0 : Int) ≤ l1.1) ∧ (l1.1 < (((List.length p2.sides) : Nat) : Int)))) then
    Option.bind (N_ref21_SameSide ((nth p1.sides (Int.toNat l1.1)), ((nth p2.sides (Int.toNat l1.1)), ()))) fun r2 =>
      if (!r2.1) then
        some (Sum.inr (Bool.false, ()))
      else
        some (Sum.inl ((IntKind.wrap IntKind.i64 (l1.1 + (1 : Int))), ()))
    else none
    else none
  else
    Option.map Sum.inr (loopO (D_ref21_Same_l2 p1 p2) ((0 : Int), ()))
noncomputable def D_ref21_Same (p1 : Site) (p2 : Site) : Option (Bool × Unit) :=
  if (p1.id != p2.id) then
    some (Bool.false, ())
  else
    if (p1.born != p2.born) then
      some (Bool.false, ())
    else
      if (!(p1.ready == p2.ready)) then
        some (Bool.false, ())
      else
        if ((((List.length p1.sides) : Nat) : Int) != (((List.length p2.sides) : Nat) : Int)) then
          some (Bool.false, ())
        else
          if ((((List.length p1.syncs) : Nat) : Int) != (((List.length p2.syncs) : Nat) : Int)) then
            some (Bool.false, ())
          else
            loopO (D_ref21_Same_l3 p1 p2) ((0 : Int), ())
noncomputable def D_ref21_SameSide_t1 (p1 : Side) (p2 : Side) : Option (Bool × Unit) :=
    if (p1.n == p2.n) then
    if (p1.first == p2.first) then
      if (p1.next == p2.next) then
        if (p1.op == p2.op) then
          if (p1.ask == p2.ask) then
            if (p1.knows == p2.knows) then
              if (p1.over == p2.over) then
                if (p1.clean == p2.clean) then
                  some ((p1.again == p2.again), ())
                else
                  some (Bool.false, ())
              else
                some (Bool.false, ())
            else
              some (Bool.false, ())
          else
            some (Bool.false, ())
        else
          some (Bool.false, ())
      else
        some (Bool.false, ())
    else
      some (Bool.false, ())
  else
    some (Bool.false, ())
noncomputable def D_ref21_SameSide_l2 (p1 : Side) (p2 : Side) (l1 : (Int × Unit)) : Option ((Int × Unit) ⊕ (Bool × Unit)) :=
    if (decide (l1.1 < (((List.length p1.waits) : Nat) : Int))) then
    if (decide (((0 : Int) ≤ l1.1) ∧ (l1.1 < (((List.length p1.waits) : Nat) : Int)))) then
    if (decide (((0 : Int) ≤ l1.1) ∧ (l1.1 < (((List.length p2.waits) : Nat) : Int)))) then
    if (!(((nth p1.waits (Int.toNat l1.1)).ask == (nth p2.waits (Int.toNat l1.1)).ask) && (((nth p1.waits (Int.toNat l1.1)).track == (nth p2.waits (Int.toNat l1.1)).track) && (((nth p1.waits (Int.toNat l1.1)).n == (nth p2.waits (Int.toNat l1.1)).n) && (((nth p1.waits (Int.toNat l1.1)).read == (nth p2.waits (Int.toNat l1.1)).read) && Bool.true))))) then
      some (Sum.inr (Bool.false, ()))
    else
      some (Sum.inl ((IntKind.wrap IntKind.i64 (l1.1 + (1 : Int))), ()))
    else none
    else none
  else
    Option.map Sum.inr (D_ref21_SameSide_t1 p1 p2)
noncomputable def D_ref21_SameSide_l3 (p1 : Side) (p2 : Side) (l1 : (Int × Unit)) : Option ((Int × Unit) ⊕ (Bool × Unit)) :=
    if (decide (l1.1 < (((List.length p1.out) : Nat) : Int))) then
    if (decide (((0 : Int) ≤ l1.1) ∧ (l1.1 < (((List.length p1.out) : Nat) : Int)))) then
    if (decide (((0 : Int) ≤ l1.1) ∧ (l1.1 < (((List.length p2.out) : Nat) : Int)))) then
    if (!(((nth p1.out (Int.toNat l1.1)).track == (nth p2.out (Int.toNat l1.1)).track) && (((nth p1.out (Int.toNat l1.1)).n == (nth p2.out (Int.toNat l1.1)).n) && (((nth p1.out (Int.toNat l1.1)).dirty == (nth p2.out (Int.toNat l1.1)).dirty) && Bool.true)))) then
      some (Sum.inr (Bool.false, ()))
    else
      some (Sum.inl ((IntKind.wrap IntKind.i64 (l1.1 + (1 : Int))), ()))
    else none
    else none
  else
    Option.map Sum.inr (loopO (D_ref21_SameSide_l2 p1 p2) ((0 : Int), ()))
noncomputable def D_ref21_SameSide (p1 : Side) (p2 : Side) : Option (Bool × Unit) :=
  if (p1.marks != p2.marks) then
    some (Bool.false, ())
  else
    if (p1.work != p2.work) then
      some (Bool.false, ())
    else
      if (p1.need != p2.need) then
        some (Bool.false, ())
      else
        if ((((List.length p1.out) : Nat) : Int) != (((List.length p2.out) : Nat) : Int)) then
          some (Bool.false, ())
        else
          if ((((List.length p1.waits) : Nat) : Int) != (((List.length p2.waits) : Nat) : Int)) then
            some (Bool.false, ())
          else
            loopO (D_ref21_SameSide_l3 p1 p2) ((0 : Int), ())
noncomputable def D_ref21_SameReply (p1 : Reply) (p2 : Reply) : Option (Bool × Unit) :=
  if (p1.ask == p2.ask) then
    if (p1.code == p2.code) then
      if (p1.state == p2.state) then
        some ((p1.bytes == p2.bytes), ())
      else
        some (Bool.false, ())
    else
      some (Bool.false, ())
  else
    some (Bool.false, ())
noncomputable def D_ref21_SameReplies_l1  (l1 : ((List Reply) × ((List Reply) × (Int × Unit)))) : Option (((List Reply) × ((List Reply) × (Int × Unit))) ⊕ (Bool × Unit)) :=
    if (decide (l1.2.2.1 < (((List.length l1.1) : Nat) : Int))) then
    if (decide (((0 : Int) ≤ l1.2.2.1) ∧ (l1.2.2.1 < (((List.length l1.1) : Nat) : Int)))) then
    if (decide (((0 : Int) ≤ l1.2.2.1) ∧ (l1.2.2.1 < (((List.length l1.2.1) : Nat) : Int)))) then
    Option.bind (N_ref21_SameReply ((nth l1.1 (Int.toNat l1.2.2.1)), ((nth l1.2.1 (Int.toNat l1.2.2.1)), ()))) fun r2 =>
      if (!r2.1) then
        some (Sum.inr (Bool.false, ()))
      else
        some (Sum.inl (l1.1, (l1.2.1, ((IntKind.wrap IntKind.i64 (l1.2.2.1 + (1 : Int))), ()))))
    else none
    else none
  else
    some (Sum.inr (Bool.true, ()))
noncomputable def D_ref21_SameReplies (p1 : (List Reply)) (p2 : (List Reply)) : Option (Bool × Unit) :=
  if ((((List.length p1) : Nat) : Int) != (((List.length p2) : Nat) : Int)) then
    some (Bool.false, ())
  else
    loopO (D_ref21_SameReplies_l1 ) (p1, (p2, ((0 : Int), ())))
noncomputable def D_ref21_samePlan_l1  (l1 : ((List Act) × ((List Act) × (Int × Unit)))) : Option (((List Act) × ((List Act) × (Int × Unit))) ⊕ (Bool × Unit)) :=
    if (decide (l1.2.2.1 < (((List.length l1.1) : Nat) : Int))) then
    if (decide (((0 : Int) ≤ l1.2.2.1) ∧ (l1.2.2.1 < (((List.length l1.1) : Nat) : Int)))) then
    if (decide (((0 : Int) ≤ l1.2.2.1) ∧ (l1.2.2.1 < (((List.length l1.2.1) : Nat) : Int)))) then
    if ((nth l1.1 (Int.toNat l1.2.2.1)).kind != (nth l1.2.1 (Int.toNat l1.2.2.1)).kind) then
      some (Sum.inr (Bool.false, ()))
    else
      if ((nth l1.1 (Int.toNat l1.2.2.1)).at_ != (nth l1.2.1 (Int.toNat l1.2.2.1)).at_) then
        some (Sum.inr (Bool.false, ()))
      else
        if ((nth l1.1 (Int.toNat l1.2.2.1)).bytes != (nth l1.2.1 (Int.toNat l1.2.2.1)).bytes) then
          some (Sum.inr (Bool.false, ()))
        else
          if ((nth l1.1 (Int.toNat l1.2.2.1)).me != (nth l1.2.1 (Int.toNat l1.2.2.1)).me) then
            some (Sum.inr (Bool.false, ()))
          else
            if ((nth l1.1 (Int.toNat l1.2.2.1)).you != (nth l1.2.1 (Int.toNat l1.2.2.1)).you) then
              some (Sum.inr (Bool.false, ()))
            else
              Option.bind (N_ref20_Same ((nth l1.1 (Int.toNat l1.2.2.1)).msg, ((nth l1.2.1 (Int.toNat l1.2.2.1)).msg, ()))) fun r2 =>
                if (!r2.1) then
                  some (Sum.inr (Bool.false, ()))
                else
                  Option.bind (N_ref21_SameReply ((nth l1.1 (Int.toNat l1.2.2.1)).reply, ((nth l1.2.1 (Int.toNat l1.2.2.1)).reply, ()))) fun r3 =>
                    if (!r3.1) then
                      some (Sum.inr (Bool.false, ()))
                    else
                      if ((nth l1.1 (Int.toNat l1.2.2.1)).pair != (nth l1.2.1 (Int.toNat l1.2.2.1)).pair) then
                        some (Sum.inr (Bool.false, ()))
                      else
                        some (Sum.inl (l1.1, (l1.2.1, ((IntKind.wrap IntKind.i64 (l1.2.2.1 + (1 : Int))), ()))))
    else none
    else none
  else
    some (Sum.inr (Bool.true, ()))
noncomputable def D_ref21_samePlan (p1 : (List Act)) (p2 : (List Act)) : Option (Bool × Unit) :=
  if ((((List.length p1) : Nat) : Int) != (((List.length p2) : Nat) : Int)) then
    some (Bool.false, ())
  else
    loopO (D_ref21_samePlan_l1 ) (p1, (p2, ((0 : Int), ())))
noncomputable def D_ref21_sameCome_l1 (p1 : Site) (p2 : Site) (l1 : (Int × Unit)) : Option ((Int × Unit) ⊕ (Bool × Unit)) :=
    if (decide (l1.1 < (((List.length p1.asks) : Nat) : Int))) then
    if (decide (((0 : Int) ≤ l1.1) ∧ (l1.1 < (((List.length p1.asks) : Nat) : Int)))) then
    if (decide (((0 : Int) ≤ l1.1) ∧ (l1.1 < (((List.length p2.asks) : Nat) : Int)))) then
    if ((nth p1.asks (Int.toNat l1.1)).id != (nth p2.asks (Int.toNat l1.1)).id) then
      some (Sum.inr (Bool.false, ()))
    else
      if ((nth p1.asks (Int.toNat l1.1)).kind != (nth p2.asks (Int.toNat l1.1)).kind) then
        some (Sum.inr (Bool.false, ()))
      else
        if ((nth p1.asks (Int.toNat l1.1)).pair != (nth p2.asks (Int.toNat l1.1)).pair) then
          some (Sum.inr (Bool.false, ()))
        else
          if ((nth p1.asks (Int.toNat l1.1)).track != (nth p2.asks (Int.toNat l1.1)).track) then
            some (Sum.inr (Bool.false, ()))
          else
            if ((nth p1.asks (Int.toNat l1.1)).op != (nth p2.asks (Int.toNat l1.1)).op) then
              some (Sum.inr (Bool.false, ()))
            else
              if ((nth p1.asks (Int.toNat l1.1)).bytes != (nth p2.asks (Int.toNat l1.1)).bytes) then
                some (Sum.inr (Bool.false, ()))
              else
                some (Sum.inl ((IntKind.wrap IntKind.i64 (l1.1 + (1 : Int))), ()))
    else none
    else none
  else
    some (Sum.inr (Bool.true, ()))
noncomputable def D_ref21_sameCome_l2 (p1 : Site) (p2 : Site) (l1 : (Int × Unit)) : Option ((Int × Unit) ⊕ (Bool × Unit)) :=
    if (decide (l1.1 < (((List.length p1.mail) : Nat) : Int))) then
    if (decide (((0 : Int) ≤ l1.1) ∧ (l1.1 < (((List.length p1.mail) : Nat) : Int)))) then
    if (decide (((0 : Int) ≤ l1.1) ∧ (l1.1 < (((List.length p2.mail) : Nat) : Int)))) then
    if ((nth p1.mail (Int.toNat l1.1)).kind != (nth p2.mail (Int.toNat l1.1)).kind) then
      some (Sum.inr (Bool.false, ()))
    else
      if ((nth p1.mail (Int.toNat l1.1)).me != (nth p2.mail (Int.toNat l1.1)).me) then
        some (Sum.inr (Bool.false, ()))
      else
        if ((nth p1.mail (Int.toNat l1.1)).you != (nth p2.mail (Int.toNat l1.1)).you) then
          some (Sum.inr (Bool.false, ()))
        else
          Option.bind (N_ref20_Same ((nth p1.mail (Int.toNat l1.1)).msg, ((nth p2.mail (Int.toNat l1.1)).msg, ()))) fun r2 =>
            if (!r2.1) then
              some (Sum.inr (Bool.false, ()))
            else
              some (Sum.inl ((IntKind.wrap IntKind.i64 (l1.1 + (1 : Int))), ()))
    else none
    else none
  else
    Option.map Sum.inr (loopO (D_ref21_sameCome_l1 p1 p2) ((0 : Int), ()))
noncomputable def D_ref21_sameCome (p1 : Site) (p2 : Site) : Option (Bool × Unit) :=
  if ((((List.length p1.mail) : Nat) : Int) != (((List.length p2.mail) : Nat) : Int)) then
    some (Bool.false, ())
  else
    if ((((List.length p1.asks) : Nat) : Int) != (((List.length p2.asks) : Nat) : Int)) then
      some (Bool.false, ())
    else
      loopO (D_ref21_sameCome_l2 p1 p2) ((0 : Int), ())
noncomputable def D_ref12_Same (p1 : Meta) (p2 : Meta) : Option (Bool × Unit) :=
  if ((p1.super.boot == p2.super.boot) && ((p1.super.area == p2.super.area) && ((p1.super.gen == p2.super.gen) && Bool.true))) then
    if (p1.count == p2.count) then
      if (p1.turn == p2.turn) then
        Option.bind (N_ref11_Same (p1.table, (p2.table, ()))) fun r2 =>
          some (r2.1, ())
      else
        some (Bool.false, ())
    else
      some (Bool.false, ())
  else
    some (Bool.false, ())
noncomputable def D_ref11_Same_l1  (l1 : ((List Rec) × ((List Rec) × (Int × Unit)))) : Option (((List Rec) × ((List Rec) × (Int × Unit))) ⊕ (Bool × Unit)) :=
    if (decide (l1.2.2.1 < (((List.length l1.1) : Nat) : Int))) then
    if (decide (((0 : Int) ≤ l1.2.2.1) ∧ (l1.2.2.1 < (((List.length l1.1) : Nat) : Int)))) then
    if (decide (((0 : Int) ≤ l1.2.2.1) ∧ (l1.2.2.1 < (((List.length l1.2.1) : Nat) : Int)))) then
    if (!(((nth l1.1 (Int.toNat l1.2.2.1)).pair == (nth l1.2.1 (Int.toNat l1.2.2.1)).pair) && (((nth l1.1 (Int.toNat l1.2.2.1)).born == (nth l1.2.1 (Int.toNat l1.2.2.1)).born) && (((nth l1.1 (Int.toNat l1.2.2.1)).epoch == (nth l1.2.1 (Int.toNat l1.2.2.1)).epoch) && (((nth l1.1 (Int.toNat l1.2.2.1)).lead == (nth l1.2.1 (Int.toNat l1.2.2.1)).lead) && (((nth l1.1 (Int.toNat l1.2.2.1)).phase == (nth l1.2.1 (Int.toNat l1.2.2.1)).phase) && (((nth l1.1 (Int.toNat l1.2.2.1)).from_ == (nth l1.2.1 (Int.toNat l1.2.2.1)).from_) && (((nth l1.1 (Int.toNat l1.2.2.1)).quick == (nth l1.2.1 (Int.toNat l1.2.2.1)).quick) && (((nth l1.1 (Int.toNat l1.2.2.1)).alone == (nth l1.2.1 (Int.toNat l1.2.2.1)).alone) && Bool.true))))))))) then
      some (Sum.inr (Bool.false, ()))
    else
      some (Sum.inl (l1.1, (l1.2.1, ((IntKind.wrap IntKind.i64 (l1.2.2.1 + (1 : Int))), ()))))
    else none
    else none
  else
    some (Sum.inr (Bool.true, ()))
noncomputable def D_ref11_Same (p1 : (List Rec)) (p2 : (List Rec)) : Option (Bool × Unit) :=
  if ((((List.length p1) : Nat) : Int) != (((List.length p2) : Nat) : Int)) then
    some (Bool.false, ())
  else
    loopO (D_ref11_Same_l1 ) (p1, (p2, ((0 : Int), ())))
noncomputable def D_ref17_Same (p1 : End) (p2 : End) : Option (Bool × Unit) :=
  if (p1.me == p2.me) then
    if (p1.you == p2.you) then
      if (p1.up == p2.up) then
        if (p1.dead == p2.dead) then
          if (p1.sent == p2.sent) then
            if (p1.done == p2.done) then
              if (p1.got == p2.got) then
                if (p1.quiet == p2.quiet) then
                  Option.bind (N_ref04_Same (p1.out, (p2.out, ()))) fun r2 =>
                    some (r2.1, ())
                else
                  some (Bool.false, ())
              else
                some (Bool.false, ())
            else
              some (Bool.false, ())
          else
            some (Bool.false, ())
        else
          some (Bool.false, ())
      else
        some (Bool.false, ())
    else
      some (Bool.false, ())
  else
    some (Bool.false, ())
noncomputable def D_ref04_Same (p1 : Queue) (p2 : Queue) : Option (Bool × Unit) :=
  if (p1.head == p2.head) then
    if (p1.many == p2.many) then
      Option.bind (N_ref04_SameAll (p1.items, (p2.items, ()))) fun r2 =>
        some (r2.1, ())
    else
      some (Bool.false, ())
  else
    some (Bool.false, ())
noncomputable def D_ref04_SameAll_l1  (l1 : ((List (List Int)) × ((List (List Int)) × (Int × Unit)))) : Option (((List (List Int)) × ((List (List Int)) × (Int × Unit))) ⊕ (Bool × Unit)) :=
    if (decide (l1.2.2.1 < (((List.length l1.1) : Nat) : Int))) then
    if (decide (((0 : Int) ≤ l1.2.2.1) ∧ (l1.2.2.1 < (((List.length l1.1) : Nat) : Int)))) then
    if (decide (((0 : Int) ≤ l1.2.2.1) ∧ (l1.2.2.1 < (((List.length l1.2.1) : Nat) : Int)))) then
    if ((nth l1.1 (Int.toNat l1.2.2.1)) != (nth l1.2.1 (Int.toNat l1.2.2.1))) then
      some (Sum.inr (Bool.false, ()))
    else
      some (Sum.inl (l1.1, (l1.2.1, ((IntKind.wrap IntKind.i64 (l1.2.2.1 + (1 : Int))), ()))))
    else none
    else none
  else
    some (Sum.inr (Bool.true, ()))
noncomputable def D_ref04_SameAll (p1 : (List (List Int))) (p2 : (List (List Int))) : Option (Bool × Unit) :=
  if ((((List.length p1) : Nat) : Int) != (((List.length p2) : Nat) : Int)) then
    some (Bool.false, ())
  else
    loopO (D_ref04_SameAll_l1 ) (p1, (p2, ((0 : Int), ())))
noncomputable def D_ref20_Same (p1 : Msg) (p2 : Msg) : Option (Bool × Unit) :=
  if (p1.kind == p2.kind) then
    if (p1.pair == p2.pair) then
      if (p1.has == p2.has) then
        if ((p1.rec_.pair == p2.rec_.pair) && ((p1.rec_.born == p2.rec_.born) && ((p1.rec_.epoch == p2.rec_.epoch) && ((p1.rec_.lead == p2.rec_.lead) && ((p1.rec_.phase == p2.rec_.phase) && ((p1.rec_.from_ == p2.rec_.from_) && ((p1.rec_.quick == p2.rec_.quick) && ((p1.rec_.alone == p2.rec_.alone) && Bool.true)))))))) then
          if (p1.op == p2.op) then
            if (p1.born == p2.born) then
              if (p1.epoch == p2.epoch) then
                if (p1.track == p2.track) then
                  if (p1.n == p2.n) then
                    if (p1.code == p2.code) then
                      if (p1.marks == p2.marks) then
                        some ((p1.bytes == p2.bytes), ())
                      else
                        some (Bool.false, ())
                    else
                      some (Bool.false, ())
                  else
                    some (Bool.false, ())
                else
                  some (Bool.false, ())
              else
                some (Bool.false, ())
            else
              some (Bool.false, ())
          else
            some (Bool.false, ())
        else
          some (Bool.false, ())
      else
        some (Bool.false, ())
    else
      some (Bool.false, ())
  else
    some (Bool.false, ())
noncomputable def D_ref21_May_t1 (p1 : Config) (p2 : Site) : Option (Bool × Unit) :=
    Option.bind (N_ref21_mayLists (p1, (p2, ()))) fun r1 =>
    some (r1.1, ())
noncomputable def D_ref21_May_l2 (p1 : Config) (p2 : Site) (l1 : (Int × Unit)) : Option ((Int × Unit) ⊕ (Bool × Unit)) :=
    if (decide (l1.1 < (((List.length p2.sides) : Nat) : Int))) then
    if (decide (((0 : Int) ≤ l1.1) ∧ (l1.1 < (((List.length p2.sides) : Nat) : Int)))) then
    Option.bind (N_ref21_maySide (p1, ((nth p2.sides (Int.toNat l1.1)), ()))) fun r2 =>
      if (!r2.1) then
        some (Sum.inr (Bool.false, ()))
      else
        some (Sum.inl ((IntKind.wrap IntKind.i64 (l1.1 + (1 : Int))), ()))
    else none
  else
    Option.map Sum.inr (D_ref21_May_t1 p1 p2)
noncomputable def D_ref21_May_l3 (p1 : Config) (p2 : Site) (l1 : (Int × Unit)) : Option ((Int × Unit) ⊕ (Bool × Unit)) :=
    if (decide (l1.1 < (((List.length p2.met.table) : Nat) : Int))) then
    if (decide (((0 : Int) ≤ l1.1) ∧ (l1.1 < (((List.length p2.met.table) : Nat) : Int)))) then
    Option.bind (N_ref21_pair (p1, ((nth p2.met.table (Int.toNat l1.1)).pair, ()))) fun r2 =>
      if (!r2.1) then
        some (Sum.inr (Bool.false, ()))
      else
        some (Sum.inl ((IntKind.wrap IntKind.i64 (l1.1 + (1 : Int))), ()))
    else none
  else
    Option.map Sum.inr (loopO (D_ref21_May_l2 p1 p2) ((0 : Int), ()))
noncomputable def D_ref21_May (p1 : Config) (p2 : Site) : Option (Bool × Unit) :=
  Option.bind (N_ref08_May (p1, (p2.disk, ()))) fun r2 =>
    if (!r2.1) then
      some (Bool.false, ())
    else
      if (decide (p2.id < (0 : Int))) then
        some (Bool.false, ())
      else
        if (decide (p2.id > (1 : Int))) then
          some (Bool.false, ())
        else
          Option.bind (N_ref12_May (p1, (p2.met, ()))) fun r3 =>
            if (!r3.1) then
              some (Bool.false, ())
            else
              Option.bind (N_ref17_May (p1, (p2.end_, ()))) fun r4 =>
                if (!r4.1) then
                  some (Bool.false, ())
                else
                  if ((((List.length p2.sides) : Nat) : Int) != p1.pairs) then
                    some (Bool.false, ())
                  else
                    if (decide (p2.born > (64 : Int))) then
                      some (Bool.false, ())
                    else
                      loopO (D_ref21_May_l3 p1 p2) ((0 : Int), ())
noncomputable def D_ref05_May_l1 (p1 : Disk) (l1 : (Int × (Int × Unit))) : Option ((Int × (Int × Unit)) ⊕ (Bool × Unit)) :=
    if (decide (l1.2.1 < (((List.length p1.cache) : Nat) : Int))) then
    if (decide (((0 : Int) ≤ l1.2.1) ∧ (l1.2.1 < (((List.length p1.cache) : Nat) : Int)))) then
    if (decide ((nth p1.cache (Int.toNat l1.2.1)).at_ < (0 : Int))) then
      some (Sum.inr (Bool.false, ()))
    else
      if (decide (((0 : Int) ≤ l1.2.1) ∧ (l1.2.1 < (((List.length p1.cache) : Nat) : Int)))) then
      if (decide ((nth p1.cache (Int.toNat l1.2.1)).at_ ≥ l1.1)) then
        some (Sum.inr (Bool.false, ()))
      else
        if (decide (((0 : Int) ≤ l1.2.1) ∧ (l1.2.1 < (((List.length p1.cache) : Nat) : Int)))) then
        if ((((List.length (nth p1.cache (Int.toNat l1.2.1)).bytes) : Nat) : Int) != (32 : Int)) then
          some (Sum.inr (Bool.false, ()))
        else
          some (Sum.inl (l1.1, ((IntKind.wrap IntKind.i64 (l1.2.1 + (1 : Int))), ())))
        else none
      else none
    else none
  else
    some (Sum.inr (Bool.true, ()))
noncomputable def D_ref05_May_l2 (p1 : Disk) (l1 : (Int × (Int × Unit))) : Option ((Int × (Int × Unit)) ⊕ (Bool × Unit)) :=
    if (decide (l1.2.1 < l1.1)) then
    if (decide (((0 : Int) ≤ l1.2.1) ∧ (l1.2.1 < (((List.length p1.sectors) : Nat) : Int)))) then
    if ((((List.length (nth p1.sectors (Int.toNat l1.2.1)).bytes) : Nat) : Int) != (32 : Int)) then
      some (Sum.inr (Bool.false, ()))
    else
      if (decide (((0 : Int) ≤ l1.2.1) ∧ (l1.2.1 < (((List.length p1.sectors) : Nat) : Int)))) then
      if (nth p1.sectors (Int.toNat l1.2.1)).bad then
        if (decide (((0 : Int) ≤ l1.2.1) ∧ (l1.2.1 < (((List.length p1.sectors) : Nat) : Int)))) then
        Option.bind (N_ref05_blank ((nth p1.sectors (Int.toNat l1.2.1)).bytes, ())) fun r2 =>
          if (!r2.1) then
            some (Sum.inr (Bool.false, ()))
          else
            some (Sum.inl (l1.1, ((IntKind.wrap IntKind.i64 (l1.2.1 + (1 : Int))), ())))
        else none
      else
        some (Sum.inl (l1.1, ((IntKind.wrap IntKind.i64 (l1.2.1 + (1 : Int))), ())))
      else none
    else none
  else
    Option.map Sum.inr (loopO (D_ref05_May_l1 p1) (l1.1, ((0 : Int), ())))
noncomputable def D_ref05_May (p1 : Disk) : Option (Bool × Unit) :=
  if (decide ((((List.length p1.sectors) : Nat) : Int) < (1 : Int))) then
    some (Bool.false, ())
  else
    if (decide ((((List.length p1.sectors) : Nat) : Int) > (1024 : Int))) then
      some (Bool.false, ())
    else
      if (decide ((((List.length p1.cache) : Nat) : Int) > (64 : Int))) then
        some (Bool.false, ())
      else
        loopO (D_ref05_May_l2 p1) ((((List.length p1.sectors) : Nat) : Int), ((0 : Int), ()))
noncomputable def D_ref05_blank_l1  (l1 : ((List Int) × (Int × Unit))) : Option (((List Int) × (Int × Unit)) ⊕ (Bool × Unit)) :=
    if (decide (l1.2.1 < (((List.length l1.1) : Nat) : Int))) then
    if (decide (((0 : Int) ≤ l1.2.1) ∧ (l1.2.1 < (((List.length l1.1) : Nat) : Int)))) then
    if ((nth l1.1 (Int.toNat l1.2.1)) != (0 : Int)) then
      some (Sum.inr (Bool.false, ()))
    else
      some (Sum.inl (l1.1, ((IntKind.wrap IntKind.i64 (l1.2.1 + (1 : Int))), ())))
    else none
  else
    some (Sum.inr (Bool.true, ()))
noncomputable def D_ref05_blank (p1 : (List Int)) : Option (Bool × Unit) :=
  loopO (D_ref05_blank_l1 ) (p1, ((0 : Int), ()))
noncomputable def D_ref07_May (p1 : Config) : Option (Bool × Unit) :=
  Option.bind (N_ref07_in (p1.pairs, ((1 : Int), ((3 : Int), ())))) fun r1 =>
    if (!r1.1) then
      some (Bool.false, ())
    else
      Option.bind (N_ref07_in (p1.tracks, ((1 : Int), ((16 : Int), ())))) fun r2 =>
        if (!r2.1) then
          some (Bool.false, ())
        else
          Option.bind (N_ref07_in (p1.area, ((IntKind.wrap IntKind.i64 (p1.pairs + (2 : Int))), ((32 : Int), ())))) fun r3 =>
            if (!r3.1) then
              some (Bool.false, ())
            else
              Option.bind (N_ref07_in (p1.most, ((1 : Int), (p1.pairs, ())))) fun r4 =>
                if (!r4.1) then
                  some (Bool.false, ())
                else
                  Option.bind (N_ref07_in (p1.window, ((1 : Int), ((4 : Int), ())))) fun r5 =>
                    if r5.1 then
                      Option.bind (N_ref07_in (p1.quiet, ((4 : Int), ((64 : Int), ())))) fun r6 =>
                        some (r6.1, ())
                    else
                      some (Bool.false, ())
noncomputable def D_ref07_Size (p1 : Config) : Option (Int × Unit) :=
  Option.bind (N_ref07_first (p1, ())) fun r1 =>
    some (r1.2.2.2.1, ())
noncomputable def D_ref08_May (p1 : Config) (p2 : Disk) : Option (Bool × Unit) :=
  Option.bind (N_ref07_May (p1, ())) fun r2 =>
    if r2.1 then
      Option.bind (N_ref07_Size (p1, ())) fun r3 =>
        if ((((List.length p2.sectors) : Nat) : Int) == r3.1) then
          Option.bind (N_ref05_May (p2, ())) fun r4 =>
            some (r4.1, ())
        else
          some (Bool.false, ())
    else
      some (Bool.false, ())
noncomputable def D_ref12_May (p1 : Config) (p2 : Meta) : Option (Bool × Unit) :=
  Option.bind (N_ref07_May (p1, ())) fun r2 =>
    if r2.1 then
      if (decide (p2.super.area ≥ (0 : Int))) then
        if (decide (p2.super.area ≤ (1 : Int))) then
          if (decide (p2.count ≥ (0 : Int))) then
            if (decide (p2.count ≤ p1.area)) then
              if (decide (p2.turn ≥ (0 : Int))) then
                if (decide (p2.turn ≤ (65535 : Int))) then
                  Option.bind (N_ref11_MayAll (p2.table, ())) fun r3 =>
                    some (r3.1, ())
                else
                  some (Bool.false, ())
              else
                some (Bool.false, ())
            else
              some (Bool.false, ())
          else
            some (Bool.false, ())
        else
          some (Bool.false, ())
      else
        some (Bool.false, ())
    else
      some (Bool.false, ())
noncomputable def D_ref11_May (p1 : Rec) : Option (Bool × Unit) :=
  if (decide (p1.pair < (0 : Int))) then
    some (Bool.false, ())
  else
    if (decide (p1.pair ≥ (3 : Int))) then
      some (Bool.false, ())
    else
      if (decide (p1.born < (1 : Int))) then
        some (Bool.false, ())
      else
        if (decide (p1.epoch < (1 : Int))) then
          some (Bool.false, ())
        else
          if (decide (p1.lead < (0 : Int))) then
            some (Bool.false, ())
          else
            if (decide (p1.lead > (1 : Int))) then
              some (Bool.false, ())
            else
              if (decide (p1.from_ < (0 : Int))) then
                some (Bool.false, ())
              else
                if (decide (p1.from_ > (1 : Int))) then
                  some (Bool.false, ())
                else
                  if (decide (p1.phase < (1 : Int))) then
                    some (Bool.false, ())
                  else
                    if (decide (p1.phase > (3 : Int))) then
                      some (Bool.false, ())
                    else
                      if (p1.phase != (1 : Int)) then
                        if (p1.from_ != p1.lead) then
                          some (Bool.false, ())
                        else
                          if (!p1.quick) then
                            some (Bool.true, ())
                          else
                            if (p1.phase == (1 : Int)) then
                              some ((p1.from_ != p1.lead), ())
                            else
                              some (Bool.false, ())
                      else
                        if (!p1.quick) then
                          some (Bool.true, ())
                        else
                          if (p1.phase == (1 : Int)) then
                            some ((p1.from_ != p1.lead), ())
                          else
                            some (Bool.false, ())
noncomputable def D_ref11_MayAll_l1  (l1 : ((List Rec) × (Int × Unit))) : Option (((List Rec) × (Int × Unit)) ⊕ (Bool × Unit)) :=
    if (decide (l1.2.1 < (((List.length l1.1) : Nat) : Int))) then
    if (decide (((0 : Int) ≤ l1.2.1) ∧ (l1.2.1 < (((List.length l1.1) : Nat) : Int)))) then
    Option.bind (N_ref11_May ((nth l1.1 (Int.toNat l1.2.1)), ())) fun r2 =>
      if (!r2.1) then
        some (Sum.inr (Bool.false, ()))
      else
        if (decide (l1.2.1 > (0 : Int))) then
          if (decide (((0 : Int) ≤ l1.2.1) ∧ (l1.2.1 < (((List.length l1.1) : Nat) : Int)))) then
          if (decide (((0 : Int) ≤ (IntKind.wrap IntKind.i64 (l1.2.1 - (1 : Int)))) ∧ ((IntKind.wrap IntKind.i64 (l1.2.1 - (1 : Int))) < (((List.length l1.1) : Nat) : Int)))) then
          if (decide ((nth l1.1 (Int.toNat l1.2.1)).pair ≤ (nth l1.1 (Int.toNat (IntKind.wrap IntKind.i64 (l1.2.1 - (1 : Int))))).pair)) then
            some (Sum.inr (Bool.false, ()))
          else
            some (Sum.inl (l1.1, ((IntKind.wrap IntKind.i64 (l1.2.1 + (1 : Int))), ())))
          else none
          else none
        else
          some (Sum.inl (l1.1, ((IntKind.wrap IntKind.i64 (l1.2.1 + (1 : Int))), ())))
    else none
  else
    some (Sum.inr (Bool.true, ()))
noncomputable def D_ref11_MayAll (p1 : (List Rec)) : Option (Bool × Unit) :=
  loopO (D_ref11_MayAll_l1 ) (p1, ((0 : Int), ()))
noncomputable def D_ref17_May_t1 (p1 : Config) (p2 : End) : Option (Bool × Unit) :=
    if (decide (p2.quiet < (0 : Int))) then
    some (Bool.false, ())
  else
    if (decide (p2.quiet ≥ p1.quiet)) then
      some (Bool.false, ())
    else
      if (p2.you == (0 : Int)) then
        if p2.up then
          some (Bool.false, ())
        else
          if p2.dead then
            if (p2.you != (0 : Int)) then
              some (Bool.false, ())
            else
              if p2.up then
                some (Bool.true, ())
              else
                if (p2.sent == (0 : Int)) then
                  if (p2.done == (0 : Int)) then
                    some ((p2.got == (0 : Int)), ())
                  else
                    some (Bool.false, ())
                else
                  some (Bool.false, ())
          else
            if p2.up then
              some (Bool.true, ())
            else
              if (p2.sent == (0 : Int)) then
                if (p2.done == (0 : Int)) then
                  some ((p2.got == (0 : Int)), ())
                else
                  some (Bool.false, ())
              else
                some (Bool.false, ())
      else
        if p2.dead then
          if (p2.you != (0 : Int)) then
            some (Bool.false, ())
          else
            if p2.up then
              some (Bool.true, ())
            else
              if (p2.sent == (0 : Int)) then
                if (p2.done == (0 : Int)) then
                  some ((p2.got == (0 : Int)), ())
                else
                  some (Bool.false, ())
              else
                some (Bool.false, ())
        else
          if p2.up then
            some (Bool.true, ())
          else
            if (p2.sent == (0 : Int)) then
              if (p2.done == (0 : Int)) then
                some ((p2.got == (0 : Int)), ())
              else
                some (Bool.false, ())
            else
              some (Bool.false, ())
noncomputable def D_ref17_May_l2 (p1 : Config) (p2 : End) (l1 : ((List (List Int)) × (Int × Unit))) : Option (((List (List Int)) × (Int × Unit)) ⊕ (Bool × Unit)) :=
    if (decide (l1.2.1 < (((List.length l1.1) : Nat) : Int))) then
    if (decide (((0 : Int) ≤ l1.2.1) ∧ (l1.2.1 < (((List.length l1.1) : Nat) : Int)))) then
    if (decide ((((List.length (nth l1.1 (Int.toNat l1.2.1))) : Nat) : Int) < (1 : Int))) then
      some (Sum.inr (Bool.false, ()))
    else
      if (decide (((0 : Int) ≤ l1.2.1) ∧ (l1.2.1 < (((List.length l1.1) : Nat) : Int)))) then
      if (decide ((((List.length (nth l1.1 (Int.toNat l1.2.1))) : Nat) : Int) > (64 : Int))) then
        some (Sum.inr (Bool.false, ()))
      else
        some (Sum.inl (l1.1, ((IntKind.wrap IntKind.i64 (l1.2.1 + (1 : Int))), ())))
      else none
    else none
  else
    Option.map Sum.inr (D_ref17_May_t1 p1 p2)
noncomputable def D_ref17_May (p1 : Config) (p2 : End) : Option (Bool × Unit) :=
  Option.bind (N_ref07_May (p1, ())) fun r2 =>
    if (!r2.1) then
      some (Bool.false, ())
    else
      if (p2.me == (0 : Int)) then
        some (Bool.false, ())
      else
        Option.bind (N_ref04_May (p2.out, ())) fun r3 =>
          if (!r3.1) then
            some (Bool.false, ())
          else
            if ((((List.length p2.out.items) : Nat) : Int) != (64 : Int)) then
              some (Bool.false, ())
            else
              if (decide (p2.done > p2.sent)) then
                some (Bool.false, ())
              else
                if ((IntKind.wrap IntKind.u32 (p2.sent - p2.done)) != (IntKind.wrap IntKind.u32 p2.out.many)) then
                  some (Bool.false, ())
                else
                  Option.bind (N_ref04_List (p2.out, ())) fun r4 =>
                    loopO (D_ref17_May_l2 p1 p2) (r4.1, ((0 : Int), ()))
noncomputable def D_ref04_May_l1 (p1 : Queue) (l1 : (Int × (Int × Unit))) : Option ((Int × (Int × Unit)) ⊕ (Bool × Unit)) :=
    if (decide (l1.2.1 < l1.1)) then
    if (l1.1 != (0 : Int)) then
    if (decide (((0 : Int) ≤ (Int.tmod (IntKind.wrap IntKind.i64 (p1.head + l1.2.1)) l1.1)) ∧ ((Int.tmod (IntKind.wrap IntKind.i64 (p1.head + l1.2.1)) l1.1) < (((List.length p1.items) : Nat) : Int)))) then
    if (decide ((((List.length (nth p1.items (Int.toNat (Int.tmod (IntKind.wrap IntKind.i64 (p1.head + l1.2.1)) l1.1)))) : Nat) : Int) > (0 : Int))) then
      some (Sum.inr (Bool.false, ()))
    else
      some (Sum.inl (l1.1, ((IntKind.wrap IntKind.i64 (l1.2.1 + (1 : Int))), ())))
    else none
    else none
  else
    some (Sum.inr (Bool.true, ()))
noncomputable def D_ref04_May (p1 : Queue) : Option (Bool × Unit) :=
  if (decide ((((List.length p1.items) : Nat) : Int) < (1 : Int))) then
    some (Bool.false, ())
  else
    if (decide ((((List.length p1.items) : Nat) : Int) > (64 : Int))) then
      some (Bool.false, ())
    else
      if (decide (p1.head < (0 : Int))) then
        some (Bool.false, ())
      else
        if (decide (p1.head ≥ (((List.length p1.items) : Nat) : Int))) then
          some (Bool.false, ())
        else
          if (decide (p1.many < (0 : Int))) then
            some (Bool.false, ())
          else
            if (decide (p1.many > (((List.length p1.items) : Nat) : Int))) then
              some (Bool.false, ())
            else
              loopO (D_ref04_May_l1 p1) ((((List.length p1.items) : Nat) : Int), (p1.many, ()))
noncomputable def D_ref04_List_l1 (p1 : Queue) (l1 : ((List (List Int)) × (Int × Unit))) : Option (((List (List Int)) × (Int × Unit)) ⊕ ((List (List Int)) × (Int × Unit))) :=
    if (decide (l1.2.1 < p1.many)) then
    if ((((List.length p1.items) : Nat) : Int) != (0 : Int)) then
    if (decide (((0 : Int) ≤ (Int.tmod (IntKind.wrap IntKind.i64 (p1.head + l1.2.1)) (((List.length p1.items) : Nat) : Int))) ∧ ((Int.tmod (IntKind.wrap IntKind.i64 (p1.head + l1.2.1)) (((List.length p1.items) : Nat) : Int)) < (((List.length p1.items) : Nat) : Int)))) then
    if (decide ((0 + (List.length (nth p1.items (Int.toNat (Int.tmod (IntKind.wrap IntKind.i64 (p1.head + l1.2.1)) (((List.length p1.items) : Nat) : Int)))))) ≤ big)) then
    if (decide (((List.length l1.1) + (List.length (([] ++ (nth p1.items (Int.toNat (Int.tmod (IntKind.wrap IntKind.i64 (p1.head + l1.2.1)) (((List.length p1.items) : Nat) : Int))))) :: []))) ≤ big)) then
    some (Sum.inl ((l1.1 ++ (([] ++ (nth p1.items (Int.toNat (Int.tmod (IntKind.wrap IntKind.i64 (p1.head + l1.2.1)) (((List.length p1.items) : Nat) : Int))))) :: [])), ((IntKind.wrap IntKind.i64 (l1.2.1 + (1 : Int))), ())))
    else none
    else none
    else none
    else none
  else
    some (Sum.inr (l1.1, ((0 : Int), ())))
noncomputable def D_ref04_List (p1 : Queue) : Option ((List (List Int)) × (Int × Unit)) :=
  Option.bind (N_ref04_May (p1, ())) fun r1 =>
    if (!r1.1) then
      some ([], ((8 : Int), ()))
    else
      loopO (D_ref04_List_l1 p1) ([], ((0 : Int), ()))
noncomputable def D_ref03_May_l1  (l1 : ((List Int) × (Int × Unit))) : Option (((List Int) × (Int × Unit)) ⊕ (Bool × Unit)) :=
    if (decide (l1.2.1 < (IntKind.wrap IntKind.i64 ((8 : Int) * (((List.length l1.1) : Nat) : Int))))) then
    Option.bind (N_ref03_In (l1.1, l1.2)) fun r2 =>
      if r2.1 then
        some (Sum.inr (Bool.false, ()))
      else
        some (Sum.inl (l1.1, ((IntKind.wrap IntKind.i64 (l1.2.1 + (1 : Int))), ())))
  else
    some (Sum.inr (Bool.true, ()))
noncomputable def D_ref03_May (p1 : Int) (p2 : (List Int)) : Option (Bool × Unit) :=
  if (decide (p1 ≥ (1 : Int))) then
    if (!(decide (p1 ≤ (16 : Int)))) then
      some (Bool.false, ())
    else
      if ((8 : Int) != (0 : Int)) then
      if ((((List.length p2) : Nat) : Int) != (IntKind.wrap IntKind.i64 (Int.tdiv (IntKind.wrap IntKind.i64 ((IntKind.wrap IntKind.i64 (p1 + (8 : Int))) - (1 : Int))) (8 : Int)))) then
        some (Bool.false, ())
      else
        loopO (D_ref03_May_l1 ) (p2, (p1, ()))
      else none
  else
    some (Bool.false, ())
noncomputable def D_ref03_In_t1 (p1 : (List Int)) (p2 : Int) (l1 : (Int × (Int × (Int × Unit)))) : Option (Bool × Unit) :=
    if (l1.2.1 != (0 : Int)) then
  if ((2 : Int) != (0 : Int)) then
  some (((Int.tmod (IntKind.wrap IntKind.i64 (Int.tdiv (IntKind.wrap IntKind.i64 (nth p1 (Int.toNat (IntKind.wrap IntKind.i64 (Int.tdiv p2 (8 : Int)))))) l1.2.1)) (2 : Int)) == (1 : Int)), ())
  else none
  else none
noncomputable def D_ref03_In_l2 (p1 : (List Int)) (p2 : Int) (l1 : (Int × (Int × (Int × Unit)))) : Option ((Int × (Int × (Int × Unit))) ⊕ (Bool × Unit)) :=
    if (decide (l1.2.2.1 < l1.1)) then
    some (Sum.inl (l1.1, ((IntKind.wrap IntKind.i64 ((2 : Int) * l1.2.1)), ((IntKind.wrap IntKind.i64 (l1.2.2.1 + (1 : Int))), ()))))
  else
    Option.map Sum.inr (D_ref03_In_t1 p1 p2 l1)
noncomputable def D_ref03_In (p1 : (List Int)) (p2 : Int) : Option (Bool × Unit) :=
  if (decide (p2 ≥ (0 : Int))) then
    if ((8 : Int) != (0 : Int)) then
    if (decide ((IntKind.wrap IntKind.i64 (Int.tdiv p2 (8 : Int))) < (((List.length p1) : Nat) : Int))) then
      if ((8 : Int) != (0 : Int)) then
      if (decide (((0 : Int) ≤ (IntKind.wrap IntKind.i64 (Int.tdiv p2 (8 : Int)))) ∧ ((IntKind.wrap IntKind.i64 (Int.tdiv p2 (8 : Int))) < (((List.length p1) : Nat) : Int)))) then
      if ((8 : Int) != (0 : Int)) then
      loopO (D_ref03_In_l2 p1 p2) ((Int.tmod p2 (8 : Int)), ((1 : Int), ((0 : Int), ())))
      else none
      else none
      else none
    else
      some (Bool.false, ())
    else none
  else
    some (Bool.false, ())
noncomputable def D_ref21_maySide_t1 (p1 : Config) (p2 : Side) : Option (Bool × Unit) :=
    if (p2.first == (-(1 : Int))) then
    Option.bind (N_ref21_there (p1, (p2.next, ()))) fun r1 =>
      if r1.1 then
        if (p2.op == (0 : Int)) then
          some (Bool.true, ())
        else
          if (decide (p2.op ≥ (2 : Int))) then
            some ((decide (p2.op ≤ (8 : Int))), ())
          else
            some (Bool.false, ())
      else
        some (Bool.false, ())
  else
    Option.bind (N_ref21_there (p1, (p2.first, ()))) fun r1 =>
      if r1.1 then
        Option.bind (N_ref21_there (p1, (p2.next, ()))) fun r2 =>
          if r2.1 then
            if (p2.op == (0 : Int)) then
              some (Bool.true, ())
            else
              if (decide (p2.op ≥ (2 : Int))) then
                some ((decide (p2.op ≤ (8 : Int))), ())
              else
                some (Bool.false, ())
          else
            some (Bool.false, ())
      else
        some (Bool.false, ())
noncomputable def D_ref21_maySide_l2 (p1 : Config) (p2 : Side) (l1 : (Int × Unit)) : Option ((Int × Unit) ⊕ (Bool × Unit)) :=
    if (decide (l1.1 < (((List.length p2.waits) : Nat) : Int))) then
    if (decide (((0 : Int) ≤ l1.1) ∧ (l1.1 < (((List.length p2.waits) : Nat) : Int)))) then
    Option.bind (N_ref21_there (p1, ((nth p2.waits (Int.toNat l1.1)).track, ()))) fun r2 =>
      if (!r2.1) then
        some (Sum.inr (Bool.false, ()))
      else
        some (Sum.inl ((IntKind.wrap IntKind.i64 (l1.1 + (1 : Int))), ()))
    else none
  else
    Option.map Sum.inr (D_ref21_maySide_t1 p1 p2)
noncomputable def D_ref21_maySide_l3 (p1 : Config) (p2 : Side) (l1 : (Int × Unit)) : Option ((Int × Unit) ⊕ (Bool × Unit)) :=
    if (decide (l1.1 < (((List.length p2.out) : Nat) : Int))) then
    if (decide (((0 : Int) ≤ l1.1) ∧ (l1.1 < (((List.length p2.out) : Nat) : Int)))) then
    Option.bind (N_ref21_there (p1, ((nth p2.out (Int.toNat l1.1)).track, ()))) fun r2 =>
      if (!r2.1) then
        some (Sum.inr (Bool.false, ()))
      else
        some (Sum.inl ((IntKind.wrap IntKind.i64 (l1.1 + (1 : Int))), ()))
    else none
  else
    Option.map Sum.inr (loopO (D_ref21_maySide_l2 p1 p2) ((0 : Int), ()))
noncomputable def D_ref21_maySide (p1 : Config) (p2 : Side) : Option (Bool × Unit) :=
  Option.bind (N_ref03_May (p1.tracks, (p2.marks, ()))) fun r2 =>
    if (!r2.1) then
      some (Bool.false, ())
    else
      Option.bind (N_ref03_May (p1.tracks, (p2.work, ()))) fun r3 =>
        if (!r3.1) then
          some (Bool.false, ())
        else
          Option.bind (N_ref03_May (p1.tracks, (p2.need, ()))) fun r4 =>
            if (!r4.1) then
              some (Bool.false, ())
            else
              if (decide ((((List.length p2.out) : Nat) : Int) > p1.window)) then
                some (Bool.false, ())
              else
                if (decide ((((List.length p2.waits) : Nat) : Int) > (64 : Int))) then
                  some (Bool.false, ())
                else
                  loopO (D_ref21_maySide_l3 p1 p2) ((0 : Int), ())
noncomputable def D_ref21_mayLists_l1 (p2 : Site) (l1 : (Int × Unit)) : Option ((Int × Unit) ⊕ (Bool × Unit)) :=
    if (decide (l1.1 < (((List.length p2.asks) : Nat) : Int))) then
    if (decide (((0 : Int) ≤ l1.1) ∧ (l1.1 < (((List.length p2.asks) : Nat) : Int)))) then
    if (decide ((nth p2.asks (Int.toNat l1.1)).kind < (1 : Int))) then
      some (Sum.inr (Bool.false, ()))
    else
      if (decide (((0 : Int) ≤ l1.1) ∧ (l1.1 < (((List.length p2.asks) : Nat) : Int)))) then
      if (decide ((nth p2.asks (Int.toNat l1.1)).kind > (3 : Int))) then
        some (Sum.inr (Bool.false, ()))
      else
        some (Sum.inl ((IntKind.wrap IntKind.i64 (l1.1 + (1 : Int))), ()))
      else none
    else none
  else
    some (Sum.inr (Bool.true, ()))
noncomputable def D_ref21_mayLists_l2 (p1 : Config) (p2 : Site) (l1 : (Int × Unit)) : Option ((Int × Unit) ⊕ (Bool × Unit)) :=
    if (decide (l1.1 < (((List.length p2.mail) : Nat) : Int))) then
    if (decide (((0 : Int) ≤ l1.1) ∧ (l1.1 < (((List.length p2.mail) : Nat) : Int)))) then
    if (decide ((nth p2.mail (Int.toNat l1.1)).kind > (3 : Int))) then
      some (Sum.inr (Bool.false, ()))
    else
      if (decide (((0 : Int) ≤ l1.1) ∧ (l1.1 < (((List.length p2.mail) : Nat) : Int)))) then
      if ((nth p2.mail (Int.toNat l1.1)).kind == (0 : Int)) then
        if (decide (((0 : Int) ≤ l1.1) ∧ (l1.1 < (((List.length p2.mail) : Nat) : Int)))) then
        Option.bind (N_ref21_mayMsg (p1, ((nth p2.mail (Int.toNat l1.1)).msg, ()))) fun r2 =>
          if (!r2.1) then
            some (Sum.inr (Bool.false, ()))
          else
            some (Sum.inl ((IntKind.wrap IntKind.i64 (l1.1 + (1 : Int))), ()))
        else none
      else
        some (Sum.inl ((IntKind.wrap IntKind.i64 (l1.1 + (1 : Int))), ()))
      else none
    else none
  else
    Option.map Sum.inr (loopO (D_ref21_mayLists_l1 p2) ((0 : Int), ()))
noncomputable def D_ref21_mayLists_l3 (p1 : Config) (p2 : Site) (l1 : (Int × Unit)) : Option ((Int × Unit) ⊕ (Bool × Unit)) :=
    if (decide (l1.1 < (((List.length p2.plan) : Nat) : Int))) then
    if (decide (((0 : Int) ≤ l1.1) ∧ (l1.1 < (((List.length p2.plan) : Nat) : Int)))) then
    Option.bind (N_ref21_mayAct (p1, (p2, ((nth p2.plan (Int.toNat l1.1)), ())))) fun r2 =>
      if (!r2.1) then
        some (Sum.inr (Bool.false, ()))
      else
        some (Sum.inl ((IntKind.wrap IntKind.i64 (l1.1 + (1 : Int))), ()))
    else none
  else
    Option.map Sum.inr (loopO (D_ref21_mayLists_l2 p1 p2) ((0 : Int), ()))
noncomputable def D_ref21_mayLists (p1 : Config) (p2 : Site) : Option (Bool × Unit) :=
  loopO (D_ref21_mayLists_l3 p1 p2) ((0 : Int), ())
noncomputable def D_ref21_mayAct (p1 : Config) (p2 : Site) (p3 : Act) : Option (Bool × Unit) :=
  if (p3.kind == (1 : Int)) then
    if (decide (p3.at_ ≥ (0 : Int))) then
      if (decide (p3.at_ < (((List.length p2.disk.sectors) : Nat) : Int))) then
        some (((((List.length p3.bytes) : Nat) : Int) == (32 : Int)), ())
      else
        some (Bool.false, ())
    else
      some (Bool.false, ())
  else
    if (p3.kind == (3 : Int)) then
      Option.bind (N_ref21_mayMsg (p1, (p3.msg, ()))) fun r3 =>
        some (r3.1, ())
    else
      if (p3.kind == (5 : Int)) then
        Option.bind (N_ref21_pair (p1, (p3.pair, ()))) fun r3 =>
          some (r3.1, ())
      else
        if (decide (p3.kind ≥ (1 : Int))) then
          some ((decide (p3.kind ≤ (6 : Int))), ())
        else
          some (Bool.false, ())
noncomputable def D_ref21_mayMsg (p1 : Config) (p2 : Msg) : Option (Bool × Unit) :=
  Option.bind (N_ref20_May (p2, ())) fun r2 =>
    if r2.1 then
      Option.bind (N_ref21_pair (p1, (p2.pair, ()))) fun r3 =>
        some (r3.1, ())
    else
      some (Bool.false, ())
noncomputable def D_ref20_May (p1 : Msg) : Option (Bool × Unit) :=
  if (decide (p1.pair < (0 : Int))) then
    some (Bool.false, ())
  else
    if (decide (p1.pair > (2 : Int))) then
      some (Bool.false, ())
    else
      if (p1.kind == (1 : Int)) then
        if (p1.op == (0 : Int)) then
          if (p1.born == (0 : Int)) then
            if (p1.epoch == (0 : Int)) then
              if (p1.track == (0 : Int)) then
                if (p1.n == (0 : Int)) then
                  if (p1.code == (0 : Int)) then
                    if (!p1.has) then
                      if ((((List.length p1.bytes) : Nat) : Int) == (0 : Int)) then
                        if ((p1.rec_.pair == (0 : Int)) && ((p1.rec_.born == (0 : Int)) && ((p1.rec_.epoch == (0 : Int)) && ((p1.rec_.lead == (0 : Int)) && ((p1.rec_.phase == (0 : Int)) && ((p1.rec_.from_ == (0 : Int)) && ((p1.rec_.quick == Bool.false) && ((p1.rec_.alone == Bool.false) && Bool.true)))))))) then
                          some (((((List.length p1.marks) : Nat) : Int) == (0 : Int)), ())
                        else
                          some (Bool.false, ())
                      else
                        some (Bool.false, ())
                    else
                      if ((((List.length p1.bytes) : Nat) : Int) == (0 : Int)) then
                        Option.bind (N_ref11_May (p1.rec_, ())) fun r1 =>
                          if r1.1 then
                            if (p1.rec_.pair == p1.pair) then
                              if ((((List.length p1.marks) : Nat) : Int) == (1 : Int)) then
                                some (Bool.true, ())
                              else
                                some (((((List.length p1.marks) : Nat) : Int) == (2 : Int)), ())
                            else
                              some (Bool.false, ())
                          else
                            some (Bool.false, ())
                      else
                        some (Bool.false, ())
                  else
                    if (!p1.has) then
                      some (Bool.false, ())
                    else
                      some (Bool.false, ())
                else
                  if (!p1.has) then
                    some (Bool.false, ())
                  else
                    some (Bool.false, ())
              else
                if (!p1.has) then
                  some (Bool.false, ())
                else
                  some (Bool.false, ())
            else
              if (!p1.has) then
                some (Bool.false, ())
              else
                some (Bool.false, ())
          else
            if (!p1.has) then
              some (Bool.false, ())
            else
              some (Bool.false, ())
        else
          if (!p1.has) then
            some (Bool.false, ())
          else
            some (Bool.false, ())
      else
        if p1.has then
          some (Bool.false, ())
        else
          if (!((p1.rec_.pair == (0 : Int)) && ((p1.rec_.born == (0 : Int)) && ((p1.rec_.epoch == (0 : Int)) && ((p1.rec_.lead == (0 : Int)) && ((p1.rec_.phase == (0 : Int)) && ((p1.rec_.from_ == (0 : Int)) && ((p1.rec_.quick == Bool.false) && ((p1.rec_.alone == Bool.false) && Bool.true))))))))) then
            some (Bool.false, ())
          else
            if (p1.born == (0 : Int)) then
              some (Bool.false, ())
            else
              if (p1.epoch == (0 : Int)) then
                some (Bool.false, ())
              else
                if (decide (p1.track < (0 : Int))) then
                  some (Bool.false, ())
                else
                  if (decide (p1.track > (15 : Int))) then
                    some (Bool.false, ())
                  else
                    if (p1.kind == (2 : Int)) then
                      if (decide (p1.op ≥ (2 : Int))) then
                        if (decide (p1.op ≤ (8 : Int))) then
                          if ((((List.length p1.marks) : Nat) : Int) == (1 : Int)) then
                            if (!(p1.track != (0 : Int))) then
                              if (!(p1.n != (0 : Int))) then
                                if (!(p1.code != (0 : Int))) then
                                  some ((!(decide ((((List.length p1.bytes) : Nat) : Int) > (0 : Int)))), ())
                                else
                                  some (Bool.false, ())
                              else
                                some (Bool.false, ())
                            else
                              some (Bool.false, ())
                          else
                            if ((((List.length p1.marks) : Nat) : Int) == (2 : Int)) then
                              if (!(p1.track != (0 : Int))) then
                                if (!(p1.n != (0 : Int))) then
                                  if (!(p1.code != (0 : Int))) then
                                    some ((!(decide ((((List.length p1.bytes) : Nat) : Int) > (0 : Int)))), ())
                                  else
                                    some (Bool.false, ())
                                else
                                  some (Bool.false, ())
                              else
                                some (Bool.false, ())
                            else
                              some (Bool.false, ())
                        else
                          some (Bool.false, ())
                      else
                        some (Bool.false, ())
                    else
                      if (p1.kind == (3 : Int)) then
                        if (decide (p1.op ≥ (2 : Int))) then
                          if (decide (p1.op ≤ (8 : Int))) then
                            if ((((List.length p1.marks) : Nat) : Int) == (1 : Int)) then
                              if (!(p1.track != (0 : Int))) then
                                if (!(p1.n != (0 : Int))) then
                                  if (!(p1.code != (0 : Int))) then
                                    some ((!(decide ((((List.length p1.bytes) : Nat) : Int) > (0 : Int)))), ())
                                  else
                                    some (Bool.false, ())
                                else
                                  some (Bool.false, ())
                              else
                                some (Bool.false, ())
                            else
                              if ((((List.length p1.marks) : Nat) : Int) == (2 : Int)) then
                                if (!(p1.track != (0 : Int))) then
                                  if (!(p1.n != (0 : Int))) then
                                    if (!(p1.code != (0 : Int))) then
                                      some ((!(decide ((((List.length p1.bytes) : Nat) : Int) > (0 : Int)))), ())
                                    else
                                      some (Bool.false, ())
                                  else
                                    some (Bool.false, ())
                                else
                                  some (Bool.false, ())
                              else
                                some (Bool.false, ())
                          else
                            some (Bool.false, ())
                        else
                          some (Bool.false, ())
                      else
                        if (p1.kind == (4 : Int)) then
                          if (decide (p1.op ≥ (1 : Int))) then
                            if (decide (p1.op ≤ (8 : Int))) then
                              if (decide (p1.code ≥ (1 : Int))) then
                                if (decide (p1.code ≤ (999 : Int))) then
                                  if (!(p1.track != (0 : Int))) then
                                    if (!(p1.n != (0 : Int))) then
                                      if (!(decide ((((List.length p1.marks) : Nat) : Int) > (0 : Int)))) then
                                        some ((!(decide ((((List.length p1.bytes) : Nat) : Int) > (0 : Int)))), ())
                                      else
                                        some (Bool.false, ())
                                    else
                                      some (Bool.false, ())
                                  else
                                    some (Bool.false, ())
                                else
                                  some (Bool.false, ())
                              else
                                some (Bool.false, ())
                            else
                              some (Bool.false, ())
                          else
                            some (Bool.false, ())
                        else
                          if (p1.kind == (5 : Int)) then
                            if ((((List.length p1.bytes) : Nat) : Int) == (28 : Int)) then
                              if (!(p1.op != (0 : Int))) then
                                if (!(p1.code != (0 : Int))) then
                                  some ((!(decide ((((List.length p1.marks) : Nat) : Int) > (0 : Int)))), ())
                                else
                                  some (Bool.false, ())
                              else
                                some (Bool.false, ())
                            else
                              some (Bool.false, ())
                          else
                            if (p1.kind == (6 : Int)) then
                              if (!(p1.op != (0 : Int))) then
                                if (!(p1.track != (0 : Int))) then
                                  if (!(p1.code != (0 : Int))) then
                                    if (!(decide ((((List.length p1.marks) : Nat) : Int) > (0 : Int)))) then
                                      some ((!(decide ((((List.length p1.bytes) : Nat) : Int) > (0 : Int)))), ())
                                    else
                                      some (Bool.false, ())
                                  else
                                    some (Bool.false, ())
                                else
                                  some (Bool.false, ())
                              else
                                some (Bool.false, ())
                            else
                              if (p1.kind == (7 : Int)) then
                                if (!(p1.op != (0 : Int))) then
                                  if (!(p1.track != (0 : Int))) then
                                    if (!(p1.n != (0 : Int))) then
                                      if (!(p1.code != (0 : Int))) then
                                        if (!(decide ((((List.length p1.marks) : Nat) : Int) > (0 : Int)))) then
                                          some ((!(decide ((((List.length p1.bytes) : Nat) : Int) > (0 : Int)))), ())
                                        else
                                          some (Bool.false, ())
                                      else
                                        some (Bool.false, ())
                                    else
                                      some (Bool.false, ())
                                  else
                                    some (Bool.false, ())
                                else
                                  some (Bool.false, ())
                              else
                                if (p1.kind == (8 : Int)) then
                                  if (!(p1.op != (0 : Int))) then
                                    if (!(p1.n != (0 : Int))) then
                                      if (!(p1.code != (0 : Int))) then
                                        if (!(decide ((((List.length p1.marks) : Nat) : Int) > (0 : Int)))) then
                                          some ((!(decide ((((List.length p1.bytes) : Nat) : Int) > (0 : Int)))), ())
                                        else
                                          some (Bool.false, ())
                                      else
                                        some (Bool.false, ())
                                    else
                                      some (Bool.false, ())
                                  else
                                    some (Bool.false, ())
                                else
                                  some (Bool.false, ())
noncomputable def D_act_Check_t1 (l1 : ((List Ask) × (Int × (Int × Unit)))) : Option (Int × Unit) :=
    if (decide (l1.2.2.1 ≥ (0 : Int))) then
    some ((8 : Int), ())
  else
    some ((0 : Int), ())
noncomputable def D_act_Check_l2  (l1 : ((List Ask) × (Int × (Int × Unit)))) : Option (((List Ask) × (Int × (Int × Unit))) ⊕ (Int × Unit)) :=
    if (decide (l1.2.2.1 < l1.2.1)) then
    if (decide (((0 : Int) ≤ l1.2.2.1) ∧ (l1.2.2.1 < (((List.length l1.1) : Nat) : Int)))) then
    if (decide ((nth l1.1 (Int.toNat l1.2.2.1)).kind < (1 : Int))) then
      Option.map Sum.inr (D_act_Check_t1 l1)
    else
      if (decide ((nth l1.1 (Int.toNat l1.2.2.1)).kind > (3 : Int))) then
        Option.map Sum.inr (D_act_Check_t1 l1)
      else
        some (Sum.inl (l1.1, (l1.2.1, ((IntKind.wrap IntKind.i64 (l1.2.2.1 + (1 : Int))), ()))))
    else none
  else
    some (Sum.inr ((0 : Int), ()))
noncomputable def D_act_Check_t3 (p2 : Site) (l1 : ((List Mail) × (Int × (Int × Unit)))) : Option (Int × Unit) :=
    if (decide (l1.2.2.1 ≥ (0 : Int))) then
    some ((8 : Int), ())
  else
    loopO (D_act_Check_l2 ) (p2.asks, ((((List.length p2.asks) : Nat) : Int), ((0 : Int), ())))
noncomputable def D_act_Check_t4 (p2 : Site) : Option (Int × Unit) :=
    loopO (D_act_Check_l2 ) (p2.asks, ((((List.length p2.asks) : Nat) : Int), ((0 : Int), ())))
noncomputable def D_act_Check_l5 (p1 : Config) (p2 : Site) (l1 : ((List Mail) × (Int × (Int × Unit)))) : Option (((List Mail) × (Int × (Int × Unit))) ⊕ (Int × Unit)) :=
    if (decide (l1.2.2.1 < l1.2.1)) then
    if (decide (((0 : Int) ≤ l1.2.2.1) ∧ (l1.2.2.1 < (((List.length l1.1) : Nat) : Int)))) then
    Option.bind (N_act_limits_mail (p1, ((nth l1.1 (Int.toNat l1.2.2.1)), ()))) fun r2 =>
      if (!r2.1) then
        Option.map Sum.inr (D_act_Check_t3 p2 l1)
      else
        some (Sum.inl (l1.1, (l1.2.1, ((IntKind.wrap IntKind.i64 (l1.2.2.1 + (1 : Int))), ()))))
    else none
  else
    Option.map Sum.inr (D_act_Check_t4 p2)
noncomputable def D_act_Check_t6 (p1 : Config) (p2 : Site) (l1 : ((List Act) × (Int × (Int × Unit)))) : Option (Int × Unit) :=
    if (decide (l1.2.2.1 ≥ (0 : Int))) then
    some ((8 : Int), ())
  else
    loopO (D_act_Check_l5 p1 p2) (p2.mail, ((((List.length p2.mail) : Nat) : Int), ((0 : Int), ())))
noncomputable def D_act_Check_t7 (p1 : Config) (p2 : Site) : Option (Int × Unit) :=
    loopO (D_act_Check_l5 p1 p2) (p2.mail, ((((List.length p2.mail) : Nat) : Int), ((0 : Int), ())))
noncomputable def D_act_Check_l8 (p1 : Config) (p2 : Site) (l1 : ((List Act) × (Int × (Int × Unit)))) : Option (((List Act) × (Int × (Int × Unit))) ⊕ (Int × Unit)) :=
    if (decide (l1.2.2.1 < l1.2.1)) then
    if (decide (((0 : Int) ≤ l1.2.2.1) ∧ (l1.2.2.1 < (((List.length l1.1) : Nat) : Int)))) then
    Option.bind (N_act_limits_act (p1, ((nth l1.1 (Int.toNat l1.2.2.1)), ((((List.length p2.disk.sectors) : Nat) : Int), ())))) fun r2 =>
      if (!r2.1) then
        Option.map Sum.inr (D_act_Check_t6 p1 p2 l1)
      else
        some (Sum.inl (l1.1, (l1.2.1, ((IntKind.wrap IntKind.i64 (l1.2.2.1 + (1 : Int))), ()))))
    else none
  else
    Option.map Sum.inr (D_act_Check_t7 p1 p2)
noncomputable def D_act_Check_t9 (p1 : Config) (p2 : Site) (l1 : ((List Side) × (Int × (Int × Unit)))) : Option (Int × Unit) :=
    if (decide (l1.2.2.1 ≥ (0 : Int))) then
    some ((8 : Int), ())
  else
    loopO (D_act_Check_l8 p1 p2) (p2.plan, ((((List.length p2.plan) : Nat) : Int), ((0 : Int), ())))
noncomputable def D_act_Check_t10 (p1 : Config) (p2 : Site) : Option (Int × Unit) :=
    loopO (D_act_Check_l8 p1 p2) (p2.plan, ((((List.length p2.plan) : Nat) : Int), ((0 : Int), ())))
noncomputable def D_act_Check_l11 (p1 : Config) (p2 : Site) (l1 : ((List Side) × (Int × (Int × Unit)))) : Option (((List Side) × (Int × (Int × Unit))) ⊕ (Int × Unit)) :=
    if (decide (l1.2.2.1 < l1.2.1)) then
    if (decide (((0 : Int) ≤ l1.2.2.1) ∧ (l1.2.2.1 < (((List.length l1.1) : Nat) : Int)))) then
    Option.bind (N_act_limits_side (p1, ((nth l1.1 (Int.toNat l1.2.2.1)), ()))) fun r2 =>
      if (!r2.1) then
        Option.map Sum.inr (D_act_Check_t9 p1 p2 l1)
      else
        some (Sum.inl (l1.1, (l1.2.1, ((IntKind.wrap IntKind.i64 (l1.2.2.1 + (1 : Int))), ()))))
    else none
  else
    Option.map Sum.inr (D_act_Check_t10 p1 p2)
noncomputable def D_act_Check_t12 (p1 : Config) (p2 : Site) (l1 : ((List Rec) × (Int × (Int × Unit)))) : Option (Int × Unit) :=
    if (decide (l1.2.2.1 ≥ (0 : Int))) then
    some ((8 : Int), ())
  else
    loopO (D_act_Check_l11 p1 p2) (p2.sides, ((((List.length p2.sides) : Nat) : Int), ((0 : Int), ())))
noncomputable def D_act_Check_t13 (p1 : Config) (p2 : Site) : Option (Int × Unit) :=
    loopO (D_act_Check_l11 p1 p2) (p2.sides, ((((List.length p2.sides) : Nat) : Int), ((0 : Int), ())))
noncomputable def D_act_Check_l14 (p1 : Config) (p2 : Site) (l1 : ((List Rec) × (Int × (Int × Unit)))) : Option (((List Rec) × (Int × (Int × Unit))) ⊕ (Int × Unit)) :=
    if (decide (l1.2.2.1 < l1.2.1)) then
    if (decide (((0 : Int) ≤ l1.2.2.1) ∧ (l1.2.2.1 < (((List.length l1.1) : Nat) : Int)))) then
    Option.bind (N_act_limits_pair (p1, ((nth l1.1 (Int.toNat l1.2.2.1)).pair, ()))) fun r2 =>
      if (!r2.1) then
        Option.map Sum.inr (D_act_Check_t12 p1 p2 l1)
      else
        some (Sum.inl (l1.1, (l1.2.1, ((IntKind.wrap IntKind.i64 (l1.2.2.1 + (1 : Int))), ()))))
    else none
  else
    Option.map Sum.inr (D_act_Check_t13 p1 p2)
noncomputable def D_act_Check (p1 : Config) (p2 : Site) : Option (Int × Unit) :=
  Option.bind (N_place_Check (p1, ())) fun r2 =>
    if (r2.1 != (0 : Int)) then
      some ((8 : Int), ())
    else
      if (p2.id != (0 : Int)) then
        if (p2.id != (1 : Int)) then
          some ((8 : Int), ())
        else
          Option.bind (N_track_Check (p1, (p2.disk, ()))) fun r3 =>
            if (r3.1 != (0 : Int)) then
              some ((8 : Int), ())
            else
              Option.bind (N_meta_Check (p1, (p2.met, ()))) fun r4 =>
                if (r4.1 != (0 : Int)) then
                  some ((8 : Int), ())
                else
                  Option.bind (N_sess_Check (p1, (p2.end_, ()))) fun r5 =>
                    if (r5.1 != (0 : Int)) then
                      some ((8 : Int), ())
                    else
                      if ((((List.length p2.sides) : Nat) : Int) != p1.pairs) then
                        some ((8 : Int), ())
                      else
                        if (decide (p2.born > (64 : Int))) then
                          some ((8 : Int), ())
                        else
                          loopO (D_act_Check_l14 p1 p2) (p2.met.table, ((((List.length p2.met.table) : Nat) : Int), ((0 : Int), ())))
      else
        Option.bind (N_track_Check (p1, (p2.disk, ()))) fun r3 =>
          if (r3.1 != (0 : Int)) then
            some ((8 : Int), ())
          else
            Option.bind (N_meta_Check (p1, (p2.met, ()))) fun r4 =>
              if (r4.1 != (0 : Int)) then
                some ((8 : Int), ())
              else
                Option.bind (N_sess_Check (p1, (p2.end_, ()))) fun r5 =>
                  if (r5.1 != (0 : Int)) then
                    some ((8 : Int), ())
                  else
                    if ((((List.length p2.sides) : Nat) : Int) != p1.pairs) then
                      some ((8 : Int), ())
                    else
                      if (decide (p2.born > (64 : Int))) then
                        some ((8 : Int), ())
                      else
                        loopO (D_act_Check_l14 p1 p2) (p2.met.table, ((((List.length p2.met.table) : Nat) : Int), ((0 : Int), ())))
noncomputable def D_disk_Check_l1 (p1 : Disk) (l1 : ((List Pend) × (Int × (Int × Unit)))) : Option (((List Pend) × (Int × (Int × Unit))) ⊕ (Int × Unit)) :=
    if (decide (l1.2.2.1 < l1.2.1)) then
    if (decide (((0 : Int) ≤ l1.2.2.1) ∧ (l1.2.2.1 < (((List.length l1.1) : Nat) : Int)))) then
    if (decide ((nth l1.1 (Int.toNat l1.2.2.1)).at_ < (0 : Int))) then
      some (Sum.inr ((8 : Int), ()))
    else
      if (decide ((nth l1.1 (Int.toNat l1.2.2.1)).at_ ≥ (((List.length p1.sectors) : Nat) : Int))) then
        some (Sum.inr ((8 : Int), ()))
      else
        Option.bind (N_disk_sized (((nth l1.1 (Int.toNat l1.2.2.1)).bytes :: []), ())) fun r2 =>
          if (!r2.1) then
            some (Sum.inr ((8 : Int), ()))
          else
            some (Sum.inl (l1.1, (l1.2.1, ((IntKind.wrap IntKind.i64 (l1.2.2.1 + (1 : Int))), ()))))
    else none
  else
    some (Sum.inr ((0 : Int), ()))
noncomputable def D_disk_Check_t2 (p1 : Disk) : Option (Int × Unit) :=
    loopO (D_disk_Check_l1 p1) (p1.cache, ((((List.length p1.cache) : Nat) : Int), ((0 : Int), ())))
noncomputable def D_disk_Check_l3 (p1 : Disk) (l1 : ((List Sector) × (Int × (Int × Unit)))) : Option (((List Sector) × (Int × (Int × Unit))) ⊕ (Int × Unit)) :=
    if (decide (l1.2.2.1 < l1.2.1)) then
    if (decide (((0 : Int) ≤ l1.2.2.1) ∧ (l1.2.2.1 < (((List.length l1.1) : Nat) : Int)))) then
    Option.bind (N_disk_sized (((nth l1.1 (Int.toNat l1.2.2.1)).bytes :: []), ())) fun r2 =>
      if (!r2.1) then
        some (Sum.inr ((8 : Int), ()))
      else
        if (nth l1.1 (Int.toNat l1.2.2.1)).bad then
          Option.bind (N_disk_none ()) fun r3 =>
            Option.bind (N_bytes_Equal ((nth l1.1 (Int.toNat l1.2.2.1)).bytes, (r3.1, ()))) fun r4 =>
              if (!r4.1) then
                some (Sum.inr ((8 : Int), ()))
              else
                some (Sum.inl (l1.1, (l1.2.1, ((IntKind.wrap IntKind.i64 (l1.2.2.1 + (1 : Int))), ()))))
        else
          some (Sum.inl (l1.1, (l1.2.1, ((IntKind.wrap IntKind.i64 (l1.2.2.1 + (1 : Int))), ()))))
    else none
  else
    Option.map Sum.inr (D_disk_Check_t2 p1)
noncomputable def D_disk_Check (p1 : Disk) : Option (Int × Unit) :=
  if (decide ((((List.length p1.sectors) : Nat) : Int) < (1 : Int))) then
    some ((8 : Int), ())
  else
    if (decide ((((List.length p1.sectors) : Nat) : Int) > (1024 : Int))) then
      some ((8 : Int), ())
    else
      if (decide ((((List.length p1.cache) : Nat) : Int) > (64 : Int))) then
        some ((8 : Int), ())
      else
        loopO (D_disk_Check_l3 p1) (p1.sectors, ((((List.length p1.sectors) : Nat) : Int), ((0 : Int), ())))
noncomputable def D_place_within_l1  (l1 : ((List Bound) × (Int × (Int × Unit)))) : Option (((List Bound) × (Int × (Int × Unit))) ⊕ (Bool × Unit)) :=
    if (decide (l1.2.2.1 < l1.2.1)) then
    if (decide (((0 : Int) ≤ l1.2.2.1) ∧ (l1.2.2.1 < (((List.length l1.1) : Nat) : Int)))) then
    if (decide ((nth l1.1 (Int.toNat l1.2.2.1)).a < (nth l1.1 (Int.toNat l1.2.2.1)).b)) then
      some (Sum.inr (Bool.false, ()))
    else
      if (decide ((nth l1.1 (Int.toNat l1.2.2.1)).a > (nth l1.1 (Int.toNat l1.2.2.1)).c)) then
        some (Sum.inr (Bool.false, ()))
      else
        some (Sum.inl (l1.1, (l1.2.1, ((IntKind.wrap IntKind.i64 (l1.2.2.1 + (1 : Int))), ()))))
    else none
  else
    some (Sum.inr (Bool.true, ()))
noncomputable def D_place_within (p1 : (List Bound)) : Option (Bool × Unit) :=
  loopO (D_place_within_l1 ) (p1, ((((List.length p1) : Nat) : Int), ((0 : Int), ())))
noncomputable def D_place_Check (p1 : Config) : Option (Int × Unit) :=
  Option.bind (N_place_within (((Bound.mk p1.pairs (1 : Int) (3 : Int)) :: ((Bound.mk p1.tracks (1 : Int) (16 : Int)) :: ((Bound.mk p1.area (1 : Int) (32 : Int)) :: ((Bound.mk p1.most (1 : Int) p1.pairs) :: ((Bound.mk p1.window (1 : Int) (4 : Int)) :: ((Bound.mk p1.quiet (4 : Int) (64 : Int)) :: [])))))), ())) fun r1 =>
    if (!r1.1) then
      some ((8 : Int), ())
    else
      if (decide (p1.area < (IntKind.wrap IntKind.i64 (p1.pairs + (2 : Int))))) then
        some ((8 : Int), ())
      else
        some ((0 : Int), ())
noncomputable def D_place_Sectors (p1 : Config) : Option (Int × (Int × Unit)) :=
  Option.bind (N_place_Check (p1, ())) fun r1 =>
    if (r1.1 != (0 : Int)) then
      some ((0 : Int), (r1.1, ()))
    else
      Option.bind (N_place_pages (p1, ())) fun r2 =>
        Option.bind (N_place_part_size ((Part.mk (1 : Int) (1 : Int) (1 : Int) (2 : Int)), ())) fun r3 =>
          Option.bind (N_place_part_size ((Part.mk (2 : Int) (2 : Int) p1.area (1 : Int)), ())) fun r4 =>
            Option.bind (N_place_part_size ((Part.mk (3 : Int) p1.pairs r2.1 (1 : Int)), ())) fun r5 =>
              Option.bind (N_place_part_size ((Part.mk (4 : Int) p1.pairs p1.tracks (4 : Int)), ())) fun r6 =>
                some ((IntKind.wrap IntKind.i64 ((IntKind.wrap IntKind.i64 ((IntKind.wrap IntKind.i64 ((IntKind.wrap IntKind.i64 ((0 : Int) + r3.1)) + r4.1)) + r5.1)) + r6.1)), ((0 : Int), ()))
noncomputable def D_track_Check (p1 : Config) (p2 : Disk) : Option (Int × Unit) :=
  Option.bind (N_place_Sectors (p1, ())) fun r2 =>
    if (r2.2.1 != (0 : Int)) then
      some (r2.2.1, ())
    else
      if ((((List.length p2.sectors) : Nat) : Int) != r2.1) then
        some ((8 : Int), ())
      else
        Option.bind (N_disk_Check (p2, ())) fun r3 =>
          some (r3.1, ())
noncomputable def D_meta_Check (p1 : Config) (p2 : Meta) : Option (Int × Unit) :=
  Option.bind (N_rec_Notes (p2.table, ())) fun r2 =>
    Option.bind (N_place_Check (p1, ())) fun r3 =>
      if (r3.1 != (0 : Int)) then
        some ((8 : Int), ())
      else
        if (decide (p2.super.area < (0 : Int))) then
          some ((8 : Int), ())
        else
          if (decide (p2.super.area > (1 : Int))) then
            some ((8 : Int), ())
          else
            if (decide (p2.count < (0 : Int))) then
              some ((8 : Int), ())
            else
              if (decide (p2.count > p1.area)) then
                some ((8 : Int), ())
              else
                if (decide (p2.turn < (0 : Int))) then
                  some ((8 : Int), ())
                else
                  if (decide (p2.turn > (65535 : Int))) then
                    some ((8 : Int), ())
                  else
                    if (r2.2.1 != (0 : Int)) then
                      some ((8 : Int), ())
                    else
                      some ((0 : Int), ())
noncomputable def D_rec_Notes_l1  (l1 : ((List (List Int)) × ((List Rec) × (Int × (Int × Unit))))) : Option (((List (List Int)) × ((List Rec) × (Int × (Int × Unit)))) ⊕ ((List (List Int)) × (Int × Unit))) :=
    if (decide (l1.2.2.2.1 < l1.2.2.1)) then
    if (decide (((0 : Int) ≤ l1.2.2.2.1) ∧ (l1.2.2.2.1 < (((List.length l1.2.1) : Nat) : Int)))) then
    Option.bind (N_rec_Note ((nth l1.2.1 (Int.toNat l1.2.2.2.1)), ())) fun r2 =>
      if (decide (((List.length l1.1) + (List.length (r2.1 :: []))) ≤ big)) then
      some (Sum.inl ((l1.1 ++ (r2.1 :: [])), (l1.2.1, (l1.2.2.1, ((IntKind.wrap IntKind.i64 (l1.2.2.2.1 + (1 : Int))), ())))))
      else none
    else none
  else
    some (Sum.inr (l1.1, ((0 : Int), ())))
noncomputable def D_rec_Notes_t2 (p1 : (List Rec)) : Option ((List (List Int)) × (Int × Unit)) :=
    loopO (D_rec_Notes_l1 ) ([], (p1, ((((List.length p1) : Nat) : Int), ((0 : Int), ()))))
noncomputable def D_rec_Notes_l3 (p1 : (List Rec)) (l1 : ((List Rec) × ((List Rec) × (Int × (Int × Unit))))) : Option (((List Rec) × ((List Rec) × (Int × (Int × Unit)))) ⊕ ((List (List Int)) × (Int × Unit))) :=
    if (decide (l1.2.2.2.1 < l1.2.2.1)) then
    if (decide (((0 : Int) ≤ l1.2.2.2.1) ∧ (l1.2.2.2.1 < (((List.length l1.2.1) : Nat) : Int)))) then
    Option.bind (N_rec_Check ((nth l1.2.1 (Int.toNat l1.2.2.2.1)), ())) fun r2 =>
      if (r2.1 != (0 : Int)) then
        some (Sum.inr ([], ((110 : Int), ())))
      else
        if (decide (l1.2.2.2.1 > (0 : Int))) then
          if (decide (((0 : Int) ≤ (IntKind.wrap IntKind.i64 (l1.2.2.2.1 - (1 : Int)))) ∧ ((IntKind.wrap IntKind.i64 (l1.2.2.2.1 - (1 : Int))) < (((List.length l1.1) : Nat) : Int)))) then
          if (decide ((nth l1.2.1 (Int.toNat l1.2.2.2.1)).pair ≤ (nth l1.1 (Int.toNat (IntKind.wrap IntKind.i64 (l1.2.2.2.1 - (1 : Int))))).pair)) then
            some (Sum.inr ([], ((110 : Int), ())))
          else
            some (Sum.inl (l1.1, (l1.2.1, (l1.2.2.1, ((IntKind.wrap IntKind.i64 (l1.2.2.2.1 + (1 : Int))), ())))))
          else none
        else
          some (Sum.inl (l1.1, (l1.2.1, (l1.2.2.1, ((IntKind.wrap IntKind.i64 (l1.2.2.2.1 + (1 : Int))), ())))))
    else none
  else
    Option.map Sum.inr (D_rec_Notes_t2 p1)
noncomputable def D_rec_Notes (p1 : (List Rec)) : Option ((List (List Int)) × (Int × Unit)) :=
  loopO (D_rec_Notes_l3 p1) (p1, (p1, ((((List.length p1) : Nat) : Int), ((0 : Int), ()))))
noncomputable def D_rec_Note (p1 : Rec) : Option ((List Int) × (Int × Unit)) :=
  Option.bind (N_rec_Check (p1, ())) fun r1 =>
    if (r1.1 != (0 : Int)) then
      some ([], (r1.1, ()))
    else
      if p1.quick then
        if p1.alone then
          Option.bind (N_rec_sizes ()) fun r2 =>
            Option.bind (N_num_Write (((1 : Int) :: ((IntKind.wrap IntKind.u64 p1.pair) :: ((IntKind.wrap IntKind.u64 p1.born) :: ((IntKind.wrap IntKind.u64 p1.epoch) :: ((IntKind.wrap IntKind.u64 p1.lead) :: ((IntKind.wrap IntKind.u64 p1.phase) :: ((IntKind.wrap IntKind.u64 p1.from_) :: ((ibits BinOp.or IntKind.u64 (ibits BinOp.or IntKind.u64 (0 : Int) (2 : Int)) (1 : Int)) :: [])))))))), (r2.1, ()))) fun r3 =>
              some (r3.1, (r3.2.1, ()))
        else
          Option.bind (N_rec_sizes ()) fun r2 =>
            Option.bind (N_num_Write (((1 : Int) :: ((IntKind.wrap IntKind.u64 p1.pair) :: ((IntKind.wrap IntKind.u64 p1.born) :: ((IntKind.wrap IntKind.u64 p1.epoch) :: ((IntKind.wrap IntKind.u64 p1.lead) :: ((IntKind.wrap IntKind.u64 p1.phase) :: ((IntKind.wrap IntKind.u64 p1.from_) :: ((ibits BinOp.or IntKind.u64 (0 : Int) (2 : Int)) :: [])))))))), (r2.1, ()))) fun r3 =>
              some (r3.1, (r3.2.1, ()))
      else
        if p1.alone then
          Option.bind (N_rec_sizes ()) fun r2 =>
            Option.bind (N_num_Write (((1 : Int) :: ((IntKind.wrap IntKind.u64 p1.pair) :: ((IntKind.wrap IntKind.u64 p1.born) :: ((IntKind.wrap IntKind.u64 p1.epoch) :: ((IntKind.wrap IntKind.u64 p1.lead) :: ((IntKind.wrap IntKind.u64 p1.phase) :: ((IntKind.wrap IntKind.u64 p1.from_) :: ((ibits BinOp.or IntKind.u64 (0 : Int) (1 : Int)) :: [])))))))), (r2.1, ()))) fun r3 =>
              some (r3.1, (r3.2.1, ()))
        else
          Option.bind (N_rec_sizes ()) fun r2 =>
            Option.bind (N_num_Write (((1 : Int) :: ((IntKind.wrap IntKind.u64 p1.pair) :: ((IntKind.wrap IntKind.u64 p1.born) :: ((IntKind.wrap IntKind.u64 p1.epoch) :: ((IntKind.wrap IntKind.u64 p1.lead) :: ((IntKind.wrap IntKind.u64 p1.phase) :: ((IntKind.wrap IntKind.u64 p1.from_) :: ((0 : Int) :: [])))))))), (r2.1, ()))) fun r3 =>
              some (r3.1, (r3.2.1, ()))
noncomputable def D_rec_Check (p1 : Rec) : Option (Int × Unit) :=
  if (decide (p1.pair ≥ (0 : Int))) then
    if (decide (p1.pair < (3 : Int))) then
      if (decide (p1.born > (0 : Int))) then
        if (decide (p1.epoch > (0 : Int))) then
          Option.bind (N_rec_site ((p1.lead :: (p1.from_ :: [])), ())) fun r1 =>
            if (p1.phase == (2 : Int)) then
              if r1.1 then
                if (p1.from_ == p1.lead) then
                  if (!p1.quick) then
                    some ((0 : Int), ())
                  else
                    if (!(p1.from_ != p1.lead)) then
                      some ((110 : Int), ())
                    else
                      some ((0 : Int), ())
                else
                  some ((110 : Int), ())
              else
                some ((110 : Int), ())
            else
              if (p1.phase == (3 : Int)) then
                if r1.1 then
                  if (p1.from_ == p1.lead) then
                    if (!p1.quick) then
                      some ((0 : Int), ())
                    else
                      if (!(p1.from_ != p1.lead)) then
                        some ((110 : Int), ())
                      else
                        some ((0 : Int), ())
                  else
                    some ((110 : Int), ())
                else
                  some ((110 : Int), ())
              else
                if (p1.phase == (1 : Int)) then
                  if r1.1 then
                    if (!p1.quick) then
                      some ((0 : Int), ())
                    else
                      if (!(p1.from_ != p1.lead)) then
                        some ((110 : Int), ())
                      else
                        some ((0 : Int), ())
                  else
                    some ((110 : Int), ())
                else
                  some ((110 : Int), ())
        else
          if (p1.phase == (2 : Int)) then
            some ((110 : Int), ())
          else
            if (p1.phase == (3 : Int)) then
              some ((110 : Int), ())
            else
              if (p1.phase == (1 : Int)) then
                some ((110 : Int), ())
              else
                some ((110 : Int), ())
      else
        if (p1.phase == (2 : Int)) then
          some ((110 : Int), ())
        else
          if (p1.phase == (3 : Int)) then
            some ((110 : Int), ())
          else
            if (p1.phase == (1 : Int)) then
              some ((110 : Int), ())
            else
              some ((110 : Int), ())
    else
      if (p1.phase == (2 : Int)) then
        some ((110 : Int), ())
      else
        if (p1.phase == (3 : Int)) then
          some ((110 : Int), ())
        else
          if (p1.phase == (1 : Int)) then
            some ((110 : Int), ())
          else
            some ((110 : Int), ())
  else
    if (p1.phase == (2 : Int)) then
      some ((110 : Int), ())
    else
      if (p1.phase == (3 : Int)) then
        some ((110 : Int), ())
      else
        if (p1.phase == (1 : Int)) then
          some ((110 : Int), ())
        else
          some ((110 : Int), ())
noncomputable def D_num_Write_t1 (l1 : ((List Int) × ((List Int) × ((List Int) × (Int × (Int × (Int × Unit))))))) (l2 : ((List Int) × (Int × (Int × (Int × Unit))))) : Option (((List Int) × ((List Int) × ((List Int) × (Int × (Int × (Int × Unit)))))) ⊕ ((List Int) × (Int × Unit))) :=
    if (!(l2.2.1 == (0 : Int))) then
    some (Sum.inr ([], ((4 : Int), ())))
  else
    if (decide (((0 : Int) ≤ l1.2.2.2.2.2.1) ∧ (l1.2.2.2.2.2.1 < (((List.length l1.2.1) : Nat) : Int)))) then
    some (Sum.inl (l1.1, (l1.2.1, (l2.1, ((IntKind.wrap IntKind.i64 (l1.2.2.2.1 + (nth l1.2.1 (Int.toNat l1.2.2.2.2.2.1)))), (l1.2.2.2.2.1, ((IntKind.wrap IntKind.i64 (l1.2.2.2.2.2.1 + (1 : Int))), ())))))))
    else none
noncomputable def D_num_Write_l2 (l1 : ((List Int) × ((List Int) × ((List Int) × (Int × (Int × (Int × Unit))))))) (l2 : ((List Int) × (Int × (Int × (Int × Unit))))) : Option (((List Int) × (Int × (Int × (Int × Unit)))) ⊕ (((List Int) × ((List Int) × ((List Int) × (Int × (Int × (Int × Unit)))))) ⊕ ((List Int) × (Int × Unit)))) :=
    if (decide (l2.2.2.2.1 < l2.2.2.1)) then
    if (decide (((0 : Int) ≤ (IntKind.wrap IntKind.i64 ((IntKind.wrap IntKind.i64 (((((Int.toNat (IntKind.wrap IntKind.i64 (l1.2.2.2.1 + (nth l1.2.1 (Int.toNat l1.2.2.2.2.2.1))))) - (Int.toNat l1.2.2.2.1)) : Nat) : Int) - (1 : Int))) - l2.2.2.2.1))) ∧ ((IntKind.wrap IntKind.i64 ((IntKind.wrap IntKind.i64 (((((Int.toNat (IntKind.wrap IntKind.i64 (l1.2.2.2.1 + (nth l1.2.1 (Int.toNat l1.2.2.2.2.2.1))))) - (Int.toNat l1.2.2.2.1)) : Nat) : Int) - (1 : Int))) - l2.2.2.2.1)) < ((((Int.toNat (IntKind.wrap IntKind.i64 (l1.2.2.2.1 + (nth l1.2.1 (Int.toNat l1.2.2.2.2.2.1))))) - (Int.toNat l1.2.2.2.1)) : Nat) : Int)))) then
    if (decide ((0 : Int) ≤ (8 : Int))) then
    if (decide (((Int.toNat l1.2.2.2.1) = (Int.toNat l1.2.2.2.1)) ∧ (((Int.toNat (IntKind.wrap IntKind.i64 (l1.2.2.2.1 + (nth l1.2.1 (Int.toNat l1.2.2.2.2.2.1))))) - (Int.toNat l1.2.2.2.1)) = ((Int.toNat (IntKind.wrap IntKind.i64 (l1.2.2.2.1 + (nth l1.2.1 (Int.toNat l1.2.2.2.2.2.1))))) - (Int.toNat l1.2.2.2.1))))) then
    some (Sum.inl ((List.set l2.1 ((Int.toNat l1.2.2.2.1) + (Int.toNat (IntKind.wrap IntKind.i64 ((IntKind.wrap IntKind.i64 (((((Int.toNat (IntKind.wrap IntKind.i64 (l1.2.2.2.1 + (nth l1.2.1 (Int.toNat l1.2.2.2.2.2.1))))) - (Int.toNat l1.2.2.2.1)) : Nat) : Int) - (1 : Int))) - l2.2.2.2.1)))) (IntKind.wrap IntKind.u8 l2.2.1)), ((shrI IntKind.u64 l2.2.1 (8 : Int)), (l2.2.2.1, ((IntKind.wrap IntKind.i64 (l2.2.2.2.1 + (1 : Int))), ())))))
    else none
    else none
    else none
  else
    Option.map Sum.inr (D_num_Write_t1 l1 l2)
noncomputable def D_num_Write_l3  (l1 : ((List Int) × ((List Int) × ((List Int) × (Int × (Int × (Int × Unit))))))) : Option (((List Int) × ((List Int) × ((List Int) × (Int × (Int × (Int × Unit)))))) ⊕ ((List Int) × (Int × Unit))) :=
    if (decide (l1.2.2.2.2.2.1 < l1.2.2.2.2.1)) then
    if (decide (((0 : Int) ≤ l1.2.2.2.2.2.1) ∧ (l1.2.2.2.2.2.1 < (((List.length l1.2.1) : Nat) : Int)))) then
    if (decide (((0 : Int) ≤ l1.2.2.2.2.2.1) ∧ (l1.2.2.2.2.2.1 < (((List.length l1.2.1) : Nat) : Int)))) then
    if (decide (((0 : Int) ≤ l1.2.2.2.1) ∧ ((l1.2.2.2.1 ≤ (IntKind.wrap IntKind.i64 (l1.2.2.2.1 + (nth l1.2.1 (Int.toNat l1.2.2.2.2.2.1))))) ∧ (((IntKind.wrap IntKind.i64 (l1.2.2.2.1 + (nth l1.2.1 (Int.toNat l1.2.2.2.2.2.1)))) ≤ (IntKind.wrap IntKind.i64 (l1.2.2.2.1 + (nth l1.2.1 (Int.toNat l1.2.2.2.2.2.1))))) ∧ ((IntKind.wrap IntKind.i64 (l1.2.2.2.1 + (nth l1.2.1 (Int.toNat l1.2.2.2.2.2.1)))) ≤ (((List.length l1.2.2.1) : Nat) : Int)))))) then
    if (decide (((0 : Int) ≤ l1.2.2.2.2.2.1) ∧ (l1.2.2.2.2.2.1 < (((List.length l1.1) : Nat) : Int)))) then
    if (decide (((Int.toNat l1.2.2.2.1) = (Int.toNat l1.2.2.2.1)) ∧ (((Int.toNat (IntKind.wrap IntKind.i64 (l1.2.2.2.1 + (nth l1.2.1 (Int.toNat l1.2.2.2.2.2.1))))) - (Int.toNat l1.2.2.2.1)) = ((Int.toNat (IntKind.wrap IntKind.i64 (l1.2.2.2.1 + (nth l1.2.1 (Int.toNat l1.2.2.2.2.2.1))))) - (Int.toNat l1.2.2.2.1))))) then
    loopO (D_num_Write_l2 l1) (l1.2.2.1, ((nth l1.1 (Int.toNat l1.2.2.2.2.2.1)), (((((Int.toNat (IntKind.wrap IntKind.i64 (l1.2.2.2.1 + (nth l1.2.1 (Int.toNat l1.2.2.2.2.2.1))))) - (Int.toNat l1.2.2.2.1)) : Nat) : Int), ((0 : Int), ()))))
    else none
    else none
    else none
    else none
    else none
  else
    some (Sum.inr (l1.2.2.1, ((0 : Int), ())))
noncomputable def D_num_Write_t4 (p1 : (List Int)) (p2 : (List Int)) (l1 : (Int × ((List Int) × (Int × (Int × Unit))))) : Option ((List Int) × (Int × Unit)) :=
    if ((((List.length p1) : Nat) : Int) != (((List.length p2) : Nat) : Int)) then
    some ([], ((2 : Int), ()))
  else
    if (decide (((0 : Int) ≤ l1.1) ∧ ((l1.1 ≤ l1.1) ∧ (l1.1 ≤ ((big : Nat) : Int))))) then
    loopO (D_num_Write_l3 ) (p1, (p2, ((List.replicate (Int.toNat l1.1) (0 : Int)), ((0 : Int), ((((List.length p1) : Nat) : Int), ((0 : Int), ()))))))
    else none
noncomputable def D_num_Write_l5 (p1 : (List Int)) (p2 : (List Int)) (l1 : (Int × ((List Int) × (Int × (Int × Unit))))) : Option ((Int × ((List Int) × (Int × (Int × Unit)))) ⊕ ((List Int) × (Int × Unit))) :=
    if (decide (l1.2.2.2.1 < l1.2.2.1)) then
    if (decide (((0 : Int) ≤ l1.2.2.2.1) ∧ (l1.2.2.2.1 < (((List.length l1.2.1) : Nat) : Int)))) then
    if (decide ((nth l1.2.1 (Int.toNat l1.2.2.2.1)) < (1 : Int))) then
      some (Sum.inr ([], ((2 : Int), ())))
    else
      if (decide ((nth l1.2.1 (Int.toNat l1.2.2.2.1)) > (8 : Int))) then
        some (Sum.inr ([], ((2 : Int), ())))
      else
        some (Sum.inl ((IntKind.wrap IntKind.i64 (l1.1 + (nth l1.2.1 (Int.toNat l1.2.2.2.1)))), (l1.2.1, (l1.2.2.1, ((IntKind.wrap IntKind.i64 (l1.2.2.2.1 + (1 : Int))), ())))))
    else none
  else
    Option.map Sum.inr (D_num_Write_t4 p1 p2 l1)
noncomputable def D_num_Write (p1 : (List Int)) (p2 : (List Int)) : Option ((List Int) × (Int × Unit)) :=
  if (decide ((((List.length p2) : Nat) : Int) > (16 : Int))) then
    some ([], ((2 : Int), ()))
  else
    loopO (D_num_Write_l5 p1 p2) ((0 : Int), (p2, ((((List.length p2) : Nat) : Int), ((0 : Int), ()))))
noncomputable def D_sess_Check_t1 (l1 : ((List (List Int)) × (Int × (Int × Unit)))) : Option (Int × Unit) :=
    if (decide (l1.2.2.1 ≥ (0 : Int))) then
    some ((8 : Int), ())
  else
    some ((0 : Int), ())
noncomputable def D_sess_Check_l2  (l1 : ((List (List Int)) × (Int × (Int × Unit)))) : Option (((List (List Int)) × (Int × (Int × Unit))) ⊕ (Int × Unit)) :=
    if (decide (l1.2.2.1 < l1.2.1)) then
    if (decide (((0 : Int) ≤ l1.2.2.1) ∧ (l1.2.2.1 < (((List.length l1.1) : Nat) : Int)))) then
    if (decide ((((List.length (nth l1.1 (Int.toNat l1.2.2.1))) : Nat) : Int) ≥ (1 : Int))) then
      if (!(decide ((((List.length (nth l1.1 (Int.toNat l1.2.2.1))) : Nat) : Int) ≤ (64 : Int)))) then
        Option.map Sum.inr (D_sess_Check_t1 l1)
      else
        some (Sum.inl (l1.1, (l1.2.1, ((IntKind.wrap IntKind.i64 (l1.2.2.1 + (1 : Int))), ()))))
    else
      Option.map Sum.inr (D_sess_Check_t1 l1)
    else none
  else
    some (Sum.inr ((0 : Int), ()))
noncomputable def D_sess_Check (p1 : Config) (p2 : End) : Option (Int × Unit) :=
  Option.bind (N_ring_List (p2.out, ())) fun r2 =>
    Option.bind (N_place_Check (p1, ())) fun r3 =>
      if (r3.1 != (0 : Int)) then
        some ((8 : Int), ())
      else
        if (r2.2.1 != (0 : Int)) then
          some ((8 : Int), ())
        else
          if (p2.me == (0 : Int)) then
            some ((8 : Int), ())
          else
            if ((((List.length p2.out.items) : Nat) : Int) != (64 : Int)) then
              some ((8 : Int), ())
            else
              if (decide (p2.done > p2.sent)) then
                some ((8 : Int), ())
              else
                if ((IntKind.wrap IntKind.u32 (p2.sent - p2.done)) != (IntKind.wrap IntKind.u32 (((List.length r2.1) : Nat) : Int))) then
                  some ((8 : Int), ())
                else
                  if (decide (p2.quiet < (0 : Int))) then
                    some ((8 : Int), ())
                  else
                    if (decide (p2.quiet ≥ p1.quiet)) then
                      some ((8 : Int), ())
                    else
                      if (p2.you == (0 : Int)) then
                        if p2.up then
                          some ((8 : Int), ())
                        else
                          if p2.dead then
                            if (p2.you != (0 : Int)) then
                              some ((8 : Int), ())
                            else
                              if (!p2.up) then
                                if (p2.sent != (0 : Int)) then
                                  some ((8 : Int), ())
                                else
                                  if (p2.done != (0 : Int)) then
                                    some ((8 : Int), ())
                                  else
                                    if (p2.got != (0 : Int)) then
                                      some ((8 : Int), ())
                                    else
                                      loopO (D_sess_Check_l2 ) (r2.1, ((((List.length r2.1) : Nat) : Int), ((0 : Int), ())))
                              else
                                loopO (D_sess_Check_l2 ) (r2.1, ((((List.length r2.1) : Nat) : Int), ((0 : Int), ())))
                          else
                            if (!p2.up) then
                              if (p2.sent != (0 : Int)) then
                                some ((8 : Int), ())
                              else
                                if (p2.done != (0 : Int)) then
                                  some ((8 : Int), ())
                                else
                                  if (p2.got != (0 : Int)) then
                                    some ((8 : Int), ())
                                  else
                                    loopO (D_sess_Check_l2 ) (r2.1, ((((List.length r2.1) : Nat) : Int), ((0 : Int), ())))
                            else
                              loopO (D_sess_Check_l2 ) (r2.1, ((((List.length r2.1) : Nat) : Int), ((0 : Int), ())))
                      else
                        if p2.dead then
                          if (p2.you != (0 : Int)) then
                            some ((8 : Int), ())
                          else
                            if (!p2.up) then
                              if (p2.sent != (0 : Int)) then
                                some ((8 : Int), ())
                              else
                                if (p2.done != (0 : Int)) then
                                  some ((8 : Int), ())
                                else
                                  if (p2.got != (0 : Int)) then
                                    some ((8 : Int), ())
                                  else
                                    loopO (D_sess_Check_l2 ) (r2.1, ((((List.length r2.1) : Nat) : Int), ((0 : Int), ())))
                            else
                              loopO (D_sess_Check_l2 ) (r2.1, ((((List.length r2.1) : Nat) : Int), ((0 : Int), ())))
                        else
                          if (!p2.up) then
                            if (p2.sent != (0 : Int)) then
                              some ((8 : Int), ())
                            else
                              if (p2.done != (0 : Int)) then
                                some ((8 : Int), ())
                              else
                                if (p2.got != (0 : Int)) then
                                  some ((8 : Int), ())
                                else
                                  loopO (D_sess_Check_l2 ) (r2.1, ((((List.length r2.1) : Nat) : Int), ((0 : Int), ())))
                          else
                            loopO (D_sess_Check_l2 ) (r2.1, ((((List.length r2.1) : Nat) : Int), ((0 : Int), ())))
noncomputable def D_ring_Check_l1 (p1 : Queue) (l1 : (Int × (Int × Unit))) : Option ((Int × (Int × Unit)) ⊕ (Int × Unit)) :=
    if (decide (l1.2.1 < l1.1)) then
    Option.bind (N_ring_round_byte_at ((Round.mk p1.items p1.head p1.many), l1.2)) fun r2 =>
      if (decide (((0 : Int) ≤ r2.1) ∧ (r2.1 < (((List.length p1.items) : Nat) : Int)))) then
      if (decide ((((List.length (nth p1.items (Int.toNat r2.1))) : Nat) : Int) > (0 : Int))) then
        some (Sum.inr ((8 : Int), ()))
      else
        some (Sum.inl (l1.1, ((IntKind.wrap IntKind.i64 (l1.2.1 + (1 : Int))), ())))
      else none
  else
    some (Sum.inr ((0 : Int), ()))
noncomputable def D_ring_Check (p1 : Queue) : Option (Int × Unit) :=
  if (decide ((((List.length p1.items) : Nat) : Int) < (1 : Int))) then
    some ((8 : Int), ())
  else
    if (decide ((((List.length p1.items) : Nat) : Int) > (64 : Int))) then
      some ((8 : Int), ())
    else
      if (decide ((Decidable.rec (fun h => p1.head) (fun h => p1.many) (Int.decLt p1.many p1.head)) < (0 : Int))) then
        some ((8 : Int), ())
      else
        if (decide (p1.head ≥ (((List.length p1.items) : Nat) : Int))) then
          some ((8 : Int), ())
        else
          if (decide (p1.many > (((List.length p1.items) : Nat) : Int))) then
            some ((8 : Int), ())
          else
            loopO (D_ring_Check_l1 p1) ((((List.length p1.items) : Nat) : Int), (p1.many, ()))
noncomputable def D_bits_Check_l1  (l1 : ((List Int) × ((List Int) × (Int × (Int × Unit))))) : Option (((List Int) × ((List Int) × (Int × (Int × Unit)))) ⊕ (Int × Unit)) :=
    if (decide (l1.2.2.2.1 < l1.2.2.1)) then
    if (decide (((0 : Int) ≤ l1.2.2.2.1) ∧ (l1.2.2.2.1 < (((List.length l1.2.1) : Nat) : Int)))) then
    if (decide (((0 : Int) ≤ l1.2.2.2.1) ∧ (l1.2.2.2.1 < (((List.length l1.1) : Nat) : Int)))) then
    if ((ibits BinOp.andNot IntKind.u8 (nth l1.2.1 (Int.toNat l1.2.2.2.1)) (nth l1.1 (Int.toNat l1.2.2.2.1))) != (0 : Int)) then
      some (Sum.inr ((8 : Int), ()))
    else
      some (Sum.inl (l1.1, (l1.2.1, (l1.2.2.1, ((IntKind.wrap IntKind.i64 (l1.2.2.2.1 + (1 : Int))), ())))))
    else none
    else none
  else
    some (Sum.inr ((0 : Int), ()))
noncomputable def D_bits_Check (p1 : Int) (p2 : (List Int)) : Option (Int × Unit) :=
  Option.bind (N_bits_All (p1, ())) fun r2 =>
    if (r2.2.1 != (0 : Int)) then
      some (r2.2.1, ())
    else
      if ((((List.length p2) : Nat) : Int) != (((List.length r2.1) : Nat) : Int)) then
        some ((8 : Int), ())
      else
        loopO (D_bits_Check_l1 ) (r2.1, (p2, ((((List.length p2) : Nat) : Int), ((0 : Int), ()))))
noncomputable def D_act_limits_side_t1 (p1 : Config) (p2 : Side) (l1 : ((List Wait) × (Int × (Int × Unit)))) : Option (Bool × Unit) :=
    if (!(decide (l1.2.2.1 ≥ (0 : Int)))) then
    if (p2.first == (-(1 : Int))) then
      if (decide (p2.next ≥ (0 : Int))) then
        if (decide (p2.next < p1.tracks)) then
          if (p2.op == (0 : Int)) then
            some (Bool.true, ())
          else
            if (decide (p2.op ≥ (2 : Int))) then
              some ((decide (p2.op ≤ (8 : Int))), ())
            else
              some (Bool.false, ())
        else
          some (Bool.false, ())
      else
        some (Bool.false, ())
    else
      if (decide (p2.first ≥ (0 : Int))) then
        if (decide (p2.first < p1.tracks)) then
          if (decide (p2.next ≥ (0 : Int))) then
            if (decide (p2.next < p1.tracks)) then
              if (p2.op == (0 : Int)) then
                some (Bool.true, ())
              else
                if (decide (p2.op ≥ (2 : Int))) then
                  some ((decide (p2.op ≤ (8 : Int))), ())
                else
                  some (Bool.false, ())
            else
              some (Bool.false, ())
          else
            some (Bool.false, ())
        else
          some (Bool.false, ())
      else
        some (Bool.false, ())
  else
    some (Bool.false, ())
noncomputable def D_act_limits_side_t2 (p1 : Config) (p2 : Side) : Option (Bool × Unit) :=
    if (p2.first == (-(1 : Int))) then
    if (decide (p2.next ≥ (0 : Int))) then
      if (decide (p2.next < p1.tracks)) then
        if (p2.op == (0 : Int)) then
          some (Bool.true, ())
        else
          if (decide (p2.op ≥ (2 : Int))) then
            some ((decide (p2.op ≤ (8 : Int))), ())
          else
            some (Bool.false, ())
      else
        some (Bool.false, ())
    else
      some (Bool.false, ())
  else
    if (decide (p2.first ≥ (0 : Int))) then
      if (decide (p2.first < p1.tracks)) then
        if (decide (p2.next ≥ (0 : Int))) then
          if (decide (p2.next < p1.tracks)) then
            if (p2.op == (0 : Int)) then
              some (Bool.true, ())
            else
              if (decide (p2.op ≥ (2 : Int))) then
                some ((decide (p2.op ≤ (8 : Int))), ())
              else
                some (Bool.false, ())
          else
            some (Bool.false, ())
        else
          some (Bool.false, ())
      else
        some (Bool.false, ())
    else
      some (Bool.false, ())
noncomputable def D_act_limits_side_l3 (p1 : Config) (p2 : Side) (l1 : ((List Wait) × (Int × (Int × Unit)))) : Option (((List Wait) × (Int × (Int × Unit))) ⊕ (Bool × Unit)) :=
    if (decide (l1.2.2.1 < l1.2.1)) then
    if (decide (((0 : Int) ≤ l1.2.2.1) ∧ (l1.2.2.1 < (((List.length l1.1) : Nat) : Int)))) then
    if (decide ((nth l1.1 (Int.toNat l1.2.2.1)).track ≥ (0 : Int))) then
      if (!(decide ((nth l1.1 (Int.toNat l1.2.2.1)).track < p1.tracks))) then
        Option.map Sum.inr (D_act_limits_side_t1 p1 p2 l1)
      else
        some (Sum.inl (l1.1, (l1.2.1, ((IntKind.wrap IntKind.i64 (l1.2.2.1 + (1 : Int))), ()))))
    else
      Option.map Sum.inr (D_act_limits_side_t1 p1 p2 l1)
    else none
  else
    Option.map Sum.inr (D_act_limits_side_t2 p1 p2)
noncomputable def D_act_limits_side_t4 (p1 : Config) (p2 : Side) (l1 : ((List Sent) × (Int × (Int × Unit)))) : Option (Bool × Unit) :=
    if (!(decide (l1.2.2.1 ≥ (0 : Int)))) then
    loopO (D_act_limits_side_l3 p1 p2) (p2.waits, ((((List.length p2.waits) : Nat) : Int), ((0 : Int), ())))
  else
    some (Bool.false, ())
noncomputable def D_act_limits_side_t5 (p1 : Config) (p2 : Side) : Option (Bool × Unit) :=
    loopO (D_act_limits_side_l3 p1 p2) (p2.waits, ((((List.length p2.waits) : Nat) : Int), ((0 : Int), ())))
noncomputable def D_act_limits_side_l6 (p1 : Config) (p2 : Side) (l1 : ((List Sent) × (Int × (Int × Unit)))) : Option (((List Sent) × (Int × (Int × Unit))) ⊕ (Bool × Unit)) :=
    if (decide (l1.2.2.1 < l1.2.1)) then
    if (decide (((0 : Int) ≤ l1.2.2.1) ∧ (l1.2.2.1 < (((List.length l1.1) : Nat) : Int)))) then
    if (decide ((nth l1.1 (Int.toNat l1.2.2.1)).track ≥ (0 : Int))) then
      if (!(decide ((nth l1.1 (Int.toNat l1.2.2.1)).track < p1.tracks))) then
        Option.map Sum.inr (D_act_limits_side_t4 p1 p2 l1)
      else
        some (Sum.inl (l1.1, (l1.2.1, ((IntKind.wrap IntKind.i64 (l1.2.2.1 + (1 : Int))), ()))))
    else
      Option.map Sum.inr (D_act_limits_side_t4 p1 p2 l1)
    else none
  else
    Option.map Sum.inr (D_act_limits_side_t5 p1 p2)
noncomputable def D_act_limits_side (p1 : Config) (p2 : Side) : Option (Bool × Unit) :=
  Option.bind (N_bits_Check (p1.tracks, (p2.marks, ()))) fun r2 =>
    if (r2.1 != (0 : Int)) then
      some (Bool.false, ())
    else
      Option.bind (N_bits_Check (p1.tracks, (p2.work, ()))) fun r3 =>
        if (r3.1 != (0 : Int)) then
          some (Bool.false, ())
        else
          Option.bind (N_bits_Check (p1.tracks, (p2.need, ()))) fun r4 =>
            if (r4.1 != (0 : Int)) then
              some (Bool.false, ())
            else
              if (decide ((((List.length p2.out) : Nat) : Int) ≤ p1.window)) then
                if (decide ((((List.length p2.waits) : Nat) : Int) ≤ (64 : Int))) then
                  loopO (D_act_limits_side_l6 p1 p2) (p2.out, ((((List.length p2.out) : Nat) : Int), ((0 : Int), ())))
                else
                  some (Bool.false, ())
              else
                some (Bool.false, ())
noncomputable def D_act_limits_act (p1 : Config) (p2 : Act) (p3 : Int) : Option (Bool × Unit) :=
  if (p2.kind == (1 : Int)) then
    if (decide (p2.at_ ≥ (0 : Int))) then
      if (decide (p2.at_ < p3)) then
        some (((((List.length p2.bytes) : Nat) : Int) == (32 : Int)), ())
      else
        some (Bool.false, ())
    else
      some (Bool.false, ())
  else
    if (p2.kind == (3 : Int)) then
      Option.bind (N_act_limits_message (p1, (p2.msg, ()))) fun r3 =>
        some (r3.1, ())
    else
      if (p2.kind == (5 : Int)) then
        Option.bind (N_act_limits_pair (p1, (p2.pair, ()))) fun r3 =>
          some (r3.1, ())
      else
        if (decide (p2.kind ≥ (1 : Int))) then
          some ((decide (p2.kind ≤ (6 : Int))), ())
        else
          some (Bool.false, ())
noncomputable def D_act_limits_mail (p1 : Config) (p2 : Mail) : Option (Bool × Unit) :=
  if (p2.kind == (0 : Int)) then
    Option.bind (N_act_limits_message (p1, (p2.msg, ()))) fun r2 =>
      some (r2.1, ())
  else
    some ((decide (p2.kind ≤ (3 : Int))), ())
noncomputable def D_msg_Check (p1 : Msg) : Option (Int × Unit) :=
  Option.bind (N_msg_used (p1, ())) fun r1 =>
    if (!r1.2.1) then
      some ((200 : Int), ())
    else
      Option.bind (N_msg_Same (r1.1, (p1, ()))) fun r2 =>
        if (!r2.1) then
          some ((200 : Int), ())
        else
          if (decide (p1.pair < (0 : Int))) then
            some ((200 : Int), ())
          else
            if (decide (p1.pair ≥ (3 : Int))) then
              some ((200 : Int), ())
            else
              if (decide (p1.track < (0 : Int))) then
                some ((200 : Int), ())
              else
                if (decide (p1.track ≥ (16 : Int))) then
                  some ((200 : Int), ())
                else
                  some ((0 : Int), ())
noncomputable def D_msg_used (p1 : Msg) : Option (Msg × (Bool × Unit)) :=
  if (decide (p1.born > (0 : Int))) then
    if (p1.kind == (1 : Int)) then
      if (!p1.has) then
        some ((Msg.mk p1.kind p1.pair Bool.false (Rec.mk (0 : Int) (0 : Int) (0 : Int) (0 : Int) (0 : Int) (0 : Int) Bool.false Bool.false) (0 : Int) (0 : Int) (0 : Int) (0 : Int) (0 : Int) (0 : Int) [] []), (Bool.true, ()))
      else
        Option.bind (N_rec_Check (p1.rec_, ())) fun r1 =>
          if (r1.1 == (0 : Int)) then
            if (p1.rec_.pair == p1.pair) then
              Option.bind (N_msg_marks (p1.marks, ())) fun r2 =>
                some ((Msg.mk p1.kind p1.pair Bool.true p1.rec_ (0 : Int) (0 : Int) (0 : Int) (0 : Int) (0 : Int) (0 : Int) p1.marks []), (r2.1, ()))
            else
              some ((Msg.mk p1.kind p1.pair Bool.true p1.rec_ (0 : Int) (0 : Int) (0 : Int) (0 : Int) (0 : Int) (0 : Int) p1.marks []), (Bool.false, ()))
          else
            some ((Msg.mk p1.kind p1.pair Bool.true p1.rec_ (0 : Int) (0 : Int) (0 : Int) (0 : Int) (0 : Int) (0 : Int) p1.marks []), (Bool.false, ()))
    else
      if (p1.kind == (2 : Int)) then
        if (decide (p1.epoch > (0 : Int))) then
          if (decide (p1.op ≥ (2 : Int))) then
            if (decide (p1.op ≤ (8 : Int))) then
              Option.bind (N_msg_marks (p1.marks, ())) fun r1 =>
                some ((Msg.mk p1.kind p1.pair Bool.false (Rec.mk (0 : Int) (0 : Int) (0 : Int) (0 : Int) (0 : Int) (0 : Int) Bool.false Bool.false) p1.op p1.born p1.epoch (0 : Int) (0 : Int) (0 : Int) p1.marks []), (r1.1, ()))
            else
              some ((Msg.mk p1.kind p1.pair Bool.false (Rec.mk (0 : Int) (0 : Int) (0 : Int) (0 : Int) (0 : Int) (0 : Int) Bool.false Bool.false) p1.op p1.born p1.epoch (0 : Int) (0 : Int) (0 : Int) p1.marks []), (Bool.false, ()))
          else
            some ((Msg.mk p1.kind p1.pair Bool.false (Rec.mk (0 : Int) (0 : Int) (0 : Int) (0 : Int) (0 : Int) (0 : Int) Bool.false Bool.false) p1.op p1.born p1.epoch (0 : Int) (0 : Int) (0 : Int) p1.marks []), (Bool.false, ()))
        else
          some ((Msg.mk p1.kind p1.pair Bool.false (Rec.mk (0 : Int) (0 : Int) (0 : Int) (0 : Int) (0 : Int) (0 : Int) Bool.false Bool.false) p1.op p1.born p1.epoch (0 : Int) (0 : Int) (0 : Int) p1.marks []), (Bool.false, ()))
      else
        if (p1.kind == (3 : Int)) then
          if (decide (p1.epoch > (0 : Int))) then
            if (decide (p1.op ≥ (2 : Int))) then
              if (decide (p1.op ≤ (8 : Int))) then
                Option.bind (N_msg_marks (p1.marks, ())) fun r1 =>
                  some ((Msg.mk p1.kind p1.pair Bool.false (Rec.mk (0 : Int) (0 : Int) (0 : Int) (0 : Int) (0 : Int) (0 : Int) Bool.false Bool.false) p1.op p1.born p1.epoch (0 : Int) (0 : Int) (0 : Int) p1.marks []), (r1.1, ()))
              else
                some ((Msg.mk p1.kind p1.pair Bool.false (Rec.mk (0 : Int) (0 : Int) (0 : Int) (0 : Int) (0 : Int) (0 : Int) Bool.false Bool.false) p1.op p1.born p1.epoch (0 : Int) (0 : Int) (0 : Int) p1.marks []), (Bool.false, ()))
            else
              some ((Msg.mk p1.kind p1.pair Bool.false (Rec.mk (0 : Int) (0 : Int) (0 : Int) (0 : Int) (0 : Int) (0 : Int) Bool.false Bool.false) p1.op p1.born p1.epoch (0 : Int) (0 : Int) (0 : Int) p1.marks []), (Bool.false, ()))
          else
            some ((Msg.mk p1.kind p1.pair Bool.false (Rec.mk (0 : Int) (0 : Int) (0 : Int) (0 : Int) (0 : Int) (0 : Int) Bool.false Bool.false) p1.op p1.born p1.epoch (0 : Int) (0 : Int) (0 : Int) p1.marks []), (Bool.false, ()))
        else
          if (p1.kind == (4 : Int)) then
            if (decide (p1.epoch > (0 : Int))) then
              if (decide (p1.op ≥ (1 : Int))) then
                if (decide (p1.op ≤ (8 : Int))) then
                  if (decide (p1.code ≥ (1 : Int))) then
                    some ((Msg.mk p1.kind p1.pair Bool.false (Rec.mk (0 : Int) (0 : Int) (0 : Int) (0 : Int) (0 : Int) (0 : Int) Bool.false Bool.false) p1.op p1.born p1.epoch (0 : Int) (0 : Int) p1.code [] []), ((decide (p1.code ≤ (999 : Int))), ()))
                  else
                    some ((Msg.mk p1.kind p1.pair Bool.false (Rec.mk (0 : Int) (0 : Int) (0 : Int) (0 : Int) (0 : Int) (0 : Int) Bool.false Bool.false) p1.op p1.born p1.epoch (0 : Int) (0 : Int) p1.code [] []), (Bool.false, ()))
                else
                  some ((Msg.mk p1.kind p1.pair Bool.false (Rec.mk (0 : Int) (0 : Int) (0 : Int) (0 : Int) (0 : Int) (0 : Int) Bool.false Bool.false) p1.op p1.born p1.epoch (0 : Int) (0 : Int) p1.code [] []), (Bool.false, ()))
              else
                some ((Msg.mk p1.kind p1.pair Bool.false (Rec.mk (0 : Int) (0 : Int) (0 : Int) (0 : Int) (0 : Int) (0 : Int) Bool.false Bool.false) p1.op p1.born p1.epoch (0 : Int) (0 : Int) p1.code [] []), (Bool.false, ()))
            else
              some ((Msg.mk p1.kind p1.pair Bool.false (Rec.mk (0 : Int) (0 : Int) (0 : Int) (0 : Int) (0 : Int) (0 : Int) Bool.false Bool.false) p1.op p1.born p1.epoch (0 : Int) (0 : Int) p1.code [] []), (Bool.false, ()))
          else
            if (p1.kind == (5 : Int)) then
              if (decide (p1.epoch > (0 : Int))) then
                some ((Msg.mk p1.kind p1.pair Bool.false (Rec.mk (0 : Int) (0 : Int) (0 : Int) (0 : Int) (0 : Int) (0 : Int) Bool.false Bool.false) (0 : Int) p1.born p1.epoch p1.track p1.n (0 : Int) [] p1.bytes), (((((List.length p1.bytes) : Nat) : Int) == (28 : Int)), ()))
              else
                some ((Msg.mk p1.kind p1.pair Bool.false (Rec.mk (0 : Int) (0 : Int) (0 : Int) (0 : Int) (0 : Int) (0 : Int) Bool.false Bool.false) (0 : Int) p1.born p1.epoch p1.track p1.n (0 : Int) [] p1.bytes), (Bool.false, ()))
            else
              if (p1.kind == (6 : Int)) then
                some ((Msg.mk p1.kind p1.pair Bool.false (Rec.mk (0 : Int) (0 : Int) (0 : Int) (0 : Int) (0 : Int) (0 : Int) Bool.false Bool.false) (0 : Int) p1.born p1.epoch (0 : Int) p1.n (0 : Int) [] []), ((decide (p1.epoch > (0 : Int))), ()))
              else
                if (p1.kind == (7 : Int)) then
                  some ((Msg.mk p1.kind p1.pair Bool.false (Rec.mk (0 : Int) (0 : Int) (0 : Int) (0 : Int) (0 : Int) (0 : Int) Bool.false Bool.false) (0 : Int) p1.born p1.epoch (0 : Int) (0 : Int) (0 : Int) [] []), ((decide (p1.epoch > (0 : Int))), ()))
                else
                  if (p1.kind == (8 : Int)) then
                    some ((Msg.mk p1.kind p1.pair Bool.false (Rec.mk (0 : Int) (0 : Int) (0 : Int) (0 : Int) (0 : Int) (0 : Int) Bool.false Bool.false) (0 : Int) p1.born p1.epoch p1.track (0 : Int) (0 : Int) [] []), ((decide (p1.epoch > (0 : Int))), ()))
                  else
                    some ((Msg.mk p1.kind p1.pair Bool.false (Rec.mk (0 : Int) (0 : Int) (0 : Int) (0 : Int) (0 : Int) (0 : Int) Bool.false Bool.false) (0 : Int) p1.born p1.epoch (0 : Int) (0 : Int) (0 : Int) [] []), (Bool.false, ()))
  else
    if (p1.kind == (1 : Int)) then
      if (!p1.has) then
        some ((Msg.mk p1.kind p1.pair Bool.false (Rec.mk (0 : Int) (0 : Int) (0 : Int) (0 : Int) (0 : Int) (0 : Int) Bool.false Bool.false) (0 : Int) (0 : Int) (0 : Int) (0 : Int) (0 : Int) (0 : Int) [] []), (Bool.true, ()))
      else
        Option.bind (N_rec_Check (p1.rec_, ())) fun r1 =>
          if (r1.1 == (0 : Int)) then
            if (p1.rec_.pair == p1.pair) then
              Option.bind (N_msg_marks (p1.marks, ())) fun r2 =>
                some ((Msg.mk p1.kind p1.pair Bool.true p1.rec_ (0 : Int) (0 : Int) (0 : Int) (0 : Int) (0 : Int) (0 : Int) p1.marks []), (r2.1, ()))
            else
              some ((Msg.mk p1.kind p1.pair Bool.true p1.rec_ (0 : Int) (0 : Int) (0 : Int) (0 : Int) (0 : Int) (0 : Int) p1.marks []), (Bool.false, ()))
          else
            some ((Msg.mk p1.kind p1.pair Bool.true p1.rec_ (0 : Int) (0 : Int) (0 : Int) (0 : Int) (0 : Int) (0 : Int) p1.marks []), (Bool.false, ()))
    else
      if (p1.kind == (2 : Int)) then
        some ((Msg.mk p1.kind p1.pair Bool.false (Rec.mk (0 : Int) (0 : Int) (0 : Int) (0 : Int) (0 : Int) (0 : Int) Bool.false Bool.false) p1.op p1.born p1.epoch (0 : Int) (0 : Int) (0 : Int) p1.marks []), (Bool.false, ()))
      else
        if (p1.kind == (3 : Int)) then
          some ((Msg.mk p1.kind p1.pair Bool.false (Rec.mk (0 : Int) (0 : Int) (0 : Int) (0 : Int) (0 : Int) (0 : Int) Bool.false Bool.false) p1.op p1.born p1.epoch (0 : Int) (0 : Int) (0 : Int) p1.marks []), (Bool.false, ()))
        else
          if (p1.kind == (4 : Int)) then
            some ((Msg.mk p1.kind p1.pair Bool.false (Rec.mk (0 : Int) (0 : Int) (0 : Int) (0 : Int) (0 : Int) (0 : Int) Bool.false Bool.false) p1.op p1.born p1.epoch (0 : Int) (0 : Int) p1.code [] []), (Bool.false, ()))
          else
            if (p1.kind == (5 : Int)) then
              some ((Msg.mk p1.kind p1.pair Bool.false (Rec.mk (0 : Int) (0 : Int) (0 : Int) (0 : Int) (0 : Int) (0 : Int) Bool.false Bool.false) (0 : Int) p1.born p1.epoch p1.track p1.n (0 : Int) [] p1.bytes), (Bool.false, ()))
            else
              if (p1.kind == (6 : Int)) then
                some ((Msg.mk p1.kind p1.pair Bool.false (Rec.mk (0 : Int) (0 : Int) (0 : Int) (0 : Int) (0 : Int) (0 : Int) Bool.false Bool.false) (0 : Int) p1.born p1.epoch (0 : Int) p1.n (0 : Int) [] []), (Bool.false, ()))
              else
                if (p1.kind == (7 : Int)) then
                  some ((Msg.mk p1.kind p1.pair Bool.false (Rec.mk (0 : Int) (0 : Int) (0 : Int) (0 : Int) (0 : Int) (0 : Int) Bool.false Bool.false) (0 : Int) p1.born p1.epoch (0 : Int) (0 : Int) (0 : Int) [] []), (Bool.false, ()))
                else
                  if (p1.kind == (8 : Int)) then
                    some ((Msg.mk p1.kind p1.pair Bool.false (Rec.mk (0 : Int) (0 : Int) (0 : Int) (0 : Int) (0 : Int) (0 : Int) Bool.false Bool.false) (0 : Int) p1.born p1.epoch p1.track (0 : Int) (0 : Int) [] []), (Bool.false, ()))
                  else
                    some ((Msg.mk p1.kind p1.pair Bool.false (Rec.mk (0 : Int) (0 : Int) (0 : Int) (0 : Int) (0 : Int) (0 : Int) Bool.false Bool.false) (0 : Int) p1.born p1.epoch (0 : Int) (0 : Int) (0 : Int) [] []), (Bool.false, ()))
noncomputable def D_msg_Same (p1 : Msg) (p2 : Msg) : Option (Bool × Unit) :=
  Option.bind (N_msg_of (p1, ())) fun r2 =>
    Option.bind (N_msg_of (p2, ())) fun r3 =>
      if ((r2.1.kind == r3.1.kind) && ((r2.1.op == r3.1.op) && ((r2.1.pair == r3.1.pair) && ((r2.1.track == r3.1.track) && ((r2.1.has == r3.1.has) && (((r2.1.rec_.pair == r3.1.rec_.pair) && ((r2.1.rec_.born == r3.1.rec_.born) && ((r2.1.rec_.epoch == r3.1.rec_.epoch) && ((r2.1.rec_.lead == r3.1.rec_.lead) && ((r2.1.rec_.phase == r3.1.rec_.phase) && ((r2.1.rec_.from_ == r3.1.rec_.from_) && ((r2.1.rec_.quick == r3.1.rec_.quick) && ((r2.1.rec_.alone == r3.1.rec_.alone) && Bool.true)))))))) && ((r2.1.born == r3.1.born) && ((r2.1.epoch == r3.1.epoch) && ((r2.1.num == r3.1.num) && ((r2.1.code == r3.1.code) && Bool.true)))))))))) then
        Option.bind (N_bytes_Equal (p1.marks, (p2.marks, ()))) fun r4 =>
          if r4.1 then
            Option.bind (N_bytes_Equal (p1.bytes, (p2.bytes, ()))) fun r5 =>
              some (r5.1, ())
          else
            some (Bool.false, ())
      else
        some (Bool.false, ())
noncomputable def D_disk_none  : Option ((List Int) × Unit) :=
  if (decide (((0 : Int) ≤ (32 : Int)) ∧ (((32 : Int) ≤ (32 : Int)) ∧ ((32 : Int) ≤ ((big : Nat) : Int))))) then
  some ((List.replicate (Int.toNat (32 : Int)) (0 : Int)), ())
  else none
noncomputable def D_bytes_Equal (p1 : (List Int)) (p2 : (List Int)) : Option (Bool × Unit) :=
  some ((p1 == p2), ())
noncomputable def D_disk_sized_l1  (l1 : ((List (List Int)) × (Int × (Int × Unit)))) : Option (((List (List Int)) × (Int × (Int × Unit))) ⊕ (Bool × Unit)) :=
    if (decide (l1.2.2.1 < l1.2.1)) then
    if (decide (((0 : Int) ≤ l1.2.2.1) ∧ (l1.2.2.1 < (((List.length l1.1) : Nat) : Int)))) then
    if ((((List.length (nth l1.1 (Int.toNat l1.2.2.1))) : Nat) : Int) != (32 : Int)) then
      some (Sum.inr ((!(decide (l1.2.2.1 ≥ (0 : Int)))), ()))
    else
      some (Sum.inl (l1.1, (l1.2.1, ((IntKind.wrap IntKind.i64 (l1.2.2.1 + (1 : Int))), ()))))
    else none
  else
    some (Sum.inr ((!(decide ((-(1 : Int)) ≥ (0 : Int)))), ()))
noncomputable def D_disk_sized (p1 : (List (List Int))) : Option (Bool × Unit) :=
  loopO (D_disk_sized_l1 ) (p1, ((((List.length p1) : Nat) : Int), ((0 : Int), ())))
noncomputable def D_rec_site_l1  (l1 : ((List Int) × (Int × (Int × Unit)))) : Option (((List Int) × (Int × (Int × Unit))) ⊕ (Bool × Unit)) :=
    if (decide (l1.2.2.1 < l1.2.1)) then
    if (decide (((0 : Int) ≤ l1.2.2.1) ∧ (l1.2.2.1 < (((List.length l1.1) : Nat) : Int)))) then
    if ((nth l1.1 (Int.toNat l1.2.2.1)) != (0 : Int)) then
      if ((nth l1.1 (Int.toNat l1.2.2.1)) != (1 : Int)) then
        some (Sum.inr ((!(decide (l1.2.2.1 ≥ (0 : Int)))), ()))
      else
        some (Sum.inl (l1.1, (l1.2.1, ((IntKind.wrap IntKind.i64 (l1.2.2.1 + (1 : Int))), ()))))
    else
      some (Sum.inl (l1.1, (l1.2.1, ((IntKind.wrap IntKind.i64 (l1.2.2.1 + (1 : Int))), ()))))
    else none
  else
    some (Sum.inr ((!(decide ((-(1 : Int)) ≥ (0 : Int)))), ()))
noncomputable def D_rec_site (p1 : (List Int)) : Option (Bool × Unit) :=
  loopO (D_rec_site_l1 ) (p1, ((((List.length p1) : Nat) : Int), ((0 : Int), ())))
noncomputable def D_ref07_Many (p1 : Config) : Option (Int × Unit) :=
  if (decide (p1.tracks > (8 : Int))) then
    some ((2 : Int), ())
  else
    some ((1 : Int), ())
noncomputable def D_ref07_first (p1 : Config) : Option (Int × (Int × (Int × (Int × Unit)))) :=
  Option.bind (N_ref07_Many (p1, ())) fun r1 =>
    some ((2 : Int), ((IntKind.wrap IntKind.i64 ((2 : Int) + (IntKind.wrap IntKind.i64 ((2 : Int) * p1.area)))), ((IntKind.wrap IntKind.i64 ((IntKind.wrap IntKind.i64 ((2 : Int) + (IntKind.wrap IntKind.i64 ((2 : Int) * p1.area)))) + (IntKind.wrap IntKind.i64 (p1.pairs * r1.1)))), ((IntKind.wrap IntKind.i64 ((IntKind.wrap IntKind.i64 ((IntKind.wrap IntKind.i64 ((2 : Int) + (IntKind.wrap IntKind.i64 ((2 : Int) * p1.area)))) + (IntKind.wrap IntKind.i64 (p1.pairs * r1.1)))) + (IntKind.wrap IntKind.i64 ((IntKind.wrap IntKind.i64 ((4 : Int) * p1.pairs)) * p1.tracks)))), ()))))
noncomputable def D_msg_marks (p1 : (List Int)) : Option (Bool × Unit) :=
  if ((((List.length p1) : Nat) : Int) == (1 : Int)) then
    some (Bool.true, ())
  else
    some (((((List.length p1) : Nat) : Int) == (2 : Int)), ())
noncomputable def D_msg_of (p1 : Msg) : Option (Plain × Unit) :=
  some ((Plain.mk p1.kind p1.op p1.pair p1.track p1.has p1.rec_ p1.born p1.epoch p1.n p1.code), ())
noncomputable def D_rec_sizes  : Option ((List Int) × Unit) :=
  some (((1 : Int) :: ((1 : Int) :: ((4 : Int) :: ((4 : Int) :: ((1 : Int) :: ((1 : Int) :: ((1 : Int) :: ((1 : Int) :: [])))))))), ())
noncomputable def D_ring_round_byte_at (p1 : Round) (p2 : Int) : Option (Int × Unit) :=
  if ((((List.length p1.all) : Nat) : Int) != (0 : Int)) then
  some ((Int.tmod (IntKind.wrap IntKind.i64 (p1.from_ + p2)) (((List.length p1.all) : Nat) : Int)), ())
  else none
noncomputable def D_place_pages (p1 : Config) : Option (Int × Unit) :=
  if ((8 : Int) != (0 : Int)) then
  some ((IntKind.wrap IntKind.i64 (Int.tdiv (IntKind.wrap IntKind.i64 ((IntKind.wrap IntKind.i64 (p1.tracks + (8 : Int))) - (1 : Int))) (8 : Int))), ())
  else none
noncomputable def D_act_limits_message (p1 : Config) (p2 : Msg) : Option (Bool × Unit) :=
  Option.bind (N_msg_Check (p2, ())) fun r2 =>
    if (r2.1 == (0 : Int)) then
      Option.bind (N_act_limits_pair (p1, (p2.pair, ()))) fun r3 =>
        some (r3.1, ())
    else
      some (Bool.false, ())
noncomputable def D_act_limits_pair (p1 : Config) (p2 : Int) : Option (Bool × Unit) :=
  if (decide (p2 ≥ (0 : Int))) then
    some ((decide (p2 < p1.pairs)), ())
  else
    some (Bool.false, ())
noncomputable def D_place_part_size (p1 : Part) : Option (Int × Unit) :=
  some ((IntKind.wrap IntKind.i64 ((IntKind.wrap IntKind.i64 (p1.owners * p1.many)) * p1.own)), ())
noncomputable def D_ref21_pair (p1 : Config) (p2 : Int) : Option (Bool × Unit) :=
  if (decide (p2 ≥ (0 : Int))) then
    some ((decide (p2 < p1.pairs)), ())
  else
    some (Bool.false, ())
noncomputable def D_ref21_there (p1 : Config) (p2 : Int) : Option (Bool × Unit) :=
  if (decide (p2 ≥ (0 : Int))) then
    some ((decide (p2 < p1.tracks)), ())
  else
    some (Bool.false, ())
noncomputable def D_ref07_in (p1 : Int) (p2 : Int) (p3 : Int) : Option (Bool × Unit) :=
  if (decide (p1 ≥ p2)) then
    some ((decide (p1 ≤ p3)), ())
  else
    some (Bool.false, ())
noncomputable def D_bits_All_t1 (p1 : Int) (l1 : ((List Int) × (Int × Unit))) : Option ((List Int) × (Int × Unit)) :=
    if ((8 : Int) != (0 : Int)) then
  if (decide ((Int.tmod p1 (8 : Int)) > (0 : Int))) then
    if (decide ((0 : Int) ≤ (Int.tmod p1 (8 : Int)))) then
    if (decide (((0 : Int) ≤ (IntKind.wrap IntKind.i64 ((((List.length l1.1) : Nat) : Int) - (1 : Int)))) ∧ ((IntKind.wrap IntKind.i64 ((((List.length l1.1) : Nat) : Int) - (1 : Int))) < (((List.length l1.1) : Nat) : Int)))) then
    some ((List.set l1.1 (Int.toNat (IntKind.wrap IntKind.i64 ((((List.length l1.1) : Nat) : Int) - (1 : Int)))) (IntKind.wrap IntKind.u8 ((shlI IntKind.u8 (1 : Int) (Int.tmod p1 (8 : Int))) - (1 : Int)))), ((0 : Int), ()))
    else none
    else none
  else
    some (l1.1, ((0 : Int), ()))
  else none
noncomputable def D_bits_All_l2 (p1 : Int) (l1 : ((List Int) × (Int × Unit))) : Option (((List Int) × (Int × Unit)) ⊕ ((List Int) × (Int × Unit))) :=
    if (decide (l1.2.1 < (((List.length l1.1) : Nat) : Int))) then
    if (decide (((0 : Int) ≤ l1.2.1) ∧ ((l1.2.1 ≤ (((List.length l1.1) : Nat) : Int)) ∧ (((((List.length l1.1) : Nat) : Int) ≤ (((List.length l1.1) : Nat) : Int)) ∧ ((((List.length l1.1) : Nat) : Int) ≤ (((List.length l1.1) : Nat) : Int)))))) then
    if (decide (((0 : Int) ≤ (0 : Int)) ∧ (((0 : Int) ≤ l1.2.1) ∧ ((l1.2.1 ≤ (((List.length l1.1) : Nat) : Int)) ∧ ((((List.length l1.1) : Nat) : Int) ≤ (((List.length l1.1) : Nat) : Int)))))) then
    some (Sum.inl ((((List.take (Int.toNat l1.2.1) l1.1) ++ (List.take ((Int.toNat (((List.length l1.1) : Nat) : Int)) - (Int.toNat l1.2.1)) (List.take ((Int.toNat l1.2.1) - (Int.toNat (0 : Int))) (List.drop (Int.toNat (0 : Int)) l1.1)))) ++ (List.drop ((Int.toNat l1.2.1) + (min (List.length (List.take ((Int.toNat l1.2.1) - (Int.toNat (0 : Int))) (List.drop (Int.toNat (0 : Int)) l1.1))) ((Int.toNat (((List.length l1.1) : Nat) : Int)) - (Int.toNat l1.2.1)))) l1.1)), ((IntKind.wrap IntKind.i64 (l1.2.1 + (((min (List.length (List.take ((Int.toNat l1.2.1) - (Int.toNat (0 : Int))) (List.drop (Int.toNat (0 : Int)) l1.1))) ((Int.toNat (((List.length l1.1) : Nat) : Int)) - (Int.toNat l1.2.1))) : Nat) : Int))), ())))
    else none
    else none
  else
    Option.map Sum.inr (D_bits_All_t1 p1 l1)
noncomputable def D_bits_All (p1 : Int) : Option ((List Int) × (Int × Unit)) :=
  if (decide (p1 ≥ (1 : Int))) then
    if (!(decide (p1 ≤ (16 : Int)))) then
      some ([], ((2 : Int), ()))
    else
      if ((8 : Int) != (0 : Int)) then
      if (decide ((IntKind.wrap IntKind.i64 (Int.tdiv (IntKind.wrap IntKind.i64 ((IntKind.wrap IntKind.i64 (p1 + (8 : Int))) - (1 : Int))) (8 : Int))) < (0 : Int))) then
        none
      else
        if (decide ((0 : Int) ≤ (32 : Int))) then
        if (decide ((0 : Int) ≤ (32 : Int))) then
        if (decide ((0 : Int) ≤ (32 : Int))) then
        if (decide ((0 : Int) ≤ (32 : Int))) then
        if (decide ((0 : Int) ≤ (32 : Int))) then
        if (decide ((IntKind.wrap IntKind.u64 ((IntKind.wrap IntKind.u64 ((IntKind.wrap IntKind.u64 ((shrI IntKind.u64 (IntKind.wrap IntKind.u64 (((List.length ((255 : Int) :: [])) : Nat) : Int)) (32 : Int)) * (shrI IntKind.u64 (IntKind.wrap IntKind.u64 (IntKind.wrap IntKind.i64 (Int.tdiv (IntKind.wrap IntKind.i64 ((IntKind.wrap IntKind.i64 (p1 + (8 : Int))) - (1 : Int))) (8 : Int)))) (32 : Int)))) + (shrI IntKind.u64 (IntKind.wrap IntKind.u64 ((IntKind.wrap IntKind.u64 ((shrI IntKind.u64 (IntKind.wrap IntKind.u64 (((List.length ((255 : Int) :: [])) : Nat) : Int)) (32 : Int)) * (ibits BinOp.and IntKind.u64 (IntKind.wrap IntKind.u64 (IntKind.wrap IntKind.i64 (Int.tdiv (IntKind.wrap IntKind.i64 ((IntKind.wrap IntKind.i64 (p1 + (8 : Int))) - (1 : Int))) (8 : Int)))) (4294967295 : Int)))) + (shrI IntKind.u64 (IntKind.wrap IntKind.u64 ((ibits BinOp.and IntKind.u64 (IntKind.wrap IntKind.u64 (((List.length ((255 : Int) :: [])) : Nat) : Int)) (4294967295 : Int)) * (ibits BinOp.and IntKind.u64 (IntKind.wrap IntKind.u64 (IntKind.wrap IntKind.i64 (Int.tdiv (IntKind.wrap IntKind.i64 ((IntKind.wrap IntKind.i64 (p1 + (8 : Int))) - (1 : Int))) (8 : Int)))) (4294967295 : Int)))) (32 : Int)))) (32 : Int)))) + (shrI IntKind.u64 (IntKind.wrap IntKind.u64 ((ibits BinOp.and IntKind.u64 (IntKind.wrap IntKind.u64 ((IntKind.wrap IntKind.u64 ((shrI IntKind.u64 (IntKind.wrap IntKind.u64 (((List.length ((255 : Int) :: [])) : Nat) : Int)) (32 : Int)) * (ibits BinOp.and IntKind.u64 (IntKind.wrap IntKind.u64 (IntKind.wrap IntKind.i64 (Int.tdiv (IntKind.wrap IntKind.i64 ((IntKind.wrap IntKind.i64 (p1 + (8 : Int))) - (1 : Int))) (8 : Int)))) (4294967295 : Int)))) + (shrI IntKind.u64 (IntKind.wrap IntKind.u64 ((ibits BinOp.and IntKind.u64 (IntKind.wrap IntKind.u64 (((List.length ((255 : Int) :: [])) : Nat) : Int)) (4294967295 : Int)) * (ibits BinOp.and IntKind.u64 (IntKind.wrap IntKind.u64 (IntKind.wrap IntKind.i64 (Int.tdiv (IntKind.wrap IntKind.i64 ((IntKind.wrap IntKind.i64 (p1 + (8 : Int))) - (1 : Int))) (8 : Int)))) (4294967295 : Int)))) (32 : Int)))) (4294967295 : Int)) + (IntKind.wrap IntKind.u64 ((ibits BinOp.and IntKind.u64 (IntKind.wrap IntKind.u64 (((List.length ((255 : Int) :: [])) : Nat) : Int)) (4294967295 : Int)) * (shrI IntKind.u64 (IntKind.wrap IntKind.u64 (IntKind.wrap IntKind.i64 (Int.tdiv (IntKind.wrap IntKind.i64 ((IntKind.wrap IntKind.i64 (p1 + (8 : Int))) - (1 : Int))) (8 : Int)))) (32 : Int)))))) (32 : Int)))) > (0 : Int))) then
          none
        else
          if (decide ((IntKind.wrap IntKind.u64 ((IntKind.wrap IntKind.u64 (((List.length ((255 : Int) :: [])) : Nat) : Int)) * (IntKind.wrap IntKind.u64 (IntKind.wrap IntKind.i64 (Int.tdiv (IntKind.wrap IntKind.i64 ((IntKind.wrap IntKind.i64 (p1 + (8 : Int))) - (1 : Int))) (8 : Int)))))) > (9223372036854775807 : Int))) then
            none
          else
            if (decide (((0 : Int) ≤ (IntKind.wrap IntKind.i64 (IntKind.wrap IntKind.u64 ((IntKind.wrap IntKind.u64 (((List.length ((255 : Int) :: [])) : Nat) : Int)) * (IntKind.wrap IntKind.u64 (IntKind.wrap IntKind.i64 (Int.tdiv (IntKind.wrap IntKind.i64 ((IntKind.wrap IntKind.i64 (p1 + (8 : Int))) - (1 : Int))) (8 : Int)))))))) ∧ (((IntKind.wrap IntKind.i64 (IntKind.wrap IntKind.u64 ((IntKind.wrap IntKind.u64 (((List.length ((255 : Int) :: [])) : Nat) : Int)) * (IntKind.wrap IntKind.u64 (IntKind.wrap IntKind.i64 (Int.tdiv (IntKind.wrap IntKind.i64 ((IntKind.wrap IntKind.i64 (p1 + (8 : Int))) - (1 : Int))) (8 : Int))))))) ≤ (IntKind.wrap IntKind.i64 (IntKind.wrap IntKind.u64 ((IntKind.wrap IntKind.u64 (((List.length ((255 : Int) :: [])) : Nat) : Int)) * (IntKind.wrap IntKind.u64 (IntKind.wrap IntKind.i64 (Int.tdiv (IntKind.wrap IntKind.i64 ((IntKind.wrap IntKind.i64 (p1 + (8 : Int))) - (1 : Int))) (8 : Int)))))))) ∧ ((IntKind.wrap IntKind.i64 (IntKind.wrap IntKind.u64 ((IntKind.wrap IntKind.u64 (((List.length ((255 : Int) :: [])) : Nat) : Int)) * (IntKind.wrap IntKind.u64 (IntKind.wrap IntKind.i64 (Int.tdiv (IntKind.wrap IntKind.i64 ((IntKind.wrap IntKind.i64 (p1 + (8 : Int))) - (1 : Int))) (8 : Int))))))) ≤ ((big : Nat) : Int))))) then
            loopO (D_bits_All_l2 p1) (((List.take (List.length (List.replicate (Int.toNat (IntKind.wrap IntKind.i64 (IntKind.wrap IntKind.u64 ((IntKind.wrap IntKind.u64 (((List.length ((255 : Int) :: [])) : Nat) : Int)) * (IntKind.wrap IntKind.u64 (IntKind.wrap IntKind.i64 (Int.tdiv (IntKind.wrap IntKind.i64 ((IntKind.wrap IntKind.i64 (p1 + (8 : Int))) - (1 : Int))) (8 : Int)))))))) (0 : Int))) ((255 : Int) :: [])) ++ (List.drop (min (List.length ((255 : Int) :: [])) (List.length (List.replicate (Int.toNat (IntKind.wrap IntKind.i64 (IntKind.wrap IntKind.u64 ((IntKind.wrap IntKind.u64 (((List.length ((255 : Int) :: [])) : Nat) : Int)) * (IntKind.wrap IntKind.u64 (IntKind.wrap IntKind.i64 (Int.tdiv (IntKind.wrap IntKind.i64 ((IntKind.wrap IntKind.i64 (p1 + (8 : Int))) - (1 : Int))) (8 : Int)))))))) (0 : Int)))) (List.replicate (Int.toNat (IntKind.wrap IntKind.i64 (IntKind.wrap IntKind.u64 ((IntKind.wrap IntKind.u64 (((List.length ((255 : Int) :: [])) : Nat) : Int)) * (IntKind.wrap IntKind.u64 (IntKind.wrap IntKind.i64 (Int.tdiv (IntKind.wrap IntKind.i64 ((IntKind.wrap IntKind.i64 (p1 + (8 : Int))) - (1 : Int))) (8 : Int)))))))) (0 : Int)))), ((((min (List.length ((255 : Int) :: [])) (List.length (List.replicate (Int.toNat (IntKind.wrap IntKind.i64 (IntKind.wrap IntKind.u64 ((IntKind.wrap IntKind.u64 (((List.length ((255 : Int) :: [])) : Nat) : Int)) * (IntKind.wrap IntKind.u64 (IntKind.wrap IntKind.i64 (Int.tdiv (IntKind.wrap IntKind.i64 ((IntKind.wrap IntKind.i64 (p1 + (8 : Int))) - (1 : Int))) (8 : Int)))))))) (0 : Int)))) : Nat) : Int), ()))
            else none
        else none
        else none
        else none
        else none
        else none
      else none
  else
    some ([], ((2 : Int), ()))
end Go.Cat
