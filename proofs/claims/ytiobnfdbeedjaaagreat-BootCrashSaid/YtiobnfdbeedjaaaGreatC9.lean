/-
  CatQ: the contracts' plain side: where a contract tells an answer, the function's meaning is that answer.
  What this seat's program tells of types and functions (written by mkfull.py, my own).
  Contracts of functions (written by mkfull.py, my own).
  Contracts of functions (written by mkfull.py, my own).
  The ring's iterator, by hand.
-/
import Derived.Test.YtiobnfdbeedjaaaGreatC8
import Derived.Test.YtiobnfdbeedjaaaGreatProg
import Derived.Test.YtiobnfdbeedjaaaGreatC5
import Derived.KernelRfl
import Derived.RangeFuncNested
import Derived.RangeFuncBound
import Derived.RangeFuncCalls
import Derived.RangeFuncLeaves
import Derived.Shelf.Abstract
import Derived.Shelf.RegionOpen
import Derived.WalkKit
import Derived.OwnWalkIn
import Derived.TacticsInMore
import Derived.LoopNIn
import Derived.LoopIn
set_option linter.unusedVariables false
set_option linter.unusedSimpArgs false
namespace Go.Cat
open Go

theorem ite_some {c : Prop} [Decidable c] {α : Type} {a : Option α} {r : α} (h : (if c then a else none) = some r) : c := by
  by_cases hc : c
  · exact hc
  · simp [hc] at h
theorem ite_some2 {c : Prop} [Decidable c] {α : Type} {a : Option α} {r : α} (h : (if c then none else a) = some r) : ¬ c := by
  intro hc
  simp [hc] at h

theorem okSl {e : EN} {l : List (T e)} (h : OkT (.sl e) l) : l.length ≤ maxLen := (okT_sl h).1
theorem okU8 {l : List Int} (h : OkT (.sl (.int .u8)) l) : ∀ x ∈ l, 0 ≤ x ∧ x ≤ 255 := by
  intro x hx
  have := (okT_sl (e := .int .u8) h).2 x hx
  exact okL_u8 (this (.int .u8 x) (List.mem_singleton.2 rfl))
theorem okDisk {d : Disk} (h : OkT (.st .Disk) d) : d.sectors.length ≤ maxLen ∧ d.cache.length ≤ maxLen :=
  ⟨okL_len (e := .st .Sector) (h (.sl (.st .Sector) d.sectors) (by simp [cells, stCells])), okL_len (e := .st .Pend) (h (.sl (.st .Pend) d.cache) (by simp [cells, stCells]))⟩
theorem okSide {x : Side} (h : OkT (.st .Side) x) : x.out.length ≤ maxLen ∧ x.waits.length ≤ maxLen :=
  ⟨okL_len (e := .st .Sent) (h (.sl (.st .Sent) x.out) (by simp [cells, stCells])), okL_len (e := .st .Wait) (h (.sl (.st .Wait) x.waits) (by simp [cells, stCells]))⟩
theorem okRec {r : Rec} (h : OkT (.st .Rec) r) : RecR r :=
  ⟨okL_u32 (h (.int .u32 r.born) (by simp [cells, stCells])), okL_u32 (h (.int .u32 r.epoch) (by simp [cells, stCells]))⟩
theorem okMsg {m : Msg} (h : OkT (.st .Msg) m) : MsgR m :=
  ⟨(okL_u32 (h (.int .u32 m.born) (by simp [cells, stCells]))).1, (okL_u32 (h (.int .u32 m.epoch) (by simp [cells, stCells]))).1⟩

structure SiteR (s : Site) : Prop where
  sides : s.sides.length ≤ maxLen
  plan : s.plan.length ≤ maxLen
  mail : s.mail.length ≤ maxLen
  asks : s.asks.length ≤ maxLen
  replies : s.replies.length ≤ maxLen
  syncs : s.syncs.length ≤ maxLen
  kinds : ∀ m ∈ s.mail, 0 ≤ m.kind

theorem okSite {s : Site} (h : OkT (.st .Site) s) : SiteR s := by
  have hm : OkL (.sl (.st .Mail) s.mail) := h _ (by simp [cells, stCells])
  refine ⟨okL_len (e := .st .Side) (h (.sl (.st .Side) s.sides) (by simp [cells, stCells])), okL_len (e := .st .Act) (h (.sl (.st .Act) s.plan) (by simp [cells, stCells])), okL_len hm, okL_len (e := .st .Ask) (h (.sl (.st .Ask) s.asks) (by simp [cells, stCells])),
    okL_len (e := .st .Reply) (h (.sl (.st .Reply) s.replies) (by simp [cells, stCells])), okL_len (e := .int .i64) (h (.sl (.int .i64) s.syncs) (by simp [cells, stCells])), fun m hmm => ?_⟩
  have := okL_elem hm hmm
  exact (okL_u8 (this (.int .u8 m.kind) (by simp [cells, stCells]))).1

theorem Q_ref21_Great (x : TT [(.st .Site)]) (r : TT [.bool]) (h : OkTT [(.st .Site)] x) (hn : N_ref21_Great x = some r) : D_ref21_Great x.1 = some r := (P_ref21_Great x.1).trans hn
theorem Q_ref05_Great (x : TT [(.st .Disk), (.int .i64)]) (r : TT [.bool]) (h : OkTT [(.st .Disk), (.int .i64)] x) (hn : N_ref05_Great x = some r) : D_ref05_Great x.1 x.2.1 = some r := (P_ref05_Great x.1 x.2.1 (ite_some hn)).trans hn
theorem Q_ref21_greatWords (x : TT [(.st .Site)]) (r : TT [.bool]) (h : OkTT [(.st .Site)] x) (hn : N_ref21_greatWords x = some r) : D_ref21_greatWords x.1 = some r := (P_ref21_greatWords x.1 (okSite h.1).asks (okSite h.1).replies).trans hn
theorem Q_ref21_Twin (x : TT [(.st .Site)]) (r : TT [(.st .Site)]) (h : OkTT [(.st .Site)] x) (hn : N_ref21_Twin x = some r) : D_ref21_Twin x.1 = some r := (P_ref21_Twin x.1 (ite_some hn)).trans hn
theorem Q_ref05_Twin (x : TT [(.st .Disk)]) (r : TT [(.st .Disk)]) (h : OkTT [(.st .Disk)] x) (hn : N_ref05_Twin x = some r) : D_ref05_Twin x.1 = some r := (P_ref05_Twin x.1 (ite_some hn)).trans hn
theorem Q_ref12_Twin (x : TT [(.st .Meta)]) (r : TT [(.st .Meta)]) (h : OkTT [(.st .Meta)] x) (hn : N_ref12_Twin x = some r) : D_ref12_Twin x.1 = some r := (P_ref12_Twin x.1 (ite_some hn)).trans hn
theorem Q_ref17_Twin (x : TT [(.st .End)]) (r : TT [(.st .End)]) (h : OkTT [(.st .End)] x) (hn : N_ref17_Twin x = some r) : D_ref17_Twin x.1 = some r := (P_ref17_Twin x.1 (ite_some hn)).trans hn
theorem Q_ref04_TwinAll (x : TT [(.sl (.sl (.int .u8)))]) (r : TT [(.sl (.sl (.int .u8)))]) (h : OkTT [(.sl (.sl (.int .u8)))] x) (hn : N_ref04_TwinAll x = some r) : D_ref04_TwinAll x.1 = some r := (P_ref04_TwinAll x.1 (ite_some hn)).trans hn
theorem Q_ref21_TwinSide (x : TT [(.st .Side)]) (r : TT [(.st .Side)]) (h : OkTT [(.st .Side)] x) (hn : N_ref21_TwinSide x = some r) : D_ref21_TwinSide x.1 = some r := (P_ref21_TwinSide x.1 (ite_some hn)).trans hn
theorem Q_ref21_bytes (x : TT [(.sl (.int .u8))]) (r : TT [(.sl (.int .u8))]) (h : OkTT [(.sl (.int .u8))] x) (hn : N_ref21_bytes x = some r) : D_ref21_bytes x.1 = some r := (P_ref21_bytes x.1 (ite_some hn)).trans hn
theorem Q_ref20_Twin (x : TT [(.st .Msg)]) (r : TT [(.st .Msg)]) (h : OkTT [(.st .Msg)] x) (hn : N_ref20_Twin x = some r) : D_ref20_Twin x.1 = some r := (P_ref20_Twin x.1 (ite_some hn)).trans hn
theorem Q_ref05_Same (x : TT [(.st .Disk), (.st .Disk)]) (r : TT [.bool]) (h : OkTT [(.st .Disk), (.st .Disk)] x) (hn : N_ref05_Same x = some r) : D_ref05_Same x.1 x.2.1 = some r := by
  obtain ⟨a, b, _⟩ := x
  have e : a = b := ite_some hn
  subst e
  have e2 : b1 true = some r := (if_pos rfl).symm.trans hn
  exact (P_ref05_Same a (okDisk h.1).1 (okDisk h.1).2).trans e2
theorem Q_ref21_Same (x : TT [(.st .Site), (.st .Site)]) (r : TT [.bool]) (h : OkTT [(.st .Site), (.st .Site)] x) (hn : N_ref21_Same x = some r) : D_ref21_Same x.1 x.2.1 = some r := by
  obtain ⟨a, b, _⟩ := x
  have e : a = b := ite_some hn
  subst e
  have e2 : b1 true = some r := (if_pos rfl).symm.trans hn
  exact (P_ref21_Same a (okSite h.1).sides (okSite h.1).syncs).trans e2
theorem Q_ref21_SameSide (x : TT [(.st .Side), (.st .Side)]) (r : TT [.bool]) (h : OkTT [(.st .Side), (.st .Side)] x) (hn : N_ref21_SameSide x = some r) : D_ref21_SameSide x.1 x.2.1 = some r := by
  obtain ⟨a, b, _⟩ := x
  have e : a = b := ite_some hn
  subst e
  have e2 : b1 true = some r := (if_pos rfl).symm.trans hn
  exact (P_ref21_SameSide a (okSide h.1).1 (okSide h.1).2).trans e2
theorem Q_ref21_SameReply (x : TT [(.st .Reply), (.st .Reply)]) (r : TT [.bool]) (h : OkTT [(.st .Reply), (.st .Reply)] x) (hn : N_ref21_SameReply x = some r) : D_ref21_SameReply x.1 x.2.1 = some r := by
  obtain ⟨a, b, _⟩ := x
  have e : a = b := ite_some hn
  subst e
  have e2 : b1 true = some r := (if_pos rfl).symm.trans hn
  exact (P_ref21_SameReply a).trans e2
theorem Q_ref21_SameReplies (x : TT [(.sl (.st .Reply)), (.sl (.st .Reply))]) (r : TT [.bool]) (h : OkTT [(.sl (.st .Reply)), (.sl (.st .Reply))] x) (hn : N_ref21_SameReplies x = some r) : D_ref21_SameReplies x.1 x.2.1 = some r := by
  obtain ⟨a, b, _⟩ := x
  have e : a = b := ite_some hn
  subst e
  have e2 : b1 true = some r := (if_pos rfl).symm.trans hn
  exact (P_ref21_SameReplies a (okSl h.1)).trans e2
theorem Q_ref21_samePlan (x : TT [(.sl (.st .Act)), (.sl (.st .Act))]) (r : TT [.bool]) (h : OkTT [(.sl (.st .Act)), (.sl (.st .Act))] x) (hn : N_ref21_samePlan x = some r) : D_ref21_samePlan x.1 x.2.1 = some r := by
  obtain ⟨a, b, _⟩ := x
  have e : a = b := ite_some hn
  subst e
  have e2 : b1 true = some r := (if_pos rfl).symm.trans hn
  exact (P_ref21_samePlan a (okSl h.1)).trans e2
theorem Q_ref21_sameCome (x : TT [(.st .Site), (.st .Site)]) (r : TT [.bool]) (h : OkTT [(.st .Site), (.st .Site)] x) (hn : N_ref21_sameCome x = some r) : D_ref21_sameCome x.1 x.2.1 = some r := by
  obtain ⟨a, b, _⟩ := x
  have e : a = b := ite_some hn
  subst e
  have e2 : b1 true = some r := (if_pos rfl).symm.trans hn
  exact (P_ref21_sameCome a (okSite h.1).mail (okSite h.1).asks).trans e2
theorem Q_ref12_Same (x : TT [(.st .Meta), (.st .Meta)]) (r : TT [.bool]) (h : OkTT [(.st .Meta), (.st .Meta)] x) (hn : N_ref12_Same x = some r) : D_ref12_Same x.1 x.2.1 = some r := by
  obtain ⟨a, b, _⟩ := x
  have e : a = b := ite_some hn
  subst e
  have e2 : b1 true = some r := (if_pos rfl).symm.trans hn
  exact (P_ref12_Same a).trans e2
theorem Q_ref11_Same (x : TT [(.sl (.st .Rec)), (.sl (.st .Rec))]) (r : TT [.bool]) (h : OkTT [(.sl (.st .Rec)), (.sl (.st .Rec))] x) (hn : N_ref11_Same x = some r) : D_ref11_Same x.1 x.2.1 = some r := by
  obtain ⟨a, b, _⟩ := x
  have e : a = b := ite_some hn
  subst e
  have e2 : b1 true = some r := (if_pos rfl).symm.trans hn
  exact (P_ref11_Same a (okSl h.1)).trans e2
theorem Q_ref17_Same (x : TT [(.st .End), (.st .End)]) (r : TT [.bool]) (h : OkTT [(.st .End), (.st .End)] x) (hn : N_ref17_Same x = some r) : D_ref17_Same x.1 x.2.1 = some r := by
  obtain ⟨a, b, _⟩ := x
  have e : a = b := ite_some hn
  subst e
  have e2 : b1 true = some r := (if_pos rfl).symm.trans hn
  exact (P_ref17_Same a).trans e2
theorem Q_ref04_Same (x : TT [(.st .Queue), (.st .Queue)]) (r : TT [.bool]) (h : OkTT [(.st .Queue), (.st .Queue)] x) (hn : N_ref04_Same x = some r) : D_ref04_Same x.1 x.2.1 = some r := by
  obtain ⟨a, b, _⟩ := x
  have e : a = b := ite_some hn
  subst e
  have e2 : b1 true = some r := (if_pos rfl).symm.trans hn
  exact (P_ref04_Same a).trans e2
theorem Q_ref04_SameAll (x : TT [(.sl (.sl (.int .u8))), (.sl (.sl (.int .u8)))]) (r : TT [.bool]) (h : OkTT [(.sl (.sl (.int .u8))), (.sl (.sl (.int .u8)))] x) (hn : N_ref04_SameAll x = some r) : D_ref04_SameAll x.1 x.2.1 = some r := by
  obtain ⟨a, b, _⟩ := x
  have e : a = b := ite_some hn
  subst e
  have e2 : b1 true = some r := (if_pos rfl).symm.trans hn
  exact (P_ref04_SameAll a (okSl h.1)).trans e2
theorem Q_ref20_Same (x : TT [(.st .Msg), (.st .Msg)]) (r : TT [.bool]) (h : OkTT [(.st .Msg), (.st .Msg)] x) (hn : N_ref20_Same x = some r) : D_ref20_Same x.1 x.2.1 = some r := by
  obtain ⟨a, b, _⟩ := x
  have e : a = b := ite_some hn
  subst e
  have e2 : b1 true = some r := (if_pos rfl).symm.trans hn
  exact (P_ref20_Same a).trans e2
theorem Q_ref26_Crash (x : TT [(.st .Config), (.st .Site), (.sl (.int .u8))]) (r : TT [(.st .Disk), (.int .i64)]) (h : OkTT [(.st .Config), (.st .Site), (.sl (.int .u8))] x) (hn : N_ref26_Crash x = some r) : D_ref26_Crash x.1 x.2.1 x.2.2.1 = some r := (P_ref26_Crash x.1 x.2.1 x.2.2.1 (ite_some hn)).trans hn
theorem Q_ref21_May (x : TT [(.st .Config), (.st .Site)]) (r : TT [.bool]) (h : OkTT [(.st .Config), (.st .Site)] x) (hn : N_ref21_May x = some r) : D_ref21_May x.1 x.2.1 = some r := (P_ref21_May x.1 x.2.1 (ite_some hn)).trans hn
theorem Q_ref05_May (x : TT [(.st .Disk)]) (r : TT [.bool]) (h : OkTT [(.st .Disk)] x) (hn : N_ref05_May x = some r) : D_ref05_May x.1 = some r := (P_ref05_May x.1 (okDisk h.1).1 (okDisk h.1).2).trans hn
theorem Q_ref05_blank (x : TT [(.sl (.int .u8))]) (r : TT [.bool]) (h : OkTT [(.sl (.int .u8))] x) (hn : N_ref05_blank x = some r) : D_ref05_blank x.1 = some r := (P_ref05_blank x.1 (okSl h.1)).trans hn
theorem Q_ref05_Behind (x : TT [(.st .Disk), (.sl (.int .u8))]) (r : TT [(.st .Disk)]) (h : OkTT [(.st .Disk), (.sl (.int .u8))] x) (hn : N_ref05_Behind x = some r) : D_ref05_Behind x.1 x.2.1 = some r := (P_ref05_Behind x.1 x.2.1 (ite_some hn) (okU8 h.2.1)).trans hn
theorem Q_ref07_May (x : TT [(.st .Config)]) (r : TT [.bool]) (h : OkTT [(.st .Config)] x) (hn : N_ref07_May x = some r) : D_ref07_May x.1 = some r := (P_ref07_May x.1).trans hn
theorem Q_ref07_Size (x : TT [(.st .Config)]) (r : TT [(.int .i64)]) (h : OkTT [(.st .Config)] x) (hn : N_ref07_Size x = some r) : D_ref07_Size x.1 = some r := (P_ref07_Size x.1 (ite_some hn)).trans hn
theorem Q_ref08_May (x : TT [(.st .Config), (.st .Disk)]) (r : TT [.bool]) (h : OkTT [(.st .Config), (.st .Disk)] x) (hn : N_ref08_May x = some r) : D_ref08_May x.1 x.2.1 = some r := (P_ref08_May x.1 x.2.1).trans hn
theorem Q_ref12_May (x : TT [(.st .Config), (.st .Meta)]) (r : TT [.bool]) (h : OkTT [(.st .Config), (.st .Meta)] x) (hn : N_ref12_May x = some r) : D_ref12_May x.1 x.2.1 = some r := (P_ref12_May x.1 x.2.1).trans hn
theorem Q_ref11_May (x : TT [(.st .Rec)]) (r : TT [.bool]) (h : OkTT [(.st .Rec)] x) (hn : N_ref11_May x = some r) : D_ref11_May x.1 = some r := (P_ref11_May x.1).trans hn
theorem Q_ref11_MayAll (x : TT [(.sl (.st .Rec))]) (r : TT [.bool]) (h : OkTT [(.sl (.st .Rec))] x) (hn : N_ref11_MayAll x = some r) : D_ref11_MayAll x.1 = some r := (P_ref11_MayAll x.1 (okSl h.1)).trans hn
theorem Q_ref17_May (x : TT [(.st .Config), (.st .End)]) (r : TT [.bool]) (h : OkTT [(.st .Config), (.st .End)] x) (hn : N_ref17_May x = some r) : D_ref17_May x.1 x.2.1 = some r := (P_ref17_May x.1 x.2.1 (ite_some hn)).trans hn
theorem Q_ref04_May (x : TT [(.st .Queue)]) (r : TT [.bool]) (h : OkTT [(.st .Queue)] x) (hn : N_ref04_May x = some r) : D_ref04_May x.1 = some r := (P_ref04_May x.1).trans hn
theorem Q_ref04_List (x : TT [(.st .Queue)]) (r : TT [(.sl (.sl (.int .u8))), (.int .i64)]) (h : OkTT [(.st .Queue)] x) (hn : N_ref04_List x = some r) : D_ref04_List x.1 = some r := (P_ref04_List x.1 (ite_some hn)).trans hn
theorem Q_ref03_May (x : TT [(.int .i64), (.sl (.int .u8))]) (r : TT [.bool]) (h : OkTT [(.int .i64), (.sl (.int .u8))] x) (hn : N_ref03_May x = some r) : D_ref03_May x.1 x.2.1 = some r := (P_ref03_May x.1 x.2.1 (okU8 h.2.1)).trans hn
theorem Q_ref03_In (x : TT [(.sl (.int .u8)), (.int .i64)]) (r : TT [.bool]) (h : OkTT [(.sl (.int .u8)), (.int .i64)] x) (hn : N_ref03_In x = some r) : D_ref03_In x.1 x.2.1 = some r := (P_ref03_In x.1 x.2.1 (ite_some hn) (okU8 h.1)).trans hn
theorem Q_ref21_maySide (x : TT [(.st .Config), (.st .Side)]) (r : TT [.bool]) (h : OkTT [(.st .Config), (.st .Side)] x) (hn : N_ref21_maySide x = some r) : D_ref21_maySide x.1 x.2.1 = some r := (P_ref21_maySide x.1 x.2.1 (okSide h.2.1).1 (okSide h.2.1).2).trans hn
theorem Q_ref21_mayLists (x : TT [(.st .Config), (.st .Site)]) (r : TT [.bool]) (h : OkTT [(.st .Config), (.st .Site)] x) (hn : N_ref21_mayLists x = some r) : D_ref21_mayLists x.1 x.2.1 = some r := (P_ref21_mayLists x.1 x.2.1 (okSite h.2.1).plan (okSite h.2.1).mail (okSite h.2.1).asks (okSite h.2.1).kinds).trans hn
theorem Q_ref21_mayAct (x : TT [(.st .Config), (.st .Site), (.st .Act)]) (r : TT [.bool]) (h : OkTT [(.st .Config), (.st .Site), (.st .Act)] x) (hn : N_ref21_mayAct x = some r) : D_ref21_mayAct x.1 x.2.1 x.2.2.1 = some r := (P_ref21_mayAct x.1 x.2.1 x.2.2.1).trans hn
theorem Q_ref21_mayMsg (x : TT [(.st .Config), (.st .Msg)]) (r : TT [.bool]) (h : OkTT [(.st .Config), (.st .Msg)] x) (hn : N_ref21_mayMsg x = some r) : D_ref21_mayMsg x.1 x.2.1 = some r := (P_ref21_mayMsg x.1 x.2.1).trans hn
theorem Q_ref20_May (x : TT [(.st .Msg)]) (r : TT [.bool]) (h : OkTT [(.st .Msg)] x) (hn : N_ref20_May x = some r) : D_ref20_May x.1 = some r := (P_ref20_May x.1).trans hn
theorem Q_boot_Crash (x : TT [(.st .Config), (.st .Site), (.sl (.int .u8))]) (r : TT [(.st .Disk), (.int .i64)]) (h : OkTT [(.st .Config), (.st .Site), (.sl (.int .u8))] x) (hn : N_boot_Crash x = some r) : D_boot_Crash x.1 x.2.1 x.2.2.1 = some r := (P_boot_Crash x.1 x.2.1 x.2.2.1 (ite_some hn)).trans hn
theorem Q_act_Check (x : TT [(.st .Config), (.st .Site)]) (r : TT [(.int .i64)]) (h : OkTT [(.st .Config), (.st .Site)] x) (hn : N_act_Check x = some r) : D_act_Check x.1 x.2.1 = some r := (P_act_Check x.1 x.2.1 (ite_some hn) (okSite h.2.1).kinds).trans hn
theorem Q_disk_Crash (x : TT [(.st .Disk), (.sl (.int .u8))]) (r : TT [(.st .Disk), (.int .i64)]) (h : OkTT [(.st .Disk), (.sl (.int .u8))] x) (hn : N_disk_Crash x = some r) : D_disk_Crash x.1 x.2.1 = some r := (P_disk_Crash x.1 x.2.1 (okU8 h.2.1)).trans hn
theorem Q_disk_Check (x : TT [(.st .Disk)]) (r : TT [(.int .i64)]) (h : OkTT [(.st .Disk)] x) (hn : N_disk_Check x = some r) : D_disk_Check x.1 = some r := (P_disk_Check x.1 (okDisk h.1).1 (okDisk h.1).2).trans hn
theorem Q_place_within (x : TT [(.sl (.st .Bound))]) (r : TT [.bool]) (h : OkTT [(.sl (.st .Bound))] x) (hn : N_place_within x = some r) : D_place_within x.1 = some r := (P_place_within x.1 (okSl h.1)).trans hn
theorem Q_place_Check (x : TT [(.st .Config)]) (r : TT [(.int .i64)]) (h : OkTT [(.st .Config)] x) (hn : N_place_Check x = some r) : D_place_Check x.1 = some r := (P_place_Check x.1).trans hn
theorem Q_place_Sectors (x : TT [(.st .Config)]) (r : TT [(.int .i64), (.int .i64)]) (h : OkTT [(.st .Config)] x) (hn : N_place_Sectors x = some r) : D_place_Sectors x.1 = some r := (P_place_Sectors x.1).trans hn
theorem Q_track_Check (x : TT [(.st .Config), (.st .Disk)]) (r : TT [(.int .i64)]) (h : OkTT [(.st .Config), (.st .Disk)] x) (hn : N_track_Check x = some r) : D_track_Check x.1 x.2.1 = some r := (P_track_Check x.1 x.2.1).trans hn
theorem Q_meta_Check (x : TT [(.st .Config), (.st .Meta)]) (r : TT [(.int .i64)]) (h : OkTT [(.st .Config), (.st .Meta)] x) (hn : N_meta_Check x = some r) : D_meta_Check x.1 x.2.1 = some r := (P_meta_Check x.1 x.2.1 (ite_some hn)).trans hn
theorem Q_rec_Notes (x : TT [(.sl (.st .Rec))]) (r : TT [(.sl (.sl (.int .u8))), (.int .i64)]) (h : OkTT [(.sl (.st .Rec))] x) (hn : N_rec_Notes x = some r) : D_rec_Notes x.1 = some r := (P_rec_Notes x.1 (ite_some hn)).trans hn
theorem Q_rec_Note (x : TT [(.st .Rec)]) (r : TT [(.sl (.int .u8)), (.int .i64)]) (h : OkTT [(.st .Rec)] x) (hn : N_rec_Note x = some r) : D_rec_Note x.1 = some r := (P_rec_Note x.1 (okRec h.1)).trans hn
theorem Q_rec_Check (x : TT [(.st .Rec)]) (r : TT [(.int .i64)]) (h : OkTT [(.st .Rec)] x) (hn : N_rec_Check x = some r) : D_rec_Check x.1 = some r := (P_rec_Check x.1).trans hn
theorem Q_num_Write (x : TT [(.sl (.int .u64)), (.sl (.int .i64))]) (r : TT [(.sl (.int .u8)), (.int .i64)]) (h : OkTT [(.sl (.int .u64)), (.sl (.int .i64))] x) (hn : N_num_Write x = some r) : D_num_Write x.1 x.2.1 = some r := (P_num_Write x.1 x.2.1 (ite_some hn)).trans hn
theorem Q_sess_Check (x : TT [(.st .Config), (.st .End)]) (r : TT [(.int .i64)]) (h : OkTT [(.st .Config), (.st .End)] x) (hn : N_sess_Check x = some r) : D_sess_Check x.1 x.2.1 = some r := (P_sess_Check x.1 x.2.1 (ite_some hn)).trans hn
theorem Q_ring_Check (x : TT [(.st .Queue)]) (r : TT [(.int .i64)]) (h : OkTT [(.st .Queue)] x) (hn : N_ring_Check x = some r) : D_ring_Check x.1 = some r := (P_ring_Check x.1).trans hn
theorem Q_bits_Check (x : TT [(.int .i64), (.sl (.int .u8))]) (r : TT [(.int .i64)]) (h : OkTT [(.int .i64), (.sl (.int .u8))] x) (hn : N_bits_Check x = some r) : D_bits_Check x.1 x.2.1 = some r := (P_bits_Check x.1 x.2.1 (okSl h.2.1)).trans hn
theorem Q_act_limits_side (x : TT [(.st .Config), (.st .Side)]) (r : TT [.bool]) (h : OkTT [(.st .Config), (.st .Side)] x) (hn : N_act_limits_side x = some r) : D_act_limits_side x.1 x.2.1 = some r := (P_act_limits_side x.1 x.2.1 (okSide h.2.1).1 (okSide h.2.1).2).trans hn
theorem Q_act_limits_act (x : TT [(.st .Config), (.st .Act), (.int .i64)]) (r : TT [.bool]) (h : OkTT [(.st .Config), (.st .Act), (.int .i64)] x) (hn : N_act_limits_act x = some r) : D_act_limits_act x.1 x.2.1 x.2.2.1 = some r := (P_act_limits_act x.1 x.2.1 x.2.2.1).trans hn
theorem Q_act_limits_mail (x : TT [(.st .Config), (.st .Mail)]) (r : TT [.bool]) (h : OkTT [(.st .Config), (.st .Mail)] x) (hn : N_act_limits_mail x = some r) : D_act_limits_mail x.1 x.2.1 = some r := (P_act_limits_mail x.1 x.2.1).trans hn
theorem Q_msg_Check (x : TT [(.st .Msg)]) (r : TT [(.int .i64)]) (h : OkTT [(.st .Msg)] x) (hn : N_msg_Check x = some r) : D_msg_Check x.1 = some r := (P_msg_Check x.1 (okMsg h.1)).trans hn
theorem Q_msg_used (x : TT [(.st .Msg)]) (r : TT [(.st .Msg), .bool]) (h : OkTT [(.st .Msg)] x) (hn : N_msg_used x = some r) : D_msg_used x.1 = some r := (P_msg_used x.1).trans hn
theorem Q_msg_Same (x : TT [(.st .Msg), (.st .Msg)]) (r : TT [.bool]) (h : OkTT [(.st .Msg), (.st .Msg)] x) (hn : N_msg_Same x = some r) : D_msg_Same x.1 x.2.1 = some r := (P_msg_Same x.1 x.2.1).trans hn
theorem Q_disk_none (x : TT []) (r : TT [(.sl (.int .u8))]) (h : OkTT [] x) (hn : N_disk_none x = some r) : D_disk_none = some r := (P_disk_none).trans hn
theorem Q_bytes_Equal (x : TT [(.sl (.int .u8)), (.sl (.int .u8))]) (r : TT [.bool]) (h : OkTT [(.sl (.int .u8)), (.sl (.int .u8))] x) (hn : N_bytes_Equal x = some r) : D_bytes_Equal x.1 x.2.1 = some r := (P_bytes_Equal x.1 x.2.1).trans hn
theorem Q_disk_sized (x : TT [(.sl (.sl (.int .u8)))]) (r : TT [.bool]) (h : OkTT [(.sl (.sl (.int .u8)))] x) (hn : N_disk_sized x = some r) : D_disk_sized x.1 = some r := (P_disk_sized x.1 (okSl h.1)).trans hn
theorem Q_rec_site (x : TT [(.sl (.int .i64))]) (r : TT [.bool]) (h : OkTT [(.sl (.int .i64))] x) (hn : N_rec_site x = some r) : D_rec_site x.1 = some r := (P_rec_site x.1 (okSl h.1)).trans hn
theorem Q_ref07_Many (x : TT [(.st .Config)]) (r : TT [(.int .i64)]) (h : OkTT [(.st .Config)] x) (hn : N_ref07_Many x = some r) : D_ref07_Many x.1 = some r := (P_ref07_Many x.1).trans hn
theorem Q_ref07_first (x : TT [(.st .Config)]) (r : TT [(.int .i64), (.int .i64), (.int .i64), (.int .i64)]) (h : OkTT [(.st .Config)] x) (hn : N_ref07_first x = some r) : D_ref07_first x.1 = some r := (P_ref07_first x.1 (ite_some hn)).trans hn
theorem Q_msg_marks (x : TT [(.sl (.int .u8))]) (r : TT [.bool]) (h : OkTT [(.sl (.int .u8))] x) (hn : N_msg_marks x = some r) : D_msg_marks x.1 = some r := (P_msg_marks x.1).trans hn
theorem Q_msg_of (x : TT [(.st .Msg)]) (r : TT [(.st .Plain)]) (h : OkTT [(.st .Msg)] x) (hn : N_msg_of x = some r) : D_msg_of x.1 = some r := (P_msg_of x.1).trans hn
theorem Q_rec_sizes (x : TT []) (r : TT [(.sl (.int .i64))]) (h : OkTT [] x) (hn : N_rec_sizes x = some r) : D_rec_sizes = some r := (P_rec_sizes).trans hn
theorem Q_ring_round_byte_at (x : TT [(.st .Round), (.int .i64)]) (r : TT [(.int .i64)]) (h : OkTT [(.st .Round), (.int .i64)] x) (hn : N_ring_round_byte_at x = some r) : D_ring_round_byte_at x.1 x.2.1 = some r := (P_ring_at x.1 x.2.1 (ite_some2 hn)).trans hn
theorem Q_place_pages (x : TT [(.st .Config)]) (r : TT [(.int .i64)]) (h : OkTT [(.st .Config)] x) (hn : N_place_pages x = some r) : D_place_pages x.1 = some r := (P_place_pages x.1 (ite_some hn)).trans hn
theorem Q_act_limits_message (x : TT [(.st .Config), (.st .Msg)]) (r : TT [.bool]) (h : OkTT [(.st .Config), (.st .Msg)] x) (hn : N_act_limits_message x = some r) : D_act_limits_message x.1 x.2.1 = some r := (P_act_limits_message x.1 x.2.1).trans hn
theorem Q_act_limits_pair (x : TT [(.st .Config), (.int .i64)]) (r : TT [.bool]) (h : OkTT [(.st .Config), (.int .i64)] x) (hn : N_act_limits_pair x = some r) : D_act_limits_pair x.1 x.2.1 = some r := (P_act_limits_pair x.1 x.2.1).trans hn
theorem Q_place_part_size (x : TT [(.st .Part)]) (r : TT [(.int .i64)]) (h : OkTT [(.st .Part)] x) (hn : N_place_part_size x = some r) : D_place_part_size x.1 = some r := (P_place_part_size x.1).trans hn
theorem Q_ref21_pair (x : TT [(.st .Config), (.int .i64)]) (r : TT [.bool]) (h : OkTT [(.st .Config), (.int .i64)] x) (hn : N_ref21_pair x = some r) : D_ref21_pair x.1 x.2.1 = some r := (P_ref21_pair x.1 x.2.1).trans hn
theorem Q_ref21_there (x : TT [(.st .Config), (.int .i64)]) (r : TT [.bool]) (h : OkTT [(.st .Config), (.int .i64)] x) (hn : N_ref21_there x = some r) : D_ref21_there x.1 x.2.1 = some r := (P_ref21_there x.1 x.2.1).trans hn
theorem Q_ref07_in (x : TT [(.int .i64), (.int .i64), (.int .i64)]) (r : TT [.bool]) (h : OkTT [(.int .i64), (.int .i64), (.int .i64)] x) (hn : N_ref07_in x = some r) : D_ref07_in x.1 x.2.1 x.2.2.1 = some r := (P_ref07_in x.1 x.2.1 x.2.2.1).trans hn
theorem Q_bits_All (x : TT [(.int .i64)]) (r : TT [(.sl (.int .u8)), (.int .i64)]) (h : OkTT [(.int .i64)] x) (hn : N_bits_All x = some r) : D_bits_All x.1 = some r := (P_bits_All x.1).trans hn

end Go.Cat

set_option maxHeartbeats 0
namespace Go.Cat
open Go Go.Proofs.Tryz
noncomputable def tys : List (Nat × TyI) := [
  (1, { d := .other, size := 1, zero := [.lit .nilFunc], en := none, eq := false }),
  (2, { d := .int .i64, size := 1, zero := [.lit (.int .i64 0)], en := some (.int .i64), eq := false }),
  (3, { d := .int .i64, size := 1, zero := [.lit (.int .i64 0)], en := some (.int .i64), eq := false }),
  (4, { d := .bool, size := 1, zero := [.lit (.bool false)], en := some .bool, eq := false }),
  (5, { d := .int .u8, size := 1, zero := [.lit (.int .u8 0)], en := some (.int .u8), eq := false }),
  (6, { d := .int .u8, size := 1, zero := [.lit (.int .u8 0)], en := some (.int .u8), eq := false }),
  (7, { d := .st [(0, 2), (1, 3), (2, 4), (3, 6)], size := 4, zero := [.lit (.int .i64 0), .lit (.int .i64 0), .lit (.bool false), .lit (.int .u8 0)], en := none, eq := false }),
  (8, { d := .st [(0, 2), (1, 3), (2, 4), (3, 6)], size := 4, zero := [.lit (.int .i64 0), .lit (.int .i64 0), .lit (.bool false), .lit (.int .u8 0)], en := none, eq := false }),
  (9, { d := .str, size := 1, zero := [.lit (.string ByteArray.empty)], en := some .str, eq := false }),
  (10, { d := .str, size := 1, zero := [.lit (.string ByteArray.empty)], en := some .str, eq := false }),
  (11, { d := .str, size := 1, zero := [.lit (.string ByteArray.empty)], en := some .str, eq := false }),
  (12, { d := .int .u64, size := 1, zero := [.lit (.int .u64 0)], en := some (.int .u64), eq := false }),
  (13, { d := .st [(0, 9), (1, 12)], size := 2, zero := [.lit (.string ByteArray.empty), .lit (.int .u64 0)], en := none, eq := false }),
  (23, { d := .st [(0, 3), (1, 3), (2, 3), (3, 3), (4, 3), (5, 3)], size := 6, zero := [.lit (.int .i64 0), .lit (.int .i64 0), .lit (.int .i64 0), .lit (.int .i64 0), .lit (.int .i64 0), .lit (.int .i64 0)], en := some (.st .Config), eq := true }),
  (24, { d := .sl 96, size := 1, zero := [.lit (.slice none 0 0)], en := some (.sl (.st .Sector)), eq := false }),
  (25, { d := .sl 98, size := 1, zero := [.lit (.slice none 0 0)], en := some (.sl (.st .Pend)), eq := false }),
  (27, { d := .st [(0, 24), (1, 25)], size := 2, zero := [.lit (.slice none 0 0), .lit (.slice none 0 0)], en := some (.st .Disk), eq := false }),
  (28, { d := .int .u32, size := 1, zero := [.lit (.int .u32 0)], en := some (.int .u32), eq := false }),
  (29, { d := .int .u64, size := 1, zero := [.lit (.int .u64 0)], en := some (.int .u64), eq := false }),
  (31, { d := .st [(0, 28), (1, 3), (2, 29)], size := 3, zero := [.lit (.int .u32 0), .lit (.int .i64 0), .lit (.int .u64 0)], en := some (.st .Super), eq := true }),
  (32, { d := .sl 68, size := 1, zero := [.lit (.slice none 0 0)], en := some (.sl (.st .Rec)), eq := false }),
  (34, { d := .st [(0, 31), (3, 3), (4, 3), (5, 32)], size := 6, zero := [.lit (.int .u32 0), .lit (.int .i64 0), .lit (.int .u64 0), .lit (.int .i64 0), .lit (.int .i64 0), .lit (.slice none 0 0)], en := some (.st .Meta), eq := false }),
  (35, { d := .sl 80, size := 1, zero := [.lit (.slice none 0 0)], en := some (.sl (.st .Side)), eq := false }),
  (36, { d := .sl 48, size := 1, zero := [.lit (.slice none 0 0)], en := some (.sl (.sl (.int .u8))), eq := false }),
  (38, { d := .st [(0, 36), (1, 3), (2, 3)], size := 3, zero := [.lit (.slice none 0 0), .lit (.int .i64 0), .lit (.int .i64 0)], en := some (.st .Queue), eq := false }),
  (40, { d := .st [(0, 28), (1, 28), (2, 4), (3, 4), (4, 28), (5, 28), (6, 38), (9, 28), (10, 3)], size := 11, zero := [.lit (.int .u32 0), .lit (.int .u32 0), .lit (.bool false), .lit (.bool false), .lit (.int .u32 0), .lit (.int .u32 0), .lit (.slice none 0 0), .lit (.int .i64 0), .lit (.int .i64 0), .lit (.int .u32 0), .lit (.int .i64 0)], en := some (.st .End), eq := false }),
  (41, { d := .sl 74, size := 1, zero := [.lit (.slice none 0 0)], en := some (.sl (.st .Act)), eq := false }),
  (42, { d := .sl 82, size := 1, zero := [.lit (.slice none 0 0)], en := some (.sl (.st .Mail)), eq := false }),
  (43, { d := .sl 90, size := 1, zero := [.lit (.slice none 0 0)], en := some (.sl (.st .Ask)), eq := false }),
  (44, { d := .sl 72, size := 1, zero := [.lit (.slice none 0 0)], en := some (.sl (.st .Reply)), eq := false }),
  (45, { d := .sl 3, size := 1, zero := [.lit (.slice none 0 0)], en := some (.sl (.int .i64)), eq := false }),
  (47, { d := .st [(0, 3), (1, 27), (3, 34), (9, 35), (10, 40), (21, 41), (22, 42), (23, 43), (24, 44), (25, 45), (26, 28), (27, 4)], size := 28, zero := [.lit (.int .i64 0), .lit (.slice none 0 0), .lit (.slice none 0 0), .lit (.int .u32 0), .lit (.int .i64 0), .lit (.int .u64 0), .lit (.int .i64 0), .lit (.int .i64 0), .lit (.slice none 0 0), .lit (.slice none 0 0), .lit (.int .u32 0), .lit (.int .u32 0), .lit (.bool false), .lit (.bool false), .lit (.int .u32 0), .lit (.int .u32 0), .lit (.slice none 0 0), .lit (.int .i64 0), .lit (.int .i64 0), .lit (.int .u32 0), .lit (.int .i64 0), .lit (.slice none 0 0), .lit (.slice none 0 0), .lit (.slice none 0 0), .lit (.slice none 0 0), .lit (.slice none 0 0), .lit (.int .u32 0), .lit (.bool false)], en := some (.st .Site), eq := false }),
  (48, { d := .sl 5, size := 1, zero := [.lit (.slice none 0 0)], en := some (.sl (.int .u8)), eq := false }),
  (51, { d := .int .i64, size := 1, zero := [.lit (.int .i64 0)], en := some (.int .i64), eq := false }),
  (66, { d := .int .u64, size := 1, zero := [.lit (.int .u64 0)], en := some (.int .u64), eq := false }),
  (68, { d := .st [(0, 3), (1, 28), (2, 28), (3, 3), (4, 5), (5, 3), (6, 4), (7, 4)], size := 8, zero := [.lit (.int .i64 0), .lit (.int .u32 0), .lit (.int .u32 0), .lit (.int .i64 0), .lit (.int .u8 0), .lit (.int .i64 0), .lit (.bool false), .lit (.bool false)], en := some (.st .Rec), eq := true }),
  (70, { d := .st [(0, 5), (1, 3), (2, 4), (3, 68), (11, 5), (12, 28), (13, 28), (14, 3), (15, 28), (16, 51), (17, 48), (18, 48)], size := 19, zero := [.lit (.int .u8 0), .lit (.int .i64 0), .lit (.bool false), .lit (.int .i64 0), .lit (.int .u32 0), .lit (.int .u32 0), .lit (.int .i64 0), .lit (.int .u8 0), .lit (.int .i64 0), .lit (.bool false), .lit (.bool false), .lit (.int .u8 0), .lit (.int .u32 0), .lit (.int .u32 0), .lit (.int .i64 0), .lit (.int .u32 0), .lit (.int .i64 0), .lit (.slice none 0 0), .lit (.slice none 0 0)], en := some (.st .Msg), eq := false }),
  (72, { d := .st [(0, 3), (1, 51), (2, 5), (3, 48)], size := 4, zero := [.lit (.int .i64 0), .lit (.int .i64 0), .lit (.int .u8 0), .lit (.slice none 0 0)], en := some (.st .Reply), eq := false }),
  (74, { d := .st [(0, 5), (1, 3), (2, 48), (3, 28), (4, 28), (5, 70), (24, 72), (28, 3)], size := 29, zero := [.lit (.int .u8 0), .lit (.int .i64 0), .lit (.slice none 0 0), .lit (.int .u32 0), .lit (.int .u32 0), .lit (.int .u8 0), .lit (.int .i64 0), .lit (.bool false), .lit (.int .i64 0), .lit (.int .u32 0), .lit (.int .u32 0), .lit (.int .i64 0), .lit (.int .u8 0), .lit (.int .i64 0), .lit (.bool false), .lit (.bool false), .lit (.int .u8 0), .lit (.int .u32 0), .lit (.int .u32 0), .lit (.int .i64 0), .lit (.int .u32 0), .lit (.int .i64 0), .lit (.slice none 0 0), .lit (.slice none 0 0), .lit (.int .i64 0), .lit (.int .i64 0), .lit (.int .u8 0), .lit (.slice none 0 0), .lit (.int .i64 0)], en := some (.st .Act), eq := false }),
  (77, { d := .sl 141, size := 1, zero := [.lit (.slice none 0 0)], en := some (.sl (.st .Sent)), eq := false }),
  (78, { d := .sl 143, size := 1, zero := [.lit (.slice none 0 0)], en := some (.sl (.st .Wait)), eq := false }),
  (80, { d := .st [(0, 48), (1, 48), (2, 77), (3, 28), (4, 78), (5, 48), (6, 3), (7, 3), (8, 5), (9, 3), (10, 4), (11, 4), (12, 4), (13, 4)], size := 14, zero := [.lit (.slice none 0 0), .lit (.slice none 0 0), .lit (.slice none 0 0), .lit (.int .u32 0), .lit (.slice none 0 0), .lit (.slice none 0 0), .lit (.int .i64 0), .lit (.int .i64 0), .lit (.int .u8 0), .lit (.int .i64 0), .lit (.bool false), .lit (.bool false), .lit (.bool false), .lit (.bool false)], en := some (.st .Side), eq := false }),
  (82, { d := .st [(0, 5), (1, 28), (2, 28), (3, 70)], size := 22, zero := [.lit (.int .u8 0), .lit (.int .u32 0), .lit (.int .u32 0), .lit (.int .u8 0), .lit (.int .i64 0), .lit (.bool false), .lit (.int .i64 0), .lit (.int .u32 0), .lit (.int .u32 0), .lit (.int .i64 0), .lit (.int .u8 0), .lit (.int .i64 0), .lit (.bool false), .lit (.bool false), .lit (.int .u8 0), .lit (.int .u32 0), .lit (.int .u32 0), .lit (.int .i64 0), .lit (.int .u32 0), .lit (.int .i64 0), .lit (.slice none 0 0), .lit (.slice none 0 0)], en := some (.st .Mail), eq := false }),
  (90, { d := .st [(0, 3), (1, 5), (2, 3), (3, 3), (4, 5), (5, 48)], size := 6, zero := [.lit (.int .i64 0), .lit (.int .u8 0), .lit (.int .i64 0), .lit (.int .i64 0), .lit (.int .u8 0), .lit (.slice none 0 0)], en := some (.st .Ask), eq := false }),
  (96, { d := .st [(0, 48), (1, 4)], size := 2, zero := [.lit (.slice none 0 0), .lit (.bool false)], en := some (.st .Sector), eq := false }),
  (98, { d := .st [(0, 3), (1, 48)], size := 2, zero := [.lit (.int .i64 0), .lit (.slice none 0 0)], en := some (.st .Pend), eq := false }),
  (116, { d := .st [(0, 23)], size := 6, zero := [.lit (.int .i64 0), .lit (.int .i64 0), .lit (.int .i64 0), .lit (.int .i64 0), .lit (.int .i64 0), .lit (.int .i64 0)], en := some (.st .Config), eq := true }),
  (122, { d := .other, size := 1, zero := [.lit .nilFunc], en := none, eq := false }),
  (123, { d := .other, size := 1, zero := [.lit .nilFunc], en := none, eq := false }),
  (125, { d := .other, size := 1, zero := [.lit .nilFunc], en := none, eq := false }),
  (128, { d := .other, size := 1, zero := [.lit .nilFunc], en := none, eq := false }),
  (130, { d := .other, size := 1, zero := [.lit .nilFunc], en := none, eq := false }),
  (132, { d := .other, size := 1, zero := [.lit .nilFunc], en := none, eq := false }),
  (141, { d := .st [(0, 3), (1, 28), (2, 4)], size := 3, zero := [.lit (.int .i64 0), .lit (.int .u32 0), .lit (.bool false)], en := some (.st .Sent), eq := true }),
  (143, { d := .st [(0, 3), (1, 3), (2, 28), (3, 4)], size := 4, zero := [.lit (.int .i64 0), .lit (.int .i64 0), .lit (.int .u32 0), .lit (.bool false)], en := some (.st .Wait), eq := true }),
  (163, { d := .arr 3 3, size := 3, zero := [.lit (.int .i64 0), .lit (.int .i64 0), .lit (.int .i64 0)], en := some (.st .Bound), eq := false }),
  (170, { d := .other, size := 1, zero := [.lit .nilFunc], en := none, eq := false }),
  (173, { d := .arr 3 48, size := 3, zero := [.lit (.slice none 0 0), .lit (.slice none 0 0), .lit (.slice none 0 0)], en := none, eq := false }),
  (176, { d := .other, size := 1, zero := [.lit .nilFunc], en := none, eq := false }),
  (178, { d := .other, size := 1, zero := [.lit .nilFunc], en := none, eq := false }),
  (212, { d := .sl 163, size := 1, zero := [.lit (.slice none 0 0)], en := some (.sl (.st .Bound)), eq := false }),
  (214, { d := .st [(0, 5), (1, 3), (2, 3), (3, 3)], size := 4, zero := [.lit (.int .u8 0), .lit (.int .i64 0), .lit (.int .i64 0), .lit (.int .i64 0)], en := some (.st .Part), eq := true }),
  (215, { d := .arr 4 214, size := 16, zero := [.lit (.int .u8 0), .lit (.int .i64 0), .lit (.int .i64 0), .lit (.int .i64 0), .lit (.int .u8 0), .lit (.int .i64 0), .lit (.int .i64 0), .lit (.int .i64 0), .lit (.int .u8 0), .lit (.int .i64 0), .lit (.int .i64 0), .lit (.int .i64 0), .lit (.int .u8 0), .lit (.int .i64 0), .lit (.int .i64 0), .lit (.int .i64 0)], en := none, eq := false }),
  (222, { d := .other, size := 1, zero := [.lit .nilFunc], en := none, eq := false }),
  (224, { d := .st [(0, 36), (1, 3), (2, 3)], size := 3, zero := [.lit (.slice none 0 0), .lit (.int .i64 0), .lit (.int .i64 0)], en := some (.st .Round), eq := false }),
  (241, { d := .sl 29, size := 1, zero := [.lit (.slice none 0 0)], en := some (.sl (.int .u64)), eq := false }),
  (253, { d := .st [(0, 5), (1, 5), (2, 3), (3, 3), (4, 4), (5, 68), (13, 28), (14, 28), (15, 28), (16, 51)], size := 17, zero := [.lit (.int .u8 0), .lit (.int .u8 0), .lit (.int .i64 0), .lit (.int .i64 0), .lit (.bool false), .lit (.int .i64 0), .lit (.int .u32 0), .lit (.int .u32 0), .lit (.int .i64 0), .lit (.int .u8 0), .lit (.int .i64 0), .lit (.bool false), .lit (.bool false), .lit (.int .u32 0), .lit (.int .u32 0), .lit (.int .u32 0), .lit (.int .i64 0)], en := some (.st .Plain), eq := true })]
noncomputable def hnts : List ((Nat × Nat) × Hint) := [((6, 4), .head [(1, .same), (3, .dat (.int .i64))]),
  ((6, 10), .head [(1, .same), (5, .dat (.int .i64))]),
  ((6, 15), .head [(1, .same), (6, .dat (.int .i64))]),
  ((6, 20), .head [(1, .same), (7, .dat (.int .i64))]),
  ((7, 8), .head [(1, .same), (2, .same), (3, .cls [.dat (.int .i64), .dat (.sl (.st .Sector)), .dat (.sl (.st .Pend)), .dat (.int .u32), .dat (.int .i64), .dat (.int .u64), .dat (.int .i64), .dat (.int .i64), .dat (.sl (.st .Rec)), .own 80 (.st .Side), .dat (.int .u32), .dat (.int .u32), .dat (.bool), .dat (.bool), .dat (.int .u32), .dat (.int .u32), .dat (.sl (.sl (.int .u8))), .dat (.int .i64), .dat (.int .i64), .dat (.int .u32), .dat (.int .i64), .own 74 (.st .Act), .own 82 (.st .Mail), .own 90 (.st .Ask), .own 72 (.st .Reply), .dat (.sl (.int .i64)), .dat (.int .u32), .dat (.bool)]), (4, .dat (.int .i64))]),
  ((7, 12), .head [(1, .same), (2, .same), (3, .cls [.dat (.int .i64), .dat (.sl (.st .Sector)), .dat (.sl (.st .Pend)), .dat (.int .u32), .dat (.int .i64), .dat (.int .u64), .dat (.int .i64), .dat (.int .i64), .dat (.sl (.st .Rec)), .own 80 (.st .Side), .dat (.int .u32), .dat (.int .u32), .dat (.bool), .dat (.bool), .dat (.int .u32), .dat (.int .u32), .dat (.sl (.sl (.int .u8))), .dat (.int .i64), .dat (.int .i64), .dat (.int .u32), .dat (.int .i64), .own 74 (.st .Act), .own 82 (.st .Mail), .own 90 (.st .Ask), .own 72 (.st .Reply), .dat (.sl (.int .i64)), .dat (.int .u32), .dat (.bool)]), (5, .dat (.int .i64))]),
  ((7, 20), .head [(1, .same), (2, .same), (3, .cls [.dat (.int .i64), .dat (.sl (.st .Sector)), .dat (.sl (.st .Pend)), .dat (.int .u32), .dat (.int .i64), .dat (.int .u64), .dat (.int .i64), .dat (.int .i64), .dat (.sl (.st .Rec)), .own 80 (.st .Side), .dat (.int .u32), .dat (.int .u32), .dat (.bool), .dat (.bool), .dat (.int .u32), .dat (.int .u32), .dat (.sl (.sl (.int .u8))), .dat (.int .i64), .dat (.int .i64), .dat (.int .u32), .dat (.int .i64), .own 74 (.st .Act), .own 82 (.st .Mail), .own 90 (.st .Ask), .own 72 (.st .Reply), .dat (.sl (.int .i64)), .dat (.int .u32), .dat (.bool)]), (7, .dat (.int .i64))]),
  ((7, 26), .head [(1, .same), (2, .same), (3, .cls [.dat (.int .i64), .dat (.sl (.st .Sector)), .dat (.sl (.st .Pend)), .dat (.int .u32), .dat (.int .i64), .dat (.int .u64), .dat (.int .i64), .dat (.int .i64), .dat (.sl (.st .Rec)), .own 80 (.st .Side), .dat (.int .u32), .dat (.int .u32), .dat (.bool), .dat (.bool), .dat (.int .u32), .dat (.int .u32), .dat (.sl (.sl (.int .u8))), .dat (.int .i64), .dat (.int .i64), .dat (.int .u32), .dat (.int .i64), .own 74 (.st .Act), .own 82 (.st .Mail), .own 90 (.st .Ask), .own 72 (.st .Reply), .dat (.sl (.int .i64)), .dat (.int .u32), .dat (.bool)]), (9, .dat (.int .i64))]),
  ((7, 32), .head [(1, .same), (2, .same), (3, .cls [.dat (.int .i64), .dat (.sl (.st .Sector)), .dat (.sl (.st .Pend)), .dat (.int .u32), .dat (.int .i64), .dat (.int .u64), .dat (.int .i64), .dat (.int .i64), .dat (.sl (.st .Rec)), .own 80 (.st .Side), .dat (.int .u32), .dat (.int .u32), .dat (.bool), .dat (.bool), .dat (.int .u32), .dat (.int .u32), .dat (.sl (.sl (.int .u8))), .dat (.int .i64), .dat (.int .i64), .dat (.int .u32), .dat (.int .i64), .own 74 (.st .Act), .own 82 (.st .Mail), .own 90 (.st .Ask), .own 72 (.st .Reply), .dat (.sl (.int .i64)), .dat (.int .u32), .dat (.bool)]), (11, .dat (.int .i64))]),
  ((10, 4), .head [(2, .same), (3, .same), (5, .dat (.int .i64))]),
  ((10, 9), .head [(2, .same), (3, .same), (6, .dat (.int .i64))]),
  ((11, 4), .head [(2, .same), (3, .same), (5, .dat (.int .i64))]),
  ((11, 9), .head [(2, .same), (3, .same), (6, .dat (.int .i64))]),
  ((16, 2), .head [(1, .dat (.int .i64)), (2, .same), (5, .dat (.int .i64))]),
  ((16, 7), .head [(1, .dat (.int .i64)), (2, .same), (6, .dat (.int .i64))]),
  ((17, 2), .head [(1, .same), (3, .dat (.int .i64))]),
  ((17, 7), .head [(1, .same), (4, .dat (.int .i64))]),
  ((18, 3), .head [(1, .same), (2, .same), (3, .cls [.own 96 (.st .Sector), .own 98 (.st .Pend)]), (4, .dat (.int .i64))]),
  ((18, 7), .head [(1, .same), (2, .same), (3, .cls [.own 96 (.st .Sector), .own 98 (.st .Pend)]), (5, .dat (.int .i64))]),
  ((25, 6), .head [(1, .dat (.sl (.int .u8))), (4, .same), (7, .cls [.own 96 (.st .Sector), .dat (.sl (.st .Pend))]), (20, .dat (.sl (.st .Pend))), (21, .dat (.int .i64)), (22, .dat (.int .i64))]),
  ((25, 16), .head [(4, .same), (7, .cls [.own 96 (.st .Sector), .dat (.sl (.st .Pend))]), (58, .dat (.int .i64)), (59, .dat (.int .i64))]),
  ((26, 4), .head [(2, .same), (3, .same), (5, .dat (.int .i64))]),
  ((26, 9), .head [(2, .same), (3, .same), (6, .dat (.int .i64))]),
  ((27, 3), .head [(1, .dat (.sl (.int .u8))), (2, .same), (4, .same), (5, .cls [.own 96 (.st .Sector), .dat (.sl (.st .Pend))]), (6, .dat (.int .i64))]),
  ((28, 4), .head [(2, .same), (3, .same), (5, .dat (.int .i64))]),
  ((28, 9), .head [(2, .same), (3, .same), (6, .dat (.int .i64))]),
  ((31, 4), .head [(0, .dat (.sl (.st .Act))), (1, .dat (.sl (.st .Act))), (5, .dat (.int .i64))]),
  ((32, 4), .head [(2, .same), (3, .same), (5, .dat (.int .i64))]),
  ((32, 10), .head [(2, .same), (3, .same), (8, .dat (.int .i64))]),
  ((33, 4), .head [(0, .dat (.sl (.st .Reply))), (1, .dat (.sl (.st .Reply))), (5, .dat (.int .i64))]),
  ((50, 2), .unroll 4),
  ((59, 4), .head [(1, .same), (24, .dat (.sl (.st .Sector))), (25, .dat (.int .i64)), (26, .dat (.int .i64))]),
  ((59, 10), .head [(1, .same), (48, .dat (.sl (.st .Pend))), (49, .dat (.int .i64)), (50, .dat (.int .i64))]),
  ((60, 2), .head [(1, .same), (2, .cls [.own 96 (.st .Sector), .own 98 (.st .Pend)]), (8, .dat (.sl (.st .Sector))), (9, .dat (.int .i64)), (10, .dat (.int .i64))]),
  ((60, 8), .head [(2, .cls [.own 96 (.st .Sector), .own 98 (.st .Pend)]), (26, .dat (.sl (.st .Pend))), (27, .dat (.int .i64)), (28, .dat (.int .i64))]),
  ((65, 5), .head [(2, .same), (3, .same), (5, .dat (.sl (.sl (.int .u8)))), (7, .dat (.int .i64))]),
  ((67, 4), .head [(2, .same), (3, .same), (5, .dat (.int .i64))]),
  ((67, 9), .head [(2, .same), (3, .same), (6, .dat (.int .i64))]),
  ((68, 2), .head [(2, .same), (3, .same), (5, .dat (.int .i64))]),
  ((68, 7), .head [(2, .same), (3, .same), (6, .dat (.int .i64))]),
  ((68, 12), .head [(3, .same), (7, .dat (.int .i64))]),
  ((69, 4), .head [(0, .dat (.sl (.st .Rec))), (1, .dat (.sl (.st .Rec))), (5, .dat (.int .i64))]),
  ((81, 3), .head [(0, .dat (.sl (.sl (.int .u8)))), (3, .own 48 (.sl (.int .u8))), (4, .dat (.int .i64))]),
  ((82, 2), .head [(5, .dat (.sl (.st .Bound))), (6, .dat (.int .i64)), (7, .dat (.int .i64))]),
  ((83, 5), .unroll 5),
  ((84, 5), .head [(2, .own 48 (.sl (.int .u8))), (14, .dat (.sl (.st .Rec))), (15, .dat (.int .i64)), (16, .dat (.int .i64))]),
  ((89, 2), .head [(0, .dat (.sl (.st .Rec))), (1, .same), (7, .dat (.int .i64)), (8, .dat (.int .i64))]),
  ((90, 2), .head [(0, .dat (.sl (.st .Side))), (1, .same), (7, .dat (.int .i64)), (8, .dat (.int .i64))]),
  ((91, 7), .head [(5, .dat (.sl (.int .u8))), (22, .dat (.sl (.int .u8))), (23, .dat (.int .i64)), (24, .dat (.int .i64))]),
  ((97, 2), .head [(0, .dat (.sl (.st .Act))), (1, .same), (7, .dat (.int .i64)), (8, .dat (.int .i64))]),
  ((99, 2), .head [(0, .dat (.sl (.st .Mail))), (1, .same), (7, .dat (.int .i64)), (8, .dat (.int .i64))]),
  ((100, 2), .head [(0, .dat (.sl (.st .Ask))), (1, .same), (7, .dat (.int .i64)), (8, .dat (.int .i64))]),
  ((105, 5), .head [(1, .same), (3, .dat (.int .i64)), (4, .dat (.int .i64))]),
  ((105, 10), .head [(1, .same), (3, .dat (.int .i64)), (5, .dat (.int .i64))]),
  ((106, 2), .head [(0, .dat (.sl (.st .Rec))), (3, .dat (.int .i64))]),
  ((107, 5), .head [(1, .same), (3, .dat (.int .i64)), (4, .dat (.int .i64))]),
  ((108, 5), .head [(1, .same), (4, .own 48 (.sl (.int .u8))), (5, .dat (.int .i64))]),
  ((109, 4), .head [(1, .dat (.sl (.int .u8))), (5, .dat (.int .i64))]),
  ((113, 4), .head [(0, .dat (.sl (.sl (.int .u8)))), (1, .dat (.sl (.sl (.int .u8)))), (5, .dat (.int .i64))]),
  ((137, 2), .head [(0, .dat (.sl (.st .Rec))), (5, .dat (.sl (.st .Rec))), (6, .dat (.int .i64)), (7, .dat (.int .i64))]),
  ((139, 6), .head [(1, .same), (3, .dat (.int .i64)), (4, .same), (5, .dat (.int .i64))]),
  ((143, 2), .head [(0, .dat (.sl (.sl (.int .u8)))), (1, .same), (7, .dat (.int .i64)), (8, .dat (.int .i64))]),
  ((145, 2), .head [(0, .dat (.sl (.st .Sent))), (1, .same), (7, .dat (.int .i64)), (8, .dat (.int .i64))]),
  ((146, 2), .head [(0, .dat (.sl (.st .Wait))), (1, .same), (7, .dat (.int .i64)), (8, .dat (.int .i64))]),
  ((151, 2), .head [(0, .dat (.sl (.int .u8))), (3, .dat (.int .i64))]),
  ((161, 7), .head [(0, .dat (.sl (.int .u64))), (1, .dat (.sl (.int .i64))), (8, .own 5 (.int .u8)), (9, .dat (.int .i64)), (28, .dat (.int .i64)), (29, .dat (.int .i64))]),
  ((166, 8), .head [(7, .own 5 (.int .u8)), (8, .dat (.int .i64))]),
  ((170, 3), .head [(0, .dat (.int .i64)), (3, .dat (.int .i64)), (4, .dat (.int .i64))]),
  ((175, 4), .head [(2, .dat (.int .i64)), (9, .dat (.sl (.int .i64))), (10, .dat (.int .i64)), (11, .dat (.int .i64))]),
  ((176, 2), .head [(0, .wrow 5 (.int .u8)), (1, .dat (.int .u64)), (7, .dat (.int .i64)), (8, .dat (.int .i64))]),
  ((185, 2), .head [(0, .dat (.sl (.int .i64))), (1, .same), (7, .dat (.int .i64)), (8, .dat (.int .i64))])]
theorem tys_ok : tysOkB Go.Proofs.Tryz.prog tys = true := by kernel_rfl
theorem mixed_ok : Go.Proofs.Tryz.prog.follows .mixedOrders = true := by kernel_rfl
theorem nm_3 : (f3.name == "runtime.NumGoroutine") = false := by kernel_rfl
theorem nm_6 : (f6.name == "runtime.NumGoroutine") = false := by kernel_rfl
theorem nm_7 : (f7.name == "runtime.NumGoroutine") = false := by kernel_rfl
theorem nm_8 : (f8.name == "runtime.NumGoroutine") = false := by kernel_rfl
theorem nm_9 : (f9.name == "runtime.NumGoroutine") = false := by kernel_rfl
theorem nm_10 : (f10.name == "runtime.NumGoroutine") = false := by kernel_rfl
theorem nm_11 : (f11.name == "runtime.NumGoroutine") = false := by kernel_rfl
theorem nm_16 : (f16.name == "runtime.NumGoroutine") = false := by kernel_rfl
theorem nm_17 : (f17.name == "runtime.NumGoroutine") = false := by kernel_rfl
theorem nm_18 : (f18.name == "runtime.NumGoroutine") = false := by kernel_rfl
theorem nm_19 : (f19.name == "runtime.NumGoroutine") = false := by kernel_rfl
theorem nm_20 : (f20.name == "runtime.NumGoroutine") = false := by kernel_rfl
theorem nm_21 : (f21.name == "runtime.NumGoroutine") = false := by kernel_rfl
theorem nm_22 : (f22.name == "runtime.NumGoroutine") = false := by kernel_rfl
theorem nm_23 : (f23.name == "runtime.NumGoroutine") = false := by kernel_rfl
theorem nm_24 : (f24.name == "runtime.NumGoroutine") = false := by kernel_rfl
theorem nm_25 : (f25.name == "runtime.NumGoroutine") = false := by kernel_rfl
theorem nm_26 : (f26.name == "runtime.NumGoroutine") = false := by kernel_rfl
theorem nm_27 : (f27.name == "runtime.NumGoroutine") = false := by kernel_rfl
theorem nm_28 : (f28.name == "runtime.NumGoroutine") = false := by kernel_rfl
theorem nm_29 : (f29.name == "runtime.NumGoroutine") = false := by kernel_rfl
theorem nm_30 : (f30.name == "runtime.NumGoroutine") = false := by kernel_rfl
theorem nm_31 : (f31.name == "runtime.NumGoroutine") = false := by kernel_rfl
theorem nm_32 : (f32.name == "runtime.NumGoroutine") = false := by kernel_rfl
theorem nm_33 : (f33.name == "runtime.NumGoroutine") = false := by kernel_rfl
theorem nm_40 : (f40.name == "runtime.NumGoroutine") = false := by kernel_rfl
theorem nm_41 : (f41.name == "runtime.NumGoroutine") = false := by kernel_rfl
theorem nm_42 : (f42.name == "runtime.NumGoroutine") = false := by kernel_rfl
theorem nm_43 : (f43.name == "runtime.NumGoroutine") = false := by kernel_rfl
theorem nm_44 : (f44.name == "runtime.NumGoroutine") = false := by kernel_rfl
theorem nm_45 : (f45.name == "runtime.NumGoroutine") = false := by kernel_rfl
theorem nm_46 : (f46.name == "runtime.NumGoroutine") = false := by kernel_rfl
theorem nm_47 : (f47.name == "runtime.NumGoroutine") = false := by kernel_rfl
theorem nm_48 : (f48.name == "runtime.NumGoroutine") = false := by kernel_rfl
theorem nm_49 : (f49.name == "runtime.NumGoroutine") = false := by kernel_rfl
theorem nm_50 : (f50.name == "runtime.NumGoroutine") = false := by kernel_rfl
theorem nm_51 : (f51.name == "runtime.NumGoroutine") = false := by kernel_rfl
theorem nm_52 : (f52.name == "runtime.NumGoroutine") = false := by kernel_rfl
theorem nm_53 : (f53.name == "runtime.NumGoroutine") = false := by kernel_rfl
theorem nm_54 : (f54.name == "runtime.NumGoroutine") = false := by kernel_rfl
theorem nm_55 : (f55.name == "runtime.NumGoroutine") = false := by kernel_rfl
theorem nm_56 : (f56.name == "runtime.NumGoroutine") = false := by kernel_rfl
theorem nm_57 : (f57.name == "runtime.NumGoroutine") = false := by kernel_rfl
theorem nm_58 : (f58.name == "runtime.NumGoroutine") = false := by kernel_rfl
theorem nm_59 : (f59.name == "runtime.NumGoroutine") = false := by kernel_rfl
theorem nm_60 : (f60.name == "runtime.NumGoroutine") = false := by kernel_rfl
theorem nm_61 : (f61.name == "runtime.NumGoroutine") = false := by kernel_rfl
theorem nm_62 : (f62.name == "runtime.NumGoroutine") = false := by kernel_rfl
theorem nm_63 : (f63.name == "runtime.NumGoroutine") = false := by kernel_rfl
theorem nm_64 : (f64.name == "runtime.NumGoroutine") = false := by kernel_rfl
theorem nm_65 : (f65.name == "runtime.NumGoroutine") = false := by kernel_rfl
theorem nm_66 : (f66.name == "runtime.NumGoroutine") = false := by kernel_rfl
theorem nm_67 : (f67.name == "runtime.NumGoroutine") = false := by kernel_rfl
theorem nm_68 : (f68.name == "runtime.NumGoroutine") = false := by kernel_rfl
theorem nm_69 : (f69.name == "runtime.NumGoroutine") = false := by kernel_rfl
theorem nm_70 : (f70.name == "runtime.NumGoroutine") = false := by kernel_rfl
theorem nm_71 : (f71.name == "runtime.NumGoroutine") = false := by kernel_rfl
theorem nm_72 : (f72.name == "runtime.NumGoroutine") = false := by kernel_rfl
theorem nm_81 : (f81.name == "runtime.NumGoroutine") = false := by kernel_rfl
theorem nm_82 : (f82.name == "runtime.NumGoroutine") = false := by kernel_rfl
theorem nm_83 : (f83.name == "runtime.NumGoroutine") = false := by kernel_rfl
theorem nm_84 : (f84.name == "runtime.NumGoroutine") = false := by kernel_rfl
theorem nm_85 : (f85.name == "runtime.NumGoroutine") = false := by kernel_rfl
theorem nm_86 : (f86.name == "runtime.NumGoroutine") = false := by kernel_rfl
theorem nm_87 : (f87.name == "runtime.NumGoroutine") = false := by kernel_rfl
theorem nm_88 : (f88.name == "runtime.NumGoroutine") = false := by kernel_rfl
theorem nm_89 : (f89.name == "runtime.NumGoroutine") = false := by kernel_rfl
theorem nm_90 : (f90.name == "runtime.NumGoroutine") = false := by kernel_rfl
theorem nm_91 : (f91.name == "runtime.NumGoroutine") = false := by kernel_rfl
theorem nm_92 : (f92.name == "runtime.NumGoroutine") = false := by kernel_rfl
theorem nm_93 : (f93.name == "runtime.NumGoroutine") = false := by kernel_rfl
theorem nm_94 : (f94.name == "runtime.NumGoroutine") = false := by kernel_rfl
theorem nm_95 : (f95.name == "runtime.NumGoroutine") = false := by kernel_rfl
theorem nm_96 : (f96.name == "runtime.NumGoroutine") = false := by kernel_rfl
theorem nm_97 : (f97.name == "runtime.NumGoroutine") = false := by kernel_rfl
theorem nm_98 : (f98.name == "runtime.NumGoroutine") = false := by kernel_rfl
theorem nm_99 : (f99.name == "runtime.NumGoroutine") = false := by kernel_rfl
theorem nm_100 : (f100.name == "runtime.NumGoroutine") = false := by kernel_rfl
theorem nm_101 : (f101.name == "runtime.NumGoroutine") = false := by kernel_rfl
theorem nm_102 : (f102.name == "runtime.NumGoroutine") = false := by kernel_rfl
theorem nm_103 : (f103.name == "runtime.NumGoroutine") = false := by kernel_rfl
theorem nm_104 : (f104.name == "runtime.NumGoroutine") = false := by kernel_rfl
theorem nm_105 : (f105.name == "runtime.NumGoroutine") = false := by kernel_rfl
theorem nm_106 : (f106.name == "runtime.NumGoroutine") = false := by kernel_rfl
theorem nm_107 : (f107.name == "runtime.NumGoroutine") = false := by kernel_rfl
theorem nm_108 : (f108.name == "runtime.NumGoroutine") = false := by kernel_rfl
theorem nm_109 : (f109.name == "runtime.NumGoroutine") = false := by kernel_rfl
theorem nm_110 : (f110.name == "runtime.NumGoroutine") = false := by kernel_rfl
theorem nm_111 : (f111.name == "runtime.NumGoroutine") = false := by kernel_rfl
theorem nm_112 : (f112.name == "runtime.NumGoroutine") = false := by kernel_rfl
theorem nm_113 : (f113.name == "runtime.NumGoroutine") = false := by kernel_rfl
theorem nm_135 : (f135.name == "runtime.NumGoroutine") = false := by kernel_rfl
theorem nm_136 : (f136.name == "runtime.NumGoroutine") = false := by kernel_rfl
theorem nm_137 : (f137.name == "runtime.NumGoroutine") = false := by kernel_rfl
theorem nm_138 : (f138.name == "runtime.NumGoroutine") = false := by kernel_rfl
theorem nm_139 : (f139.name == "runtime.NumGoroutine") = false := by kernel_rfl
theorem nm_140 : (f140.name == "runtime.NumGoroutine") = false := by kernel_rfl
theorem nm_141 : (f141.name == "runtime.NumGoroutine") = false := by kernel_rfl
theorem nm_142 : (f142.name == "runtime.NumGoroutine") = false := by kernel_rfl
theorem nm_143 : (f143.name == "runtime.NumGoroutine") = false := by kernel_rfl
theorem nm_144 : (f144.name == "runtime.NumGoroutine") = false := by kernel_rfl
theorem nm_145 : (f145.name == "runtime.NumGoroutine") = false := by kernel_rfl
theorem nm_146 : (f146.name == "runtime.NumGoroutine") = false := by kernel_rfl
theorem nm_147 : (f147.name == "runtime.NumGoroutine") = false := by kernel_rfl
theorem nm_148 : (f148.name == "runtime.NumGoroutine") = false := by kernel_rfl
theorem nm_149 : (f149.name == "runtime.NumGoroutine") = false := by kernel_rfl
theorem nm_150 : (f150.name == "runtime.NumGoroutine") = false := by kernel_rfl
theorem nm_151 : (f151.name == "runtime.NumGoroutine") = false := by kernel_rfl
theorem nm_152 : (f152.name == "runtime.NumGoroutine") = false := by kernel_rfl
theorem nm_153 : (f153.name == "runtime.NumGoroutine") = false := by kernel_rfl
theorem nm_154 : (f154.name == "runtime.NumGoroutine") = false := by kernel_rfl
theorem nm_155 : (f155.name == "runtime.NumGoroutine") = false := by kernel_rfl
theorem nm_159 : (f159.name == "runtime.NumGoroutine") = false := by kernel_rfl
theorem nm_160 : (f160.name == "runtime.NumGoroutine") = false := by kernel_rfl
theorem nm_161 : (f161.name == "runtime.NumGoroutine") = false := by kernel_rfl
theorem nm_162 : (f162.name == "runtime.NumGoroutine") = false := by kernel_rfl
theorem nm_163 : (f163.name == "runtime.NumGoroutine") = false := by kernel_rfl
theorem nm_165 : (f165.name == "runtime.NumGoroutine") = false := by kernel_rfl
theorem nm_166 : (f166.name == "runtime.NumGoroutine") = false := by kernel_rfl
theorem nm_167 : (f167.name == "runtime.NumGoroutine") = false := by kernel_rfl
theorem nm_168 : (f168.name == "runtime.NumGoroutine") = false := by kernel_rfl
theorem nm_169 : (f169.name == "runtime.NumGoroutine") = false := by kernel_rfl
theorem nm_170 : (f170.name == "runtime.NumGoroutine") = false := by kernel_rfl
theorem nm_171 : (f171.name == "runtime.NumGoroutine") = false := by kernel_rfl
theorem nm_172 : (f172.name == "runtime.NumGoroutine") = false := by kernel_rfl
theorem nm_174 : (f174.name == "runtime.NumGoroutine") = false := by kernel_rfl
theorem nm_175 : (f175.name == "runtime.NumGoroutine") = false := by kernel_rfl
theorem nm_176 : (f176.name == "runtime.NumGoroutine") = false := by kernel_rfl
theorem nm_177 : (f177.name == "runtime.NumGoroutine") = false := by kernel_rfl
theorem nm_178 : (f178.name == "runtime.NumGoroutine") = false := by kernel_rfl
theorem nm_179 : (f179.name == "runtime.NumGoroutine") = false := by kernel_rfl
theorem nm_181 : (f181.name == "runtime.NumGoroutine") = false := by kernel_rfl
theorem nm_182 : (f182.name == "runtime.NumGoroutine") = false := by kernel_rfl
theorem nm_183 : (f183.name == "runtime.NumGoroutine") = false := by kernel_rfl
theorem nm_184 : (f184.name == "runtime.NumGoroutine") = false := by kernel_rfl
theorem nm_185 : (f185.name == "runtime.NumGoroutine") = false := by kernel_rfl
theorem en_16 : Enters Go.Proofs.Tryz.prog 16 := enters_of func16 nm_16 (by kernel_rfl)
theorem en_17 : Enters Go.Proofs.Tryz.prog 17 := enters_of func17 nm_17 (by kernel_rfl)
theorem en_6 : Enters Go.Proofs.Tryz.prog 6 := enters_of func6 nm_6 (by kernel_rfl)
theorem en_18 : Enters Go.Proofs.Tryz.prog 18 := enters_of func18 nm_18 (by kernel_rfl)
theorem en_19 : Enters Go.Proofs.Tryz.prog 19 := enters_of func19 nm_19 (by kernel_rfl)
theorem en_81 : Enters Go.Proofs.Tryz.prog 81 := enters_of func81 nm_81 (by kernel_rfl)
theorem en_20 : Enters Go.Proofs.Tryz.prog 20 := enters_of func20 nm_20 (by kernel_rfl)
theorem en_22 : Enters Go.Proofs.Tryz.prog 22 := enters_of func22 nm_22 (by kernel_rfl)
theorem en_21 : Enters Go.Proofs.Tryz.prog 21 := enters_of func21 nm_21 (by kernel_rfl)
theorem en_23 : Enters Go.Proofs.Tryz.prog 23 := enters_of func23 nm_23 (by kernel_rfl)
theorem en_7 : Enters Go.Proofs.Tryz.prog 7 := enters_of func7 nm_7 (by kernel_rfl)
theorem en_82 : Enters Go.Proofs.Tryz.prog 82 := enters_of func82 nm_82 (by kernel_rfl)
theorem en_41 : Enters Go.Proofs.Tryz.prog 41 := enters_of func41 nm_41 (by kernel_rfl)
theorem en_61 : Enters Go.Proofs.Tryz.prog 61 := enters_of func61 nm_61 (by kernel_rfl)
theorem en_101 : Enters Go.Proofs.Tryz.prog 101 := enters_of func101 nm_101 (by kernel_rfl)
theorem en_102 : Enters Go.Proofs.Tryz.prog 102 := enters_of func102 nm_102 (by kernel_rfl)
theorem en_59 : Enters Go.Proofs.Tryz.prog 59 := enters_of func59 nm_59 (by kernel_rfl)
theorem en_136 : Enters Go.Proofs.Tryz.prog 136 := enters_of func136 nm_136 (by kernel_rfl)
theorem en_159 : Enters Go.Proofs.Tryz.prog 159 := enters_of func159 nm_159 (by kernel_rfl)
theorem en_83 : Enters Go.Proofs.Tryz.prog 83 := enters_of func83 nm_83 (by kernel_rfl)
theorem en_42 : Enters Go.Proofs.Tryz.prog 42 := enters_of func42 nm_42 (by kernel_rfl)
theorem en_174 : Enters Go.Proofs.Tryz.prog 174 := enters_of func174 nm_174 (by kernel_rfl)
theorem en_160 : Enters Go.Proofs.Tryz.prog 160 := enters_of func160 nm_160 (by kernel_rfl)
theorem en_161 : Enters Go.Proofs.Tryz.prog 161 := enters_of func161 nm_161 (by kernel_rfl)
theorem en_162 : Enters Go.Proofs.Tryz.prog 162 := enters_of func162 nm_162 (by kernel_rfl)
theorem en_138 : Enters Go.Proofs.Tryz.prog 138 := enters_of func138 nm_138 (by kernel_rfl)
theorem en_84 : Enters Go.Proofs.Tryz.prog 84 := enters_of func84 nm_84 (by kernel_rfl)
theorem en_43 : Enters Go.Proofs.Tryz.prog 43 := enters_of func43 nm_43 (by kernel_rfl)
theorem en_163 : Enters Go.Proofs.Tryz.prog 163 := enters_of func163 nm_163 (by kernel_rfl)
theorem en_139 : Enters Go.Proofs.Tryz.prog 139 := enters_of func139 nm_139 (by kernel_rfl)
theorem en_142 : Enters Go.Proofs.Tryz.prog 142 := enters_of func142 nm_142 (by kernel_rfl)
theorem en_85 : Enters Go.Proofs.Tryz.prog 85 := enters_of func85 nm_85 (by kernel_rfl)
theorem en_44 : Enters Go.Proofs.Tryz.prog 44 := enters_of func44 nm_44 (by kernel_rfl)
theorem en_47 : Enters Go.Proofs.Tryz.prog 47 := enters_of func47 nm_47 (by kernel_rfl)
theorem en_144 : Enters Go.Proofs.Tryz.prog 144 := enters_of func144 nm_144 (by kernel_rfl)
theorem en_91 : Enters Go.Proofs.Tryz.prog 91 := enters_of func91 nm_91 (by kernel_rfl)
theorem en_50 : Enters Go.Proofs.Tryz.prog 50 := enters_of func50 nm_50 (by kernel_rfl)
theorem en_178 : Enters Go.Proofs.Tryz.prog 178 := enters_of func178 nm_178 (by kernel_rfl)
theorem en_167 : Enters Go.Proofs.Tryz.prog 167 := enters_of func167 nm_167 (by kernel_rfl)
theorem en_179 : Enters Go.Proofs.Tryz.prog 179 := enters_of func179 nm_179 (by kernel_rfl)
theorem en_168 : Enters Go.Proofs.Tryz.prog 168 := enters_of func168 nm_168 (by kernel_rfl)
theorem en_147 : Enters Go.Proofs.Tryz.prog 147 := enters_of func147 nm_147 (by kernel_rfl)
theorem en_98 : Enters Go.Proofs.Tryz.prog 98 := enters_of func98 nm_98 (by kernel_rfl)
theorem en_53 : Enters Go.Proofs.Tryz.prog 53 := enters_of func53 nm_53 (by kernel_rfl)
theorem en_56 : Enters Go.Proofs.Tryz.prog 56 := enters_of func56 nm_56 (by kernel_rfl)
theorem en_24 : Enters Go.Proofs.Tryz.prog 24 := enters_of func24 nm_24 (by kernel_rfl)
theorem en_62 : Enters Go.Proofs.Tryz.prog 62 := enters_of func62 nm_62 (by kernel_rfl)
theorem en_25 : Enters Go.Proofs.Tryz.prog 25 := enters_of func25 nm_25 (by kernel_rfl)
theorem en_8 : Enters Go.Proofs.Tryz.prog 8 := enters_of func8 nm_8 (by kernel_rfl)
theorem en_149 : Enters Go.Proofs.Tryz.prog 149 := enters_of func149 nm_149 (by kernel_rfl)
theorem en_103 : Enters Go.Proofs.Tryz.prog 103 := enters_of func103 nm_103 (by kernel_rfl)
theorem en_169 : Enters Go.Proofs.Tryz.prog 169 := enters_of func169 nm_169 (by kernel_rfl)
theorem en_150 : Enters Go.Proofs.Tryz.prog 150 := enters_of func150 nm_150 (by kernel_rfl)
theorem en_104 : Enters Go.Proofs.Tryz.prog 104 := enters_of func104 nm_104 (by kernel_rfl)
theorem en_151 : Enters Go.Proofs.Tryz.prog 151 := enters_of func151 nm_151 (by kernel_rfl)
theorem en_105 : Enters Go.Proofs.Tryz.prog 105 := enters_of func105 nm_105 (by kernel_rfl)
theorem en_63 : Enters Go.Proofs.Tryz.prog 63 := enters_of func63 nm_63 (by kernel_rfl)
theorem en_152 : Enters Go.Proofs.Tryz.prog 152 := enters_of func152 nm_152 (by kernel_rfl)
theorem en_106 : Enters Go.Proofs.Tryz.prog 106 := enters_of func106 nm_106 (by kernel_rfl)
theorem en_64 : Enters Go.Proofs.Tryz.prog 64 := enters_of func64 nm_64 (by kernel_rfl)
theorem en_107 : Enters Go.Proofs.Tryz.prog 107 := enters_of func107 nm_107 (by kernel_rfl)
theorem en_108 : Enters Go.Proofs.Tryz.prog 108 := enters_of func108 nm_108 (by kernel_rfl)
theorem en_65 : Enters Go.Proofs.Tryz.prog 65 := enters_of func65 nm_65 (by kernel_rfl)
theorem en_66 : Enters Go.Proofs.Tryz.prog 66 := enters_of func66 nm_66 (by kernel_rfl)
theorem en_154 : Enters Go.Proofs.Tryz.prog 154 := enters_of func154 nm_154 (by kernel_rfl)
theorem en_109 : Enters Go.Proofs.Tryz.prog 109 := enters_of func109 nm_109 (by kernel_rfl)
theorem en_110 : Enters Go.Proofs.Tryz.prog 110 := enters_of func110 nm_110 (by kernel_rfl)
theorem en_67 : Enters Go.Proofs.Tryz.prog 67 := enters_of func67 nm_67 (by kernel_rfl)
theorem en_155 : Enters Go.Proofs.Tryz.prog 155 := enters_of func155 nm_155 (by kernel_rfl)
theorem en_112 : Enters Go.Proofs.Tryz.prog 112 := enters_of func112 nm_112 (by kernel_rfl)
theorem en_111 : Enters Go.Proofs.Tryz.prog 111 := enters_of func111 nm_111 (by kernel_rfl)
theorem en_68 : Enters Go.Proofs.Tryz.prog 68 := enters_of func68 nm_68 (by kernel_rfl)
theorem en_26 : Enters Go.Proofs.Tryz.prog 26 := enters_of func26 nm_26 (by kernel_rfl)
theorem en_27 : Enters Go.Proofs.Tryz.prog 27 := enters_of func27 nm_27 (by kernel_rfl)
theorem en_9 : Enters Go.Proofs.Tryz.prog 9 := enters_of func9 nm_9 (by kernel_rfl)
theorem en_10 : Enters Go.Proofs.Tryz.prog 10 := enters_of func10 nm_10 (by kernel_rfl)
theorem en_28 : Enters Go.Proofs.Tryz.prog 28 := enters_of func28 nm_28 (by kernel_rfl)
theorem en_69 : Enters Go.Proofs.Tryz.prog 69 := enters_of func69 nm_69 (by kernel_rfl)
theorem en_29 : Enters Go.Proofs.Tryz.prog 29 := enters_of func29 nm_29 (by kernel_rfl)
theorem en_113 : Enters Go.Proofs.Tryz.prog 113 := enters_of func113 nm_113 (by kernel_rfl)
theorem en_70 : Enters Go.Proofs.Tryz.prog 70 := enters_of func70 nm_70 (by kernel_rfl)
theorem en_30 : Enters Go.Proofs.Tryz.prog 30 := enters_of func30 nm_30 (by kernel_rfl)
theorem en_71 : Enters Go.Proofs.Tryz.prog 71 := enters_of func71 nm_71 (by kernel_rfl)
theorem en_72 : Enters Go.Proofs.Tryz.prog 72 := enters_of func72 nm_72 (by kernel_rfl)
theorem en_31 : Enters Go.Proofs.Tryz.prog 31 := enters_of func31 nm_31 (by kernel_rfl)
theorem en_32 : Enters Go.Proofs.Tryz.prog 32 := enters_of func32 nm_32 (by kernel_rfl)
theorem en_33 : Enters Go.Proofs.Tryz.prog 33 := enters_of func33 nm_33 (by kernel_rfl)
theorem en_11 : Enters Go.Proofs.Tryz.prog 11 := enters_of func11 nm_11 (by kernel_rfl)
theorem en_3 : Enters Go.Proofs.Tryz.prog 3 := enters_of func3 nm_3 (by kernel_rfl)
noncomputable def s16 : VSpec := { params := [(.st .Disk), (.int .i64)], results := [.bool], own := none, fn := N_ref05_Great }
noncomputable def s17 : VSpec := { params := [(.st .Site)], results := [.bool], own := none, fn := N_ref21_greatWords }
noncomputable def s6 : VSpec := { params := [(.st .Site)], results := [.bool], own := none, fn := N_ref21_Great }
noncomputable def s18 : VSpec := { params := [(.st .Disk)], results := [(.st .Disk)], own := none, fn := N_ref05_Twin }
noncomputable def s19 : VSpec := { params := [(.st .Meta)], results := [(.st .Meta)], own := none, fn := N_ref12_Twin }
noncomputable def s81 : VSpec := { params := [(.sl (.sl (.int .u8)))], results := [(.sl (.sl (.int .u8)))], own := none, fn := N_ref04_TwinAll }
noncomputable def s20 : VSpec := { params := [(.st .End)], results := [(.st .End)], own := none, fn := N_ref17_Twin }
noncomputable def s22 : VSpec := { params := [(.sl (.int .u8))], results := [(.sl (.int .u8))], own := none, fn := N_ref21_bytes }
noncomputable def s21 : VSpec := { params := [(.st .Side)], results := [(.st .Side)], own := none, fn := N_ref21_TwinSide }
noncomputable def s23 : VSpec := { params := [(.st .Msg)], results := [(.st .Msg)], own := none, fn := N_ref20_Twin }
noncomputable def s7 : VSpec := { params := [(.st .Site)], results := [(.st .Site)], own := none, fn := N_ref21_Twin }
noncomputable def s82 : VSpec := { params := [(.sl (.st .Bound))], results := [.bool], own := none, fn := N_place_within }
noncomputable def s41 : VSpec := { params := [(.st .Config)], results := [(.int .i64)], own := none, fn := N_place_Check }
noncomputable def s61 : VSpec := { params := [], results := [(.sl (.int .u8))], own := none, fn := N_disk_none }
noncomputable def s101 : VSpec := { params := [(.sl (.sl (.int .u8)))], results := [.bool], own := none, fn := N_disk_sized }
noncomputable def s102 : VSpec := { params := [(.sl (.int .u8)), (.sl (.int .u8))], results := [.bool], own := none, fn := N_bytes_Equal }
noncomputable def s59 : VSpec := { params := [(.st .Disk)], results := [(.int .i64)], own := none, fn := N_disk_Check }
noncomputable def s136 : VSpec := { params := [(.st .Part)], results := [(.int .i64)], own := none, fn := N_place_part_size }
noncomputable def s159 : VSpec := { params := [(.st .Config)], results := [(.int .i64)], own := none, fn := N_place_pages }
noncomputable def s83 : VSpec := { params := [(.st .Config)], results := [(.int .i64), (.int .i64)], own := none, fn := N_place_Sectors }
noncomputable def s42 : VSpec := { params := [(.st .Config), (.st .Disk)], results := [(.int .i64)], own := none, fn := N_track_Check }
noncomputable def s174 : VSpec := { params := [(.sl (.int .i64))], results := [.bool], own := none, fn := N_rec_site }
noncomputable def s160 : VSpec := { params := [(.st .Rec)], results := [(.int .i64)], own := none, fn := N_rec_Check }
noncomputable def s161 : VSpec := { params := [(.sl (.int .u64)), (.sl (.int .i64))], results := [(.sl (.int .u8)), (.int .i64)], own := none, fn := N_num_Write }
noncomputable def s162 : VSpec := { params := [], results := [(.sl (.int .i64))], own := none, fn := N_rec_sizes }
noncomputable def s138 : VSpec := { params := [(.st .Rec)], results := [(.sl (.int .u8)), (.int .i64)], own := none, fn := N_rec_Note }
noncomputable def s84 : VSpec := { params := [(.sl (.st .Rec))], results := [(.sl (.sl (.int .u8))), (.int .i64)], own := none, fn := N_rec_Notes }
noncomputable def s43 : VSpec := { params := [(.st .Config), (.st .Meta)], results := [(.int .i64)], own := none, fn := N_meta_Check }
noncomputable def s163 : VSpec := { params := [(.st .Round), (.int .i64)], results := [(.int .i64)], own := none, fn := N_ring_round_byte_at }
noncomputable def s139 : VSpec := { params := [(.st .Queue)], results := [(.int .i64)], own := none, fn := N_ring_Check }
noncomputable def s142 : VSpec := { params := [(.sl (.int .u8))], results := [(.sl (.int .u8))], own := none, fn := N_ring_text }
noncomputable def s85 : VSpec := { params := [(.st .Queue)], results := [(.sl (.sl (.int .u8))), (.int .i64)], own := none, fn := N_ring_List }
noncomputable def s44 : VSpec := { params := [(.st .Config), (.st .End)], results := [(.int .i64)], own := none, fn := N_sess_Check }
noncomputable def s47 : VSpec := { params := [(.st .Config), (.int .i64)], results := [.bool], own := none, fn := N_act_limits_pair }
noncomputable def s144 : VSpec := { params := [(.int .i64)], results := [(.sl (.int .u8)), (.int .i64)], own := none, fn := N_bits_All }
noncomputable def s91 : VSpec := { params := [(.int .i64), (.sl (.int .u8))], results := [(.int .i64)], own := none, fn := N_bits_Check }
noncomputable def s50 : VSpec := { params := [(.st .Config), (.st .Side)], results := [.bool], own := none, fn := N_act_limits_side }
noncomputable def s178 : VSpec := { params := [(.sl (.int .u8))], results := [.bool], own := none, fn := N_msg_marks }
noncomputable def s167 : VSpec := { params := [(.st .Msg)], results := [(.st .Msg), .bool], own := none, fn := N_msg_used }
noncomputable def s179 : VSpec := { params := [(.st .Msg)], results := [(.st .Plain)], own := none, fn := N_msg_of }
noncomputable def s168 : VSpec := { params := [(.st .Msg), (.st .Msg)], results := [.bool], own := none, fn := N_msg_Same }
noncomputable def s147 : VSpec := { params := [(.st .Msg)], results := [(.int .i64)], own := none, fn := N_msg_Check }
noncomputable def s98 : VSpec := { params := [(.st .Config), (.st .Msg)], results := [.bool], own := none, fn := N_act_limits_message }
noncomputable def s53 : VSpec := { params := [(.st .Config), (.st .Act), (.int .i64)], results := [.bool], own := none, fn := N_act_limits_act }
noncomputable def s56 : VSpec := { params := [(.st .Config), (.st .Mail)], results := [.bool], own := none, fn := N_act_limits_mail }
noncomputable def s24 : VSpec := { params := [(.st .Config), (.st .Site)], results := [(.int .i64)], own := none, fn := N_act_Check }
noncomputable def s62 : VSpec := { params := [(.sl (.int .u8))], results := [(.sl (.int .u8))], own := none, fn := N_slices_Clone_byte_byte }
noncomputable def s25 : VSpec := { params := [(.st .Disk), (.sl (.int .u8))], results := [(.st .Disk), (.int .i64)], own := none, fn := N_disk_Crash }
noncomputable def s8 : VSpec := { params := [(.st .Config), (.st .Site), (.sl (.int .u8))], results := [(.st .Disk), (.int .i64)], own := none, fn := N_boot_Crash }
noncomputable def s149 : VSpec := { params := [(.int .i64), (.int .i64), (.int .i64)], results := [.bool], own := none, fn := N_ref07_in }
noncomputable def s103 : VSpec := { params := [(.st .Config)], results := [.bool], own := none, fn := N_ref07_May }
noncomputable def s169 : VSpec := { params := [(.st .Config)], results := [(.int .i64)], own := none, fn := N_ref07_Many }
noncomputable def s150 : VSpec := { params := [(.st .Config)], results := [(.int .i64), (.int .i64), (.int .i64), (.int .i64)], own := none, fn := N_ref07_first }
noncomputable def s104 : VSpec := { params := [(.st .Config)], results := [(.int .i64)], own := none, fn := N_ref07_Size }
noncomputable def s151 : VSpec := { params := [(.sl (.int .u8))], results := [.bool], own := none, fn := N_ref05_blank }
noncomputable def s105 : VSpec := { params := [(.st .Disk)], results := [.bool], own := none, fn := N_ref05_May }
noncomputable def s63 : VSpec := { params := [(.st .Config), (.st .Disk)], results := [.bool], own := none, fn := N_ref08_May }
noncomputable def s152 : VSpec := { params := [(.st .Rec)], results := [.bool], own := none, fn := N_ref11_May }
noncomputable def s106 : VSpec := { params := [(.sl (.st .Rec))], results := [.bool], own := none, fn := N_ref11_MayAll }
noncomputable def s64 : VSpec := { params := [(.st .Config), (.st .Meta)], results := [.bool], own := none, fn := N_ref12_May }
noncomputable def s107 : VSpec := { params := [(.st .Queue)], results := [.bool], own := none, fn := N_ref04_May }
noncomputable def s108 : VSpec := { params := [(.st .Queue)], results := [(.sl (.sl (.int .u8))), (.int .i64)], own := none, fn := N_ref04_List }
noncomputable def s65 : VSpec := { params := [(.st .Config), (.st .End)], results := [.bool], own := none, fn := N_ref17_May }
noncomputable def s66 : VSpec := { params := [(.st .Config), (.int .i64)], results := [.bool], own := none, fn := N_ref21_pair }
noncomputable def s154 : VSpec := { params := [(.sl (.int .u8)), (.int .i64)], results := [.bool], own := none, fn := N_ref03_In }
noncomputable def s109 : VSpec := { params := [(.int .i64), (.sl (.int .u8))], results := [.bool], own := none, fn := N_ref03_May }
noncomputable def s110 : VSpec := { params := [(.st .Config), (.int .i64)], results := [.bool], own := none, fn := N_ref21_there }
noncomputable def s67 : VSpec := { params := [(.st .Config), (.st .Side)], results := [.bool], own := none, fn := N_ref21_maySide }
noncomputable def s155 : VSpec := { params := [(.st .Msg)], results := [.bool], own := none, fn := N_ref20_May }
noncomputable def s112 : VSpec := { params := [(.st .Config), (.st .Msg)], results := [.bool], own := none, fn := N_ref21_mayMsg }
noncomputable def s111 : VSpec := { params := [(.st .Config), (.st .Site), (.st .Act)], results := [.bool], own := none, fn := N_ref21_mayAct }
noncomputable def s68 : VSpec := { params := [(.st .Config), (.st .Site)], results := [.bool], own := none, fn := N_ref21_mayLists }
noncomputable def s26 : VSpec := { params := [(.st .Config), (.st .Site)], results := [.bool], own := none, fn := N_ref21_May }
noncomputable def s27 : VSpec := { params := [(.st .Disk), (.sl (.int .u8))], results := [(.st .Disk)], own := none, fn := N_ref05_Behind }
noncomputable def s9 : VSpec := { params := [(.st .Config), (.st .Site), (.sl (.int .u8))], results := [(.st .Disk), (.int .i64)], own := none, fn := N_ref26_Crash }
noncomputable def s10 : VSpec := { params := [(.st .Disk), (.st .Disk)], results := [.bool], own := none, fn := N_ref05_Same }
noncomputable def s28 : VSpec := { params := [(.st .Side), (.st .Side)], results := [.bool], own := none, fn := N_ref21_SameSide }
noncomputable def s69 : VSpec := { params := [(.sl (.st .Rec)), (.sl (.st .Rec))], results := [.bool], own := none, fn := N_ref11_Same }
noncomputable def s29 : VSpec := { params := [(.st .Meta), (.st .Meta)], results := [.bool], own := none, fn := N_ref12_Same }
noncomputable def s113 : VSpec := { params := [(.sl (.sl (.int .u8))), (.sl (.sl (.int .u8)))], results := [.bool], own := none, fn := N_ref04_SameAll }
noncomputable def s70 : VSpec := { params := [(.st .Queue), (.st .Queue)], results := [.bool], own := none, fn := N_ref04_Same }
noncomputable def s30 : VSpec := { params := [(.st .End), (.st .End)], results := [.bool], own := none, fn := N_ref17_Same }
noncomputable def s71 : VSpec := { params := [(.st .Msg), (.st .Msg)], results := [.bool], own := none, fn := N_ref20_Same }
noncomputable def s72 : VSpec := { params := [(.st .Reply), (.st .Reply)], results := [.bool], own := none, fn := N_ref21_SameReply }
noncomputable def s31 : VSpec := { params := [(.sl (.st .Act)), (.sl (.st .Act))], results := [.bool], own := none, fn := N_ref21_samePlan }
noncomputable def s32 : VSpec := { params := [(.st .Site), (.st .Site)], results := [.bool], own := none, fn := N_ref21_sameCome }
noncomputable def s33 : VSpec := { params := [(.sl (.st .Reply)), (.sl (.st .Reply))], results := [.bool], own := none, fn := N_ref21_SameReplies }
noncomputable def s11 : VSpec := { params := [(.st .Site), (.st .Site)], results := [.bool], own := none, fn := N_ref21_Same }
end Go.Cat

set_option maxHeartbeats 0
namespace Go.Cat
open Go Go.Proofs.Tryz
noncomputable def env16 : Env := { ty := tys, specs := [], inl := [(16, f16)], hints := hnts }
theorem T_ref05_Great (x : TT [(.st .Disk), (.int .i64)]) : (fnTree env16 16 [(.st .Disk), (.int .i64)] [.bool] none x).den = D_ref05_Great x.1 x.2.1 := by kernel_rfl
theorem C_ref05_Great : SpecOk Go.Proofs.Tryz.prog 16 s16 :=
  (fnTree_spec (E := env16) (tysOk_of tys_ok) (specSound_of specsOk_nil) mixed_ok (inlOk_of (inlB_cons func16 nm_16 inlB_nil)) en_16 [(.st .Disk), (.int .i64)] [.bool]).weaken (fun x r hx hn => (T_ref05_Great x).trans (Q_ref05_Great x r hx hn))
noncomputable def env17 : Env := { ty := tys, specs := [], inl := [(17, f17)], hints := hnts }
theorem T_ref21_greatWords (x : TT [(.st .Site)]) : (fnTree env17 17 [(.st .Site)] [.bool] none x).den = D_ref21_greatWords x.1 := by kernel_rfl
theorem C_ref21_greatWords : SpecOk Go.Proofs.Tryz.prog 17 s17 :=
  (fnTree_spec (E := env17) (tysOk_of tys_ok) (specSound_of specsOk_nil) mixed_ok (inlOk_of (inlB_cons func17 nm_17 inlB_nil)) en_17 [(.st .Site)] [.bool]).weaken (fun x r hx hn => (T_ref21_greatWords x).trans (Q_ref21_greatWords x r hx hn))
noncomputable def env6 : Env := { ty := tys, specs := [(16, s16), (17, s17)], inl := [(6, f6)], hints := hnts }
theorem T_ref21_Great (x : TT [(.st .Site)]) : (fnTree env6 6 [(.st .Site)] [.bool] none x).den = D_ref21_Great x.1 := by kernel_rfl
theorem C_ref21_Great : SpecOk Go.Proofs.Tryz.prog 6 s6 :=
  (fnTree_spec (E := env6) (tysOk_of tys_ok) (specSound_of (specsOk_cons C_ref05_Great rfl (specsOk_cons C_ref21_greatWords rfl specsOk_nil))) mixed_ok (inlOk_of (inlB_cons func6 nm_6 inlB_nil)) en_6 [(.st .Site)] [.bool]).weaken (fun x r hx hn => (T_ref21_Great x).trans (Q_ref21_Great x r hx hn))
noncomputable def env18 : Env := { ty := tys, specs := [], inl := [(18, f18)], hints := hnts }
theorem T_ref05_Twin (x : TT [(.st .Disk)]) : (fnTree env18 18 [(.st .Disk)] [(.st .Disk)] none x).den = D_ref05_Twin x.1 := by kernel_rfl
theorem C_ref05_Twin : SpecOk Go.Proofs.Tryz.prog 18 s18 :=
  (fnTree_spec (E := env18) (tysOk_of tys_ok) (specSound_of specsOk_nil) mixed_ok (inlOk_of (inlB_cons func18 nm_18 inlB_nil)) en_18 [(.st .Disk)] [(.st .Disk)]).weaken (fun x r hx hn => (T_ref05_Twin x).trans (Q_ref05_Twin x r hx hn))
noncomputable def env19 : Env := { ty := tys, specs := [], inl := [(19, f19)], hints := hnts }
theorem T_ref12_Twin (x : TT [(.st .Meta)]) : (fnTree env19 19 [(.st .Meta)] [(.st .Meta)] none x).den = D_ref12_Twin x.1 := by kernel_rfl
theorem C_ref12_Twin : SpecOk Go.Proofs.Tryz.prog 19 s19 :=
  (fnTree_spec (E := env19) (tysOk_of tys_ok) (specSound_of specsOk_nil) mixed_ok (inlOk_of (inlB_cons func19 nm_19 inlB_nil)) en_19 [(.st .Meta)] [(.st .Meta)]).weaken (fun x r hx hn => (T_ref12_Twin x).trans (Q_ref12_Twin x r hx hn))
noncomputable def env81 : Env := { ty := tys, specs := [], inl := [(81, f81)], hints := hnts }
theorem T_ref04_TwinAll (x : TT [(.sl (.sl (.int .u8)))]) : (fnTree env81 81 [(.sl (.sl (.int .u8)))] [(.sl (.sl (.int .u8)))] none x).den = D_ref04_TwinAll x.1 := by kernel_rfl
theorem C_ref04_TwinAll : SpecOk Go.Proofs.Tryz.prog 81 s81 :=
  (fnTree_spec (E := env81) (tysOk_of tys_ok) (specSound_of specsOk_nil) mixed_ok (inlOk_of (inlB_cons func81 nm_81 inlB_nil)) en_81 [(.sl (.sl (.int .u8)))] [(.sl (.sl (.int .u8)))]).weaken (fun x r hx hn => (T_ref04_TwinAll x).trans (Q_ref04_TwinAll x r hx hn))
noncomputable def env20 : Env := { ty := tys, specs := [(81, s81)], inl := [(20, f20), (40, f40)], hints := hnts }
theorem T_ref17_Twin (x : TT [(.st .End)]) : (fnTree env20 20 [(.st .End)] [(.st .End)] none x).den = D_ref17_Twin x.1 := by kernel_rfl
theorem C_ref17_Twin : SpecOk Go.Proofs.Tryz.prog 20 s20 :=
  (fnTree_spec (E := env20) (tysOk_of tys_ok) (specSound_of (specsOk_cons C_ref04_TwinAll rfl specsOk_nil)) mixed_ok (inlOk_of (inlB_cons func20 nm_20 (inlB_cons func40 nm_40 inlB_nil))) en_20 [(.st .End)] [(.st .End)]).weaken (fun x r hx hn => (T_ref17_Twin x).trans (Q_ref17_Twin x r hx hn))
noncomputable def env22 : Env := { ty := tys, specs := [], inl := [(22, f22)], hints := hnts }
theorem T_ref21_bytes (x : TT [(.sl (.int .u8))]) : (fnTree env22 22 [(.sl (.int .u8))] [(.sl (.int .u8))] none x).den = D_ref21_bytes x.1 := by kernel_rfl
theorem C_ref21_bytes : SpecOk Go.Proofs.Tryz.prog 22 s22 :=
  (fnTree_spec (E := env22) (tysOk_of tys_ok) (specSound_of specsOk_nil) mixed_ok (inlOk_of (inlB_cons func22 nm_22 inlB_nil)) en_22 [(.sl (.int .u8))] [(.sl (.int .u8))]).weaken (fun x r hx hn => (T_ref21_bytes x).trans (Q_ref21_bytes x r hx hn))
noncomputable def env21 : Env := { ty := tys, specs := [(22, s22)], inl := [(21, f21)], hints := hnts }
theorem T_ref21_TwinSide (x : TT [(.st .Side)]) : (fnTree env21 21 [(.st .Side)] [(.st .Side)] none x).den = D_ref21_TwinSide x.1 := by kernel_rfl
theorem C_ref21_TwinSide : SpecOk Go.Proofs.Tryz.prog 21 s21 :=
  (fnTree_spec (E := env21) (tysOk_of tys_ok) (specSound_of (specsOk_cons C_ref21_bytes rfl specsOk_nil)) mixed_ok (inlOk_of (inlB_cons func21 nm_21 inlB_nil)) en_21 [(.st .Side)] [(.st .Side)]).weaken (fun x r hx hn => (T_ref21_TwinSide x).trans (Q_ref21_TwinSide x r hx hn))
noncomputable def env23 : Env := { ty := tys, specs := [], inl := [(23, f23)], hints := hnts }
theorem T_ref20_Twin (x : TT [(.st .Msg)]) : (fnTree env23 23 [(.st .Msg)] [(.st .Msg)] none x).den = D_ref20_Twin x.1 := by kernel_rfl
theorem C_ref20_Twin : SpecOk Go.Proofs.Tryz.prog 23 s23 :=
  (fnTree_spec (E := env23) (tysOk_of tys_ok) (specSound_of specsOk_nil) mixed_ok (inlOk_of (inlB_cons func23 nm_23 inlB_nil)) en_23 [(.st .Msg)] [(.st .Msg)]).weaken (fun x r hx hn => (T_ref20_Twin x).trans (Q_ref20_Twin x r hx hn))
noncomputable def env7 : Env := { ty := tys, specs := [(18, s18), (19, s19), (20, s20), (21, s21), (22, s22), (23, s23)], inl := [(7, f7)], hints := hnts }
theorem T_ref21_Twin (x : TT [(.st .Site)]) : (fnTree env7 7 [(.st .Site)] [(.st .Site)] none x).den = D_ref21_Twin x.1 := by kernel_rfl
theorem C_ref21_Twin : SpecOk Go.Proofs.Tryz.prog 7 s7 :=
  (fnTree_spec (E := env7) (tysOk_of tys_ok) (specSound_of (specsOk_cons C_ref05_Twin rfl (specsOk_cons C_ref12_Twin rfl (specsOk_cons C_ref17_Twin rfl (specsOk_cons C_ref21_TwinSide rfl (specsOk_cons C_ref21_bytes rfl (specsOk_cons C_ref20_Twin rfl specsOk_nil))))))) mixed_ok (inlOk_of (inlB_cons func7 nm_7 inlB_nil)) en_7 [(.st .Site)] [(.st .Site)]).weaken (fun x r hx hn => (T_ref21_Twin x).trans (Q_ref21_Twin x r hx hn))
noncomputable def env82 : Env := { ty := tys, specs := [], inl := [(82, f82)], hints := hnts }
theorem T_place_within (x : TT [(.sl (.st .Bound))]) : (fnTree env82 82 [(.sl (.st .Bound))] [.bool] none x).den = D_place_within x.1 := by kernel_rfl
theorem C_place_within : SpecOk Go.Proofs.Tryz.prog 82 s82 :=
  (fnTree_spec (E := env82) (tysOk_of tys_ok) (specSound_of specsOk_nil) mixed_ok (inlOk_of (inlB_cons func82 nm_82 inlB_nil)) en_82 [(.sl (.st .Bound))] [.bool]).weaken (fun x r hx hn => (T_place_within x).trans (Q_place_within x r hx hn))
noncomputable def env41 : Env := { ty := tys, specs := [(82, s82)], inl := [(41, f41)], hints := hnts }
theorem T_place_Check (x : TT [(.st .Config)]) : (fnTree env41 41 [(.st .Config)] [(.int .i64)] none x).den = D_place_Check x.1 := by kernel_rfl
theorem C_place_Check : SpecOk Go.Proofs.Tryz.prog 41 s41 :=
  (fnTree_spec (E := env41) (tysOk_of tys_ok) (specSound_of (specsOk_cons C_place_within rfl specsOk_nil)) mixed_ok (inlOk_of (inlB_cons func41 nm_41 inlB_nil)) en_41 [(.st .Config)] [(.int .i64)]).weaken (fun x r hx hn => (T_place_Check x).trans (Q_place_Check x r hx hn))
noncomputable def env61 : Env := { ty := tys, specs := [], inl := [(61, f61)], hints := hnts }
theorem T_disk_none (x : TT []) : (fnTree env61 61 [] [(.sl (.int .u8))] none x).den = D_disk_none := by kernel_rfl
theorem C_disk_none : SpecOk Go.Proofs.Tryz.prog 61 s61 :=
  (fnTree_spec (E := env61) (tysOk_of tys_ok) (specSound_of specsOk_nil) mixed_ok (inlOk_of (inlB_cons func61 nm_61 inlB_nil)) en_61 [] [(.sl (.int .u8))]).weaken (fun x r hx hn => (T_disk_none x).trans (Q_disk_none x r hx hn))
noncomputable def env101 : Env := { ty := tys, specs := [], inl := [(86, f86), (101, f101), (143, f143), (148, f148)], hints := hnts }
theorem T_disk_sized (x : TT [(.sl (.sl (.int .u8)))]) : (fnTree env101 101 [(.sl (.sl (.int .u8)))] [.bool] none x).den = D_disk_sized x.1 := by kernel_rfl
theorem C_disk_sized : SpecOk Go.Proofs.Tryz.prog 101 s101 :=
  (fnTree_spec (E := env101) (tysOk_of tys_ok) (specSound_of specsOk_nil) mixed_ok (inlOk_of (inlB_cons func86 nm_86 (inlB_cons func101 nm_101 (inlB_cons func143 nm_143 (inlB_cons func148 nm_148 inlB_nil))))) en_101 [(.sl (.sl (.int .u8)))] [.bool]).weaken (fun x r hx hn => (T_disk_sized x).trans (Q_disk_sized x r hx hn))
noncomputable def env102 : Env := { ty := tys, specs := [], inl := [(102, f102)], hints := hnts }
theorem T_bytes_Equal (x : TT [(.sl (.int .u8)), (.sl (.int .u8))]) : (fnTree env102 102 [(.sl (.int .u8)), (.sl (.int .u8))] [.bool] none x).den = D_bytes_Equal x.1 x.2.1 := by kernel_rfl
theorem C_bytes_Equal : SpecOk Go.Proofs.Tryz.prog 102 s102 :=
  (fnTree_spec (E := env102) (tysOk_of tys_ok) (specSound_of specsOk_nil) mixed_ok (inlOk_of (inlB_cons func102 nm_102 inlB_nil)) en_102 [(.sl (.int .u8)), (.sl (.int .u8))] [.bool]).weaken (fun x r hx hn => (T_bytes_Equal x).trans (Q_bytes_Equal x r hx hn))
noncomputable def env59 : Env := { ty := tys, specs := [(61, s61), (101, s101), (102, s102)], inl := [(59, f59)], hints := hnts }
theorem T_disk_Check (x : TT [(.st .Disk)]) : (fnTree env59 59 [(.st .Disk)] [(.int .i64)] none x).den = D_disk_Check x.1 := by kernel_rfl
theorem C_disk_Check : SpecOk Go.Proofs.Tryz.prog 59 s59 :=
  (fnTree_spec (E := env59) (tysOk_of tys_ok) (specSound_of (specsOk_cons C_disk_none rfl (specsOk_cons C_disk_sized rfl (specsOk_cons C_bytes_Equal rfl specsOk_nil)))) mixed_ok (inlOk_of (inlB_cons func59 nm_59 inlB_nil)) en_59 [(.st .Disk)] [(.int .i64)]).weaken (fun x r hx hn => (T_disk_Check x).trans (Q_disk_Check x r hx hn))
noncomputable def env136 : Env := { ty := tys, specs := [], inl := [(136, f136)], hints := hnts }
theorem T_place_part_size (x : TT [(.st .Part)]) : (fnTree env136 136 [(.st .Part)] [(.int .i64)] none x).den = D_place_part_size x.1 := by kernel_rfl
theorem C_place_part_size : SpecOk Go.Proofs.Tryz.prog 136 s136 :=
  (fnTree_spec (E := env136) (tysOk_of tys_ok) (specSound_of specsOk_nil) mixed_ok (inlOk_of (inlB_cons func136 nm_136 inlB_nil)) en_136 [(.st .Part)] [(.int .i64)]).weaken (fun x r hx hn => (T_place_part_size x).trans (Q_place_part_size x r hx hn))
end Go.Cat

set_option maxHeartbeats 0
namespace Go.Cat
open Go Go.Proofs.Tryz
noncomputable def env159 : Env := { ty := tys, specs := [], inl := [(159, f159)], hints := hnts }
theorem T_place_pages (x : TT [(.st .Config)]) : (fnTree env159 159 [(.st .Config)] [(.int .i64)] none x).den = D_place_pages x.1 := by kernel_rfl
theorem C_place_pages : SpecOk Go.Proofs.Tryz.prog 159 s159 :=
  (fnTree_spec (E := env159) (tysOk_of tys_ok) (specSound_of specsOk_nil) mixed_ok (inlOk_of (inlB_cons func159 nm_159 inlB_nil)) en_159 [(.st .Config)] [(.int .i64)]).weaken (fun x r hx hn => (T_place_pages x).trans (Q_place_pages x r hx hn))
noncomputable def env83 : Env := { ty := tys, specs := [(41, s41), (136, s136), (159, s159)], inl := [(83, f83), (135, f135)], hints := hnts }
theorem T_place_Sectors (x : TT [(.st .Config)]) : (fnTree env83 83 [(.st .Config)] [(.int .i64), (.int .i64)] none x).den = D_place_Sectors x.1 := by kernel_rfl
theorem C_place_Sectors : SpecOk Go.Proofs.Tryz.prog 83 s83 :=
  (fnTree_spec (E := env83) (tysOk_of tys_ok) (specSound_of (specsOk_cons C_place_Check rfl (specsOk_cons C_place_part_size rfl (specsOk_cons C_place_pages rfl specsOk_nil)))) mixed_ok (inlOk_of (inlB_cons func83 nm_83 (inlB_cons func135 nm_135 inlB_nil))) en_83 [(.st .Config)] [(.int .i64), (.int .i64)]).weaken (fun x r hx hn => (T_place_Sectors x).trans (Q_place_Sectors x r hx hn))
noncomputable def env42 : Env := { ty := tys, specs := [(59, s59), (83, s83)], inl := [(42, f42)], hints := hnts }
theorem T_track_Check (x : TT [(.st .Config), (.st .Disk)]) : (fnTree env42 42 [(.st .Config), (.st .Disk)] [(.int .i64)] none x).den = D_track_Check x.1 x.2.1 := by kernel_rfl
theorem C_track_Check : SpecOk Go.Proofs.Tryz.prog 42 s42 :=
  (fnTree_spec (E := env42) (tysOk_of tys_ok) (specSound_of (specsOk_cons C_disk_Check rfl (specsOk_cons C_place_Sectors rfl specsOk_nil))) mixed_ok (inlOk_of (inlB_cons func42 nm_42 inlB_nil)) en_42 [(.st .Config), (.st .Disk)] [(.int .i64)]).weaken (fun x r hx hn => (T_track_Check x).trans (Q_track_Check x r hx hn))
noncomputable def env174 : Env := { ty := tys, specs := [], inl := [(174, f174), (181, f181), (182, f182), (185, f185)], hints := hnts }
theorem T_rec_site (x : TT [(.sl (.int .i64))]) : (fnTree env174 174 [(.sl (.int .i64))] [.bool] none x).den = D_rec_site x.1 := by kernel_rfl
theorem C_rec_site : SpecOk Go.Proofs.Tryz.prog 174 s174 :=
  (fnTree_spec (E := env174) (tysOk_of tys_ok) (specSound_of specsOk_nil) mixed_ok (inlOk_of (inlB_cons func174 nm_174 (inlB_cons func181 nm_181 (inlB_cons func182 nm_182 (inlB_cons func185 nm_185 inlB_nil))))) en_174 [(.sl (.int .i64))] [.bool]).weaken (fun x r hx hn => (T_rec_site x).trans (Q_rec_site x r hx hn))
noncomputable def env160 : Env := { ty := tys, specs := [(174, s174)], inl := [(160, f160)], hints := hnts }
theorem T_rec_Check (x : TT [(.st .Rec)]) : (fnTree env160 160 [(.st .Rec)] [(.int .i64)] none x).den = D_rec_Check x.1 := by kernel_rfl
theorem C_rec_Check : SpecOk Go.Proofs.Tryz.prog 160 s160 :=
  (fnTree_spec (E := env160) (tysOk_of tys_ok) (specSound_of (specsOk_cons C_rec_site rfl specsOk_nil)) mixed_ok (inlOk_of (inlB_cons func160 nm_160 inlB_nil)) en_160 [(.st .Rec)] [(.int .i64)]).weaken (fun x r hx hn => (T_rec_Check x).trans (Q_rec_Check x r hx hn))
noncomputable def env161 : Env := { ty := tys, specs := [], inl := [(161, f161), (175, f175), (176, f176)], hints := hnts }
theorem T_num_Write (x : TT [(.sl (.int .u64)), (.sl (.int .i64))]) : (fnTree env161 161 [(.sl (.int .u64)), (.sl (.int .i64))] [(.sl (.int .u8)), (.int .i64)] none x).den = D_num_Write x.1 x.2.1 := by kernel_rfl
theorem C_num_Write : SpecOk Go.Proofs.Tryz.prog 161 s161 :=
  (fnTree_spec (E := env161) (tysOk_of tys_ok) (specSound_of specsOk_nil) mixed_ok (inlOk_of (inlB_cons func161 nm_161 (inlB_cons func175 nm_175 (inlB_cons func176 nm_176 inlB_nil)))) en_161 [(.sl (.int .u64)), (.sl (.int .i64))] [(.sl (.int .u8)), (.int .i64)]).weaken (fun x r hx hn => (T_num_Write x).trans (Q_num_Write x r hx hn))
noncomputable def env162 : Env := { ty := tys, specs := [], inl := [(162, f162)], hints := hnts }
theorem T_rec_sizes (x : TT []) : (fnTree env162 162 [] [(.sl (.int .i64))] none x).den = D_rec_sizes := by kernel_rfl
theorem C_rec_sizes : SpecOk Go.Proofs.Tryz.prog 162 s162 :=
  (fnTree_spec (E := env162) (tysOk_of tys_ok) (specSound_of specsOk_nil) mixed_ok (inlOk_of (inlB_cons func162 nm_162 inlB_nil)) en_162 [] [(.sl (.int .i64))]).weaken (fun x r hx hn => (T_rec_sizes x).trans (Q_rec_sizes x r hx hn))
noncomputable def env138 : Env := { ty := tys, specs := [(160, s160), (161, s161), (162, s162)], inl := [(138, f138)], hints := hnts }
theorem T_rec_Note (x : TT [(.st .Rec)]) : (fnTree env138 138 [(.st .Rec)] [(.sl (.int .u8)), (.int .i64)] none x).den = D_rec_Note x.1 := by kernel_rfl
theorem C_rec_Note : SpecOk Go.Proofs.Tryz.prog 138 s138 :=
  (fnTree_spec (E := env138) (tysOk_of tys_ok) (specSound_of (specsOk_cons C_rec_Check rfl (specsOk_cons C_num_Write rfl (specsOk_cons C_rec_sizes rfl specsOk_nil)))) mixed_ok (inlOk_of (inlB_cons func138 nm_138 inlB_nil)) en_138 [(.st .Rec)] [(.sl (.int .u8)), (.int .i64)]).weaken (fun x r hx hn => (T_rec_Note x).trans (Q_rec_Note x r hx hn))
noncomputable def env84 : Env := { ty := tys, specs := [(138, s138), (160, s160)], inl := [(84, f84), (137, f137)], hints := hnts }
theorem T_rec_Notes (x : TT [(.sl (.st .Rec))]) : (fnTree env84 84 [(.sl (.st .Rec))] [(.sl (.sl (.int .u8))), (.int .i64)] none x).den = D_rec_Notes x.1 := by kernel_rfl
theorem C_rec_Notes : SpecOk Go.Proofs.Tryz.prog 84 s84 :=
  (fnTree_spec (E := env84) (tysOk_of tys_ok) (specSound_of (specsOk_cons C_rec_Note rfl (specsOk_cons C_rec_Check rfl specsOk_nil))) mixed_ok (inlOk_of (inlB_cons func84 nm_84 (inlB_cons func137 nm_137 inlB_nil))) en_84 [(.sl (.st .Rec))] [(.sl (.sl (.int .u8))), (.int .i64)]).weaken (fun x r hx hn => (T_rec_Notes x).trans (Q_rec_Notes x r hx hn))
noncomputable def env43 : Env := { ty := tys, specs := [(41, s41), (84, s84)], inl := [(43, f43)], hints := hnts }
theorem T_meta_Check (x : TT [(.st .Config), (.st .Meta)]) : (fnTree env43 43 [(.st .Config), (.st .Meta)] [(.int .i64)] none x).den = D_meta_Check x.1 x.2.1 := by kernel_rfl
theorem C_meta_Check : SpecOk Go.Proofs.Tryz.prog 43 s43 :=
  (fnTree_spec (E := env43) (tysOk_of tys_ok) (specSound_of (specsOk_cons C_place_Check rfl (specsOk_cons C_rec_Notes rfl specsOk_nil))) mixed_ok (inlOk_of (inlB_cons func43 nm_43 inlB_nil)) en_43 [(.st .Config), (.st .Meta)] [(.int .i64)]).weaken (fun x r hx hn => (T_meta_Check x).trans (Q_meta_Check x r hx hn))
noncomputable def env163 : Env := { ty := tys, specs := [], inl := [(163, f163)], hints := hnts }
theorem T_ring_round_byte_at (x : TT [(.st .Round), (.int .i64)]) : (fnTree env163 163 [(.st .Round), (.int .i64)] [(.int .i64)] none x).den = D_ring_round_byte_at x.1 x.2.1 := by kernel_rfl
theorem C_ring_round_byte_at : SpecOk Go.Proofs.Tryz.prog 163 s163 :=
  (fnTree_spec (E := env163) (tysOk_of tys_ok) (specSound_of specsOk_nil) mixed_ok (inlOk_of (inlB_cons func163 nm_163 inlB_nil)) en_163 [(.st .Round), (.int .i64)] [(.int .i64)]).weaken (fun x r hx hn => (T_ring_round_byte_at x).trans (Q_ring_round_byte_at x r hx hn))
noncomputable def env139 : Env := { ty := tys, specs := [(163, s163)], inl := [(139, f139), (140, f140)], hints := hnts }
theorem T_ring_Check (x : TT [(.st .Queue)]) : (fnTree env139 139 [(.st .Queue)] [(.int .i64)] none x).den = D_ring_Check x.1 := by kernel_rfl
theorem C_ring_Check : SpecOk Go.Proofs.Tryz.prog 139 s139 :=
  (fnTree_spec (E := env139) (tysOk_of tys_ok) (specSound_of (specsOk_cons C_ring_round_byte_at rfl specsOk_nil)) mixed_ok (inlOk_of (inlB_cons func139 nm_139 (inlB_cons func140 nm_140 inlB_nil))) en_139 [(.st .Queue)] [(.int .i64)]).weaken (fun x r hx hn => (T_ring_Check x).trans (Q_ring_Check x r hx hn))
noncomputable def env142 : Env := { ty := tys, specs := [], inl := [(142, f142)], hints := hnts }
theorem T_ring_text (x : TT [(.sl (.int .u8))]) : (fnTree env142 142 [(.sl (.int .u8))] [(.sl (.int .u8))] none x).den = D_ring_text x.1 := by kernel_rfl
theorem C_ring_text : SpecOk Go.Proofs.Tryz.prog 142 s142 :=
  (fnTree_spec (E := env142) (tysOk_of tys_ok) (specSound_of specsOk_nil) mixed_ok (inlOk_of (inlB_cons func142 nm_142 inlB_nil)) en_142 [(.sl (.int .u8))] [(.sl (.int .u8))]).weaken (fun x r hx hn => (T_ring_text x).trans (Q_ring_text x r hx hn))
end Go.Cat

namespace Go.Cat
open Go Go.Proofs Go.RowKit Go.Shelf
attribute [local go_sem] Oper.semAt_some

set_option maxRecDepth 100000 in
set_option maxHeartbeats 2000000 in
theorem ring_at_in (F : Fence) (n : Nat) (h : F.fn 163) (hro : F.round = none) (a : Option Addr) (len cap : Nat) (fr mn k : Int) (w : World) (hlen : 0 < len) :
    CallsIn F n Tryz.prog 163 #[.agg #[.slice a len cap, .int .i64 fr, .int .i64 mn], .int .i64 k] w fun e w' => e = .returned (.int .i64 (Int.tmod (wrap64 (fr + k)) len)) ∧ w' = w.alloc (.cells #[.slice a len cap, .int .i64 fr, .int .i64 mn] 224) := by
  refine callsIn_of_wp Tryz.func163 rfl h ?_ hro
  simp only [Tryz.ntmps163, List.size_toArray, List.length_cons, List.length_nil, Nat.reduceAdd, Nat.reduceSub, Array.replicate_succ, Array.replicate_zero, List.push_toArray, List.append_toArray, List.nil_append, List.cons_append]
  gi_wp2
  go_ret
  exact ⟨rfl, rfl⟩

theorem take_next {α : Type} (ys : List α) (k : Nat) (h : k < ys.length) : ys.take (k + 1) = ys.take k ++ [ys[k]] := by
  rw [List.take_succ_eq_append_getElem h]

set_option maxRecDepth 100000 in
set_option maxHeartbeats 4000000 in
/-- What the iterator yields, to whatever takes it: the items, in order, from memory that every round leaves as it lay (G). -/
theorem ring_used1_in {α : Type} (enc : α → Value) (ys : List α) (n : Nat) (l Bs b off len cap : Nat) (fr : Int) (hlen : 0 < len) (hmn : ys.length ≤ 64) (idx : Nat → Nat)
    (hidx : ∀ k, k < ys.length → Int.tmod (wrap64 (fr + (k : Int))) (len : Int) = (idx k : Int) ∧ idx k < len) (G : World → Prop) (hGa : ∀ W o, G W → G (W.alloc o)) (hGd : ∀ W, G W → G W.drew)
    (hG0 : ∀ W, G W → W.cell? ⟨Bs, 0, none⟩ = some (.slice (some ⟨b, off, none⟩) len cap)) (hG1 : ∀ W, G W → W.cell? ⟨Bs, 1, none⟩ = some (.int .i64 fr)) (hG2 : ∀ W, G W → W.cell? ⟨Bs, 2, none⟩ = some (.int .i64 (ys.length : Int)))
    (hGc : ∀ W, G W → ∀ j (h : j < ys.length), W.cell? ⟨b, off + idx j, none⟩ = some (enc ys[j])) (J Jx : List α → World → Prop) (W : World) (hJa : AbidesFrom W.heap.size J)
    (hY : ∀ pre x W, J pre W → pre.length < ys.length → YieldAt Fence.wide (n - 1) Tryz.prog l #[enc x] W fun e W' =>
      (e = .returned (.bool true) ∧ J (pre ++ [x]) W' ∧ (G W → G W')) ∨ (e = .returned (.bool false) ∧ Jx (pre ++ [x]) W'))
    (hGW : G W) (h0 : J [] W) :
    CallsIn Fence.wide n Tryz.prog 164 #[.func (.yield l) #[] #[], .pointer (some ⟨Bs, 0, none⟩)] W fun e W' => (∃ v, e = .returned v) ∧
      ((∃ xs, xs = ys ∧ J xs W') ∨ (∃ pre, True ∧ Jx pre W')) := by
  have hm : Tryz.prog.follows .mixedOrders = true := by kernel_rfl
  have c0 := hG0 W hGW
  have c1 := hG1 W hGW
  have c2 := hG2 W hGW
  refine callsIn_of_wp Tryz.func164 rfl trivial ?_ rfl
  simp only [Tryz.ntmps164, List.size_toArray, List.length_cons, List.length_nil, Nat.reduceAdd, Nat.reduceSub, Array.replicate_succ, Array.replicate_zero, List.push_toArray, List.append_toArray, List.nil_append, List.cons_append]
  gi_wp2
  gi_loopw [6] (fun i wr => ∃ k : Nat, k ≤ ys.length ∧ i = .int .i64 k ∧ J (ys.take k) wr ∧ G wr)
    (fun i _ => ys.length - (intOf i).toNat)
  case atStart => exact ⟨0, Nat.zero_le _, rfl, h0, hGW⟩
  case round =>
    obtain ⟨k, hk, rfl, hJs, hnx⟩ := hrel
    by_cases hlt : k < ys.length
    · obtain ⟨i1, i2⟩ := hidx k hlt
      have e0 := hG0 wr hnx
      have e1 := hG1 wr hnx
      have e2 := hG2 wr hnx
      have e3 := hGc wr hnx k hlt
      let o : Obj := .cells #[.slice (some ⟨b, off, none⟩) len cap, .int .i64 fr, .int .i64 ys.length] 224
      have a0 := hG0 _ (hGa wr o hnx)
      have a1 := hG1 _ (hGa wr o hnx)
      have a2 := hG2 _ (hGa wr o hnx)
      have a3 := hGc _ (hGa wr o hnx) k hlt
      have hJ1 : J (ys.take k) (wr.alloc o).drew :=
        hJa _ wr _ none hJs ⟨rfl, rfl, rfl, by simp, fun b hb _ => Below.heap_alloc wr o b hb⟩ (fun r e => by cases e)
      obtain ⟨fn, tmps, assign, body, hy, hR⟩ := hY _ ys[k] _ hJ1 (by rw [List.length_take]; omega)
      have hat : ∀ (m : Nat) (W : World), CallsIn Fence.wide m Tryz.prog 163 #[.agg #[.slice (some ⟨b, off, none⟩) len cap, .int .i64 fr, .int .i64 ys.length], .int .i64 k] W fun e w' => e = .returned (.int .i64 (idx k)) ∧ w' = W.alloc o := fun m W => by
        have := ring_at_in Fence.wide m trivial rfl (some ⟨b, off, none⟩) len cap fr ys.length k W hlen
        rwa [i1] at this
      have q1 : (0 : Int) ≤ (idx k : Int) := by omega
      have q2 : (idx k : Int) < (len : Int) := by omega
      gi_wp2
      have hR' : RoundIn Fence.wide (n - 1) Tryz.prog l fn tmps assign body (wr.alloc o).drew fun e W' => ∃ t : Bool, e = .returned (.bool t) ∧ ((t = true ∧ J (ys.take (k + 1)) W' ∧ G W') ∨ (t = false ∧ Jx (ys.take (k + 1)) W')) := by
        refine hR.mono ?_
        rintro e W' (⟨rfl, h1, h2⟩ | ⟨rfl, h1⟩)
        · exact ⟨true, rfl, .inl ⟨rfl, by rw [take_next _ _ hlt]; exact h1, h2 (hGd _ (hGa _ _ hnx))⟩⟩
        · exact ⟨false, rfl, .inr ⟨rfl, by rw [take_next _ _ hlt]; exact h1⟩⟩
      gi_region_with_o (first
        | (refine ⟨trivial, (fun h => by cases h), ?_⟩; refine (hat _ _).mono ?_; rintro e w' ⟨rfl, rfl⟩)
        | (refine ⟨(fun h => by cases h), ?_⟩; refine hR'.mono ?_; rintro e W3 ⟨t, rfl, ht⟩))
      all_goals
        rcases ht with ⟨rfl, hJ3, hk3⟩ | ⟨rfl, hJx3⟩
        · gi_wp2
          go_roundw
          case rel => exact ⟨k + 1, by omega, by simp, hJ3, hk3⟩
          case measure => simp [intOf]; omega
        · gi_wp2
          refine bodyPost_ret (results_none rfl _ _ _) rfl ?_
          exact ⟨⟨_, rfl⟩, .inr ⟨_, trivial, hJx3⟩⟩
    · obtain rfl : k = ys.length := by omega
      gi_wp2
      go_end0
      exact ⟨⟨_, rfl⟩, .inl ⟨_, rfl, by simpa using hJs⟩⟩
end Go.Cat
