/-
  My own text: a part of the proof.
  My own text: a part of the proof.
-/
import Derived.Test.YtiflikkmjeikdaaGreatC9
set_option linter.unusedVariables false
set_option linter.unusedSimpArgs false
set_option maxHeartbeats 0
namespace Go.Cat
open Go Go.Proofs.Tryz
noncomputable def env193 : Env := { ty := tys, specs := [(119, s119), (225, s225)], inl := [(193, f193)], hints := hnts }
theorem T_ref21_mayMsg (x : TT [(.st .Config), (.st .Msg)]) : (fnTree env193 193 [(.st .Config), (.st .Msg)] [.bool] x).den = D_ref21_mayMsg x.1 x.2.1 := by kernel_rfl
theorem C_ref21_mayMsg : SpecOk Go.Proofs.Tryz.prog 193 s193 :=
  (fnTree_spec (E := env193) (tysOk_of tys_ok) (specSound_of (specsOk_cons C_ref21_pair (specsOk_cons C_ref20_May specsOk_nil))) mixed_ok (inlOk_of (inlB_cons func193 nm_193 inlB_nil)) en_193 [(.st .Config), (.st .Msg)] [.bool]).weaken (fun x r hx hn => (T_ref21_mayMsg x).trans (Q_ref21_mayMsg x r hx hn))
noncomputable def env192 : Env := { ty := tys, specs := [(119, s119), (193, s193)], inl := [(192, f192)], hints := hnts }
theorem T_ref21_mayAct (x : TT [(.st .Config), (.st .Site), (.st .Act)]) : (fnTree env192 192 [(.st .Config), (.st .Site), (.st .Act)] [.bool] x).den = D_ref21_mayAct x.1 x.2.1 x.2.2.1 := by kernel_rfl
theorem C_ref21_mayAct : SpecOk Go.Proofs.Tryz.prog 192 s192 :=
  (fnTree_spec (E := env192) (tysOk_of tys_ok) (specSound_of (specsOk_cons C_ref21_pair (specsOk_cons C_ref21_mayMsg specsOk_nil))) mixed_ok (inlOk_of (inlB_cons func192 nm_192 inlB_nil)) en_192 [(.st .Config), (.st .Site), (.st .Act)] [.bool]).weaken (fun x r hx hn => (T_ref21_mayAct x).trans (Q_ref21_mayAct x r hx hn))
noncomputable def env121 : Env := { ty := tys, specs := [(192, s192), (193, s193)], inl := [(121, f121)], hints := hnts }
theorem T_ref21_mayLists (x : TT [(.st .Config), (.st .Site)]) : (fnTree env121 121 [(.st .Config), (.st .Site)] [.bool] x).den = D_ref21_mayLists x.1 x.2.1 := by kernel_rfl
theorem C_ref21_mayLists : SpecOk Go.Proofs.Tryz.prog 121 s121 :=
  (fnTree_spec (E := env121) (tysOk_of tys_ok) (specSound_of (specsOk_cons C_ref21_mayAct (specsOk_cons C_ref21_mayMsg specsOk_nil))) mixed_ok (inlOk_of (inlB_cons func121 nm_121 inlB_nil)) en_121 [(.st .Config), (.st .Site)] [.bool]).weaken (fun x r hx hn => (T_ref21_mayLists x).trans (Q_ref21_mayLists x r hx hn))
noncomputable def env40 : Env := { ty := tys, specs := [(116, s116), (117, s117), (118, s118), (119, s119), (120, s120), (121, s121)], inl := [(40, f40)], hints := hnts }
theorem T_ref21_May (x : TT [(.st .Config), (.st .Site)]) : (fnTree env40 40 [(.st .Config), (.st .Site)] [.bool] x).den = D_ref21_May x.1 x.2.1 := by kernel_rfl
theorem C_ref21_May : SpecOk Go.Proofs.Tryz.prog 40 s40 :=
  (fnTree_spec (E := env40) (tysOk_of tys_ok) (specSound_of (specsOk_cons C_ref08_May (specsOk_cons C_ref12_May (specsOk_cons C_ref17_May (specsOk_cons C_ref21_pair (specsOk_cons C_ref21_maySide (specsOk_cons C_ref21_mayLists specsOk_nil))))))) mixed_ok (inlOk_of (inlB_cons func40 nm_40 inlB_nil)) en_40 [(.st .Config), (.st .Site)] [.bool]).weaken (fun x r hx hn => (T_ref21_May x).trans (Q_ref21_May x r hx hn))
noncomputable def env252 : Env := { ty := tys, specs := [], inl := [(252, f252)], hints := hnts }
theorem T_ref02_Taken (x : TT [(.int .u32), (.int .u8)]) : (fnTree env252 252 [(.int .u32), (.int .u8)] [(.int .u32)] x).den = D_ref02_Taken x.1 x.2.1 := by kernel_rfl
theorem C_ref02_Taken : SpecOk Go.Proofs.Tryz.prog 252 s252 :=
  (fnTree_spec (E := env252) (tysOk_of tys_ok) (specSound_of specsOk_nil) mixed_ok (inlOk_of (inlB_cons func252 nm_252 inlB_nil)) en_252 [(.int .u32), (.int .u8)] [(.int .u32)]).weaken (fun x r hx hn => (T_ref02_Taken x).trans (Q_ref02_Taken x r hx hn))
noncomputable def env243 : Env := { ty := tys, specs := [(252, s252)], inl := [(243, f243)], hints := hnts }
theorem T_ref02_Behind (x : TT [(.int .u32), (.sl (.int .u8))]) : (fnTree env243 243 [(.int .u32), (.sl (.int .u8))] [(.int .u32)] x).den = D_ref02_Behind x.1 x.2.1 := by kernel_rfl
theorem C_ref02_Behind : SpecOk Go.Proofs.Tryz.prog 243 s243 :=
  (fnTree_spec (E := env243) (tysOk_of tys_ok) (specSound_of (specsOk_cons C_ref02_Taken specsOk_nil)) mixed_ok (inlOk_of (inlB_cons func243 nm_243 inlB_nil)) en_243 [(.int .u32), (.sl (.int .u8))] [(.int .u32)]).weaken (fun x r hx hn => (T_ref02_Behind x).trans (Q_ref02_Behind x r hx hn))
noncomputable def env226 : Env := { ty := tys, specs := [(243, s243)], inl := [(226, f226)], hints := hnts }
theorem T_ref02_Sum (x : TT [(.sl (.int .u8))]) : (fnTree env226 226 [(.sl (.int .u8))] [(.int .u32)] x).den = D_ref02_Sum x.1 := by kernel_rfl
theorem C_ref02_Sum : SpecOk Go.Proofs.Tryz.prog 226 s226 :=
  (fnTree_spec (E := env226) (tysOk_of tys_ok) (specSound_of (specsOk_cons C_ref02_Behind specsOk_nil)) mixed_ok (inlOk_of (inlB_cons func226 nm_226 inlB_nil)) en_226 [(.sl (.int .u8))] [(.int .u32)]).weaken (fun x r hx hn => (T_ref02_Sum x).trans (Q_ref02_Sum x r hx hn))
noncomputable def env194 : Env := { ty := tys, specs := [(226, s226)], inl := [(194, f194)], hints := hnts }
theorem T_ref02_Sealed (x : TT [(.sl (.int .u8))]) : (fnTree env194 194 [(.sl (.int .u8))] [(.sl (.int .u8))] x).den = D_ref02_Sealed x.1 := by kernel_rfl
theorem C_ref02_Sealed : SpecOk Go.Proofs.Tryz.prog 194 s194 :=
  (fnTree_spec (E := env194) (tysOk_of tys_ok) (specSound_of (specsOk_cons C_ref02_Sum specsOk_nil)) mixed_ok (inlOk_of (inlB_cons func194 nm_194 inlB_nil)) en_194 [(.sl (.int .u8))] [(.sl (.int .u8))]).weaken (fun x r hx hn => (T_ref02_Sealed x).trans (Q_ref02_Sealed x r hx hn))
noncomputable def env122 : Env := { ty := tys, specs := [(194, s194)], inl := [(122, f122)], hints := hnts }
theorem T_ref28_Read (x : TT [(.sl (.int .u8))]) : (fnTree env122 122 [(.sl (.int .u8))] [(.int .u8), (.int .u8), (.int .i64)] x).den = D_ref28_Read x.1 := by kernel_rfl
theorem C_ref28_Read : SpecOk Go.Proofs.Tryz.prog 122 s122 :=
  (fnTree_spec (E := env122) (tysOk_of tys_ok) (specSound_of (specsOk_cons C_ref02_Sealed specsOk_nil)) mixed_ok (inlOk_of (inlB_cons func122 nm_122 inlB_nil)) en_122 [(.sl (.int .u8))] [(.int .u8), (.int .u8), (.int .i64)]).weaken (fun x r hx hn => (T_ref28_Read x).trans (Q_ref28_Read x r hx hn))
noncomputable def env195 : Env := { ty := tys, specs := [], inl := [(195, f195)], hints := hnts }
theorem T_ref22_Answered (x : TT [(.st .Site), (.st .Reply)]) : (fnTree env195 195 [(.st .Site), (.st .Reply)] [(.st .Site)] x).den = D_ref22_Answered x.1 x.2.1 := by kernel_rfl
theorem C_ref22_Answered : SpecOk Go.Proofs.Tryz.prog 195 s195 :=
  (fnTree_spec (E := env195) (tysOk_of tys_ok) (specSound_of specsOk_nil) mixed_ok (inlOk_of (inlB_cons func195 nm_195 inlB_nil)) en_195 [(.st .Site), (.st .Reply)] [(.st .Site)]).weaken (fun x r hx hn => (T_ref22_Answered x).trans (Q_ref22_Answered x r hx hn))
noncomputable def env123 : Env := { ty := tys, specs := [(195, s195)], inl := [(123, f123)], hints := hnts }
theorem T_ref22_Code (x : TT [(.st .Site), (.int .i64), (.int .i64)]) : (fnTree env123 123 [(.st .Site), (.int .i64), (.int .i64)] [(.st .Site)] x).den = D_ref22_Code x.1 x.2.1 x.2.2.1 := by kernel_rfl
theorem C_ref22_Code : SpecOk Go.Proofs.Tryz.prog 123 s123 :=
  (fnTree_spec (E := env123) (tysOk_of tys_ok) (specSound_of (specsOk_cons C_ref22_Answered specsOk_nil)) mixed_ok (inlOk_of (inlB_cons func123 nm_123 inlB_nil)) en_123 [(.st .Site), (.int .i64), (.int .i64)] [(.st .Site)]).weaken (fun x r hx hn => (T_ref22_Code x).trans (Q_ref22_Code x r hx hn))
noncomputable def env124 : Env := { ty := tys, specs := [], inl := [(124, f124)], hints := hnts }
theorem T_ref27_Asked (x : TT [(.st .Site), (.st .Ask)]) : (fnTree env124 124 [(.st .Site), (.st .Ask)] [(.st .Site), .bool] x).den = D_ref27_Asked x.1 x.2.1 := by kernel_rfl
theorem C_ref27_Asked : SpecOk Go.Proofs.Tryz.prog 124 s124 :=
  (fnTree_spec (E := env124) (tysOk_of tys_ok) (specSound_of specsOk_nil) mixed_ok (inlOk_of (inlB_cons func124 nm_124 inlB_nil)) en_124 [(.st .Site), (.st .Ask)] [(.st .Site), .bool]).weaken (fun x r hx hn => (T_ref27_Asked x).trans (Q_ref27_Asked x r hx hn))
noncomputable def env41 : Env := { ty := tys, specs := [(122, s122), (123, s123), (124, s124)], inl := [(41, f41)], hints := hnts }
theorem T_ref28_Submitted (x : TT [(.st .Site), (.int .i64), (.sl (.int .u8))]) : (fnTree env41 41 [(.st .Site), (.int .i64), (.sl (.int .u8))] [(.st .Site), .bool] x).den = D_ref28_Submitted x.1 x.2.1 x.2.2.1 := by kernel_rfl
theorem C_ref28_Submitted : SpecOk Go.Proofs.Tryz.prog 41 s41 :=
  (fnTree_spec (E := env41) (tysOk_of tys_ok) (specSound_of (specsOk_cons C_ref28_Read (specsOk_cons C_ref22_Code (specsOk_cons C_ref27_Asked specsOk_nil)))) mixed_ok (inlOk_of (inlB_cons func41 nm_41 inlB_nil)) en_41 [(.st .Site), (.int .i64), (.sl (.int .u8))] [(.st .Site), .bool]).weaken (fun x r hx hn => (T_ref28_Submitted x).trans (Q_ref28_Submitted x r hx hn))
noncomputable def env11 : Env := { ty := tys, specs := [(40, s40), (41, s41)], inl := [(11, f11)], hints := hnts }
theorem T_ref28_Submit (x : TT [(.st .Config), (.st .Site), (.int .i64), (.sl (.int .u8))]) : (fnTree env11 11 [(.st .Config), (.st .Site), (.int .i64), (.sl (.int .u8))] [(.st .Site), (.int .i64)] x).den = D_ref28_Submit x.1 x.2.1 x.2.2.1 x.2.2.2.1 := by kernel_rfl
theorem C_ref28_Submit : SpecOk Go.Proofs.Tryz.prog 11 s11 :=
  (fnTree_spec (E := env11) (tysOk_of tys_ok) (specSound_of (specsOk_cons C_ref21_May (specsOk_cons C_ref28_Submitted specsOk_nil))) mixed_ok (inlOk_of (inlB_cons func11 nm_11 inlB_nil)) en_11 [(.st .Config), (.st .Site), (.int .i64), (.sl (.int .u8))] [(.st .Site), (.int .i64)]).weaken (fun x r hx hn => (T_ref28_Submit x).trans (Q_ref28_Submit x r hx hn))
noncomputable def env26 : Env := { ty := tys, specs := [], inl := [(26, f26)], hints := hnts }
theorem T_ref21_SameSide (x : TT [(.st .Side), (.st .Side)]) : (fnTree env26 26 [(.st .Side), (.st .Side)] [.bool] x).den = D_ref21_SameSide x.1 x.2.1 := by kernel_rfl
theorem C_ref21_SameSide : SpecOk Go.Proofs.Tryz.prog 26 s26 :=
  (fnTree_spec (E := env26) (tysOk_of tys_ok) (specSound_of specsOk_nil) mixed_ok (inlOk_of (inlB_cons func26 nm_26 inlB_nil)) en_26 [(.st .Side), (.st .Side)] [.bool]).weaken (fun x r hx hn => (T_ref21_SameSide x).trans (Q_ref21_SameSide x r hx hn))
noncomputable def env42 : Env := { ty := tys, specs := [], inl := [(42, f42)], hints := hnts }
theorem T_ref05_Same (x : TT [(.st .Disk), (.st .Disk)]) : (fnTree env42 42 [(.st .Disk), (.st .Disk)] [.bool] x).den = D_ref05_Same x.1 x.2.1 := by kernel_rfl
theorem C_ref05_Same : SpecOk Go.Proofs.Tryz.prog 42 s42 :=
  (fnTree_spec (E := env42) (tysOk_of tys_ok) (specSound_of specsOk_nil) mixed_ok (inlOk_of (inlB_cons func42 nm_42 inlB_nil)) en_42 [(.st .Disk), (.st .Disk)] [.bool]).weaken (fun x r hx hn => (T_ref05_Same x).trans (Q_ref05_Same x r hx hn))
noncomputable def env125 : Env := { ty := tys, specs := [], inl := [(125, f125)], hints := hnts }
theorem T_ref11_Same (x : TT [(.sl (.st .Rec)), (.sl (.st .Rec))]) : (fnTree env125 125 [(.sl (.st .Rec)), (.sl (.st .Rec))] [.bool] x).den = D_ref11_Same x.1 x.2.1 := by kernel_rfl
theorem C_ref11_Same : SpecOk Go.Proofs.Tryz.prog 125 s125 :=
  (fnTree_spec (E := env125) (tysOk_of tys_ok) (specSound_of specsOk_nil) mixed_ok (inlOk_of (inlB_cons func125 nm_125 inlB_nil)) en_125 [(.sl (.st .Rec)), (.sl (.st .Rec))] [.bool]).weaken (fun x r hx hn => (T_ref11_Same x).trans (Q_ref11_Same x r hx hn))
noncomputable def env43 : Env := { ty := tys, specs := [(125, s125)], inl := [(43, f43)], hints := hnts }
theorem T_ref12_Same (x : TT [(.st .Meta), (.st .Meta)]) : (fnTree env43 43 [(.st .Meta), (.st .Meta)] [.bool] x).den = D_ref12_Same x.1 x.2.1 := by kernel_rfl
theorem C_ref12_Same : SpecOk Go.Proofs.Tryz.prog 43 s43 :=
  (fnTree_spec (E := env43) (tysOk_of tys_ok) (specSound_of (specsOk_cons C_ref11_Same specsOk_nil)) mixed_ok (inlOk_of (inlB_cons func43 nm_43 inlB_nil)) en_43 [(.st .Meta), (.st .Meta)] [.bool]).weaken (fun x r hx hn => (T_ref12_Same x).trans (Q_ref12_Same x r hx hn))
noncomputable def env196 : Env := { ty := tys, specs := [], inl := [(196, f196)], hints := hnts }
theorem T_ref04_SameAll (x : TT [(.sl (.sl (.int .u8))), (.sl (.sl (.int .u8)))]) : (fnTree env196 196 [(.sl (.sl (.int .u8))), (.sl (.sl (.int .u8)))] [.bool] x).den = D_ref04_SameAll x.1 x.2.1 := by kernel_rfl
theorem C_ref04_SameAll : SpecOk Go.Proofs.Tryz.prog 196 s196 :=
  (fnTree_spec (E := env196) (tysOk_of tys_ok) (specSound_of specsOk_nil) mixed_ok (inlOk_of (inlB_cons func196 nm_196 inlB_nil)) en_196 [(.sl (.sl (.int .u8))), (.sl (.sl (.int .u8)))] [.bool]).weaken (fun x r hx hn => (T_ref04_SameAll x).trans (Q_ref04_SameAll x r hx hn))
end Go.Cat

set_option maxHeartbeats 0
namespace Go.Cat
open Go Go.Proofs.Tryz
noncomputable def env126 : Env := { ty := tys, specs := [(196, s196)], inl := [(126, f126)], hints := hnts }
theorem T_ref04_Same (x : TT [(.st .Queue), (.st .Queue)]) : (fnTree env126 126 [(.st .Queue), (.st .Queue)] [.bool] x).den = D_ref04_Same x.1 x.2.1 := by kernel_rfl
theorem C_ref04_Same : SpecOk Go.Proofs.Tryz.prog 126 s126 :=
  (fnTree_spec (E := env126) (tysOk_of tys_ok) (specSound_of (specsOk_cons C_ref04_SameAll specsOk_nil)) mixed_ok (inlOk_of (inlB_cons func126 nm_126 inlB_nil)) en_126 [(.st .Queue), (.st .Queue)] [.bool]).weaken (fun x r hx hn => (T_ref04_Same x).trans (Q_ref04_Same x r hx hn))
noncomputable def env44 : Env := { ty := tys, specs := [(126, s126)], inl := [(44, f44)], hints := hnts }
theorem T_ref17_Same (x : TT [(.st .End), (.st .End)]) : (fnTree env44 44 [(.st .End), (.st .End)] [.bool] x).den = D_ref17_Same x.1 x.2.1 := by kernel_rfl
theorem C_ref17_Same : SpecOk Go.Proofs.Tryz.prog 44 s44 :=
  (fnTree_spec (E := env44) (tysOk_of tys_ok) (specSound_of (specsOk_cons C_ref04_Same specsOk_nil)) mixed_ok (inlOk_of (inlB_cons func44 nm_44 inlB_nil)) en_44 [(.st .End), (.st .End)] [.bool]).weaken (fun x r hx hn => (T_ref17_Same x).trans (Q_ref17_Same x r hx hn))
noncomputable def env127 : Env := { ty := tys, specs := [], inl := [(127, f127)], hints := hnts }
theorem T_ref20_Same (x : TT [(.st .Msg), (.st .Msg)]) : (fnTree env127 127 [(.st .Msg), (.st .Msg)] [.bool] x).den = D_ref20_Same x.1 x.2.1 := by kernel_rfl
theorem C_ref20_Same : SpecOk Go.Proofs.Tryz.prog 127 s127 :=
  (fnTree_spec (E := env127) (tysOk_of tys_ok) (specSound_of specsOk_nil) mixed_ok (inlOk_of (inlB_cons func127 nm_127 inlB_nil)) en_127 [(.st .Msg), (.st .Msg)] [.bool]).weaken (fun x r hx hn => (T_ref20_Same x).trans (Q_ref20_Same x r hx hn))
noncomputable def env128 : Env := { ty := tys, specs := [], inl := [(128, f128)], hints := hnts }
theorem T_ref21_SameReply (x : TT [(.st .Reply), (.st .Reply)]) : (fnTree env128 128 [(.st .Reply), (.st .Reply)] [.bool] x).den = D_ref21_SameReply x.1 x.2.1 := by kernel_rfl
theorem C_ref21_SameReply : SpecOk Go.Proofs.Tryz.prog 128 s128 :=
  (fnTree_spec (E := env128) (tysOk_of tys_ok) (specSound_of specsOk_nil) mixed_ok (inlOk_of (inlB_cons func128 nm_128 inlB_nil)) en_128 [(.st .Reply), (.st .Reply)] [.bool]).weaken (fun x r hx hn => (T_ref21_SameReply x).trans (Q_ref21_SameReply x r hx hn))
noncomputable def env45 : Env := { ty := tys, specs := [(127, s127), (128, s128)], inl := [(45, f45)], hints := hnts }
theorem T_ref21_samePlan (x : TT [(.sl (.st .Act)), (.sl (.st .Act))]) : (fnTree env45 45 [(.sl (.st .Act)), (.sl (.st .Act))] [.bool] x).den = D_ref21_samePlan x.1 x.2.1 := by kernel_rfl
theorem C_ref21_samePlan : SpecOk Go.Proofs.Tryz.prog 45 s45 :=
  (fnTree_spec (E := env45) (tysOk_of tys_ok) (specSound_of (specsOk_cons C_ref20_Same (specsOk_cons C_ref21_SameReply specsOk_nil))) mixed_ok (inlOk_of (inlB_cons func45 nm_45 inlB_nil)) en_45 [(.sl (.st .Act)), (.sl (.st .Act))] [.bool]).weaken (fun x r hx hn => (T_ref21_samePlan x).trans (Q_ref21_samePlan x r hx hn))
noncomputable def env46 : Env := { ty := tys, specs := [(127, s127)], inl := [(46, f46)], hints := hnts }
theorem T_ref21_sameCome (x : TT [(.st .Site), (.st .Site)]) : (fnTree env46 46 [(.st .Site), (.st .Site)] [.bool] x).den = D_ref21_sameCome x.1 x.2.1 := by kernel_rfl
theorem C_ref21_sameCome : SpecOk Go.Proofs.Tryz.prog 46 s46 :=
  (fnTree_spec (E := env46) (tysOk_of tys_ok) (specSound_of (specsOk_cons C_ref20_Same specsOk_nil)) mixed_ok (inlOk_of (inlB_cons func46 nm_46 inlB_nil)) en_46 [(.st .Site), (.st .Site)] [.bool]).weaken (fun x r hx hn => (T_ref21_sameCome x).trans (Q_ref21_sameCome x r hx hn))
noncomputable def env47 : Env := { ty := tys, specs := [(128, s128)], inl := [(47, f47)], hints := hnts }
theorem T_ref21_SameReplies (x : TT [(.sl (.st .Reply)), (.sl (.st .Reply))]) : (fnTree env47 47 [(.sl (.st .Reply)), (.sl (.st .Reply))] [.bool] x).den = D_ref21_SameReplies x.1 x.2.1 := by kernel_rfl
theorem C_ref21_SameReplies : SpecOk Go.Proofs.Tryz.prog 47 s47 :=
  (fnTree_spec (E := env47) (tysOk_of tys_ok) (specSound_of (specsOk_cons C_ref21_SameReply specsOk_nil)) mixed_ok (inlOk_of (inlB_cons func47 nm_47 inlB_nil)) en_47 [(.sl (.st .Reply)), (.sl (.st .Reply))] [.bool]).weaken (fun x r hx hn => (T_ref21_SameReplies x).trans (Q_ref21_SameReplies x r hx hn))
noncomputable def env12 : Env := { ty := tys, specs := [(26, s26), (42, s42), (43, s43), (44, s44), (45, s45), (46, s46), (47, s47)], inl := [(12, f12)], hints := hnts }
theorem T_ref21_Same (x : TT [(.st .Site), (.st .Site)]) : (fnTree env12 12 [(.st .Site), (.st .Site)] [.bool] x).den = D_ref21_Same x.1 x.2.1 := by kernel_rfl
theorem C_ref21_Same : SpecOk Go.Proofs.Tryz.prog 12 s12 :=
  (fnTree_spec (E := env12) (tysOk_of tys_ok) (specSound_of (specsOk_cons C_ref21_SameSide (specsOk_cons C_ref05_Same (specsOk_cons C_ref12_Same (specsOk_cons C_ref17_Same (specsOk_cons C_ref21_samePlan (specsOk_cons C_ref21_sameCome (specsOk_cons C_ref21_SameReplies specsOk_nil)))))))) mixed_ok (inlOk_of (inlB_cons func12 nm_12 inlB_nil)) en_12 [(.st .Site), (.st .Site)] [.bool]).weaken (fun x r hx hn => (T_ref21_Same x).trans (Q_ref21_Same x r hx hn))
noncomputable def env3 : Env := { ty := tys, specs := [(8, s8), (9, s9), (10, s10), (11, s11), (12, s12)], inl := [(3, f3)], hints := hnts }
theorem T_law28_ReqSubmits (x : TT [(.st .Config), (.st .Site), (.int .i64), (.sl (.int .u8))]) : (fnTree env3 3 [(.st .Config), (.st .Site), (.int .i64), (.sl (.int .u8))] [.bool] x).den = D_law28_ReqSubmits x.1 x.2.1 x.2.2.1 x.2.2.2.1 := by kernel_rfl
theorem C_law28_ReqSubmits : SpecOk Go.Proofs.Tryz.prog 3 ⟨[(.st .Config), (.st .Site), (.int .i64), (.sl (.int .u8))], [.bool], none, fun x => (fnTree env3 3 [(.st .Config), (.st .Site), (.int .i64), (.sl (.int .u8))] [.bool] x).den⟩ :=
  fnTree_spec (E := env3) (tysOk_of tys_ok) (specSound_of (specsOk_cons C_ref21_Great (specsOk_cons C_ref21_Twin (specsOk_cons C_req_Submit (specsOk_cons C_ref28_Submit (specsOk_cons C_ref21_Same specsOk_nil)))))) mixed_ok (inlOk_of (inlB_cons func3 nm_3 inlB_nil)) en_3 [(.st .Config), (.st .Site), (.int .i64), (.sl (.int .u8))] [.bool]
noncomputable def env14 : Env := { ty := tys, specs := [(129, s129)], inl := [(14, f14), (48, f48), (49, f49)], hints := hnts }
theorem T_req_Write (x : TT [(.int .u8), (.int .u8)]) : (fnTreeOwn env14 14 [(.int .u8), (.int .u8)] (.sl (.int .u8)) [some 5] x).den = D_req_Write x.1 x.2.1 := by kernel_rfl
theorem C_req_Write : SpecOk Go.Proofs.Tryz.prog 14 s14 :=
  (fnTreeOwn_spec (E := env14) (tysOk_of tys_ok) (specSound_of (specsOk_cons C_crc_Sum specsOk_nil)) mixed_ok (inlOk_of (inlB_cons func14 nm_14 (inlB_cons func48 nm_48 (inlB_cons func49 nm_49 inlB_nil)))) en_14 [(.int .u8), (.int .u8)] (.sl (.int .u8)) [some 5]).weaken (fun x r hx hn => (T_req_Write x).trans (Q_req_Write x r hx hn))
noncomputable def env13 : Env := { ty := tys, specs := [(14, s14), (37, s37)], inl := [(13, f13)], hints := hnts }
theorem T_law28_alive (x : TT []) : (fnTree env13 13 [] [.bool] x).den = D_law28_alive := by kernel_rfl
theorem C_law28_alive : SpecOk Go.Proofs.Tryz.prog 13 s13 :=
  (fnTree_spec (E := env13) (tysOk_of tys_ok) (specSound_of (specsOk_cons C_req_Write (specsOk_cons C_req_Read specsOk_nil))) mixed_ok (inlOk_of (inlB_cons func13 nm_13 inlB_nil)) en_13 [] [.bool]).weaken (fun x r hx hn => (T_law28_alive x).trans (Q_law28_alive x r hx hn))
noncomputable def env4 : Env := { ty := tys, specs := [(8, s8), (10, s10), (12, s12), (13, s13), (14, s14)], inl := [(4, f4)], hints := hnts }
theorem T_law28_ReqBurst (x : TT [(.st .Config), (.st .Site), (.int .i64), (.int .u8), (.int .u8), (.int .u8), (.int .u32)]) : (fnTree env4 4 [(.st .Config), (.st .Site), (.int .i64), (.int .u8), (.int .u8), (.int .u8), (.int .u32)] [.bool] x).den = D_law28_ReqBurst x.1 x.2.1 x.2.2.1 x.2.2.2.1 x.2.2.2.2.1 x.2.2.2.2.2.1 x.2.2.2.2.2.2.1 := by kernel_rfl
theorem C_law28_ReqBurst : SpecOk Go.Proofs.Tryz.prog 4 ⟨[(.st .Config), (.st .Site), (.int .i64), (.int .u8), (.int .u8), (.int .u8), (.int .u32)], [.bool], none, fun x => (fnTree env4 4 [(.st .Config), (.st .Site), (.int .i64), (.int .u8), (.int .u8), (.int .u8), (.int .u32)] [.bool] x).den⟩ :=
  fnTree_spec (E := env4) (tysOk_of tys_ok) (specSound_of (specsOk_cons C_ref21_Great (specsOk_cons C_req_Submit (specsOk_cons C_ref21_Same (specsOk_cons C_law28_alive (specsOk_cons C_req_Write specsOk_nil)))))) mixed_ok (inlOk_of (inlB_cons func4 nm_4 inlB_nil)) en_4 [(.st .Config), (.st .Site), (.int .i64), (.int .u8), (.int .u8), (.int .u8), (.int .u32)] [.bool]
end Go.Cat
