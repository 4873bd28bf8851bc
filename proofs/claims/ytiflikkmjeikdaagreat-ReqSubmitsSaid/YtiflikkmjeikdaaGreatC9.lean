/-
  My own text: a part of the proof.
  My own text: a part of the proof.
  My own text: a part of the proof.
  My own text: a part of the proof.
  My own text: a part of the proof.
  My own text: a part of the proof.
  My own text: a part of the proof.
  My own text: a part of the proof.
  My own text: a part of the proof.
-/
import Derived.Test.YtiflikkmjeikdaaGreatC8
set_option linter.unusedVariables false
set_option linter.unusedSimpArgs false
set_option maxHeartbeats 0
namespace Go.Cat
open Go Go.Proofs.Tryz
noncomputable def env54 : Env := { ty := tys, specs := [(57, s57), (136, s136)], inl := [(54, f54), (55, f55), (137, f137), (138, f138), (205, f205)], hints := hnts }
theorem T_sess_Check (x : TT [(.st .Config), (.st .End)]) : (fnTree env54 54 [(.st .Config), (.st .End)] [(.int .i64)] x).den = D_sess_Check x.1 x.2.1 := by kernel_rfl
theorem C_sess_Check : SpecOk Go.Proofs.Tryz.prog 54 s54 :=
  (fnTree_spec (E := env54) (tysOk_of tys_ok) (specSound_of (specsOk_cons C_place_Check (specsOk_cons C_ring_List specsOk_nil))) mixed_ok (inlOk_of (inlB_cons func54 nm_54 (inlB_cons func55 nm_55 (inlB_cons func137 nm_137 (inlB_cons func138 nm_138 (inlB_cons func205 nm_205 inlB_nil)))))) en_54 [(.st .Config), (.st .End)] [(.int .i64)]).weaken (fun x r hx hn => (T_sess_Check x).trans (Q_sess_Check x r hx hn))
noncomputable def env131 : Env := { ty := tys, specs := [], inl := [(131, f131)], hints := hnts }
theorem T_place_part_size (x : TT [(.st .Part)]) : (fnTree env131 131 [(.st .Part)] [(.int .i64)] x).den = D_place_part_size x.1 := by kernel_rfl
theorem C_place_part_size : SpecOk Go.Proofs.Tryz.prog 131 s131 :=
  (fnTree_spec (E := env131) (tysOk_of tys_ok) (specSound_of specsOk_nil) mixed_ok (inlOk_of (inlB_cons func131 nm_131 inlB_nil)) en_131 [(.st .Part)] [(.int .i64)]).weaken (fun x r hx hn => (T_place_part_size x).trans (Q_place_part_size x r hx hn))
noncomputable def env198 : Env := { ty := tys, specs := [], inl := [(198, f198)], hints := hnts }
theorem T_place_pages (x : TT [(.st .Config)]) : (fnTree env198 198 [(.st .Config)] [(.int .i64)] x).den = D_place_pages x.1 := by kernel_rfl
theorem C_place_pages : SpecOk Go.Proofs.Tryz.prog 198 s198 :=
  (fnTree_spec (E := env198) (tysOk_of tys_ok) (specSound_of specsOk_nil) mixed_ok (inlOk_of (inlB_cons func198 nm_198 inlB_nil)) en_198 [(.st .Config)] [(.int .i64)]).weaken (fun x r hx hn => (T_place_pages x).trans (Q_place_pages x r hx hn))
noncomputable def env50 : Env := { ty := tys, specs := [(57, s57), (131, s131), (198, s198)], inl := [(50, f50), (130, f130)], hints := hnts }
theorem T_place_Sectors (x : TT [(.st .Config)]) : (fnTree env50 50 [(.st .Config)] [(.int .i64), (.int .i64)] x).den = D_place_Sectors x.1 := by kernel_rfl
theorem C_place_Sectors : SpecOk Go.Proofs.Tryz.prog 50 s50 :=
  (fnTree_spec (E := env50) (tysOk_of tys_ok) (specSound_of (specsOk_cons C_place_Check (specsOk_cons C_place_part_size (specsOk_cons C_place_pages specsOk_nil)))) mixed_ok (inlOk_of (inlB_cons func50 nm_50 (inlB_cons func130 nm_130 inlB_nil))) en_50 [(.st .Config)] [(.int .i64), (.int .i64)]).weaken (fun x r hx hn => (T_place_Sectors x).trans (Q_place_Sectors x r hx hn))
noncomputable def env170 : Env := { ty := tys, specs := [], inl := [(170, f170)], hints := hnts }
theorem T_bytes_Equal (x : TT [(.sl (.int .u8)), (.sl (.int .u8))]) : (fnTree env170 170 [(.sl (.int .u8)), (.sl (.int .u8))] [.bool] x).den = D_bytes_Equal x.1 x.2.1 := by kernel_rfl
theorem C_bytes_Equal : SpecOk Go.Proofs.Tryz.prog 170 s170 :=
  (fnTree_spec (E := env170) (tysOk_of tys_ok) (specSound_of specsOk_nil) mixed_ok (inlOk_of (inlB_cons func170 nm_170 inlB_nil)) en_170 [(.sl (.int .u8)), (.sl (.int .u8))] [.bool]).weaken (fun x r hx hn => (T_bytes_Equal x).trans (Q_bytes_Equal x r hx hn))
noncomputable def env202 : Env := { ty := tys, specs := [], inl := [(137, f137), (202, f202), (205, f205), (229, f229)], hints := hnts }
theorem T_disk_sized (x : TT [(.sl (.sl (.int .u8)))]) : (fnTree env202 202 [(.sl (.sl (.int .u8)))] [.bool] x).den = D_disk_sized x.1 := by kernel_rfl
theorem C_disk_sized : SpecOk Go.Proofs.Tryz.prog 202 s202 :=
  (fnTree_spec (E := env202) (tysOk_of tys_ok) (specSound_of specsOk_nil) mixed_ok (inlOk_of (inlB_cons func137 nm_137 (inlB_cons func202 nm_202 (inlB_cons func205 nm_205 (inlB_cons func229 nm_229 inlB_nil))))) en_202 [(.sl (.sl (.int .u8)))] [.bool]).weaken (fun x r hx hn => (T_disk_sized x).trans (Q_disk_sized x r hx hn))
noncomputable def env206 : Env := { ty := tys, specs := [], inl := [(206, f206)], hints := hnts }
theorem T_disk_none (x : TT []) : (fnTree env206 206 [] [(.sl (.int .u8))] x).den = D_disk_none := by kernel_rfl
theorem C_disk_none : SpecOk Go.Proofs.Tryz.prog 206 s206 :=
  (fnTree_spec (E := env206) (tysOk_of tys_ok) (specSound_of specsOk_nil) mixed_ok (inlOk_of (inlB_cons func206 nm_206 inlB_nil)) en_206 [] [(.sl (.int .u8))]).weaken (fun x r hx hn => (T_disk_none x).trans (Q_disk_none x r hx hn))
noncomputable def env145 : Env := { ty := tys, specs := [(170, s170), (202, s202), (206, s206)], inl := [(145, f145)], hints := hnts }
theorem T_disk_Check (x : TT [(.st .Disk)]) : (fnTree env145 145 [(.st .Disk)] [(.int .i64)] x).den = D_disk_Check x.1 := by kernel_rfl
theorem C_disk_Check : SpecOk Go.Proofs.Tryz.prog 145 s145 :=
  (fnTree_spec (E := env145) (tysOk_of tys_ok) (specSound_of (specsOk_cons C_bytes_Equal (specsOk_cons C_disk_sized (specsOk_cons C_disk_none specsOk_nil)))) mixed_ok (inlOk_of (inlB_cons func145 nm_145 inlB_nil)) en_145 [(.st .Disk)] [(.int .i64)]).weaken (fun x r hx hn => (T_disk_Check x).trans (Q_disk_Check x r hx hn))
noncomputable def env58 : Env := { ty := tys, specs := [(50, s50), (145, s145)], inl := [(58, f58)], hints := hnts }
theorem T_track_Check (x : TT [(.st .Config), (.st .Disk)]) : (fnTree env58 58 [(.st .Config), (.st .Disk)] [(.int .i64)] x).den = D_track_Check x.1 x.2.1 := by kernel_rfl
theorem C_track_Check : SpecOk Go.Proofs.Tryz.prog 58 s58 :=
  (fnTree_spec (E := env58) (tysOk_of tys_ok) (specSound_of (specsOk_cons C_place_Sectors (specsOk_cons C_disk_Check specsOk_nil))) mixed_ok (inlOk_of (inlB_cons func58 nm_58 inlB_nil)) en_58 [(.st .Config), (.st .Disk)] [(.int .i64)]).weaken (fun x r hx hn => (T_track_Check x).trans (Q_track_Check x r hx hn))
noncomputable def env230 : Env := { ty := tys, specs := [], inl := [(230, f230), (246, f246), (247, f247)], hints := hnts }
theorem T_num_Write (x : TT [(.sl (.int .u64)), (.sl (.int .i64))]) : (fnTree env230 230 [(.sl (.int .u64)), (.sl (.int .i64))] [(.sl (.int .u8)), (.int .i64)] x).den = D_num_Write x.1 x.2.1 := by kernel_rfl
theorem C_num_Write : SpecOk Go.Proofs.Tryz.prog 230 s230 :=
  (fnTree_spec (E := env230) (tysOk_of tys_ok) (specSound_of specsOk_nil) mixed_ok (inlOk_of (inlB_cons func230 nm_230 (inlB_cons func246 nm_246 (inlB_cons func247 nm_247 inlB_nil)))) en_230 [(.sl (.int .u64)), (.sl (.int .i64))] [(.sl (.int .u8)), (.int .i64)]).weaken (fun x r hx hn => (T_num_Write x).trans (Q_num_Write x r hx hn))
noncomputable def env249 : Env := { ty := tys, specs := [], inl := [(163, f163), (217, f217), (249, f249), (253, f253)], hints := hnts }
theorem T_rec_site (x : TT [(.sl (.int .i64))]) : (fnTree env249 249 [(.sl (.int .i64))] [.bool] x).den = D_rec_site x.1 := by kernel_rfl
theorem C_rec_site : SpecOk Go.Proofs.Tryz.prog 249 s249 :=
  (fnTree_spec (E := env249) (tysOk_of tys_ok) (specSound_of specsOk_nil) mixed_ok (inlOk_of (inlB_cons func163 nm_163 (inlB_cons func217 nm_217 (inlB_cons func249 nm_249 (inlB_cons func253 nm_253 inlB_nil))))) en_249 [(.sl (.int .i64))] [.bool]).weaken (fun x r hx hn => (T_rec_site x).trans (Q_rec_site x r hx hn))
noncomputable def env234 : Env := { ty := tys, specs := [(249, s249)], inl := [(234, f234)], hints := hnts }
theorem T_rec_Check (x : TT [(.st .Rec)]) : (fnTree env234 234 [(.st .Rec)] [(.int .i64)] x).den = D_rec_Check x.1 := by kernel_rfl
theorem C_rec_Check : SpecOk Go.Proofs.Tryz.prog 234 s234 :=
  (fnTree_spec (E := env234) (tysOk_of tys_ok) (specSound_of (specsOk_cons C_rec_site specsOk_nil)) mixed_ok (inlOk_of (inlB_cons func234 nm_234 inlB_nil)) en_234 [(.st .Rec)] [(.int .i64)]).weaken (fun x r hx hn => (T_rec_Check x).trans (Q_rec_Check x r hx hn))
noncomputable def env235 : Env := { ty := tys, specs := [], inl := [(235, f235)], hints := hnts }
theorem T_rec_sizes (x : TT []) : (fnTree env235 235 [] [(.sl (.int .i64))] x).den = D_rec_sizes := by kernel_rfl
theorem C_rec_sizes : SpecOk Go.Proofs.Tryz.prog 235 s235 :=
  (fnTree_spec (E := env235) (tysOk_of tys_ok) (specSound_of specsOk_nil) mixed_ok (inlOk_of (inlB_cons func235 nm_235 inlB_nil)) en_235 [] [(.sl (.int .i64))]).weaken (fun x r hx hn => (T_rec_sizes x).trans (Q_rec_sizes x r hx hn))
noncomputable def env208 : Env := { ty := tys, specs := [(230, s230), (234, s234), (235, s235)], inl := [(208, f208)], hints := hnts }
theorem T_rec_Note (x : TT [(.st .Rec)]) : (fnTree env208 208 [(.st .Rec)] [(.sl (.int .u8)), (.int .i64)] x).den = D_rec_Note x.1 := by kernel_rfl
theorem C_rec_Note : SpecOk Go.Proofs.Tryz.prog 208 s208 :=
  (fnTree_spec (E := env208) (tysOk_of tys_ok) (specSound_of (specsOk_cons C_num_Write (specsOk_cons C_rec_Check (specsOk_cons C_rec_sizes specsOk_nil)))) mixed_ok (inlOk_of (inlB_cons func208 nm_208 inlB_nil)) en_208 [(.st .Rec)] [(.sl (.int .u8)), (.int .i64)]).weaken (fun x r hx hn => (T_rec_Note x).trans (Q_rec_Note x r hx hn))
noncomputable def env146 : Env := { ty := tys, specs := [(208, s208), (234, s234)], inl := [(146, f146), (207, f207)], hints := hnts }
theorem T_rec_Notes (x : TT [(.sl (.st .Rec))]) : (fnTree env146 146 [(.sl (.st .Rec))] [(.sl (.sl (.int .u8))), (.int .i64)] x).den = D_rec_Notes x.1 := by kernel_rfl
theorem C_rec_Notes : SpecOk Go.Proofs.Tryz.prog 146 s146 :=
  (fnTree_spec (E := env146) (tysOk_of tys_ok) (specSound_of (specsOk_cons C_rec_Note (specsOk_cons C_rec_Check specsOk_nil))) mixed_ok (inlOk_of (inlB_cons func146 nm_146 (inlB_cons func207 nm_207 inlB_nil))) en_146 [(.sl (.st .Rec))] [(.sl (.sl (.int .u8))), (.int .i64)]).weaken (fun x r hx hn => (T_rec_Notes x).trans (Q_rec_Notes x r hx hn))
noncomputable def env59 : Env := { ty := tys, specs := [(57, s57), (146, s146)], inl := [(59, f59)], hints := hnts }
theorem T_meta_Check (x : TT [(.st .Config), (.st .Meta)]) : (fnTree env59 59 [(.st .Config), (.st .Meta)] [(.int .i64)] x).den = D_meta_Check x.1 x.2.1 := by kernel_rfl
theorem C_meta_Check : SpecOk Go.Proofs.Tryz.prog 59 s59 :=
  (fnTree_spec (E := env59) (tysOk_of tys_ok) (specSound_of (specsOk_cons C_place_Check (specsOk_cons C_rec_Notes specsOk_nil))) mixed_ok (inlOk_of (inlB_cons func59 nm_59 inlB_nil)) en_59 [(.st .Config), (.st .Meta)] [(.int .i64)]).weaken (fun x r hx hn => (T_meta_Check x).trans (Q_meta_Check x r hx hn))
noncomputable def env62 : Env := { ty := tys, specs := [], inl := [(62, f62)], hints := hnts }
theorem T_act_limits_pair (x : TT [(.st .Config), (.int .i64)]) : (fnTree env62 62 [(.st .Config), (.int .i64)] [.bool] x).den = D_act_limits_pair x.1 x.2.1 := by kernel_rfl
theorem C_act_limits_pair : SpecOk Go.Proofs.Tryz.prog 62 s62 :=
  (fnTree_spec (E := env62) (tysOk_of tys_ok) (specSound_of specsOk_nil) mixed_ok (inlOk_of (inlB_cons func62 nm_62 inlB_nil)) en_62 [(.st .Config), (.int .i64)] [.bool]).weaken (fun x r hx hn => (T_act_limits_pair x).trans (Q_act_limits_pair x r hx hn))
noncomputable def env162 : Env := { ty := tys, specs := [], inl := [(162, f162), (200, f200), (216, f216), (228, f228), (244, f244), (245, f245)], hints := hnts }
theorem T_bits_All (x : TT [(.int .i64)]) : (fnTree env162 162 [(.int .i64)] [(.sl (.int .u8)), (.int .i64)] x).den = D_bits_All x.1 := by kernel_rfl
theorem C_bits_All : SpecOk Go.Proofs.Tryz.prog 162 s162 :=
  (fnTree_spec (E := env162) (tysOk_of tys_ok) (specSound_of specsOk_nil) mixed_ok (inlOk_of (inlB_cons func162 nm_162 (inlB_cons func200 nm_200 (inlB_cons func216 nm_216 (inlB_cons func228 nm_228 (inlB_cons func244 nm_244 (inlB_cons func245 nm_245 inlB_nil))))))) en_162 [(.int .i64)] [(.sl (.int .u8)), (.int .i64)]).weaken (fun x r hx hn => (T_bits_All x).trans (Q_bits_All x r hx hn))
noncomputable def env149 : Env := { ty := tys, specs := [(162, s162)], inl := [(149, f149)], hints := hnts }
theorem T_bits_Check (x : TT [(.int .i64), (.sl (.int .u8))]) : (fnTree env149 149 [(.int .i64), (.sl (.int .u8))] [(.int .i64)] x).den = D_bits_Check x.1 x.2.1 := by kernel_rfl
theorem C_bits_Check : SpecOk Go.Proofs.Tryz.prog 149 s149 :=
  (fnTree_spec (E := env149) (tysOk_of tys_ok) (specSound_of (specsOk_cons C_bits_All specsOk_nil)) mixed_ok (inlOk_of (inlB_cons func149 nm_149 inlB_nil)) en_149 [(.int .i64), (.sl (.int .u8))] [(.int .i64)]).weaken (fun x r hx hn => (T_bits_Check x).trans (Q_bits_Check x r hx hn))
end Go.Cat

set_option maxHeartbeats 0
namespace Go.Cat
open Go Go.Proofs.Tryz
noncomputable def env65 : Env := { ty := tys, specs := [(149, s149)], inl := [(65, f65), (150, f150), (151, f151), (152, f152), (153, f153), (154, f154), (209, f209), (210, f210)], hints := hnts }
theorem T_act_limits_side (x : TT [(.st .Config), (.st .Side)]) : (fnTree env65 65 [(.st .Config), (.st .Side)] [.bool] x).den = D_act_limits_side x.1 x.2.1 := by kernel_rfl
theorem C_act_limits_side : SpecOk Go.Proofs.Tryz.prog 65 s65 :=
  (fnTree_spec (E := env65) (tysOk_of tys_ok) (specSound_of (specsOk_cons C_bits_Check specsOk_nil)) mixed_ok (inlOk_of (inlB_cons func65 nm_65 (inlB_cons func150 nm_150 (inlB_cons func151 nm_151 (inlB_cons func152 nm_152 (inlB_cons func153 nm_153 (inlB_cons func154 nm_154 (inlB_cons func209 nm_209 (inlB_cons func210 nm_210 inlB_nil))))))))) en_65 [(.st .Config), (.st .Side)] [.bool]).weaken (fun x r hx hn => (T_act_limits_side x).trans (Q_act_limits_side x r hx hn))
noncomputable def env219 : Env := { ty := tys, specs := [], inl := [(219, f219)], hints := hnts }
theorem T_msg_of (x : TT [(.st .Msg)]) : (fnTree env219 219 [(.st .Msg)] [(.st .Plain)] x).den = D_msg_of x.1 := by kernel_rfl
theorem C_msg_of : SpecOk Go.Proofs.Tryz.prog 219 s219 :=
  (fnTree_spec (E := env219) (tysOk_of tys_ok) (specSound_of specsOk_nil) mixed_ok (inlOk_of (inlB_cons func219 nm_219 inlB_nil)) en_219 [(.st .Msg)] [(.st .Plain)]).weaken (fun x r hx hn => (T_msg_of x).trans (Q_msg_of x r hx hn))
noncomputable def env179 : Env := { ty := tys, specs := [(170, s170), (219, s219)], inl := [(179, f179)], hints := hnts }
theorem T_msg_Same (x : TT [(.st .Msg), (.st .Msg)]) : (fnTree env179 179 [(.st .Msg), (.st .Msg)] [.bool] x).den = D_msg_Same x.1 x.2.1 := by kernel_rfl
theorem C_msg_Same : SpecOk Go.Proofs.Tryz.prog 179 s179 :=
  (fnTree_spec (E := env179) (tysOk_of tys_ok) (specSound_of (specsOk_cons C_bytes_Equal (specsOk_cons C_msg_of specsOk_nil))) mixed_ok (inlOk_of (inlB_cons func179 nm_179 inlB_nil)) en_179 [(.st .Msg), (.st .Msg)] [.bool]).weaken (fun x r hx hn => (T_msg_Same x).trans (Q_msg_Same x r hx hn))
noncomputable def env250 : Env := { ty := tys, specs := [], inl := [(250, f250)], hints := hnts }
theorem T_msg_marks (x : TT [(.sl (.int .u8))]) : (fnTree env250 250 [(.sl (.int .u8))] [.bool] x).den = D_msg_marks x.1 := by kernel_rfl
theorem C_msg_marks : SpecOk Go.Proofs.Tryz.prog 250 s250 :=
  (fnTree_spec (E := env250) (tysOk_of tys_ok) (specSound_of specsOk_nil) mixed_ok (inlOk_of (inlB_cons func250 nm_250 inlB_nil)) en_250 [(.sl (.int .u8))] [.bool]).weaken (fun x r hx hn => (T_msg_marks x).trans (Q_msg_marks x r hx hn))
end Go.Cat

set_option maxHeartbeats 0
namespace Go.Cat
open Go Go.Proofs.Tryz
noncomputable def env236 : Env := { ty := tys, specs := [(234, s234), (250, s250)], inl := [(236, f236)], hints := hnts }
theorem T_msg_used (x : TT [(.st .Msg)]) : (fnTree env236 236 [(.st .Msg)] [(.st .Msg), .bool] x).den = D_msg_used x.1 := by kernel_rfl
theorem C_msg_used : SpecOk Go.Proofs.Tryz.prog 236 s236 :=
  (fnTree_spec (E := env236) (tysOk_of tys_ok) (specSound_of (specsOk_cons C_rec_Check (specsOk_cons C_msg_marks specsOk_nil))) mixed_ok (inlOk_of (inlB_cons func236 nm_236 inlB_nil)) en_236 [(.st .Msg)] [(.st .Msg), .bool]).weaken (fun x r hx hn => (T_msg_used x).trans (Q_msg_used x r hx hn))
noncomputable def env211 : Env := { ty := tys, specs := [(179, s179), (236, s236)], inl := [(211, f211)], hints := hnts }
theorem T_msg_Check (x : TT [(.st .Msg)]) : (fnTree env211 211 [(.st .Msg)] [(.int .i64)] x).den = D_msg_Check x.1 := by kernel_rfl
theorem C_msg_Check : SpecOk Go.Proofs.Tryz.prog 211 s211 :=
  (fnTree_spec (E := env211) (tysOk_of tys_ok) (specSound_of (specsOk_cons C_msg_Same (specsOk_cons C_msg_used specsOk_nil))) mixed_ok (inlOk_of (inlB_cons func211 nm_211 inlB_nil)) en_211 [(.st .Msg)] [(.int .i64)]).weaken (fun x r hx hn => (T_msg_Check x).trans (Q_msg_Check x r hx hn))
noncomputable def env156 : Env := { ty := tys, specs := [(62, s62), (211, s211)], inl := [(156, f156)], hints := hnts }
theorem T_act_limits_message (x : TT [(.st .Config), (.st .Msg)]) : (fnTree env156 156 [(.st .Config), (.st .Msg)] [.bool] x).den = D_act_limits_message x.1 x.2.1 := by kernel_rfl
theorem C_act_limits_message : SpecOk Go.Proofs.Tryz.prog 156 s156 :=
  (fnTree_spec (E := env156) (tysOk_of tys_ok) (specSound_of (specsOk_cons C_act_limits_pair (specsOk_cons C_msg_Check specsOk_nil))) mixed_ok (inlOk_of (inlB_cons func156 nm_156 inlB_nil)) en_156 [(.st .Config), (.st .Msg)] [.bool]).weaken (fun x r hx hn => (T_act_limits_message x).trans (Q_act_limits_message x r hx hn))
noncomputable def env68 : Env := { ty := tys, specs := [(62, s62), (156, s156)], inl := [(68, f68)], hints := hnts }
theorem T_act_limits_act (x : TT [(.st .Config), (.st .Act), (.int .i64)]) : (fnTree env68 68 [(.st .Config), (.st .Act), (.int .i64)] [.bool] x).den = D_act_limits_act x.1 x.2.1 x.2.2.1 := by kernel_rfl
theorem C_act_limits_act : SpecOk Go.Proofs.Tryz.prog 68 s68 :=
  (fnTree_spec (E := env68) (tysOk_of tys_ok) (specSound_of (specsOk_cons C_act_limits_pair (specsOk_cons C_act_limits_message specsOk_nil))) mixed_ok (inlOk_of (inlB_cons func68 nm_68 inlB_nil)) en_68 [(.st .Config), (.st .Act), (.int .i64)] [.bool]).weaken (fun x r hx hn => (T_act_limits_act x).trans (Q_act_limits_act x r hx hn))
noncomputable def env71 : Env := { ty := tys, specs := [(156, s156)], inl := [(71, f71)], hints := hnts }
theorem T_act_limits_mail (x : TT [(.st .Config), (.st .Mail)]) : (fnTree env71 71 [(.st .Config), (.st .Mail)] [.bool] x).den = D_act_limits_mail x.1 x.2.1 := by kernel_rfl
theorem C_act_limits_mail : SpecOk Go.Proofs.Tryz.prog 71 s71 :=
  (fnTree_spec (E := env71) (tysOk_of tys_ok) (specSound_of (specsOk_cons C_act_limits_message specsOk_nil)) mixed_ok (inlOk_of (inlB_cons func71 nm_71 inlB_nil)) en_71 [(.st .Config), (.st .Mail)] [.bool]).weaken (fun x r hx hn => (T_act_limits_mail x).trans (Q_act_limits_mail x r hx hn))
end Go.Cat

set_option maxHeartbeats 0
namespace Go.Cat
open Go Go.Proofs.Tryz
noncomputable def env20 : Env := { ty := tys, specs := [(54, s54), (57, s57), (58, s58), (59, s59), (62, s62), (65, s65), (68, s68), (71, s71)], inl := [(20, f20), (60, f60), (61, f61), (63, f63), (64, f64), (66, f66), (67, f67), (69, f69), (70, f70), (72, f72), (73, f73), (147, f147), (148, f148), (155, f155), (157, f157), (158, f158)], hints := hnts }
theorem T_act_Check (x : TT [(.st .Config), (.st .Site)]) : (fnTree env20 20 [(.st .Config), (.st .Site)] [(.int .i64)] x).den = D_act_Check x.1 x.2.1 := by kernel_rfl
theorem C_act_Check : SpecOk Go.Proofs.Tryz.prog 20 s20 :=
  (fnTree_spec (E := env20) (tysOk_of tys_ok) (specSound_of (specsOk_cons C_sess_Check (specsOk_cons C_place_Check (specsOk_cons C_track_Check (specsOk_cons C_meta_Check (specsOk_cons C_act_limits_pair (specsOk_cons C_act_limits_side (specsOk_cons C_act_limits_act (specsOk_cons C_act_limits_mail specsOk_nil))))))))) mixed_ok (inlOk_of (inlB_cons func20 nm_20 (inlB_cons func60 nm_60 (inlB_cons func61 nm_61 (inlB_cons func63 nm_63 (inlB_cons func64 nm_64 (inlB_cons func66 nm_66 (inlB_cons func67 nm_67 (inlB_cons func69 nm_69 (inlB_cons func70 nm_70 (inlB_cons func72 nm_72 (inlB_cons func73 nm_73 (inlB_cons func147 nm_147 (inlB_cons func148 nm_148 (inlB_cons func155 nm_155 (inlB_cons func157 nm_157 (inlB_cons func158 nm_158 inlB_nil))))))))))))))))) en_20 [(.st .Config), (.st .Site)] [(.int .i64)]).weaken (fun x r hx hn => (T_act_Check x).trans (Q_act_Check x r hx hn))
noncomputable def env227 : Env := { ty := tys, specs := [], inl := [(227, f227)], hints := hnts }
theorem T_crc_sum_take (x : TT [(.int .u32), (.int .u8)]) : (fnTree env227 227 [(.int .u32), (.int .u8)] [(.int .u32)] x).den = D_crc_sum_take x.1 x.2.1 := by kernel_rfl
theorem C_crc_sum_take : SpecOk Go.Proofs.Tryz.prog 227 s227 :=
  (fnTree_spec (E := env227) (tysOk_of tys_ok) (specSound_of specsOk_nil) mixed_ok (inlOk_of (inlB_cons func227 nm_227 inlB_nil)) en_227 [(.int .u32), (.int .u8)] [(.int .u32)]).weaken (fun x r hx hn => (T_crc_sum_take x).trans (Q_crc_sum_take x r hx hn))
noncomputable def env197 : Env := { ty := tys, specs := [(227, s227)], inl := [(197, f197)], hints := hnts }
theorem T_crc_More (x : TT [(.int .u32), (.sl (.int .u8))]) : (fnTree env197 197 [(.int .u32), (.sl (.int .u8))] [(.int .u32)] x).den = D_crc_More x.1 x.2.1 := by kernel_rfl
theorem C_crc_More : SpecOk Go.Proofs.Tryz.prog 197 s197 :=
  (fnTree_spec (E := env197) (tysOk_of tys_ok) (specSound_of (specsOk_cons C_crc_sum_take specsOk_nil)) mixed_ok (inlOk_of (inlB_cons func197 nm_197 inlB_nil)) en_197 [(.int .u32), (.sl (.int .u8))] [(.int .u32)]).weaken (fun x r hx hn => (T_crc_More x).trans (Q_crc_More x r hx hn))
noncomputable def env129 : Env := { ty := tys, specs := [(197, s197)], inl := [(129, f129)], hints := hnts }
theorem T_crc_Sum (x : TT [(.sl (.int .u8))]) : (fnTree env129 129 [(.sl (.int .u8))] [(.int .u32)] x).den = D_crc_Sum x.1 := by kernel_rfl
theorem C_crc_Sum : SpecOk Go.Proofs.Tryz.prog 129 s129 :=
  (fnTree_spec (E := env129) (tysOk_of tys_ok) (specSound_of (specsOk_cons C_crc_More specsOk_nil)) mixed_ok (inlOk_of (inlB_cons func129 nm_129 inlB_nil)) en_129 [(.sl (.int .u8))] [(.int .u32)]).weaken (fun x r hx hn => (T_crc_Sum x).trans (Q_crc_Sum x r hx hn))
noncomputable def env49 : Env := { ty := tys, specs := [(129, s129)], inl := [(49, f49)], hints := hnts }
theorem T_crc_Seal (x : TT [(.sl (.int .u8))]) : (fnTree env49 49 [(.sl (.int .u8))] [(.sl (.int .u8)), (.int .i64)] x).den = D_crc_Seal x.1 := by kernel_rfl
theorem C_crc_Seal : SpecOk Go.Proofs.Tryz.prog 49 s49 :=
  (fnTree_spec (E := env49) (tysOk_of tys_ok) (specSound_of (specsOk_cons C_crc_Sum specsOk_nil)) mixed_ok (inlOk_of (inlB_cons func49 nm_49 inlB_nil)) en_49 [(.sl (.int .u8))] [(.sl (.int .u8)), (.int .i64)]).weaken (fun x r hx hn => (T_crc_Seal x).trans (Q_crc_Seal x r hx hn))
noncomputable def env112 : Env := { ty := tys, specs := [(49, s49)], inl := [(112, f112)], hints := hnts }
theorem T_crc_Open (x : TT [(.sl (.int .u8))]) : (fnTree env112 112 [(.sl (.int .u8))] [(.sl (.int .u8)), (.int .i64)] x).den = D_crc_Open x.1 := by kernel_rfl
theorem C_crc_Open : SpecOk Go.Proofs.Tryz.prog 112 s112 :=
  (fnTree_spec (E := env112) (tysOk_of tys_ok) (specSound_of (specsOk_cons C_crc_Seal specsOk_nil)) mixed_ok (inlOk_of (inlB_cons func112 nm_112 inlB_nil)) en_112 [(.sl (.int .u8))] [(.sl (.int .u8)), (.int .i64)]).weaken (fun x r hx hn => (T_crc_Open x).trans (Q_crc_Open x r hx hn))
noncomputable def env37 : Env := { ty := tys, specs := [(112, s112)], inl := [(37, f37), (48, f48)], hints := hnts }
theorem T_req_Read (x : TT [(.sl (.int .u8))]) : (fnTree env37 37 [(.sl (.int .u8))] [(.int .u8), (.int .u8), (.int .i64)] x).den = D_req_Read x.1 := by kernel_rfl
theorem C_req_Read : SpecOk Go.Proofs.Tryz.prog 37 s37 :=
  (fnTree_spec (E := env37) (tysOk_of tys_ok) (specSound_of (specsOk_cons C_crc_Open specsOk_nil)) mixed_ok (inlOk_of (inlB_cons func37 nm_37 (inlB_cons func48 nm_48 inlB_nil))) en_37 [(.sl (.int .u8))] [(.int .u8), (.int .u8), (.int .i64)]).weaken (fun x r hx hn => (T_req_Read x).trans (Q_req_Read x r hx hn))
noncomputable def env115 : Env := { ty := tys, specs := [], inl := [(115, f115)], hints := hnts }
theorem C_slices_Clone_byte_byte : SpecOk Go.Proofs.Tryz.prog 115 s115 :=
  nil_split (E := env115) (f := 115) (e := (.int .u8)) (results := [(.sl (.int .u8))]) (g := fun xs => if xs.length ≤ big then some (xs, ()) else none) (tysOk_of tys_ok) (specSound_of specsOk_nil) mixed_ok (inlOk_of (inlB_cons func115 nm_115 inlB_nil)) en_115
    (fun r h => (show (treeOf env115 115 [.lit (.slice none 0 0)] [(.sl (.int .u8))]).den = some ([], ()) by kernel_rfl).trans h)
    (fun xs r h => (show (treeOf env115 115 [.nn (.int .u8) xs] [(.sl (.int .u8))]).den = (if decide (0 + xs.length ≤ big) = true then some (xs, ()) else none) by kernel_rfl).trans (by rw [Nat.zero_add]; simp only [decide_eq_true_eq]; exact h))
noncomputable def env75 : Env := { ty := tys, specs := [(115, s115)], inl := [(75, f75)], hints := hnts }
theorem T_disk_Twin (x : TT [(.st .Disk)]) : (fnTree env75 75 [(.st .Disk)] [(.st .Disk)] x).den = D_disk_Twin x.1 := by kernel_rfl
theorem C_disk_Twin : SpecOk Go.Proofs.Tryz.prog 75 s75 :=
  (fnTree_spec (E := env75) (tysOk_of tys_ok) (specSound_of (specsOk_cons C_slices_Clone_byte_byte specsOk_nil)) mixed_ok (inlOk_of (inlB_cons func75 nm_75 inlB_nil)) en_75 [(.st .Disk)] [(.st .Disk)]).weaken (fun x r hx hn => (T_disk_Twin x).trans (Q_disk_Twin x r hx hn))
end Go.Cat

set_option maxHeartbeats 0
namespace Go.Cat
open Go Go.Proofs.Tryz
noncomputable def env140 : Env := { ty := tys, specs := [(141, s141)], inl := [(140, f140)], hints := hnts }
theorem T_ring_Twin (x : TT [(.st .Queue)]) : (fnTree env140 140 [(.st .Queue)] [(.st .Queue)] x).den = D_ring_Twin x.1 := by kernel_rfl
theorem C_ring_Twin : SpecOk Go.Proofs.Tryz.prog 140 s140 :=
  (fnTree_spec (E := env140) (tysOk_of tys_ok) (specSound_of (specsOk_cons C_ring_text specsOk_nil)) mixed_ok (inlOk_of (inlB_cons func140 nm_140 inlB_nil)) en_140 [(.st .Queue)] [(.st .Queue)]).weaken (fun x r hx hn => (T_ring_Twin x).trans (Q_ring_Twin x r hx hn))
noncomputable def env76 : Env := { ty := tys, specs := [(140, s140)], inl := [(76, f76)], hints := hnts }
theorem T_sess_Twin (x : TT [(.st .End)]) : (fnTree env76 76 [(.st .End)] [(.st .End)] x).den = D_sess_Twin x.1 := by kernel_rfl
theorem C_sess_Twin : SpecOk Go.Proofs.Tryz.prog 76 s76 :=
  (fnTree_spec (E := env76) (tysOk_of tys_ok) (specSound_of (specsOk_cons C_ring_Twin specsOk_nil)) mixed_ok (inlOk_of (inlB_cons func76 nm_76 inlB_nil)) en_76 [(.st .End)] [(.st .End)]).weaken (fun x r hx hn => (T_sess_Twin x).trans (Q_sess_Twin x r hx hn))
noncomputable def env77 : Env := { ty := tys, specs := [], inl := [(77, f77)], hints := hnts }
theorem C_slices_Clone_api_Rec_api_Rec : SpecOk Go.Proofs.Tryz.prog 77 s77 :=
  nil_split (E := env77) (f := 77) (e := (.st .Rec)) (results := [(.sl (.st .Rec))]) (g := fun xs => if xs.length ≤ big then some (xs, ()) else none) (tysOk_of tys_ok) (specSound_of specsOk_nil) mixed_ok (inlOk_of (inlB_cons func77 nm_77 inlB_nil)) en_77
    (fun r h => (show (treeOf env77 77 [.lit (.slice none 0 0)] [(.sl (.st .Rec))]).den = some ([], ()) by kernel_rfl).trans h)
    (fun xs r h => (show (treeOf env77 77 [.nn (.st .Rec) xs] [(.sl (.st .Rec))]).den = (if decide (0 + xs.length ≤ big) = true then some (xs, ()) else none) by kernel_rfl).trans (by rw [Nat.zero_add]; simp only [decide_eq_true_eq]; exact h))
noncomputable def env78 : Env := { ty := tys, specs := [], inl := [(78, f78)], hints := hnts }
theorem C_slices_Clone_int_int : SpecOk Go.Proofs.Tryz.prog 78 s78 :=
  nil_split (E := env78) (f := 78) (e := (.int .i64)) (results := [(.sl (.int .i64))]) (g := fun xs => if xs.length ≤ big then some (xs, ()) else none) (tysOk_of tys_ok) (specSound_of specsOk_nil) mixed_ok (inlOk_of (inlB_cons func78 nm_78 inlB_nil)) en_78
    (fun r h => (show (treeOf env78 78 [.lit (.slice none 0 0)] [(.sl (.int .i64))]).den = some ([], ()) by kernel_rfl).trans h)
    (fun xs r h => (show (treeOf env78 78 [.nn (.int .i64) xs] [(.sl (.int .i64))]).den = (if decide (0 + xs.length ≤ big) = true then some (xs, ()) else none) by kernel_rfl).trans (by rw [Nat.zero_add]; simp only [decide_eq_true_eq]; exact h))
noncomputable def env81 : Env := { ty := tys, specs := [], inl := [(81, f81)], hints := hnts }
theorem C_bytes_Clone : SpecOk Go.Proofs.Tryz.prog 81 s81 :=
  nil_split (E := env81) (f := 81) (e := (.int .u8)) (results := [(.sl (.int .u8))]) (g := fun xs => if xs.length ≤ big then some (xs, ()) else none) (tysOk_of tys_ok) (specSound_of specsOk_nil) mixed_ok (inlOk_of (inlB_cons func81 nm_81 inlB_nil)) en_81
    (fun r h => (show (treeOf env81 81 [.lit (.slice none 0 0)] [(.sl (.int .u8))]).den = some ([], ()) by kernel_rfl).trans h)
    (fun xs r h => (show (treeOf env81 81 [.nn (.int .u8) xs] [(.sl (.int .u8))]).den = (if decide (0 + xs.length ≤ big) = true then some (xs, ()) else none) by kernel_rfl).trans (by rw [Nat.zero_add]; simp only [decide_eq_true_eq]; exact h))
noncomputable def env82 : Env := { ty := tys, specs := [], inl := [(82, f82)], hints := hnts }
theorem C_slices_Clone_api_Sent_api_Sent : SpecOk Go.Proofs.Tryz.prog 82 s82 :=
  nil_split (E := env82) (f := 82) (e := (.st .Sent)) (results := [(.sl (.st .Sent))]) (g := fun xs => if xs.length ≤ big then some (xs, ()) else none) (tysOk_of tys_ok) (specSound_of specsOk_nil) mixed_ok (inlOk_of (inlB_cons func82 nm_82 inlB_nil)) en_82
    (fun r h => (show (treeOf env82 82 [.lit (.slice none 0 0)] [(.sl (.st .Sent))]).den = some ([], ()) by kernel_rfl).trans h)
    (fun xs r h => (show (treeOf env82 82 [.nn (.st .Sent) xs] [(.sl (.st .Sent))]).den = (if decide (0 + xs.length ≤ big) = true then some (xs, ()) else none) by kernel_rfl).trans (by rw [Nat.zero_add]; simp only [decide_eq_true_eq]; exact h))
noncomputable def env83 : Env := { ty := tys, specs := [], inl := [(83, f83)], hints := hnts }
theorem C_slices_Clone_api_Wait_api_Wait : SpecOk Go.Proofs.Tryz.prog 83 s83 :=
  nil_split (E := env83) (f := 83) (e := (.st .Wait)) (results := [(.sl (.st .Wait))]) (g := fun xs => if xs.length ≤ big then some (xs, ()) else none) (tysOk_of tys_ok) (specSound_of specsOk_nil) mixed_ok (inlOk_of (inlB_cons func83 nm_83 inlB_nil)) en_83
    (fun r h => (show (treeOf env83 83 [.lit (.slice none 0 0)] [(.sl (.st .Wait))]).den = some ([], ()) by kernel_rfl).trans h)
    (fun xs r h => (show (treeOf env83 83 [.nn (.st .Wait) xs] [(.sl (.st .Wait))]).den = (if decide (0 + xs.length ≤ big) = true then some (xs, ()) else none) by kernel_rfl).trans (by rw [Nat.zero_add]; simp only [decide_eq_true_eq]; exact h))
noncomputable def env86 : Env := { ty := tys, specs := [(115, s115)], inl := [(86, f86)], hints := hnts }
theorem T_msg_Twin (x : TT [(.st .Msg)]) : (fnTree env86 86 [(.st .Msg)] [(.st .Msg)] x).den = D_msg_Twin x.1 := by kernel_rfl
theorem C_msg_Twin : SpecOk Go.Proofs.Tryz.prog 86 s86 :=
  (fnTree_spec (E := env86) (tysOk_of tys_ok) (specSound_of (specsOk_cons C_slices_Clone_byte_byte specsOk_nil)) mixed_ok (inlOk_of (inlB_cons func86 nm_86 inlB_nil)) en_86 [(.st .Msg)] [(.st .Msg)]).weaken (fun x r hx hn => (T_msg_Twin x).trans (Q_msg_Twin x r hx hn))
noncomputable def env87 : Env := { ty := tys, specs := [(115, s115)], inl := [(87, f87)], hints := hnts }
theorem T_act_reply (x : TT [(.st .Reply)]) : (fnTree env87 87 [(.st .Reply)] [(.st .Reply)] x).den = D_act_reply x.1 := by kernel_rfl
theorem C_act_reply : SpecOk Go.Proofs.Tryz.prog 87 s87 :=
  (fnTree_spec (E := env87) (tysOk_of tys_ok) (specSound_of (specsOk_cons C_slices_Clone_byte_byte specsOk_nil)) mixed_ok (inlOk_of (inlB_cons func87 nm_87 inlB_nil)) en_87 [(.st .Reply)] [(.st .Reply)]).weaken (fun x r hx hn => (T_act_reply x).trans (Q_act_reply x r hx hn))
noncomputable def env22 : Env := { ty := tys, specs := [(75, s75), (76, s76), (77, s77), (78, s78), (81, s81), (82, s82), (83, s83), (86, s86), (87, s87)], inl := [(22, f22), (79, f79), (80, f80), (84, f84), (85, f85), (88, f88), (89, f89), (90, f90), (91, f91), (92, f92)], hints := hnts }
theorem T_act_Twin (x : TT [(.st .Site)]) : (fnTreeOwn env22 22 [(.st .Site)] (.st .Site) [none, none, none, some 84, none, some 68, some 73, some 101, some 66, none] x).den = D_act_Twin x.1 := by kernel_rfl
theorem C_act_Twin : SpecOk Go.Proofs.Tryz.prog 22 s22 :=
  (fnTreeOwn_spec (E := env22) (tysOk_of tys_ok) (specSound_of (specsOk_cons C_disk_Twin (specsOk_cons C_sess_Twin (specsOk_cons C_slices_Clone_api_Rec_api_Rec (specsOk_cons C_slices_Clone_int_int (specsOk_cons C_bytes_Clone (specsOk_cons C_slices_Clone_api_Sent_api_Sent (specsOk_cons C_slices_Clone_api_Wait_api_Wait (specsOk_cons C_msg_Twin (specsOk_cons C_act_reply specsOk_nil)))))))))) mixed_ok (inlOk_of (inlB_cons func22 nm_22 (inlB_cons func79 nm_79 (inlB_cons func80 nm_80 (inlB_cons func84 nm_84 (inlB_cons func85 nm_85 (inlB_cons func88 nm_88 (inlB_cons func89 nm_89 (inlB_cons func90 nm_90 (inlB_cons func91 nm_91 (inlB_cons func92 nm_92 inlB_nil))))))))))) en_22 [(.st .Site)] (.st .Site) [none, none, none, some 84, none, some 68, some 73, some 101, some 66, none]).weaken (fun x r hx hn => (T_act_Twin x).trans (Q_act_Twin x r hx hn))
noncomputable def env38 : Env := { ty := tys, specs := [(20, s20), (22, s22), (115, s115)], inl := [(38, f38), (113, f113), (114, f114), (184, f184)], hints := hnts }
theorem T_host_Answer (x : TT [(.st .Config), (.st .Site), (.st .Reply)]) : (fnTree env38 38 [(.st .Config), (.st .Site), (.st .Reply)] [(.st .Site), (.int .i64)] x).den = D_host_Answer x.1 x.2.1 x.2.2.1 := by kernel_rfl
theorem C_host_Answer : SpecOk Go.Proofs.Tryz.prog 38 s38 :=
  (fnTree_spec (E := env38) (tysOk_of tys_ok) (specSound_of (specsOk_cons C_act_Check (specsOk_cons C_act_Twin (specsOk_cons C_slices_Clone_byte_byte specsOk_nil)))) mixed_ok (inlOk_of (inlB_cons func38 nm_38 (inlB_cons func113 nm_113 (inlB_cons func114 nm_114 (inlB_cons func184 nm_184 inlB_nil))))) en_38 [(.st .Config), (.st .Site), (.st .Reply)] [(.st .Site), (.int .i64)]).weaken (fun x r hx hn => (T_host_Answer x).trans (Q_host_Answer x r hx hn))
noncomputable def env39 : Env := { ty := tys, specs := [(20, s20), (22, s22), (115, s115)], inl := [(39, f39)], hints := hnts }
theorem T_site_Ask (x : TT [(.st .Config), (.st .Site), (.st .Ask)]) : (fnTree env39 39 [(.st .Config), (.st .Site), (.st .Ask)] [(.st .Site), (.int .i64)] x).den = D_site_Ask x.1 x.2.1 x.2.2.1 := by kernel_rfl
theorem C_site_Ask : SpecOk Go.Proofs.Tryz.prog 39 s39 :=
  (fnTree_spec (E := env39) (tysOk_of tys_ok) (specSound_of (specsOk_cons C_act_Check (specsOk_cons C_act_Twin (specsOk_cons C_slices_Clone_byte_byte specsOk_nil)))) mixed_ok (inlOk_of (inlB_cons func39 nm_39 inlB_nil)) en_39 [(.st .Config), (.st .Site), (.st .Ask)] [(.st .Site), (.int .i64)]).weaken (fun x r hx hn => (T_site_Ask x).trans (Q_site_Ask x r hx hn))
noncomputable def env10 : Env := { ty := tys, specs := [(20, s20), (37, s37), (38, s38), (39, s39)], inl := [(10, f10)], hints := hnts }
theorem T_req_Submit (x : TT [(.st .Config), (.st .Site), (.int .i64), (.sl (.int .u8))]) : (fnTree env10 10 [(.st .Config), (.st .Site), (.int .i64), (.sl (.int .u8))] [(.st .Site), (.int .i64)] x).den = D_req_Submit x.1 x.2.1 x.2.2.1 x.2.2.2.1 := by kernel_rfl
theorem C_req_Submit : SpecOk Go.Proofs.Tryz.prog 10 s10 :=
  (fnTree_spec (E := env10) (tysOk_of tys_ok) (specSound_of (specsOk_cons C_act_Check (specsOk_cons C_req_Read (specsOk_cons C_host_Answer (specsOk_cons C_site_Ask specsOk_nil))))) mixed_ok (inlOk_of (inlB_cons func10 nm_10 inlB_nil)) en_10 [(.st .Config), (.st .Site), (.int .i64), (.sl (.int .u8))] [(.st .Site), (.int .i64)]).weaken (fun x r hx hn => (T_req_Submit x).trans (Q_req_Submit x r hx hn))
noncomputable def env166 : Env := { ty := tys, specs := [], inl := [(166, f166)], hints := hnts }
theorem T_ref07_in (x : TT [(.int .i64), (.int .i64), (.int .i64)]) : (fnTree env166 166 [(.int .i64), (.int .i64), (.int .i64)] [.bool] x).den = D_ref07_in x.1 x.2.1 x.2.2.1 := by kernel_rfl
theorem C_ref07_in : SpecOk Go.Proofs.Tryz.prog 166 s166 :=
  (fnTree_spec (E := env166) (tysOk_of tys_ok) (specSound_of specsOk_nil) mixed_ok (inlOk_of (inlB_cons func166 nm_166 inlB_nil)) en_166 [(.int .i64), (.int .i64), (.int .i64)] [.bool]).weaken (fun x r hx hn => (T_ref07_in x).trans (Q_ref07_in x r hx hn))
noncomputable def env95 : Env := { ty := tys, specs := [(166, s166)], inl := [(95, f95)], hints := hnts }
theorem T_ref07_May (x : TT [(.st .Config)]) : (fnTree env95 95 [(.st .Config)] [.bool] x).den = D_ref07_May x.1 := by kernel_rfl
theorem C_ref07_May : SpecOk Go.Proofs.Tryz.prog 95 s95 :=
  (fnTree_spec (E := env95) (tysOk_of tys_ok) (specSound_of (specsOk_cons C_ref07_in specsOk_nil)) mixed_ok (inlOk_of (inlB_cons func95 nm_95 inlB_nil)) en_95 [(.st .Config)] [.bool]).weaken (fun x r hx hn => (T_ref07_May x).trans (Q_ref07_May x r hx hn))
noncomputable def env167 : Env := { ty := tys, specs := [], inl := [(167, f167)], hints := hnts }
theorem T_ref07_Many (x : TT [(.st .Config)]) : (fnTree env167 167 [(.st .Config)] [(.int .i64)] x).den = D_ref07_Many x.1 := by kernel_rfl
theorem C_ref07_Many : SpecOk Go.Proofs.Tryz.prog 167 s167 :=
  (fnTree_spec (E := env167) (tysOk_of tys_ok) (specSound_of specsOk_nil) mixed_ok (inlOk_of (inlB_cons func167 nm_167 inlB_nil)) en_167 [(.st .Config)] [(.int .i64)]).weaken (fun x r hx hn => (T_ref07_Many x).trans (Q_ref07_Many x r hx hn))
noncomputable def env220 : Env := { ty := tys, specs := [(167, s167)], inl := [(220, f220)], hints := hnts }
theorem T_ref07_first (x : TT [(.st .Config)]) : (fnTree env220 220 [(.st .Config)] [(.int .i64), (.int .i64), (.int .i64), (.int .i64)] x).den = D_ref07_first x.1 := by kernel_rfl
theorem C_ref07_first : SpecOk Go.Proofs.Tryz.prog 220 s220 :=
  (fnTree_spec (E := env220) (tysOk_of tys_ok) (specSound_of (specsOk_cons C_ref07_Many specsOk_nil)) mixed_ok (inlOk_of (inlB_cons func220 nm_220 inlB_nil)) en_220 [(.st .Config)] [(.int .i64), (.int .i64), (.int .i64), (.int .i64)]).weaken (fun x r hx hn => (T_ref07_first x).trans (Q_ref07_first x r hx hn))
noncomputable def env185 : Env := { ty := tys, specs := [(220, s220)], inl := [(185, f185)], hints := hnts }
theorem T_ref07_Size (x : TT [(.st .Config)]) : (fnTree env185 185 [(.st .Config)] [(.int .i64)] x).den = D_ref07_Size x.1 := by kernel_rfl
theorem C_ref07_Size : SpecOk Go.Proofs.Tryz.prog 185 s185 :=
  (fnTree_spec (E := env185) (tysOk_of tys_ok) (specSound_of (specsOk_cons C_ref07_first specsOk_nil)) mixed_ok (inlOk_of (inlB_cons func185 nm_185 inlB_nil)) en_185 [(.st .Config)] [(.int .i64)]).weaken (fun x r hx hn => (T_ref07_Size x).trans (Q_ref07_Size x r hx hn))
noncomputable def env221 : Env := { ty := tys, specs := [], inl := [(221, f221)], hints := hnts }
theorem T_ref05_blank (x : TT [(.sl (.int .u8))]) : (fnTree env221 221 [(.sl (.int .u8))] [.bool] x).den = D_ref05_blank x.1 := by kernel_rfl
theorem C_ref05_blank : SpecOk Go.Proofs.Tryz.prog 221 s221 :=
  (fnTree_spec (E := env221) (tysOk_of tys_ok) (specSound_of specsOk_nil) mixed_ok (inlOk_of (inlB_cons func221 nm_221 inlB_nil)) en_221 [(.sl (.int .u8))] [.bool]).weaken (fun x r hx hn => (T_ref05_blank x).trans (Q_ref05_blank x r hx hn))
noncomputable def env186 : Env := { ty := tys, specs := [(221, s221)], inl := [(186, f186)], hints := hnts }
theorem T_ref05_May (x : TT [(.st .Disk)]) : (fnTree env186 186 [(.st .Disk)] [.bool] x).den = D_ref05_May x.1 := by kernel_rfl
theorem C_ref05_May : SpecOk Go.Proofs.Tryz.prog 186 s186 :=
  (fnTree_spec (E := env186) (tysOk_of tys_ok) (specSound_of (specsOk_cons C_ref05_blank specsOk_nil)) mixed_ok (inlOk_of (inlB_cons func186 nm_186 inlB_nil)) en_186 [(.st .Disk)] [.bool]).weaken (fun x r hx hn => (T_ref05_May x).trans (Q_ref05_May x r hx hn))
noncomputable def env116 : Env := { ty := tys, specs := [(95, s95), (185, s185), (186, s186)], inl := [(116, f116)], hints := hnts }
theorem T_ref08_May (x : TT [(.st .Config), (.st .Disk)]) : (fnTree env116 116 [(.st .Config), (.st .Disk)] [.bool] x).den = D_ref08_May x.1 x.2.1 := by kernel_rfl
theorem C_ref08_May : SpecOk Go.Proofs.Tryz.prog 116 s116 :=
  (fnTree_spec (E := env116) (tysOk_of tys_ok) (specSound_of (specsOk_cons C_ref07_May (specsOk_cons C_ref07_Size (specsOk_cons C_ref05_May specsOk_nil)))) mixed_ok (inlOk_of (inlB_cons func116 nm_116 inlB_nil)) en_116 [(.st .Config), (.st .Disk)] [.bool]).weaken (fun x r hx hn => (T_ref08_May x).trans (Q_ref08_May x r hx hn))
noncomputable def env222 : Env := { ty := tys, specs := [], inl := [(222, f222)], hints := hnts }
theorem T_ref11_May (x : TT [(.st .Rec)]) : (fnTree env222 222 [(.st .Rec)] [.bool] x).den = D_ref11_May x.1 := by kernel_rfl
theorem C_ref11_May : SpecOk Go.Proofs.Tryz.prog 222 s222 :=
  (fnTree_spec (E := env222) (tysOk_of tys_ok) (specSound_of specsOk_nil) mixed_ok (inlOk_of (inlB_cons func222 nm_222 inlB_nil)) en_222 [(.st .Rec)] [.bool]).weaken (fun x r hx hn => (T_ref11_May x).trans (Q_ref11_May x r hx hn))
noncomputable def env187 : Env := { ty := tys, specs := [(222, s222)], inl := [(187, f187)], hints := hnts }
theorem T_ref11_MayAll (x : TT [(.sl (.st .Rec))]) : (fnTree env187 187 [(.sl (.st .Rec))] [.bool] x).den = D_ref11_MayAll x.1 := by kernel_rfl
theorem C_ref11_MayAll : SpecOk Go.Proofs.Tryz.prog 187 s187 :=
  (fnTree_spec (E := env187) (tysOk_of tys_ok) (specSound_of (specsOk_cons C_ref11_May specsOk_nil)) mixed_ok (inlOk_of (inlB_cons func187 nm_187 inlB_nil)) en_187 [(.sl (.st .Rec))] [.bool]).weaken (fun x r hx hn => (T_ref11_MayAll x).trans (Q_ref11_MayAll x r hx hn))
noncomputable def env117 : Env := { ty := tys, specs := [(95, s95), (187, s187)], inl := [(117, f117)], hints := hnts }
theorem T_ref12_May (x : TT [(.st .Config), (.st .Meta)]) : (fnTree env117 117 [(.st .Config), (.st .Meta)] [.bool] x).den = D_ref12_May x.1 x.2.1 := by kernel_rfl
theorem C_ref12_May : SpecOk Go.Proofs.Tryz.prog 117 s117 :=
  (fnTree_spec (E := env117) (tysOk_of tys_ok) (specSound_of (specsOk_cons C_ref07_May (specsOk_cons C_ref11_MayAll specsOk_nil))) mixed_ok (inlOk_of (inlB_cons func117 nm_117 inlB_nil)) en_117 [(.st .Config), (.st .Meta)] [.bool]).weaken (fun x r hx hn => (T_ref12_May x).trans (Q_ref12_May x r hx hn))
noncomputable def env188 : Env := { ty := tys, specs := [], inl := [(188, f188)], hints := hnts }
theorem T_ref04_May (x : TT [(.st .Queue)]) : (fnTree env188 188 [(.st .Queue)] [.bool] x).den = D_ref04_May x.1 := by kernel_rfl
theorem C_ref04_May : SpecOk Go.Proofs.Tryz.prog 188 s188 :=
  (fnTree_spec (E := env188) (tysOk_of tys_ok) (specSound_of specsOk_nil) mixed_ok (inlOk_of (inlB_cons func188 nm_188 inlB_nil)) en_188 [(.st .Queue)] [.bool]).weaken (fun x r hx hn => (T_ref04_May x).trans (Q_ref04_May x r hx hn))
noncomputable def env189 : Env := { ty := tys, specs := [(188, s188)], inl := [(189, f189)], hints := hnts }
theorem T_ref04_List (x : TT [(.st .Queue)]) : (fnTree env189 189 [(.st .Queue)] [(.sl (.sl (.int .u8))), (.int .i64)] x).den = D_ref04_List x.1 := by kernel_rfl
theorem C_ref04_List : SpecOk Go.Proofs.Tryz.prog 189 s189 :=
  (fnTree_spec (E := env189) (tysOk_of tys_ok) (specSound_of (specsOk_cons C_ref04_May specsOk_nil)) mixed_ok (inlOk_of (inlB_cons func189 nm_189 inlB_nil)) en_189 [(.st .Queue)] [(.sl (.sl (.int .u8))), (.int .i64)]).weaken (fun x r hx hn => (T_ref04_List x).trans (Q_ref04_List x r hx hn))
end Go.Cat

set_option maxHeartbeats 0
namespace Go.Cat
open Go Go.Proofs.Tryz
noncomputable def env118 : Env := { ty := tys, specs := [(95, s95), (188, s188), (189, s189)], inl := [(118, f118)], hints := hnts }
theorem T_ref17_May (x : TT [(.st .Config), (.st .End)]) : (fnTree env118 118 [(.st .Config), (.st .End)] [.bool] x).den = D_ref17_May x.1 x.2.1 := by kernel_rfl
theorem C_ref17_May : SpecOk Go.Proofs.Tryz.prog 118 s118 :=
  (fnTree_spec (E := env118) (tysOk_of tys_ok) (specSound_of (specsOk_cons C_ref07_May (specsOk_cons C_ref04_May (specsOk_cons C_ref04_List specsOk_nil)))) mixed_ok (inlOk_of (inlB_cons func118 nm_118 inlB_nil)) en_118 [(.st .Config), (.st .End)] [.bool]).weaken (fun x r hx hn => (T_ref17_May x).trans (Q_ref17_May x r hx hn))
noncomputable def env119 : Env := { ty := tys, specs := [], inl := [(119, f119)], hints := hnts }
theorem T_ref21_pair (x : TT [(.st .Config), (.int .i64)]) : (fnTree env119 119 [(.st .Config), (.int .i64)] [.bool] x).den = D_ref21_pair x.1 x.2.1 := by kernel_rfl
theorem C_ref21_pair : SpecOk Go.Proofs.Tryz.prog 119 s119 :=
  (fnTree_spec (E := env119) (tysOk_of tys_ok) (specSound_of specsOk_nil) mixed_ok (inlOk_of (inlB_cons func119 nm_119 inlB_nil)) en_119 [(.st .Config), (.int .i64)] [.bool]).weaken (fun x r hx hn => (T_ref21_pair x).trans (Q_ref21_pair x r hx hn))
noncomputable def env224 : Env := { ty := tys, specs := [], inl := [(224, f224), (240, f240)], hints := hnts }
theorem T_ref03_In (x : TT [(.sl (.int .u8)), (.int .i64)]) : (fnTree env224 224 [(.sl (.int .u8)), (.int .i64)] [.bool] x).den = D_ref03_In x.1 x.2.1 := by kernel_rfl
theorem C_ref03_In : SpecOk Go.Proofs.Tryz.prog 224 s224 :=
  (fnTree_spec (E := env224) (tysOk_of tys_ok) (specSound_of specsOk_nil) mixed_ok (inlOk_of (inlB_cons func224 nm_224 (inlB_cons func240 nm_240 inlB_nil))) en_224 [(.sl (.int .u8)), (.int .i64)] [.bool]).weaken (fun x r hx hn => (T_ref03_In x).trans (Q_ref03_In x r hx hn))
noncomputable def env190 : Env := { ty := tys, specs := [(224, s224)], inl := [(190, f190), (223, f223)], hints := hnts }
theorem T_ref03_May (x : TT [(.int .i64), (.sl (.int .u8))]) : (fnTree env190 190 [(.int .i64), (.sl (.int .u8))] [.bool] x).den = D_ref03_May x.1 x.2.1 := by kernel_rfl
theorem C_ref03_May : SpecOk Go.Proofs.Tryz.prog 190 s190 :=
  (fnTree_spec (E := env190) (tysOk_of tys_ok) (specSound_of (specsOk_cons C_ref03_In specsOk_nil)) mixed_ok (inlOk_of (inlB_cons func190 nm_190 (inlB_cons func223 nm_223 inlB_nil))) en_190 [(.int .i64), (.sl (.int .u8))] [.bool]).weaken (fun x r hx hn => (T_ref03_May x).trans (Q_ref03_May x r hx hn))
noncomputable def env191 : Env := { ty := tys, specs := [], inl := [(191, f191)], hints := hnts }
theorem T_ref21_there (x : TT [(.st .Config), (.int .i64)]) : (fnTree env191 191 [(.st .Config), (.int .i64)] [.bool] x).den = D_ref21_there x.1 x.2.1 := by kernel_rfl
theorem C_ref21_there : SpecOk Go.Proofs.Tryz.prog 191 s191 :=
  (fnTree_spec (E := env191) (tysOk_of tys_ok) (specSound_of specsOk_nil) mixed_ok (inlOk_of (inlB_cons func191 nm_191 inlB_nil)) en_191 [(.st .Config), (.int .i64)] [.bool]).weaken (fun x r hx hn => (T_ref21_there x).trans (Q_ref21_there x r hx hn))
noncomputable def env120 : Env := { ty := tys, specs := [(190, s190), (191, s191)], inl := [(120, f120)], hints := hnts }
theorem T_ref21_maySide (x : TT [(.st .Config), (.st .Side)]) : (fnTree env120 120 [(.st .Config), (.st .Side)] [.bool] x).den = D_ref21_maySide x.1 x.2.1 := by kernel_rfl
theorem C_ref21_maySide : SpecOk Go.Proofs.Tryz.prog 120 s120 :=
  (fnTree_spec (E := env120) (tysOk_of tys_ok) (specSound_of (specsOk_cons C_ref03_May (specsOk_cons C_ref21_there specsOk_nil))) mixed_ok (inlOk_of (inlB_cons func120 nm_120 inlB_nil)) en_120 [(.st .Config), (.st .Side)] [.bool]).weaken (fun x r hx hn => (T_ref21_maySide x).trans (Q_ref21_maySide x r hx hn))
noncomputable def env225 : Env := { ty := tys, specs := [(222, s222)], inl := [(225, f225), (241, f241), (242, f242)], hints := hnts }
theorem T_ref20_May (x : TT [(.st .Msg)]) : (fnTree env225 225 [(.st .Msg)] [.bool] x).den = D_ref20_May x.1 := by kernel_rfl
theorem C_ref20_May : SpecOk Go.Proofs.Tryz.prog 225 s225 :=
  (fnTree_spec (E := env225) (tysOk_of tys_ok) (specSound_of (specsOk_cons C_ref11_May specsOk_nil)) mixed_ok (inlOk_of (inlB_cons func225 nm_225 (inlB_cons func241 nm_241 (inlB_cons func242 nm_242 inlB_nil)))) en_225 [(.st .Msg)] [.bool]).weaken (fun x r hx hn => (T_ref20_May x).trans (Q_ref20_May x r hx hn))
end Go.Cat

set_option maxHeartbeats 0
namespace Go.Cat
open Go Go.Proofs.Tryz
noncomputable def env193 : Env := { ty := tys, specs := [(119, s119), (225, s225)], inl := [(193, f193)], hints := hnts }
theorem T_ref21_mayMsg (x : TT [(.st .Config), (.st .Msg)]) : (fnTree env193 193 [(.st .Config), (.st .Msg)] [.bool] x).den = D_ref21_mayMsg x.1 x.2.1 := by kernel_rfl
theorem C_ref21_mayMsg : SpecOk Go.Proofs.Tryz.prog 193 s193 :=
  (fnTree_spec (E := env193) (tysOk_of tys_ok) (specSound_of (specsOk_cons C_ref21_pair (specsOk_cons C_ref20_May specsOk_nil))) mixed_ok (inlOk_of (inlB_cons func193 nm_193 inlB_nil)) en_193 [(.st .Config), (.st .Msg)] [.bool]).weaken (fun x r hx hn => (T_ref21_mayMsg x).trans (Q_ref21_mayMsg x r hx hn))
noncomputable def env192 : Env := { ty := tys, specs := [(119, s119), (193, s193)], inl := [(192, f192)], hints := hnts }
theorem T_ref21_mayAct (x : TT [(.st .Config), (.st .Site), (.st .Act)]) : (fnTree env192 192 [(.st .Config), (.st .Site), (.st .Act)] [.bool] x).den = D_ref21_mayAct x.1 x.2.1 x.2.2.1 := by kernel_rfl
theorem C_ref21_mayAct : SpecOk Go.Proofs.Tryz.prog 192 s192 :=
  (fnTree_spec (E := env192) (tysOk_of tys_ok) (specSound_of (specsOk_cons C_ref21_pair (specsOk_cons C_ref21_mayMsg specsOk_nil))) mixed_ok (inlOk_of (inlB_cons func192 nm_192 inlB_nil)) en_192 [(.st .Config), (.st .Site), (.st .Act)] [.bool]).weaken (fun x r hx hn => (T_ref21_mayAct x).trans (Q_ref21_mayAct x r hx hn))
noncomputable def env121 : Env := { ty := tys, specs := [(192, s192), (193, s193)], inl := [(121, f121)], hints := hnts }
theorem T_ref21_mayLists (x : TT [(.st .Config), (.st .Site)]) : (fnTree env121 121 [(.st .Config), (.st .Site)] [.bool] x).den = D_ref21_mayLists x.1 x.2.1 := by kernel_rfl
theorem C_ref21_mayLists : SpecOk Go.Proofs.Tryz.prog 121 s121 :=
  (fnTree_spec (E := env121) (tysOk_of tys_ok) (specSound_of (specsOk_cons C_ref21_mayAct (specsOk_cons C_ref21_mayMsg specsOk_nil))) mixed_ok (inlOk_of (inlB_cons func121 nm_121 inlB_nil)) en_121 [(.st .Config), (.st .Site)] [.bool]).weaken (fun x r hx hn => (T_ref21_mayLists x).trans (Q_ref21_mayLists x r hx hn))
noncomputable def env40 : Env := { ty := tys, specs := [(116, s116), (117, s117), (118, s118), (119, s119), (120, s120), (121, s121)], inl := [(40, f40)], hints := hnts }
theorem T_ref21_May (x : TT [(.st .Config), (.st .Site)]) : (fnTree env40 40 [(.st .Config), (.st .Site)] [.bool] x).den = D_ref21_May x.1 x.2.1 := by kernel_rfl
theorem C_ref21_May : SpecOk Go.Proofs.Tryz.prog 40 s40 :=
  (fnTree_spec (E := env40) (tysOk_of tys_ok) (specSound_of (specsOk_cons C_ref08_May (specsOk_cons C_ref12_May (specsOk_cons C_ref17_May (specsOk_cons C_ref21_pair (specsOk_cons C_ref21_maySide (specsOk_cons C_ref21_mayLists specsOk_nil))))))) mixed_ok (inlOk_of (inlB_cons func40 nm_40 inlB_nil)) en_40 [(.st .Config), (.st .Site)] [.bool]).weaken (fun x r hx hn => (T_ref21_May x).trans (Q_ref21_May x r hx hn))
noncomputable def env252 : Env := { ty := tys, specs := [], inl := [(252, f252)], hints := hnts }
theorem T_ref02_Taken (x : TT [(.int .u32), (.int .u8)]) : (fnTree env252 252 [(.int .u32), (.int .u8)] [(.int .u32)] x).den = D_ref02_Taken x.1 x.2.1 := by kernel_rfl
theorem C_ref02_Taken : SpecOk Go.Proofs.Tryz.prog 252 s252 :=
  (fnTree_spec (E := env252) (tysOk_of tys_ok) (specSound_of specsOk_nil) mixed_ok (inlOk_of (inlB_cons func252 nm_252 inlB_nil)) en_252 [(.int .u32), (.int .u8)] [(.int .u32)]).weaken (fun x r hx hn => (T_ref02_Taken x).trans (Q_ref02_Taken x r hx hn))
noncomputable def env243 : Env := { ty := tys, specs := [(252, s252)], inl := [(243, f243)], hints := hnts }
theorem T_ref02_Behind (x : TT [(.int .u32), (.sl (.int .u8))]) : (fnTree env243 243 [(.int .u32), (.sl (.int .u8))] [(.int .u32)] x).den = D_ref02_Behind x.1 x.2.1 := by kernel_rfl
theorem C_ref02_Behind : SpecOk Go.Proofs.Tryz.prog 243 s243 :=
  (fnTree_spec (E := env243) (tysOk_of tys_ok) (specSound_of (specsOk_cons C_ref02_Taken specsOk_nil)) mixed_ok (inlOk_of (inlB_cons func243 nm_243 inlB_nil)) en_243 [(.int .u32), (.sl (.int .u8))] [(.int .u32)]).weaken (fun x r hx hn => (T_ref02_Behind x).trans (Q_ref02_Behind x r hx hn))
noncomputable def env226 : Env := { ty := tys, specs := [(243, s243)], inl := [(226, f226)], hints := hnts }
theorem T_ref02_Sum (x : TT [(.sl (.int .u8))]) : (fnTree env226 226 [(.sl (.int .u8))] [(.int .u32)] x).den = D_ref02_Sum x.1 := by kernel_rfl
theorem C_ref02_Sum : SpecOk Go.Proofs.Tryz.prog 226 s226 :=
  (fnTree_spec (E := env226) (tysOk_of tys_ok) (specSound_of (specsOk_cons C_ref02_Behind specsOk_nil)) mixed_ok (inlOk_of (inlB_cons func226 nm_226 inlB_nil)) en_226 [(.sl (.int .u8))] [(.int .u32)]).weaken (fun x r hx hn => (T_ref02_Sum x).trans (Q_ref02_Sum x r hx hn))
noncomputable def env194 : Env := { ty := tys, specs := [(226, s226)], inl := [(194, f194)], hints := hnts }
theorem T_ref02_Sealed (x : TT [(.sl (.int .u8))]) : (fnTree env194 194 [(.sl (.int .u8))] [(.sl (.int .u8))] x).den = D_ref02_Sealed x.1 := by kernel_rfl
theorem C_ref02_Sealed : SpecOk Go.Proofs.Tryz.prog 194 s194 :=
  (fnTree_spec (E := env194) (tysOk_of tys_ok) (specSound_of (specsOk_cons C_ref02_Sum specsOk_nil)) mixed_ok (inlOk_of (inlB_cons func194 nm_194 inlB_nil)) en_194 [(.sl (.int .u8))] [(.sl (.int .u8))]).weaken (fun x r hx hn => (T_ref02_Sealed x).trans (Q_ref02_Sealed x r hx hn))
noncomputable def env122 : Env := { ty := tys, specs := [(194, s194)], inl := [(122, f122)], hints := hnts }
theorem T_ref28_Read (x : TT [(.sl (.int .u8))]) : (fnTree env122 122 [(.sl (.int .u8))] [(.int .u8), (.int .u8), (.int .i64)] x).den = D_ref28_Read x.1 := by kernel_rfl
theorem C_ref28_Read : SpecOk Go.Proofs.Tryz.prog 122 s122 :=
  (fnTree_spec (E := env122) (tysOk_of tys_ok) (specSound_of (specsOk_cons C_ref02_Sealed specsOk_nil)) mixed_ok (inlOk_of (inlB_cons func122 nm_122 inlB_nil)) en_122 [(.sl (.int .u8))] [(.int .u8), (.int .u8), (.int .i64)]).weaken (fun x r hx hn => (T_ref28_Read x).trans (Q_ref28_Read x r hx hn))
noncomputable def env195 : Env := { ty := tys, specs := [], inl := [(195, f195)], hints := hnts }
theorem T_ref22_Answered (x : TT [(.st .Site), (.st .Reply)]) : (fnTree env195 195 [(.st .Site), (.st .Reply)] [(.st .Site)] x).den = D_ref22_Answered x.1 x.2.1 := by kernel_rfl
theorem C_ref22_Answered : SpecOk Go.Proofs.Tryz.prog 195 s195 :=
  (fnTree_spec (E := env195) (tysOk_of tys_ok) (specSound_of specsOk_nil) mixed_ok (inlOk_of (inlB_cons func195 nm_195 inlB_nil)) en_195 [(.st .Site), (.st .Reply)] [(.st .Site)]).weaken (fun x r hx hn => (T_ref22_Answered x).trans (Q_ref22_Answered x r hx hn))
noncomputable def env123 : Env := { ty := tys, specs := [(195, s195)], inl := [(123, f123)], hints := hnts }
theorem T_ref22_Code (x : TT [(.st .Site), (.int .i64), (.int .i64)]) : (fnTree env123 123 [(.st .Site), (.int .i64), (.int .i64)] [(.st .Site)] x).den = D_ref22_Code x.1 x.2.1 x.2.2.1 := by kernel_rfl
theorem C_ref22_Code : SpecOk Go.Proofs.Tryz.prog 123 s123 :=
  (fnTree_spec (E := env123) (tysOk_of tys_ok) (specSound_of (specsOk_cons C_ref22_Answered specsOk_nil)) mixed_ok (inlOk_of (inlB_cons func123 nm_123 inlB_nil)) en_123 [(.st .Site), (.int .i64), (.int .i64)] [(.st .Site)]).weaken (fun x r hx hn => (T_ref22_Code x).trans (Q_ref22_Code x r hx hn))
noncomputable def env124 : Env := { ty := tys, specs := [], inl := [(124, f124)], hints := hnts }
theorem T_ref27_Asked (x : TT [(.st .Site), (.st .Ask)]) : (fnTree env124 124 [(.st .Site), (.st .Ask)] [(.st .Site), .bool] x).den = D_ref27_Asked x.1 x.2.1 := by kernel_rfl
theorem C_ref27_Asked : SpecOk Go.Proofs.Tryz.prog 124 s124 :=
  (fnTree_spec (E := env124) (tysOk_of tys_ok) (specSound_of specsOk_nil) mixed_ok (inlOk_of (inlB_cons func124 nm_124 inlB_nil)) en_124 [(.st .Site), (.st .Ask)] [(.st .Site), .bool]).weaken (fun x r hx hn => (T_ref27_Asked x).trans (Q_ref27_Asked x r hx hn))
noncomputable def env41 : Env := { ty := tys, specs := [(122, s122), (123, s123), (124, s124)], inl := [(41, f41)], hints := hnts }
theorem T_ref28_Submitted (x : TT [(.st .Site), (.int .i64), (.sl (.int .u8))]) : (fnTree env41 41 [(.st .Site), (.int .i64), (.sl (.int .u8))] [(.st .Site), .bool] x).den = D_ref28_Submitted x.1 x.2.1 x.2.2.1 := by kernel_rfl
theorem C_ref28_Submitted : SpecOk Go.Proofs.Tryz.prog 41 s41 :=
  (fnTree_spec (E := env41) (tysOk_of tys_ok) (specSound_of (specsOk_cons C_ref28_Read (specsOk_cons C_ref22_Code (specsOk_cons C_ref27_Asked specsOk_nil)))) mixed_ok (inlOk_of (inlB_cons func41 nm_41 inlB_nil)) en_41 [(.st .Site), (.int .i64), (.sl (.int .u8))] [(.st .Site), .bool]).weaken (fun x r hx hn => (T_ref28_Submitted x).trans (Q_ref28_Submitted x r hx hn))
noncomputable def env11 : Env := { ty := tys, specs := [(40, s40), (41, s41)], inl := [(11, f11)], hints := hnts }
theorem T_ref28_Submit (x : TT [(.st .Config), (.st .Site), (.int .i64), (.sl (.int .u8))]) : (fnTree env11 11 [(.st .Config), (.st .Site), (.int .i64), (.sl (.int .u8))] [(.st .Site), (.int .i64)] x).den = D_ref28_Submit x.1 x.2.1 x.2.2.1 x.2.2.2.1 := by kernel_rfl
theorem C_ref28_Submit : SpecOk Go.Proofs.Tryz.prog 11 s11 :=
  (fnTree_spec (E := env11) (tysOk_of tys_ok) (specSound_of (specsOk_cons C_ref21_May (specsOk_cons C_ref28_Submitted specsOk_nil))) mixed_ok (inlOk_of (inlB_cons func11 nm_11 inlB_nil)) en_11 [(.st .Config), (.st .Site), (.int .i64), (.sl (.int .u8))] [(.st .Site), (.int .i64)]).weaken (fun x r hx hn => (T_ref28_Submit x).trans (Q_ref28_Submit x r hx hn))
noncomputable def env26 : Env := { ty := tys, specs := [], inl := [(26, f26)], hints := hnts }
theorem T_ref21_SameSide (x : TT [(.st .Side), (.st .Side)]) : (fnTree env26 26 [(.st .Side), (.st .Side)] [.bool] x).den = D_ref21_SameSide x.1 x.2.1 := by kernel_rfl
theorem C_ref21_SameSide : SpecOk Go.Proofs.Tryz.prog 26 s26 :=
  (fnTree_spec (E := env26) (tysOk_of tys_ok) (specSound_of specsOk_nil) mixed_ok (inlOk_of (inlB_cons func26 nm_26 inlB_nil)) en_26 [(.st .Side), (.st .Side)] [.bool]).weaken (fun x r hx hn => (T_ref21_SameSide x).trans (Q_ref21_SameSide x r hx hn))
noncomputable def env42 : Env := { ty := tys, specs := [], inl := [(42, f42)], hints := hnts }
theorem T_ref05_Same (x : TT [(.st .Disk), (.st .Disk)]) : (fnTree env42 42 [(.st .Disk), (.st .Disk)] [.bool] x).den = D_ref05_Same x.1 x.2.1 := by kernel_rfl
theorem C_ref05_Same : SpecOk Go.Proofs.Tryz.prog 42 s42 :=
  (fnTree_spec (E := env42) (tysOk_of tys_ok) (specSound_of specsOk_nil) mixed_ok (inlOk_of (inlB_cons func42 nm_42 inlB_nil)) en_42 [(.st .Disk), (.st .Disk)] [.bool]).weaken (fun x r hx hn => (T_ref05_Same x).trans (Q_ref05_Same x r hx hn))
noncomputable def env125 : Env := { ty := tys, specs := [], inl := [(125, f125)], hints := hnts }
theorem T_ref11_Same (x : TT [(.sl (.st .Rec)), (.sl (.st .Rec))]) : (fnTree env125 125 [(.sl (.st .Rec)), (.sl (.st .Rec))] [.bool] x).den = D_ref11_Same x.1 x.2.1 := by kernel_rfl
theorem C_ref11_Same : SpecOk Go.Proofs.Tryz.prog 125 s125 :=
  (fnTree_spec (E := env125) (tysOk_of tys_ok) (specSound_of specsOk_nil) mixed_ok (inlOk_of (inlB_cons func125 nm_125 inlB_nil)) en_125 [(.sl (.st .Rec)), (.sl (.st .Rec))] [.bool]).weaken (fun x r hx hn => (T_ref11_Same x).trans (Q_ref11_Same x r hx hn))
noncomputable def env43 : Env := { ty := tys, specs := [(125, s125)], inl := [(43, f43)], hints := hnts }
theorem T_ref12_Same (x : TT [(.st .Meta), (.st .Meta)]) : (fnTree env43 43 [(.st .Meta), (.st .Meta)] [.bool] x).den = D_ref12_Same x.1 x.2.1 := by kernel_rfl
theorem C_ref12_Same : SpecOk Go.Proofs.Tryz.prog 43 s43 :=
  (fnTree_spec (E := env43) (tysOk_of tys_ok) (specSound_of (specsOk_cons C_ref11_Same specsOk_nil)) mixed_ok (inlOk_of (inlB_cons func43 nm_43 inlB_nil)) en_43 [(.st .Meta), (.st .Meta)] [.bool]).weaken (fun x r hx hn => (T_ref12_Same x).trans (Q_ref12_Same x r hx hn))
noncomputable def env196 : Env := { ty := tys, specs := [], inl := [(196, f196)], hints := hnts }
theorem T_ref04_SameAll (x : TT [(.sl (.sl (.int .u8))), (.sl (.sl (.int .u8)))]) : (fnTree env196 196 [(.sl (.sl (.int .u8))), (.sl (.sl (.int .u8)))] [.bool] x).den = D_ref04_SameAll x.1 x.2.1 := by kernel_rfl
theorem C_ref04_SameAll : SpecOk Go.Proofs.Tryz.prog 196 s196 :=
  (fnTree_spec (E := env196) (tysOk_of tys_ok) (specSound_of specsOk_nil) mixed_ok (inlOk_of (inlB_cons func196 nm_196 inlB_nil)) en_196 [(.sl (.sl (.int .u8))), (.sl (.sl (.int .u8)))] [.bool]).weaken (fun x r hx hn => (T_ref04_SameAll x).trans (Q_ref04_SameAll x r hx hn))
end Go.Cat

set_option maxHeartbeats 0
namespace Go.Cat
open Go Go.Proofs.Tryz
noncomputable def env126 : Env := { ty := tys, specs := [(196, s196)], inl := [(126, f126)], hints := hnts }
theorem T_ref04_Same (x : TT [(.st .Queue), (.st .Queue)]) : (fnTree env126 126 [(.st .Queue), (.st .Queue)] [.bool] x).den = D_ref04_Same x.1 x.2.1 := by kernel_rfl
theorem C_ref04_Same : SpecOk Go.Proofs.Tryz.prog 126 s126 :=
  (fnTree_spec (E := env126) (tysOk_of tys_ok) (specSound_of (specsOk_cons C_ref04_SameAll specsOk_nil)) mixed_ok (inlOk_of (inlB_cons func126 nm_126 inlB_nil)) en_126 [(.st .Queue), (.st .Queue)] [.bool]).weaken (fun x r hx hn => (T_ref04_Same x).trans (Q_ref04_Same x r hx hn))
noncomputable def env44 : Env := { ty := tys, specs := [(126, s126)], inl := [(44, f44)], hints := hnts }
theorem T_ref17_Same (x : TT [(.st .End), (.st .End)]) : (fnTree env44 44 [(.st .End), (.st .End)] [.bool] x).den = D_ref17_Same x.1 x.2.1 := by kernel_rfl
theorem C_ref17_Same : SpecOk Go.Proofs.Tryz.prog 44 s44 :=
  (fnTree_spec (E := env44) (tysOk_of tys_ok) (specSound_of (specsOk_cons C_ref04_Same specsOk_nil)) mixed_ok (inlOk_of (inlB_cons func44 nm_44 inlB_nil)) en_44 [(.st .End), (.st .End)] [.bool]).weaken (fun x r hx hn => (T_ref17_Same x).trans (Q_ref17_Same x r hx hn))
noncomputable def env127 : Env := { ty := tys, specs := [], inl := [(127, f127)], hints := hnts }
theorem T_ref20_Same (x : TT [(.st .Msg), (.st .Msg)]) : (fnTree env127 127 [(.st .Msg), (.st .Msg)] [.bool] x).den = D_ref20_Same x.1 x.2.1 := by kernel_rfl
theorem C_ref20_Same : SpecOk Go.Proofs.Tryz.prog 127 s127 :=
  (fnTree_spec (E := env127) (tysOk_of tys_ok) (specSound_of specsOk_nil) mixed_ok (inlOk_of (inlB_cons func127 nm_127 inlB_nil)) en_127 [(.st .Msg), (.st .Msg)] [.bool]).weaken (fun x r hx hn => (T_ref20_Same x).trans (Q_ref20_Same x r hx hn))
noncomputable def env128 : Env := { ty := tys, specs := [], inl := [(128, f128)], hints := hnts }
theorem T_ref21_SameReply (x : TT [(.st .Reply), (.st .Reply)]) : (fnTree env128 128 [(.st .Reply), (.st .Reply)] [.bool] x).den = D_ref21_SameReply x.1 x.2.1 := by kernel_rfl
theorem C_ref21_SameReply : SpecOk Go.Proofs.Tryz.prog 128 s128 :=
  (fnTree_spec (E := env128) (tysOk_of tys_ok) (specSound_of specsOk_nil) mixed_ok (inlOk_of (inlB_cons func128 nm_128 inlB_nil)) en_128 [(.st .Reply), (.st .Reply)] [.bool]).weaken (fun x r hx hn => (T_ref21_SameReply x).trans (Q_ref21_SameReply x r hx hn))
noncomputable def env45 : Env := { ty := tys, specs := [(127, s127), (128, s128)], inl := [(45, f45)], hints := hnts }
theorem T_ref21_samePlan (x : TT [(.sl (.st .Act)), (.sl (.st .Act))]) : (fnTree env45 45 [(.sl (.st .Act)), (.sl (.st .Act))] [.bool] x).den = D_ref21_samePlan x.1 x.2.1 := by kernel_rfl
theorem C_ref21_samePlan : SpecOk Go.Proofs.Tryz.prog 45 s45 :=
  (fnTree_spec (E := env45) (tysOk_of tys_ok) (specSound_of (specsOk_cons C_ref20_Same (specsOk_cons C_ref21_SameReply specsOk_nil))) mixed_ok (inlOk_of (inlB_cons func45 nm_45 inlB_nil)) en_45 [(.sl (.st .Act)), (.sl (.st .Act))] [.bool]).weaken (fun x r hx hn => (T_ref21_samePlan x).trans (Q_ref21_samePlan x r hx hn))
noncomputable def env46 : Env := { ty := tys, specs := [(127, s127)], inl := [(46, f46)], hints := hnts }
theorem T_ref21_sameCome (x : TT [(.st .Site), (.st .Site)]) : (fnTree env46 46 [(.st .Site), (.st .Site)] [.bool] x).den = D_ref21_sameCome x.1 x.2.1 := by kernel_rfl
theorem C_ref21_sameCome : SpecOk Go.Proofs.Tryz.prog 46 s46 :=
  (fnTree_spec (E := env46) (tysOk_of tys_ok) (specSound_of (specsOk_cons C_ref20_Same specsOk_nil)) mixed_ok (inlOk_of (inlB_cons func46 nm_46 inlB_nil)) en_46 [(.st .Site), (.st .Site)] [.bool]).weaken (fun x r hx hn => (T_ref21_sameCome x).trans (Q_ref21_sameCome x r hx hn))
noncomputable def env47 : Env := { ty := tys, specs := [(128, s128)], inl := [(47, f47)], hints := hnts }
theorem T_ref21_SameReplies (x : TT [(.sl (.st .Reply)), (.sl (.st .Reply))]) : (fnTree env47 47 [(.sl (.st .Reply)), (.sl (.st .Reply))] [.bool] x).den = D_ref21_SameReplies x.1 x.2.1 := by kernel_rfl
theorem C_ref21_SameReplies : SpecOk Go.Proofs.Tryz.prog 47 s47 :=
  (fnTree_spec (E := env47) (tysOk_of tys_ok) (specSound_of (specsOk_cons C_ref21_SameReply specsOk_nil)) mixed_ok (inlOk_of (inlB_cons func47 nm_47 inlB_nil)) en_47 [(.sl (.st .Reply)), (.sl (.st .Reply))] [.bool]).weaken (fun x r hx hn => (T_ref21_SameReplies x).trans (Q_ref21_SameReplies x r hx hn))
noncomputable def env12 : Env := { ty := tys, specs := [(26, s26), (42, s42), (43, s43), (44, s44), (45, s45), (46, s46), (47, s47)], inl := [(12, f12)], hints := hnts }
theorem T_ref21_Same (x : TT [(.st .Site), (.st .Site)]) : (fnTree env12 12 [(.st .Site), (.st .Site)] [.bool] x).den = D_ref21_Same x.1 x.2.1 := by kernel_rfl
theorem C_ref21_Same : SpecOk Go.Proofs.Tryz.prog 12 s12 :=
  (fnTree_spec (E := env12) (tysOk_of tys_ok) (specSound_of (specsOk_cons C_ref21_SameSide (specsOk_cons C_ref05_Same (specsOk_cons C_ref12_Same (specsOk_cons C_ref17_Same (specsOk_cons C_ref21_samePlan (specsOk_cons C_ref21_sameCome (specsOk_cons C_ref21_SameReplies specsOk_nil)))))))) mixed_ok (inlOk_of (inlB_cons func12 nm_12 inlB_nil)) en_12 [(.st .Site), (.st .Site)] [.bool]).weaken (fun x r hx hn => (T_ref21_Same x).trans (Q_ref21_Same x r hx hn))
noncomputable def env3 : Env := { ty := tys, specs := [(8, s8), (9, s9), (10, s10), (11, s11), (12, s12)], inl := [(3, f3)], hints := hnts }
theorem T_law28_ReqSubmits (x : TT [(.st .Config), (.st .Site), (.int .i64), (.sl (.int .u8))]) : (fnTree env3 3 [(.st .Config), (.st .Site), (.int .i64), (.sl (.int .u8))] [.bool] x).den = D_law28_ReqSubmits x.1 x.2.1 x.2.2.1 x.2.2.2.1 := by kernel_rfl
theorem C_law28_ReqSubmits : SpecOk Go.Proofs.Tryz.prog 3 ⟨[(.st .Config), (.st .Site), (.int .i64), (.sl (.int .u8))], [.bool], none, fun x => (fnTree env3 3 [(.st .Config), (.st .Site), (.int .i64), (.sl (.int .u8))] [.bool] x).den⟩ :=
  fnTree_spec (E := env3) (tysOk_of tys_ok) (specSound_of (specsOk_cons C_ref21_Great (specsOk_cons C_ref21_Twin (specsOk_cons C_req_Submit (specsOk_cons C_ref28_Submit (specsOk_cons C_ref21_Same specsOk_nil)))))) mixed_ok (inlOk_of (inlB_cons func3 nm_3 inlB_nil)) en_3 [(.st .Config), (.st .Site), (.int .i64), (.sl (.int .u8))] [.bool]
end Go.Cat

set_option maxHeartbeats 0
namespace Go.Cat
open Go Go.Proofs.Tryz
theorem law_law28_ReqSubmits (x : TT [(.st .Config), (.st .Site), (.int .i64), (.sl (.int .u8))]) (_ : OkTT [(.st .Config), (.st .Site), (.int .i64), (.sl (.int .u8))] x) : (fnTree env3 3 [(.st .Config), (.st .Site), (.int .i64), (.sl (.int .u8))] [.bool] x).den = some (true, ()) :=
  (T_law28_ReqSubmits x).trans (P_law28_ReqSubmits _ _ _ _)
end Go.Cat
