/- Made by a program of this work out of the program: tables and plain functions, with the proof that each Go function does what its plain function says. No conditions. -/
import Derived.Test.YtafhfllnkijfhabEf
import Derived.Test.YtafhfllnkijfhabEg
import Derived.Test.YtafhfllnkijfhabProg
namespace Go.Ai.G
open Go.Proofs
open Go.Ai
set_option linter.unusedVariables false
set_option maxRecDepth 100000

noncomputable def tys : List (Option Ty) := [none,
 some (.opt .unit),
 some (.int .i64),
 some (.int .i64),
 some .bool,
 some (.int .u8),
 none,
 none,
 none,
 some .str,
 none,
 none,
 none,
 none,
 none,
 none,
 none,
 none,
 none,
 none,
 none,
 none,
 none,
 none,
 some (.int .u32),
 some (.slice (.int .u8)),
 none,
 none,
 none,
 some (.pair (.int .i64) (.pair (.int .i64) (.pair (.int .i64) .unit))),
 none,
 some (.pair (.pair (.int .i64) (.pair (.int .i64) (.pair (.int .i64) .unit))) (.pair (.int .u32) (.pair (.slice (.int .u8)) .unit))),
 some (.slice (.slice (.int .u8))),
 none,
 none,
 none,
 none,
 none,
 none,
 none,
 none,
 none,
 none,
 none,
 none,
 none,
 none,
 none,
 none,
 none,
 none,
 none,
 none,
 none,
 none,
 none,
 none,
 none,
 none,
 none,
 none,
 none,
 none,
 none,
 none,
 none,
 none,
 none,
 none,
 none,
 none,
 some (.slice (.int .i64)),
 none,
 none,
 none,
 none,
 some (.int .u64),
 none,
 none,
 none,
 none,
 none,
 none,
 none,
 none,
 none,
 none,
 none,
 none,
 none,
 none,
 none,
 none,
 none,
 none,
 some (.arr 32 (.int .u8)),
 none,
 none,
 none,
 none,
 none,
 none,
 none,
 none,
 none,
 none,
 none,
 none,
 none,
 none,
 none,
 none,
 none,
 none,
 none,
 none,
 none,
 some (.opt (.pair (.slice (.int .u8)) (.pair (.int .i64) (.pair (.int .u64) .unit)))),
 none,
 none,
 none,
 none,
 none,
 some (.opt (.pair (.arr 256 (.int .u32)) (.pair (.int .u32) .unit))),
 none,
 none,
 some (.arr 256 (.int .u32)),
 none,
 some (.pair (.arr 256 (.int .u32)) (.pair (.int .u32) .unit)),
 none,
 none,
 none,
 none,
 none,
 none,
 none,
 some (.arr 8 (.int .u32)),
 none,
 none,
 some (.opt .unit),
 none,
 none,
 none,
 none,
 none,
 none,
 none,
 none,
 none,
 none,
 none,
 none,
 none,
 none,
 none,
 none,
 some (.int .u64),
 none,
 some (.pair (.slice (.int .u8)) (.pair (.int .i64) (.pair (.int .u64) .unit))),
 none,
 none,
 none,
 none,
 none,
 none,
 none,
 none,
 none,
 none,
 none,
 none,
 none,
 none,
 none,
 none,
 none,
 none,
 none,
 none,
 none,
 none,
 none,
 none,
 none,
 none,
 none,
 none,
 none,
 none,
 none,
 none,
 none,
 none,
 none,
 none,
 none,
 none,
 none,
 none,
 none,
 none,
 none,
 none,
 none,
 none,
 none,
 none,
 none,
 none,
 none,
 none,
 none,
 none,
 none,
 none,
 none,
 none,
 none,
 none,
 none,
 none]
noncomputable def tbytes : List Nat := [0, 8, 8, 8, 1, 1, 1, 24, 24, 16, 16, 16, 8, 24, 24, 8, 8, 8, 8, 8, 16, 4, 24, 24, 4, 24, 56, 56, 8, 24, 56, 56, 24, 0, 8, 8, 8, 8, 8, 8, 8, 8, 8, 8, 24, 0, 8, 8, 8, 8, 8, 24, 8, 24, 0, 8, 8, 8, 8, 8, 24, 0, 8, 8, 8, 8, 8, 0, 8, 0, 8, 24, 0, 8, 8, 8, 8, 0, 8, 0, 8, 8, 8, 8, 8, 8, 0, 8, 8, 0, 8, 8, 8, 8, 8, 32, 32, 8, 40, 40, 8, 8, 8, 8, 8, 32, 32, 8, 32, 8, 8, 8, 8, 64, 64, 208, 208, 8, 8, 8, 8, 8, 8, 8, 8, 8, 1024, 1028, 1028, 8, 8, 8, 8, 8, 8, 8, 32, 8, 8, 8, 24, 0, 8, 8, 8, 8, 8, 24, 8, 8, 8, 8, 24, 8, 8, 8, 8, 40, 40, 8, 8, 8, 8, 8, 8, 8, 8, 8, 8, 8, 8, 8, 8, 8, 0, 8, 8, 8, 8, 24, 8, 8, 8, 8, 8, 8, 8, 8, 0, 8, 8, 8, 8, 8, 8, 8, 8, 8, 8, 8, 8, 8, 8, 0, 8, 8, 40, 40, 0, 0, 0, 8, 1, 1, 8, 8, 4, 4, 48, 48, 8]
noncomputable def telem : List Nat := [0, 0, 0, 0, 0, 0, 0, 0, 0, 0, 0, 0, 0, 0, 0, 0, 0, 0, 0, 0, 0, 0, 0, 0, 0, 5, 0, 0, 0, 0, 0, 0, 25, 0, 0, 0, 0, 0, 0, 0, 0, 0, 0, 0, 99, 0, 0, 0, 0, 0, 0, 106, 0, 108, 0, 0, 0, 0, 0, 0, 116, 0, 0, 0, 0, 0, 0, 0, 0, 0, 0, 2, 0, 0, 0, 0, 0, 0, 0, 0, 0, 0, 0, 0, 0, 0, 0, 0, 0, 0, 0, 0, 0, 0, 0, 0, 0, 0, 0, 0, 0, 0, 0, 0, 0, 0, 0, 0, 0, 0, 0, 0, 0, 0, 0, 0, 0, 0, 0, 0, 0, 0, 0, 0, 0, 0, 0, 0, 0, 0, 0, 0, 0, 0, 0, 0, 0, 0, 0, 0, 95, 0, 0, 0, 0, 0, 0, 114, 0, 0, 0, 0, 9, 0, 0, 0, 0, 0, 0, 0, 0, 0, 0, 0, 0, 0, 0, 0, 0, 0, 0, 0, 0, 0, 0, 0, 0, 0, 0, 53, 0, 0, 0, 0, 0, 0, 0, 0, 0, 0, 0, 0, 0, 0, 0, 0, 0, 0, 0, 0, 0, 0, 0, 0, 0, 0, 0, 0, 0, 0, 0, 0, 0, 0, 0, 0, 0, 0, 0, 0, 0]
noncomputable def nozero : List Nat := [0, 1, 6, 7, 8, 10, 11, 12, 13, 14, 15, 16, 17, 18, 19, 20, 21, 22, 23, 26, 27, 28, 30, 33, 34, 35, 36, 37, 38, 39, 40, 41, 42, 43, 44, 45, 46, 47, 48, 49, 50, 51, 52, 53, 54, 55, 56, 57, 58, 59, 60, 61, 62, 63, 64, 65, 66, 67, 68, 69, 70, 72, 73, 74, 75, 77, 78, 79, 80, 81, 82, 83, 84, 85, 86, 87, 88, 89, 90, 91, 92, 93, 94, 96, 97, 98, 99, 100, 101, 102, 103, 104, 105, 106, 107, 108, 109, 110, 111, 112, 113, 114, 115, 116, 118, 119, 120, 121, 122, 124, 125, 127, 129, 130, 131, 132, 133, 134, 135, 137, 138, 139, 140, 141, 142, 143, 144, 145, 146, 147, 148, 149, 150, 151, 152, 153, 154, 155, 157, 159, 160, 161, 162, 163, 164, 165, 166, 167, 168, 169, 170, 171, 172, 173, 174, 175, 176, 177, 178, 179, 180, 181, 182, 183, 184, 185, 186, 187, 188, 189, 190, 191, 192, 193, 194, 195, 196, 197, 198, 199, 200, 201, 202, 203, 204, 205, 206, 207, 208, 209, 210, 211, 212, 213, 214, 215, 216, 217, 218, 219, 220]
noncomputable def dps : List (Nat × DS) := [(25, (.sl 5 (.pl (.int .u8)))), (31, (.pr (.pl (.pair (.int .i64) (.pair (.int .i64) (.pair (.int .i64) .unit)))) (.pr (.pl (.int .u32)) (.pr (.sl 5 (.pl (.int .u8))) (.pl .unit))))), (32, (.sl 25 (.sl 5 (.pl (.int .u8))))), (71, (.sl 2 (.pl (.int .i64)))), (158, (.pr (.sl 5 (.pl (.int .u8))) (.pr (.pl (.int .i64)) (.pr (.pl (.int .u64)) (.pl .unit)))))]
theorem tabs_ok : rowsB Try.prog (mkCx tys tbytes telem nozero (fun _ => none) (fun _ => none) (fun _ => none) (fun _ => none) (fun _ _ => none) 0 []) 0 tys = true := by kernel_rfl
theorem mixed_ok : Try.prog.follows .mixedOrders = true := by kernel_rfl
noncomputable def laws_FnChunks_c : Code := (Try.f7.body).getD .skip
noncomputable def laws_FnChunks_i : Inl := { code := laws_FnChunks_c, ntmps := Try.f7.ntmps, results := Try.f7.results.toList }
theorem laws_FnChunks_ok : InlOk Try.prog 7 laws_FnChunks_i := inlOk_of Try.func7 rfl (by kernel_rfl) (by kernel_rfl)
noncomputable def impl_FeedCutter_c : Code := (Try.f12.body).getD .skip
noncomputable def impl_FeedCutter_i : Inl := { code := impl_FeedCutter_c, ntmps := Try.f12.ntmps, results := Try.f12.results.toList }
theorem impl_FeedCutter_ok : InlOk Try.prog 12 impl_FeedCutter_i := inlOk_of Try.func12 rfl (by kernel_rfl) (by kernel_rfl)
noncomputable def laws_a2Long_c : Code := (Try.f39.body).getD .skip
noncomputable def laws_a2Long_i : Inl := { code := laws_a2Long_c, ntmps := Try.f39.ntmps, results := Try.f39.results.toList }
theorem laws_a2Long_ok : InlOk Try.prog 39 laws_a2Long_i := inlOk_of Try.func39 rfl (by kernel_rfl) (by kernel_rfl)
noncomputable def spec_A2Rule_c : Code := (Try.f40.body).getD .skip
noncomputable def spec_A2Rule_i : Inl := { code := spec_A2Rule_c, ntmps := Try.f40.ntmps, results := Try.f40.results.toList }
theorem spec_A2Rule_ok : InlOk Try.prog 40 spec_A2Rule_i := inlOk_of Try.func40 rfl (by kernel_rfl) (by kernel_rfl)
noncomputable def spec_A2Data_c : Code := (Try.f41.body).getD .skip
noncomputable def spec_A2Data_i : Inl := { code := spec_A2Data_c, ntmps := Try.f41.ntmps, results := Try.f41.results.toList }
theorem spec_A2Data_ok : InlOk Try.prog 41 spec_A2Data_i := inlOk_of Try.func41 rfl (by kernel_rfl) (by kernel_rfl)
noncomputable def impl_ChunksOf_c : Code := (Try.f42.body).getD .skip
noncomputable def impl_ChunksOf_i : Inl := { code := impl_ChunksOf_c, ntmps := Try.f42.ntmps, results := Try.f42.results.toList }
theorem impl_ChunksOf_ok : InlOk Try.prog 42 impl_ChunksOf_i := inlOk_of Try.func42 rfl (by kernel_rfl) (by kernel_rfl)
noncomputable def impl_JoinChunks_c : Code := (Try.f43.body).getD .skip
noncomputable def impl_JoinChunks_i : Inl := { code := impl_JoinChunks_c, ntmps := Try.f43.ntmps, results := Try.f43.results.toList }
theorem impl_JoinChunks_ok : InlOk Try.prog 43 impl_JoinChunks_i := inlOk_of Try.func43 rfl (by kernel_rfl) (by kernel_rfl)
noncomputable def impl_CutPlaces_c : Code := (Try.f44.body).getD .skip
noncomputable def impl_CutPlaces_i : Inl := { code := impl_CutPlaces_c, ntmps := Try.f44.ntmps, results := Try.f44.results.toList }
theorem impl_CutPlaces_ok : InlOk Try.prog 44 impl_CutPlaces_i := inlOk_of Try.func44 rfl (by kernel_rfl) (by kernel_rfl)
noncomputable def spec_SameBytes_c : Code := (Try.f45.body).getD .skip
noncomputable def spec_SameBytes_i : Inl := { code := spec_SameBytes_c, ntmps := Try.f45.ntmps, results := Try.f45.results.toList }
theorem spec_SameBytes_ok : InlOk Try.prog 45 spec_SameBytes_i := inlOk_of Try.func45 rfl (by kernel_rfl) (by kernel_rfl)
noncomputable def impl_ValidRule_c : Code := (Try.f46.body).getD .skip
noncomputable def impl_ValidRule_i : Inl := { code := impl_ValidRule_c, ntmps := Try.f46.ntmps, results := Try.f46.results.toList }
theorem impl_ValidRule_ok : InlOk Try.prog 46 impl_ValidRule_i := inlOk_of Try.func46 rfl (by kernel_rfl) (by kernel_rfl)
noncomputable def impl_RollOf_c : Code := (Try.f47.body).getD .skip
noncomputable def impl_RollOf_i : Inl := { code := impl_RollOf_c, ntmps := Try.f47.ntmps, results := Try.f47.results.toList }
theorem impl_RollOf_ok : InlOk Try.prog 47 impl_RollOf_i := inlOk_of Try.func47 rfl (by kernel_rfl) (by kernel_rfl)
noncomputable def spec_RollOf_c : Code := (Try.f48.body).getD .skip
noncomputable def spec_RollOf_i : Inl := { code := spec_RollOf_c, ntmps := Try.f48.ntmps, results := Try.f48.results.toList }
theorem spec_RollOf_ok : InlOk Try.prog 48 spec_RollOf_i := inlOk_of Try.func48 rfl (by kernel_rfl) (by kernel_rfl)
noncomputable def impl_ChunkAt_c : Code := (Try.f49.body).getD .skip
noncomputable def impl_ChunkAt_i : Inl := { code := impl_ChunkAt_c, ntmps := Try.f49.ntmps, results := Try.f49.results.toList }
theorem impl_ChunkAt_ok : InlOk Try.prog 49 impl_ChunkAt_i := inlOk_of Try.func49 rfl (by kernel_rfl) (by kernel_rfl)
noncomputable def impl_StartCutter_c : Code := (Try.f50.body).getD .skip
noncomputable def impl_StartCutter_i : Inl := { code := impl_StartCutter_c, ntmps := Try.f50.ntmps, results := Try.f50.results.toList }
theorem impl_StartCutter_ok : InlOk Try.prog 50 impl_StartCutter_i := inlOk_of Try.func50 rfl (by kernel_rfl) (by kernel_rfl)
noncomputable def laws_a2At_c : Code := (Try.f51.body).getD .skip
noncomputable def laws_a2At_i : Inl := { code := laws_a2At_c, ntmps := Try.f51.ntmps, results := Try.f51.results.toList }
theorem laws_a2At_ok : InlOk Try.prog 51 laws_a2At_i := inlOk_of Try.func51 rfl (by kernel_rfl) (by kernel_rfl)
noncomputable def impl_EndCutter_c : Code := (Try.f52.body).getD .skip
noncomputable def impl_EndCutter_i : Inl := { code := impl_EndCutter_c, ntmps := Try.f52.ntmps, results := Try.f52.results.toList }
theorem impl_EndCutter_ok : InlOk Try.prog 52 impl_EndCutter_i := inlOk_of Try.func52 rfl (by kernel_rfl) (by kernel_rfl)
noncomputable def impl_ValidCutter_c : Code := (Try.f53.body).getD .skip
noncomputable def impl_ValidCutter_i : Inl := { code := impl_ValidCutter_c, ntmps := Try.f53.ntmps, results := Try.f53.results.toList }
theorem impl_ValidCutter_ok : InlOk Try.prog 53 impl_ValidCutter_i := inlOk_of Try.func53 rfl (by kernel_rfl) (by kernel_rfl)
noncomputable def impl_SameCutter_c : Code := (Try.f54.body).getD .skip
noncomputable def impl_SameCutter_i : Inl := { code := impl_SameCutter_c, ntmps := Try.f54.ntmps, results := Try.f54.results.toList }
theorem impl_SameCutter_ok : InlOk Try.prog 54 impl_SameCutter_i := inlOk_of Try.func54 rfl (by kernel_rfl) (by kernel_rfl)
noncomputable def impl_CutRule_cut_c : Code := (Try.f58.body).getD .skip
noncomputable def impl_CutRule_cut_i : Inl := { code := impl_CutRule_cut_c, ntmps := Try.f58.ntmps, results := Try.f58.results.toList }
theorem impl_CutRule_cut_ok : InlOk Try.prog 58 impl_CutRule_cut_i := inlOk_of Try.func58 rfl (by kernel_rfl) (by kernel_rfl)
noncomputable def slices_Concat_byte_byte_c : Code := (Try.f59.body).getD .skip
noncomputable def slices_Concat_byte_byte_i : Inl := { code := slices_Concat_byte_byte_c, ntmps := Try.f59.ntmps, results := Try.f59.results.toList }
theorem slices_Concat_byte_byte_ok : InlOk Try.prog 59 slices_Concat_byte_byte_i := inlOk_of Try.func59 rfl (by kernel_rfl) (by kernel_rfl)
noncomputable def impl_ruleCode_c : Code := (Try.f65.body).getD .skip
noncomputable def impl_ruleCode_i : Inl := { code := impl_ruleCode_c, ntmps := Try.f65.ntmps, results := Try.f65.results.toList }
theorem impl_ruleCode_ok : InlOk Try.prog 65 impl_ruleCode_i := inlOk_of Try.func65 rfl (by kernel_rfl) (by kernel_rfl)
noncomputable def impl_CutRule_chunks_c : Code := (Try.f66.body).getD .skip
noncomputable def impl_CutRule_chunks_i : Inl := { code := impl_CutRule_chunks_c, ntmps := Try.f66.ntmps, results := Try.f66.results.toList }
theorem impl_CutRule_chunks_ok : InlOk Try.prog 66 impl_CutRule_chunks_i := inlOk_of Try.func66 rfl (by kernel_rfl) (by kernel_rfl)
noncomputable def impl_size_byte_c : Code := (Try.f68.body).getD .skip
noncomputable def impl_size_byte_i : Inl := { code := impl_size_byte_c, ntmps := Try.f68.ntmps, results := Try.f68.results.toList }
theorem impl_size_byte_ok : InlOk Try.prog 68 impl_size_byte_i := inlOk_of Try.func68 rfl (by kernel_rfl) (by kernel_rfl)
noncomputable def spec_l00From_c : Code := (Try.f81.body).getD .skip
noncomputable def spec_l00From_i : Inl := { code := spec_l00From_c, ntmps := Try.f81.ntmps, results := Try.f81.results.toList }
theorem spec_l00From_ok : InlOk Try.prog 81 spec_l00From_i := inlOk_of Try.func81 rfl (by kernel_rfl) (by kernel_rfl)
noncomputable def spec_l00Src_pick_c : Code := (Try.f82.body).getD .skip
noncomputable def spec_l00Src_pick_i : Inl := { code := spec_l00Src_pick_c, ntmps := Try.f82.ntmps, results := Try.f82.results.toList }
theorem spec_l00Src_pick_ok : InlOk Try.prog 82 spec_l00Src_pick_i := inlOk_of Try.func82 rfl (by kernel_rfl) (by kernel_rfl)
noncomputable def spec_l01Data_c : Code := (Try.f83.body).getD .skip
noncomputable def spec_l01Data_i : Inl := { code := spec_l01Data_c, ntmps := Try.f83.ntmps, results := Try.f83.results.toList }
theorem spec_l01Data_ok : InlOk Try.prog 83 spec_l01Data_i := inlOk_of Try.func83 rfl (by kernel_rfl) (by kernel_rfl)
noncomputable def impl_chunksCode_c : Code := (Try.f84.body).getD .skip
noncomputable def impl_chunksCode_i : Inl := { code := impl_chunksCode_c, ntmps := Try.f84.ntmps, results := Try.f84.results.toList }
theorem impl_chunksCode_ok : InlOk Try.prog 84 impl_chunksCode_i := inlOk_of Try.func84 rfl (by kernel_rfl) (by kernel_rfl)
noncomputable def spec_l01Bytes_c : Code := (Try.f85.body).getD .skip
noncomputable def spec_l01Bytes_i : Inl := { code := spec_l01Bytes_c, ntmps := Try.f85.ntmps, results := Try.f85.results.toList }
theorem spec_l01Bytes_ok : InlOk Try.prog 85 spec_l01Bytes_i := inlOk_of Try.func85 rfl (by kernel_rfl) (by kernel_rfl)
noncomputable def impl_within_c : Code := (Try.f86.body).getD .skip
noncomputable def impl_within_i : Inl := { code := impl_within_c, ntmps := Try.f86.ntmps, results := Try.f86.results.toList }
theorem impl_within_ok : InlOk Try.prog 86 impl_within_i := inlOk_of Try.func86 rfl (by kernel_rfl) (by kernel_rfl)
noncomputable def impl_newRoller_c : Code := (Try.f87.body).getD .skip
noncomputable def impl_newRoller_i : Inl := { code := impl_newRoller_c, ntmps := Try.f87.ntmps, results := Try.f87.results.toList }
theorem impl_newRoller_ok : InlOk Try.prog 87 impl_newRoller_i := inlOk_of Try.func87 rfl (by kernel_rfl) (by kernel_rfl)
noncomputable def impl_roller_add_c : Code := (Try.f88.body).getD .skip
noncomputable def impl_roller_add_i : Inl := { code := impl_roller_add_c, ntmps := Try.f88.ntmps, results := Try.f88.results.toList }
theorem impl_roller_add_ok : InlOk Try.prog 88 impl_roller_add_i := inlOk_of Try.func88 rfl (by kernel_rfl) (by kernel_rfl)
noncomputable def spec_l00Max_c : Code := (Try.f89.body).getD .skip
noncomputable def spec_l00Max_i : Inl := { code := spec_l00Max_c, ntmps := Try.f89.ntmps, results := Try.f89.results.toList }
theorem spec_l00Max_ok : InlOk Try.prog 89 spec_l00Max_i := inlOk_of Try.func89 rfl (by kernel_rfl) (by kernel_rfl)
noncomputable def spec_l02Roll_c : Code := (Try.f90.body).getD .skip
noncomputable def spec_l02Roll_i : Inl := { code := spec_l02Roll_c, ntmps := Try.f90.ntmps, results := Try.f90.results.toList }
theorem spec_l02Roll_ok : InlOk Try.prog 90 spec_l02Roll_i := inlOk_of Try.func90 rfl (by kernel_rfl) (by kernel_rfl)
noncomputable def slices_Clone_byte_byte_c : Code := (Try.f91.body).getD .skip
noncomputable def slices_Clone_byte_byte_i : Inl := { code := slices_Clone_byte_byte_c, ntmps := Try.f91.ntmps, results := Try.f91.results.toList }
theorem slices_Clone_byte_byte_ok : InlOk Try.prog 91 slices_Clone_byte_byte_i := inlOk_of Try.func91 rfl (by kernel_rfl) (by kernel_rfl)
noncomputable def bytes_Equal_c : Code := (Try.f92.body).getD .skip
noncomputable def bytes_Equal_i : Inl := { code := bytes_Equal_c, ntmps := Try.f92.ntmps, results := Try.f92.results.toList }
theorem bytes_Equal_ok : InlOk Try.prog 92 bytes_Equal_i := inlOk_of Try.func92 rfl (by kernel_rfl) (by kernel_rfl)
noncomputable def impl_CutRule_ends_c : Code := (Try.f95.body).getD .skip
noncomputable def impl_CutRule_ends_i : Inl := { code := impl_CutRule_ends_c, ntmps := Try.f95.ntmps, results := Try.f95.results.toList }
theorem impl_CutRule_ends_ok : InlOk Try.prog 95 impl_CutRule_ends_i := inlOk_of Try.func95 rfl (by kernel_rfl) (by kernel_rfl)
noncomputable def slices_Grow_byte_byte_c : Code := (Try.f96.body).getD .skip
noncomputable def slices_Grow_byte_byte_i : Inl := { code := slices_Grow_byte_byte_c, ntmps := Try.f96.ntmps, results := Try.f96.results.toList }
theorem slices_Grow_byte_byte_ok : InlOk Try.prog 96 slices_Grow_byte_byte_i := inlOk_of Try.func96 rfl (by kernel_rfl) (by kernel_rfl)
noncomputable def spec_l01Start_c : Code := (Try.f98.body).getD .skip
noncomputable def spec_l01Start_i : Inl := { code := spec_l01Start_c, ntmps := Try.f98.ntmps, results := Try.f98.results.toList }
theorem spec_l01Start_ok : InlOk Try.prog 98 spec_l01Start_i := inlOk_of Try.func98 rfl (by kernel_rfl) (by kernel_rfl)
noncomputable def slices_ContainsFunc_byte_byte_c : Code := (Try.f99.body).getD .skip
noncomputable def slices_ContainsFunc_byte_byte_i : Inl := { code := slices_ContainsFunc_byte_byte_c, ntmps := Try.f99.ntmps, results := Try.f99.results.toList }
theorem slices_ContainsFunc_byte_byte_ok : InlOk Try.prog 99 slices_ContainsFunc_byte_byte_i := inlOk_of Try.func99 rfl (by kernel_rfl) (by kernel_rfl)
noncomputable def impl_ruleCode_1_c : Code := (Try.f100.body).getD .skip
noncomputable def impl_ruleCode_1_i : Inl := { code := impl_ruleCode_1_c, ntmps := Try.f100.ntmps, results := Try.f100.results.toList }
theorem impl_ruleCode_1_ok : InlOk Try.prog 100 impl_ruleCode_1_i := inlOk_of Try.func100 rfl (by kernel_rfl) (by kernel_rfl)
noncomputable def impl_StartState_c : Code := (Try.f105.body).getD .skip
noncomputable def impl_StartState_i : Inl := { code := impl_StartState_c, ntmps := Try.f105.ntmps, results := Try.f105.results.toList }
theorem impl_StartState_ok : InlOk Try.prog 105 impl_StartState_i := inlOk_of Try.func105 rfl (by kernel_rfl) (by kernel_rfl)
noncomputable def spec_l00Src_next_c : Code := (Try.f116.body).getD .skip
noncomputable def spec_l00Src_next_i : Inl := { code := spec_l00Src_next_c, ntmps := Try.f116.ntmps, results := Try.f116.results.toList }
theorem spec_l00Src_next_ok : InlOk Try.prog 116 spec_l00Src_next_i := inlOk_of Try.func116 rfl (by kernel_rfl) (by kernel_rfl)
noncomputable def spec_l00Src_one_c : Code := (Try.f117.body).getD .skip
noncomputable def spec_l00Src_one_i : Inl := { code := spec_l00Src_one_c, ntmps := Try.f117.ntmps, results := Try.f117.results.toList }
theorem spec_l00Src_one_ok : InlOk Try.prog 117 spec_l00Src_one_i := inlOk_of Try.func117 rfl (by kernel_rfl) (by kernel_rfl)
noncomputable def impl_RollTable_c : Code := (Try.f118.body).getD .skip
noncomputable def impl_RollTable_i : Inl := { code := impl_RollTable_c, ntmps := Try.f118.ntmps, results := Try.f118.results.toList }
theorem impl_RollTable_ok : InlOk Try.prog 118 impl_RollTable_i := inlOk_of Try.func118 rfl (by kernel_rfl) (by kernel_rfl)
noncomputable def spec_l02Word_c : Code := (Try.f119.body).getD .skip
noncomputable def spec_l02Word_i : Inl := { code := spec_l02Word_c, ntmps := Try.f119.ntmps, results := Try.f119.results.toList }
theorem spec_l02Word_ok : InlOk Try.prog 119 spec_l02Word_i := inlOk_of Try.func119 rfl (by kernel_rfl) (by kernel_rfl)
noncomputable def spec_l01Mix_c : Code := (Try.f122.body).getD .skip
noncomputable def spec_l01Mix_i : Inl := { code := spec_l01Mix_c, ntmps := Try.f122.ntmps, results := Try.f122.results.toList }
theorem spec_l01Mix_ok : InlOk Try.prog 122 spec_l01Mix_i := inlOk_of Try.func122 rfl (by kernel_rfl) (by kernel_rfl)
noncomputable def slices_IndexFunc_byte_byte_c : Code := (Try.f124.body).getD .skip
noncomputable def slices_IndexFunc_byte_byte_i : Inl := { code := slices_IndexFunc_byte_byte_c, ntmps := Try.f124.ntmps, results := Try.f124.results.toList }
theorem slices_IndexFunc_byte_byte_ok : InlOk Try.prog 124 slices_IndexFunc_byte_byte_i := inlOk_of Try.func124 rfl (by kernel_rfl) (by kernel_rfl)
noncomputable def impl_MixBlock_c : Code := (Try.f126.body).getD .skip
noncomputable def impl_MixBlock_i : Inl := { code := impl_MixBlock_c, ntmps := Try.f126.ntmps, results := Try.f126.results.toList }
theorem impl_MixBlock_ok : InlOk Try.prog 126 impl_MixBlock_i := inlOk_of Try.func126 rfl (by kernel_rfl) (by kernel_rfl)
noncomputable def spec_l01Turn_c : Code := (Try.f135.body).getD .skip
noncomputable def spec_l01Turn_i : Inl := { code := spec_l01Turn_c, ntmps := Try.f135.ntmps, results := Try.f135.results.toList }
theorem spec_l01Turn_ok : InlOk Try.prog 135 spec_l01Turn_i := inlOk_of Try.func135 rfl (by kernel_rfl) (by kernel_rfl)
noncomputable def impl_littleNumber_c : Code := (Try.f136.body).getD .skip
noncomputable def impl_littleNumber_i : Inl := { code := impl_littleNumber_c, ntmps := Try.f136.ntmps, results := Try.f136.results.toList }
theorem impl_littleNumber_ok : InlOk Try.prog 136 impl_littleNumber_i := inlOk_of Try.func136 rfl (by kernel_rfl) (by kernel_rfl)
noncomputable def math_bits_RotateLeft32_c : Code := (Try.f137.body).getD .skip
noncomputable def math_bits_RotateLeft32_i : Inl := { code := math_bits_RotateLeft32_c, ntmps := Try.f137.ntmps, results := Try.f137.results.toList }
theorem math_bits_RotateLeft32_ok : InlOk Try.prog 137 math_bits_RotateLeft32_i := inlOk_of Try.func137 rfl (by kernel_rfl) (by kernel_rfl)
end Go.Ai.G
namespace Go.Proofs
open Go.Shelf
def Try.laysGrow96_ren : Go.Shelf.Ren := ⟨fun | 4 => 96 | n => n, fun | 22 => 25 | 25 => 5 | 3 => 3 | 4 => 4 | 9 => 9 | 20 => 20 | 0 => 0 | n => n, fun | n => n⟩
theorem Try.laysGrow96 : Go.Proofs.Lays8.n4 Try.prog Try.laysGrow96_ren := {
  mixed := by kernel_rfl
  f4 := ⟨Try.f96.name, by decide, Try.func96.trans (congrArg some (by kernel_rfl))⟩
  t0 := Try.underlying0
  a0 := Try.isAgg0
  z0 := Try.sizeOf0
  v0 := Try.zeroValue0
  t3 := Try.underlying3
  a3 := Try.isAgg3
  z3 := Try.sizeOf3
  v3 := Try.zeroValue3
  t4 := Try.underlying4
  a4 := Try.isAgg4
  z4 := Try.sizeOf4
  v4 := Try.zeroValue4
  t9 := Try.underlying9
  a9 := Try.isAgg9
  z9 := Try.sizeOf9
  v9 := Try.zeroValue9
  t20 := Try.underlying20
  a20 := Try.isAgg20
  z20 := Try.sizeOf20
  v20 := Try.zeroValue20
  t22 := Try.underlying25
  a22 := Try.isAgg25
  z22 := Try.sizeOf25
  v22 := Try.zeroValue25 }

end Go.Proofs
namespace Go.Ai.G
open Go.Proofs
open Go.Ai
noncomputable def slices_Grow_byte_byte_tr (a0 : (List Int)) (a1 : Int) : Option (List Int) :=
 cond (decide (0 ≤ a1) && (decide (((a0.length : Int) + a1) * ((1 : Nat) : Int) ≤ 140737488355328) && decide ((a0.length : Int) + a1 ≤ 4611686018427387904))) (some a0) none
noncomputable def slices_Grow_byte_byte_tak : ConT := growC 5 (.int .u8) 1
theorem slices_Grow_byte_byte_takOk : TakOk Try.prog 96 slices_Grow_byte_byte_tak := grow_takB Try.laysGrow96 (.int .u8) rfl rfl slices_Grow_byte_byte_ok 1 (by kernel_rfl)
end Go.Ai.G
