/- Made by a program of this work out of the program: tables and plain functions, with the proof that each Go function does what its plain function says. No conditions. -/
import Derived.Test.YtafhfllnkijfhabEf
import Derived.Test.YtafhfllnkijfhabEg
import Derived.Test.YtafhfllnkijfhabProg
namespace Go.Ai.G
open Go.Proofs
open Go.Ai
set_option linter.unusedVariables false
set_option maxRecDepth 100000

noncomputable def tys : List (Option Ty) := [none,
 some (.opt .unit),
 some (.int .i64),
 some (.int .i64),
 some .bool,
 some (.int .u8),
 none,
 none,
 none,
 none,
 none,
 none,
 none,
 none,
 none,
 none,
 none,
 none,
 none,
 none,
 none,
 none,
 none,
 some (.pair (.int .i64) (.pair (.int .i64) (.pair (.int .i64) .unit))),
 some (.int .u32),
 some (.slice (.int .u8)),
 none,
 none,
 none,
 some (.pair (.int .i64) (.pair (.int .i64) (.pair (.int .i64) .unit))),
 none,
 none,
 some (.slice (.slice (.int .u8))),
 none,
 none,
 none,
 none,
 none,
 none,
 none,
 none,
 none,
 none,
 none,
 some (.slice (.pair (.arr 32 (.int .u8)) (.pair (.int .i64) .unit))),
 none,
 none,
 none,
 none,
 none,
 none,
 none,
 none,
 none,
 none,
 none,
 none,
 none,
 none,
 none,
 none,
 none,
 none,
 none,
 none,
 none,
 none,
 none,
 none,
 none,
 none,
 none,
 none,
 none,
 none,
 none,
 some (.int .u64),
 none,
 none,
 none,
 none,
 none,
 none,
 none,
 none,
 none,
 none,
 none,
 some (.opt (.pair (.int .i64) (.pair (.int .i64) (.pair (.int .i64) .unit)))),
 none,
 none,
 none,
 none,
 none,
 none,
 some (.arr 32 (.int .u8)),
 some (.arr 32 (.int .u8)),
 none,
 none,
 some (.pair (.arr 32 (.int .u8)) (.pair (.int .i64) .unit)),
 none,
 none,
 none,
 none,
 none,
 none,
 none,
 none,
 none,
 none,
 none,
 none,
 none,
 none,
 none,
 none,
 none,
 none,
 none,
 none,
 none,
 none,
 none,
 some (.opt (.pair (.arr 256 (.int .u32)) (.pair (.int .u32) .unit))),
 none,
 none,
 some (.arr 256 (.int .u32)),
 none,
 some (.pair (.arr 256 (.int .u32)) (.pair (.int .u32) .unit)),
 none,
 none,
 none,
 none,
 none,
 none,
 none,
 some (.arr 8 (.int .u32)),
 none,
 none,
 some (.opt .unit),
 some (.slice (.arr 32 (.int .u8))),
 none,
 none,
 none,
 none,
 none,
 none,
 none,
 none,
 none,
 none,
 none,
 none,
 none,
 none,
 none,
 some (.int .u64),
 none,
 none,
 none,
 none,
 none,
 none,
 none,
 none,
 none,
 none,
 none,
 none,
 none,
 none,
 none,
 none,
 none,
 none,
 none,
 none,
 none,
 none,
 none,
 none,
 none,
 none,
 none,
 none,
 none,
 none,
 none,
 none,
 none,
 none,
 none,
 none,
 none,
 none,
 none,
 none,
 none,
 none,
 none,
 none,
 none,
 none,
 none,
 none,
 none,
 none,
 none,
 none,
 none,
 none,
 none,
 none,
 none,
 none,
 none,
 none,
 none,
 none,
 none,
 none]
noncomputable def tbytes : List Nat := [0, 8, 8, 8, 1, 1, 1, 24, 24, 16, 16, 16, 8, 24, 24, 8, 8, 8, 8, 8, 16, 4, 24, 24, 4, 24, 56, 56, 8, 24, 56, 56, 24, 0, 8, 8, 8, 8, 8, 8, 8, 8, 8, 8, 24, 0, 8, 8, 8, 8, 8, 24, 8, 24, 0, 8, 8, 8, 8, 8, 24, 0, 8, 8, 8, 8, 8, 0, 8, 0, 8, 24, 0, 8, 8, 8, 8, 0, 8, 0, 8, 8, 8, 8, 8, 8, 0, 8, 8, 0, 8, 8, 8, 8, 8, 32, 32, 8, 40, 40, 8, 8, 8, 8, 8, 32, 32, 8, 32, 8, 8, 8, 8, 64, 64, 208, 208, 8, 8, 8, 8, 8, 8, 8, 8, 8, 1024, 1028, 1028, 8, 8, 8, 8, 8, 8, 8, 32, 8, 8, 8, 24, 0, 8, 8, 8, 8, 8, 24, 8, 8, 8, 8, 24, 8, 8, 8, 8, 40, 40, 8, 8, 8, 8, 8, 8, 8, 8, 8, 8, 8, 8, 8, 8, 8, 0, 8, 8, 8, 8, 24, 8, 8, 8, 8, 8, 8, 8, 8, 0, 8, 8, 8, 8, 8, 8, 8, 8, 8, 8, 8, 8, 8, 8, 0, 8, 8, 40, 40, 0, 0, 0, 8, 1, 1, 8, 8, 4, 4, 48, 48, 8]
noncomputable def telem : List Nat := [0, 0, 0, 0, 0, 0, 0, 0, 0, 0, 0, 0, 0, 0, 0, 0, 0, 0, 0, 0, 0, 0, 0, 0, 0, 5, 0, 0, 0, 0, 0, 0, 25, 0, 0, 0, 0, 0, 0, 0, 0, 0, 0, 0, 99, 0, 0, 0, 0, 0, 0, 106, 0, 108, 0, 0, 0, 0, 0, 0, 116, 0, 0, 0, 0, 0, 0, 0, 0, 0, 0, 2, 0, 0, 0, 0, 0, 0, 0, 0, 0, 0, 0, 0, 0, 0, 0, 0, 0, 0, 0, 0, 0, 0, 0, 0, 0, 0, 0, 0, 0, 0, 0, 0, 0, 0, 0, 0, 0, 0, 0, 0, 0, 0, 0, 0, 0, 0, 0, 0, 0, 0, 0, 0, 0, 0, 0, 0, 0, 0, 0, 0, 0, 0, 0, 0, 0, 0, 0, 0, 95, 0, 0, 0, 0, 0, 0, 114, 0, 0, 0, 0, 9, 0, 0, 0, 0, 0, 0, 0, 0, 0, 0, 0, 0, 0, 0, 0, 0, 0, 0, 0, 0, 0, 0, 0, 0, 0, 0, 53, 0, 0, 0, 0, 0, 0, 0, 0, 0, 0, 0, 0, 0, 0, 0, 0, 0, 0, 0, 0, 0, 0, 0, 0, 0, 0, 0, 0, 0, 0, 0, 0, 0, 0, 0, 0, 0, 0, 0, 0, 0]
noncomputable def nozero : List Nat := [0, 1, 6, 7, 8, 9, 10, 11, 12, 13, 14, 15, 16, 17, 18, 19, 20, 21, 22, 26, 27, 28, 30, 31, 33, 34, 35, 36, 37, 38, 39, 40, 41, 42, 43, 45, 46, 47, 48, 49, 50, 51, 52, 53, 54, 55, 56, 57, 58, 59, 60, 61, 62, 63, 64, 65, 66, 67, 68, 69, 70, 71, 72, 73, 74, 75, 77, 78, 79, 80, 81, 82, 83, 84, 85, 86, 87, 89, 90, 91, 92, 93, 94, 97, 98, 100, 101, 102, 103, 104, 105, 106, 107, 108, 109, 110, 111, 112, 113, 114, 115, 116, 117, 118, 119, 120, 121, 122, 124, 125, 127, 129, 130, 131, 132, 133, 134, 135, 137, 138, 139, 141, 142, 143, 144, 145, 146, 147, 148, 149, 150, 151, 152, 153, 154, 155, 157, 158, 159, 160, 161, 162, 163, 164, 165, 166, 167, 168, 169, 170, 171, 172, 173, 174, 175, 176, 177, 178, 179, 180, 181, 182, 183, 184, 185, 186, 187, 188, 189, 190, 191, 192, 193, 194, 195, 196, 197, 198, 199, 200, 201, 202, 203, 204, 205, 206, 207, 208, 209, 210, 211, 212, 213, 214, 215, 216, 217, 218, 219, 220]
noncomputable def dps : List (Nat × DS) := [(25, (.sl 5 (.pl (.int .u8)))), (32, (.sl 25 (.sl 5 (.pl (.int .u8))))), (44, (.sl 99 (.pl (.pair (.arr 32 (.int .u8)) (.pair (.int .i64) .unit))))), (140, (.sl 95 (.pl (.arr 32 (.int .u8)))))]
theorem tabs_ok : rowsB Try.prog (mkCx tys tbytes telem nozero (fun _ => none) (fun _ => none) (fun _ => none) (fun _ => none) (fun _ _ => none) 0 []) 0 tys = true := by kernel_rfl
theorem mixed_ok : Try.prog.follows .mixedOrders = true := by kernel_rfl
noncomputable def laws_FnExactRecipeOf_c : Code := (Try.f4.body).getD .skip
noncomputable def laws_FnExactRecipeOf_i : Inl := { code := laws_FnExactRecipeOf_c, ntmps := Try.f4.ntmps, results := Try.f4.results.toList }
theorem laws_FnExactRecipeOf_ok : InlOk Try.prog 4 laws_FnExactRecipeOf_i := inlOk_of Try.func4 rfl (by kernel_rfl) (by kernel_rfl)
noncomputable def laws_toByteS_c : Code := (Try.f11.body).getD .skip
noncomputable def laws_toByteS_i : Inl := { code := laws_toByteS_c, ntmps := Try.f11.ntmps, results := Try.f11.results.toList }
theorem laws_toByteS_ok : InlOk Try.prog 11 laws_toByteS_i := inlOk_of Try.func11 rfl (by kernel_rfl) (by kernel_rfl)
noncomputable def laws_eqByteS_c : Code := (Try.f15.body).getD .skip
noncomputable def laws_eqByteS_i : Inl := { code := laws_eqByteS_c, ntmps := Try.f15.ntmps, results := Try.f15.results.toList }
theorem laws_eqByteS_ok : InlOk Try.prog 15 laws_eqByteS_i := inlOk_of Try.func15 rfl (by kernel_rfl) (by kernel_rfl)
noncomputable def laws_markByteS_c : Code := (Try.f17.body).getD .skip
noncomputable def laws_markByteS_i : Inl := { code := laws_markByteS_c, ntmps := Try.f17.ntmps, results := Try.f17.results.toList }
theorem laws_markByteS_ok : InlOk Try.prog 17 laws_markByteS_i := inlOk_of Try.func17 rfl (by kernel_rfl) (by kernel_rfl)
noncomputable def spec_RecipeOf_c : Code := (Try.f21.body).getD .skip
noncomputable def spec_RecipeOf_i : Inl := { code := spec_RecipeOf_c, ntmps := Try.f21.ntmps, results := Try.f21.results.toList }
theorem spec_RecipeOf_ok : InlOk Try.prog 21 spec_RecipeOf_i := inlOk_of Try.func21 rfl (by kernel_rfl) (by kernel_rfl)
noncomputable def laws_toCutRule_c : Code := (Try.f22.body).getD .skip
noncomputable def laws_toCutRule_i : Inl := { code := laws_toCutRule_c, ntmps := Try.f22.ntmps, results := Try.f22.results.toList }
theorem laws_toCutRule_ok : InlOk Try.prog 22 laws_toCutRule_i := inlOk_of Try.func22 rfl (by kernel_rfl) (by kernel_rfl)
noncomputable def impl_RecipeOf_c : Code := (Try.f23.body).getD .skip
noncomputable def impl_RecipeOf_i : Inl := { code := impl_RecipeOf_c, ntmps := Try.f23.ntmps, results := Try.f23.results.toList }
theorem impl_RecipeOf_ok : InlOk Try.prog 23 impl_RecipeOf_i := inlOk_of Try.func23 rfl (by kernel_rfl) (by kernel_rfl)
noncomputable def laws_eqPieceS_c : Code := (Try.f24.body).getD .skip
noncomputable def laws_eqPieceS_i : Inl := { code := laws_eqPieceS_c, ntmps := Try.f24.ntmps, results := Try.f24.results.toList }
theorem laws_eqPieceS_ok : InlOk Try.prog 24 laws_eqPieceS_i := inlOk_of Try.func24 rfl (by kernel_rfl) (by kernel_rfl)
noncomputable def laws_markPieceS_c : Code := (Try.f25.body).getD .skip
noncomputable def laws_markPieceS_i : Inl := { code := laws_markPieceS_c, ntmps := Try.f25.ntmps, results := Try.f25.results.toList }
theorem laws_markPieceS_ok : InlOk Try.prog 25 laws_markPieceS_i := inlOk_of Try.func25 rfl (by kernel_rfl) (by kernel_rfl)
noncomputable def laws_heldPieceS_c : Code := (Try.f26.body).getD .skip
noncomputable def laws_heldPieceS_i : Inl := { code := laws_heldPieceS_c, ntmps := Try.f26.ntmps, results := Try.f26.results.toList }
theorem laws_heldPieceS_ok : InlOk Try.prog 26 laws_heldPieceS_i := inlOk_of Try.func26 rfl (by kernel_rfl) (by kernel_rfl)
noncomputable def impl_ValidRule_c : Code := (Try.f46.body).getD .skip
noncomputable def impl_ValidRule_i : Inl := { code := impl_ValidRule_c, ntmps := Try.f46.ntmps, results := Try.f46.results.toList }
theorem impl_ValidRule_ok : InlOk Try.prog 46 impl_ValidRule_i := inlOk_of Try.func46 rfl (by kernel_rfl) (by kernel_rfl)
noncomputable def spec_l02Feed_c : Code := (Try.f57.body).getD .skip
noncomputable def spec_l02Feed_i : Inl := { code := spec_l02Feed_c, ntmps := Try.f57.ntmps, results := Try.f57.results.toList }
theorem spec_l02Feed_ok : InlOk Try.prog 57 spec_l02Feed_i := inlOk_of Try.func57 rfl (by kernel_rfl) (by kernel_rfl)
noncomputable def impl_CutRule_cut_c : Code := (Try.f58.body).getD .skip
noncomputable def impl_CutRule_cut_i : Inl := { code := impl_CutRule_cut_c, ntmps := Try.f58.ntmps, results := Try.f58.results.toList }
theorem impl_CutRule_cut_ok : InlOk Try.prog 58 impl_CutRule_cut_i := inlOk_of Try.func58 rfl (by kernel_rfl) (by kernel_rfl)
noncomputable def slices_Concat_byte_byte_c : Code := (Try.f59.body).getD .skip
noncomputable def slices_Concat_byte_byte_i : Inl := { code := slices_Concat_byte_byte_c, ntmps := Try.f59.ntmps, results := Try.f59.results.toList }
theorem slices_Concat_byte_byte_ok : InlOk Try.prog 59 slices_Concat_byte_byte_i := inlOk_of Try.func59 rfl (by kernel_rfl) (by kernel_rfl)
noncomputable def spec_l02Given_c : Code := (Try.f62.body).getD .skip
noncomputable def spec_l02Given_i : Inl := { code := spec_l02Given_c, ntmps := Try.f62.ntmps, results := Try.f62.results.toList }
theorem spec_l02Given_ok : InlOk Try.prog 62 spec_l02Given_i := inlOk_of Try.func62 rfl (by kernel_rfl) (by kernel_rfl)
noncomputable def spec_l02Chunks_c : Code := (Try.f63.body).getD .skip
noncomputable def spec_l02Chunks_i : Inl := { code := spec_l02Chunks_c, ntmps := Try.f63.ntmps, results := Try.f63.results.toList }
theorem spec_l02Chunks_ok : InlOk Try.prog 63 spec_l02Chunks_i := inlOk_of Try.func63 rfl (by kernel_rfl) (by kernel_rfl)
noncomputable def spec_l01Hash_c : Code := (Try.f64.body).getD .skip
noncomputable def spec_l01Hash_i : Inl := { code := spec_l01Hash_c, ntmps := Try.f64.ntmps, results := Try.f64.results.toList }
theorem spec_l01Hash_ok : InlOk Try.prog 64 spec_l01Hash_i := inlOk_of Try.func64 rfl (by kernel_rfl) (by kernel_rfl)
noncomputable def impl_ruleCode_c : Code := (Try.f65.body).getD .skip
noncomputable def impl_ruleCode_i : Inl := { code := impl_ruleCode_c, ntmps := Try.f65.ntmps, results := Try.f65.results.toList }
theorem impl_ruleCode_ok : InlOk Try.prog 65 impl_ruleCode_i := inlOk_of Try.func65 rfl (by kernel_rfl) (by kernel_rfl)
noncomputable def impl_CutRule_chunks_c : Code := (Try.f66.body).getD .skip
noncomputable def impl_CutRule_chunks_i : Inl := { code := impl_CutRule_chunks_c, ntmps := Try.f66.ntmps, results := Try.f66.results.toList }
theorem impl_CutRule_chunks_ok : InlOk Try.prog 66 impl_CutRule_chunks_i := inlOk_of Try.func66 rfl (by kernel_rfl) (by kernel_rfl)
noncomputable def impl_hash_c : Code := (Try.f67.body).getD .skip
noncomputable def impl_hash_i : Inl := { code := impl_hash_c, ntmps := Try.f67.ntmps, results := Try.f67.results.toList }
theorem impl_hash_ok : InlOk Try.prog 67 impl_hash_i := inlOk_of Try.func67 rfl (by kernel_rfl) (by kernel_rfl)
noncomputable def impl_size_byte_c : Code := (Try.f68.body).getD .skip
noncomputable def impl_size_byte_i : Inl := { code := impl_size_byte_c, ntmps := Try.f68.ntmps, results := Try.f68.results.toList }
theorem impl_size_byte_ok : InlOk Try.prog 68 impl_size_byte_i := inlOk_of Try.func68 rfl (by kernel_rfl) (by kernel_rfl)
noncomputable def laws_eqPiece_c : Code := (Try.f69.body).getD .skip
noncomputable def laws_eqPiece_i : Inl := { code := laws_eqPiece_c, ntmps := Try.f69.ntmps, results := Try.f69.results.toList }
theorem laws_eqPiece_ok : InlOk Try.prog 69 laws_eqPiece_i := inlOk_of Try.func69 rfl (by kernel_rfl) (by kernel_rfl)
noncomputable def impl_within_c : Code := (Try.f86.body).getD .skip
noncomputable def impl_within_i : Inl := { code := impl_within_c, ntmps := Try.f86.ntmps, results := Try.f86.results.toList }
theorem impl_within_ok : InlOk Try.prog 86 impl_within_i := inlOk_of Try.func86 rfl (by kernel_rfl) (by kernel_rfl)
noncomputable def impl_newRoller_c : Code := (Try.f87.body).getD .skip
noncomputable def impl_newRoller_i : Inl := { code := impl_newRoller_c, ntmps := Try.f87.ntmps, results := Try.f87.results.toList }
theorem impl_newRoller_ok : InlOk Try.prog 87 impl_newRoller_i := inlOk_of Try.func87 rfl (by kernel_rfl) (by kernel_rfl)
noncomputable def impl_roller_add_c : Code := (Try.f88.body).getD .skip
noncomputable def impl_roller_add_i : Inl := { code := impl_roller_add_c, ntmps := Try.f88.ntmps, results := Try.f88.results.toList }
theorem impl_roller_add_ok : InlOk Try.prog 88 impl_roller_add_i := inlOk_of Try.func88 rfl (by kernel_rfl) (by kernel_rfl)
noncomputable def spec_l02Roll_c : Code := (Try.f90.body).getD .skip
noncomputable def spec_l02Roll_i : Inl := { code := spec_l02Roll_c, ntmps := Try.f90.ntmps, results := Try.f90.results.toList }
theorem spec_l02Roll_ok : InlOk Try.prog 90 spec_l02Roll_i := inlOk_of Try.func90 rfl (by kernel_rfl) (by kernel_rfl)
noncomputable def slices_Clone_byte_byte_c : Code := (Try.f91.body).getD .skip
noncomputable def slices_Clone_byte_byte_i : Inl := { code := slices_Clone_byte_byte_c, ntmps := Try.f91.ntmps, results := Try.f91.results.toList }
theorem slices_Clone_byte_byte_ok : InlOk Try.prog 91 slices_Clone_byte_byte_i := inlOk_of Try.func91 rfl (by kernel_rfl) (by kernel_rfl)
noncomputable def spec_l02Ok_c : Code := (Try.f93.body).getD .skip
noncomputable def spec_l02Ok_i : Inl := { code := spec_l02Ok_c, ntmps := Try.f93.ntmps, results := Try.f93.results.toList }
theorem spec_l02Ok_ok : InlOk Try.prog 93 spec_l02Ok_i := inlOk_of Try.func93 rfl (by kernel_rfl) (by kernel_rfl)
noncomputable def spec_l02Ends_c : Code := (Try.f94.body).getD .skip
noncomputable def spec_l02Ends_i : Inl := { code := spec_l02Ends_c, ntmps := Try.f94.ntmps, results := Try.f94.results.toList }
theorem spec_l02Ends_ok : InlOk Try.prog 94 spec_l02Ends_i := inlOk_of Try.func94 rfl (by kernel_rfl) (by kernel_rfl)
noncomputable def impl_CutRule_ends_c : Code := (Try.f95.body).getD .skip
noncomputable def impl_CutRule_ends_i : Inl := { code := impl_CutRule_ends_c, ntmps := Try.f95.ntmps, results := Try.f95.results.toList }
theorem impl_CutRule_ends_ok : InlOk Try.prog 95 impl_CutRule_ends_i := inlOk_of Try.func95 rfl (by kernel_rfl) (by kernel_rfl)
noncomputable def slices_Grow_byte_byte_c : Code := (Try.f96.body).getD .skip
noncomputable def slices_Grow_byte_byte_i : Inl := { code := slices_Grow_byte_byte_c, ntmps := Try.f96.ntmps, results := Try.f96.results.toList }
theorem slices_Grow_byte_byte_ok : InlOk Try.prog 96 slices_Grow_byte_byte_i := inlOk_of Try.func96 rfl (by kernel_rfl) (by kernel_rfl)
noncomputable def spec_l01End_c : Code := (Try.f97.body).getD .skip
noncomputable def spec_l01End_i : Inl := { code := spec_l01End_c, ntmps := Try.f97.ntmps, results := Try.f97.results.toList }
theorem spec_l01End_ok : InlOk Try.prog 97 spec_l01End_i := inlOk_of Try.func97 rfl (by kernel_rfl) (by kernel_rfl)
noncomputable def spec_l01Start_c : Code := (Try.f98.body).getD .skip
noncomputable def spec_l01Start_i : Inl := { code := spec_l01Start_c, ntmps := Try.f98.ntmps, results := Try.f98.results.toList }
theorem spec_l01Start_ok : InlOk Try.prog 98 spec_l01Start_i := inlOk_of Try.func98 rfl (by kernel_rfl) (by kernel_rfl)
noncomputable def slices_ContainsFunc_byte_byte_c : Code := (Try.f99.body).getD .skip
noncomputable def slices_ContainsFunc_byte_byte_i : Inl := { code := slices_ContainsFunc_byte_byte_c, ntmps := Try.f99.ntmps, results := Try.f99.results.toList }
theorem slices_ContainsFunc_byte_byte_ok : InlOk Try.prog 99 slices_ContainsFunc_byte_byte_i := inlOk_of Try.func99 rfl (by kernel_rfl) (by kernel_rfl)
noncomputable def impl_ruleCode_1_c : Code := (Try.f100.body).getD .skip
noncomputable def impl_ruleCode_1_i : Inl := { code := impl_ruleCode_1_c, ntmps := Try.f100.ntmps, results := Try.f100.results.toList }
theorem impl_ruleCode_1_ok : InlOk Try.prog 100 impl_ruleCode_1_i := inlOk_of Try.func100 rfl (by kernel_rfl) (by kernel_rfl)
noncomputable def impl_blocks_c : Code := (Try.f101.body).getD .skip
noncomputable def impl_blocks_i : Inl := { code := impl_blocks_c, ntmps := Try.f101.ntmps, results := Try.f101.results.toList }
theorem impl_blocks_ok : InlOk Try.prog 101 impl_blocks_i := inlOk_of Try.func101 rfl (by kernel_rfl) (by kernel_rfl)
noncomputable def impl_padding_c : Code := (Try.f102.body).getD .skip
noncomputable def impl_padding_i : Inl := { code := impl_padding_c, ntmps := Try.f102.ntmps, results := Try.f102.results.toList }
theorem impl_padding_ok : InlOk Try.prog 102 impl_padding_i := inlOk_of Try.func102 rfl (by kernel_rfl) (by kernel_rfl)
noncomputable def impl_keyOf_c : Code := (Try.f103.body).getD .skip
noncomputable def impl_keyOf_i : Inl := { code := impl_keyOf_c, ntmps := Try.f103.ntmps, results := Try.f103.results.toList }
theorem impl_keyOf_ok : InlOk Try.prog 103 impl_keyOf_i := inlOk_of Try.func103 rfl (by kernel_rfl) (by kernel_rfl)
noncomputable def impl_mixed_c : Code := (Try.f104.body).getD .skip
noncomputable def impl_mixed_i : Inl := { code := impl_mixed_c, ntmps := Try.f104.ntmps, results := Try.f104.results.toList }
theorem impl_mixed_ok : InlOk Try.prog 104 impl_mixed_i := inlOk_of Try.func104 rfl (by kernel_rfl) (by kernel_rfl)
noncomputable def impl_StartState_c : Code := (Try.f105.body).getD .skip
noncomputable def impl_StartState_i : Inl := { code := impl_StartState_c, ntmps := Try.f105.ntmps, results := Try.f105.results.toList }
theorem impl_StartState_ok : InlOk Try.prog 105 impl_StartState_i := inlOk_of Try.func105 rfl (by kernel_rfl) (by kernel_rfl)
noncomputable def laws_eqKey_c : Code := (Try.f106.body).getD .skip
noncomputable def laws_eqKey_i : Inl := { code := laws_eqKey_c, ntmps := Try.f106.ntmps, results := Try.f106.results.toList }
theorem laws_eqKey_ok : InlOk Try.prog 106 laws_eqKey_i := inlOk_of Try.func106 rfl (by kernel_rfl) (by kernel_rfl)
noncomputable def impl_RollTable_c : Code := (Try.f118.body).getD .skip
noncomputable def impl_RollTable_i : Inl := { code := impl_RollTable_c, ntmps := Try.f118.ntmps, results := Try.f118.results.toList }
theorem impl_RollTable_ok : InlOk Try.prog 118 impl_RollTable_i := inlOk_of Try.func118 rfl (by kernel_rfl) (by kernel_rfl)
noncomputable def spec_l02Word_c : Code := (Try.f119.body).getD .skip
noncomputable def spec_l02Word_i : Inl := { code := spec_l02Word_c, ntmps := Try.f119.ntmps, results := Try.f119.results.toList }
theorem spec_l02Word_ok : InlOk Try.prog 119 spec_l02Word_i := inlOk_of Try.func119 rfl (by kernel_rfl) (by kernel_rfl)
noncomputable def spec_l00In_c : Code := (Try.f120.body).getD .skip
noncomputable def spec_l00In_i : Inl := { code := spec_l00In_c, ntmps := Try.f120.ntmps, results := Try.f120.results.toList }
theorem spec_l00In_ok : InlOk Try.prog 120 spec_l00In_i := inlOk_of Try.func120 rfl (by kernel_rfl) (by kernel_rfl)
noncomputable def spec_l01Padded_c : Code := (Try.f121.body).getD .skip
noncomputable def spec_l01Padded_i : Inl := { code := spec_l01Padded_c, ntmps := Try.f121.ntmps, results := Try.f121.results.toList }
theorem spec_l01Padded_ok : InlOk Try.prog 121 spec_l01Padded_i := inlOk_of Try.func121 rfl (by kernel_rfl) (by kernel_rfl)
noncomputable def spec_l01Mix_c : Code := (Try.f122.body).getD .skip
noncomputable def spec_l01Mix_i : Inl := { code := spec_l01Mix_c, ntmps := Try.f122.ntmps, results := Try.f122.results.toList }
theorem spec_l01Mix_ok : InlOk Try.prog 122 spec_l01Mix_i := inlOk_of Try.func122 rfl (by kernel_rfl) (by kernel_rfl)
noncomputable def spec_l01Block_c : Code := (Try.f123.body).getD .skip
noncomputable def spec_l01Block_i : Inl := { code := spec_l01Block_c, ntmps := Try.f123.ntmps, results := Try.f123.results.toList }
theorem spec_l01Block_ok : InlOk Try.prog 123 spec_l01Block_i := inlOk_of Try.func123 rfl (by kernel_rfl) (by kernel_rfl)
noncomputable def slices_IndexFunc_byte_byte_c : Code := (Try.f124.body).getD .skip
noncomputable def slices_IndexFunc_byte_byte_i : Inl := { code := slices_IndexFunc_byte_byte_c, ntmps := Try.f124.ntmps, results := Try.f124.results.toList }
theorem slices_IndexFunc_byte_byte_ok : InlOk Try.prog 124 slices_IndexFunc_byte_byte_i := inlOk_of Try.func124 rfl (by kernel_rfl) (by kernel_rfl)
noncomputable def impl_appendLittle_c : Code := (Try.f125.body).getD .skip
noncomputable def impl_appendLittle_i : Inl := { code := impl_appendLittle_c, ntmps := Try.f125.ntmps, results := Try.f125.results.toList }
theorem impl_appendLittle_ok : InlOk Try.prog 125 impl_appendLittle_i := inlOk_of Try.func125 rfl (by kernel_rfl) (by kernel_rfl)
noncomputable def impl_MixBlock_c : Code := (Try.f126.body).getD .skip
noncomputable def impl_MixBlock_i : Inl := { code := impl_MixBlock_c, ntmps := Try.f126.ntmps, results := Try.f126.results.toList }
theorem impl_MixBlock_ok : InlOk Try.prog 126 impl_MixBlock_i := inlOk_of Try.func126 rfl (by kernel_rfl) (by kernel_rfl)
noncomputable def spec_l01Turn_c : Code := (Try.f135.body).getD .skip
noncomputable def spec_l01Turn_i : Inl := { code := spec_l01Turn_c, ntmps := Try.f135.ntmps, results := Try.f135.results.toList }
theorem spec_l01Turn_ok : InlOk Try.prog 135 spec_l01Turn_i := inlOk_of Try.func135 rfl (by kernel_rfl) (by kernel_rfl)
noncomputable def impl_littleNumber_c : Code := (Try.f136.body).getD .skip
noncomputable def impl_littleNumber_i : Inl := { code := impl_littleNumber_c, ntmps := Try.f136.ntmps, results := Try.f136.results.toList }
theorem impl_littleNumber_ok : InlOk Try.prog 136 impl_littleNumber_i := inlOk_of Try.func136 rfl (by kernel_rfl) (by kernel_rfl)
noncomputable def math_bits_RotateLeft32_c : Code := (Try.f137.body).getD .skip
noncomputable def math_bits_RotateLeft32_i : Inl := { code := math_bits_RotateLeft32_c, ntmps := Try.f137.ntmps, results := Try.f137.results.toList }
theorem math_bits_RotateLeft32_ok : InlOk Try.prog 137 math_bits_RotateLeft32_i := inlOk_of Try.func137 rfl (by kernel_rfl) (by kernel_rfl)
end Go.Ai.G
namespace Go.Proofs
open Go.Shelf
def Try.laysGrow96_ren : Go.Shelf.Ren := ⟨fun | 4 => 96 | n => n, fun | 22 => 25 | 25 => 5 | 3 => 3 | 4 => 4 | 9 => 9 | 20 => 20 | 0 => 0 | n => n, fun | n => n⟩
theorem Try.laysGrow96 : Go.Proofs.Lays8.n4 Try.prog Try.laysGrow96_ren := {
  mixed := by kernel_rfl
  f4 := ⟨Try.f96.name, by decide, Try.func96.trans (congrArg some (by kernel_rfl))⟩
  t0 := Try.underlying0
  a0 := Try.isAgg0
  z0 := Try.sizeOf0
  v0 := Try.zeroValue0
  t3 := Try.underlying3
  a3 := Try.isAgg3
  z3 := Try.sizeOf3
  v3 := Try.zeroValue3
  t4 := Try.underlying4
  a4 := Try.isAgg4
  z4 := Try.sizeOf4
  v4 := Try.zeroValue4
  t9 := Try.underlying9
  a9 := Try.isAgg9
  z9 := Try.sizeOf9
  v9 := Try.zeroValue9
  t20 := Try.underlying20
  a20 := Try.isAgg20
  z20 := Try.sizeOf20
  v20 := Try.zeroValue20
  t22 := Try.underlying25
  a22 := Try.isAgg25
  z22 := Try.sizeOf25
  v22 := Try.zeroValue25 }

end Go.Proofs
namespace Go.Ai.G
open Go.Proofs
open Go.Ai
noncomputable def slices_Grow_byte_byte_tr (a0 : (List Int)) (a1 : Int) : Option (List Int) :=
 cond (decide (0 ≤ a1) && (decide (((a0.length : Int) + a1) * ((1 : Nat) : Int) ≤ 140737488355328) && decide ((a0.length : Int) + a1 ≤ 4611686018427387904))) (some a0) none
noncomputable def slices_Grow_byte_byte_tak : ConT := growC 5 (.int .u8) 1
theorem slices_Grow_byte_byte_takOk : TakOk Try.prog 96 slices_Grow_byte_byte_tak := grow_takB Try.laysGrow96 (.int .u8) rfl rfl slices_Grow_byte_byte_ok 1 (by kernel_rfl)
end Go.Ai.G
