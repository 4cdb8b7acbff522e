/-
  A part of the proof: own texts, laid together by a tool of our own: C04 G04a.
-/
import Derived.Test.YteiglmkppgjcbaaWalks1
import Derived.Test.YteiglmkppgjcbaaWalks2
import Derived.Test.YteiglmkppgjcbaaWalks3
import Derived.Test.YteiglmkppgjcbaaWalks4
import Derived.Test.YteiglmkppgjcbaaDv4
import Derived.Test.YteiglmkppgjcbaaDv5
section
/-
  Each contract holds the model's own run: the chain.
-/
namespace Go.Dv.Try
open Go Go.Dv
theorem sd_bitmap_within_R_bitmap_within : SoundAt prg n_bitmap_within (fnSpec R_bitmap_within) := w_bitmap_within.sound mixed ctx_nil (fnSpec_ok _) (by rintro _ _ ⟨_, ⟨_, _, _, rfl, _⟩, _⟩; rfl) meets_bitmap_within
theorem sd_base_Within_R_bitmap_within : SoundAt prg n_base_Within (fnSpec R_bitmap_within) := w_base_Within.sound mixed ctx_nil (fnSpec_ok _) (by rintro _ _ ⟨_, ⟨_, _, _, rfl, _⟩, _⟩; rfl) meets_base_Within
theorem sd_bitmap_unless_R_bitmap_unless : SoundAt prg n_bitmap_unless (fnSpec R_bitmap_unless) := w_bitmap_unless.sound mixed ctx_nil (fnSpec_ok _) (by rintro _ _ ⟨_, ⟨_, _, rfl, _⟩, _⟩; rfl) meets_bitmap_unless
theorem sd_bitmap_first_R_bitmap_first : SoundAt prg n_bitmap_first (fnSpec R_bitmap_first) := w_bitmap_first.sound mixed ctx_nil (fnSpec_ok _) (by rintro _ _ ⟨_, ⟨_, rfl, _⟩, _⟩; rfl) meets_bitmap_first
theorem sd_base_Power_R_base_Power : SoundAt prg n_base_Power (fnSpec R_base_Power) := w_base_Power.sound mixed ctx_nil (fnSpec_ok _) (by rintro _ _ ⟨_, ⟨_, rfl, _⟩, _⟩; rfl) meets_base_Power
theorem sd_base_Mod_R_base_Mod : SoundAt prg n_base_Mod (fnSpec R_base_Mod) := w_base_Mod.sound mixed ctx_nil (fnSpec_ok _) (by rintro _ _ ⟨_, ⟨_, _, rfl, _⟩, _⟩; rfl) meets_base_Mod
theorem sd_base_Floor_R_Floor : SoundAt prg n_base_Floor (fnSpec R_Floor) := w_base_Floor.sound mixed ctx_nil (fnSpec_ok _) (by rintro _ _ ⟨_, ⟨_, _, rfl, _⟩, _⟩; rfl) meets_Floor
theorem sd_base_Ceil_R_Ceil8 : SoundAt prg n_base_Ceil (fnSpec R_Ceil8) := w_base_Ceil.sound mixed (ctx_cons sd_base_Floor_R_Floor ctx_nil) (fnSpec_ok _) (by rintro _ _ ⟨_, ⟨_, rfl, _⟩, _⟩; rfl) meets_Ceil8
theorem sd_bitmap_size_R_size : SoundAt prg n_bitmap_size (fnSpec R_size) := w_bitmap_size.sound mixed ctx_nil (fnSpec_ok _) (by rintro _ _ ⟨_, ⟨_, rfl, _⟩, _⟩; rfl) meets_size
theorem sd_ref04_SizeErr_R_SizeErr : SoundAt prg n_ref04_SizeErr (fnSpec R_SizeErr) := w_ref04_SizeErr.sound mixed (ctx_cons sd_base_Within_R_bitmap_within ctx_nil) (fnSpec_ok _) (by rintro _ _ ⟨_, ⟨_, rfl, _⟩, _⟩; rfl) meets_SizeErr
theorem sd_base_Zeros_R_Zeros : SoundAt prg n_base_Zeros (fnSpec R_Zeros) := w_base_Zeros.sound mixed ctx_nil (fnSpec_ok _) (by rintro _ _ ⟨_, ⟨_, rfl, _⟩, _⟩; rfl) meets_Zeros
theorem sd_ref04_Bit_R_Bit04 : SoundAt prg n_ref04_Bit (fnSpec R_Bit04) := w_ref04_Bit.sound mixed (ctx_cons sd_base_Power_R_base_Power ctx_nil) (fnSpec_ok _) (by rintro _ _ ⟨_, ⟨_, _, rfl, _⟩, _⟩; rfl) meets_refBit
theorem sd_ref04_Err_R_Err04 : SoundAt prg n_ref04_Err (fnSpec R_Err04) := w_ref04_Err.sound mixed (ctx_cons sd_ref04_SizeErr_R_SizeErr (ctx_cons sd_base_Ceil_R_Ceil8 (ctx_cons sd_ref04_Bit_R_Bit04 ctx_nil))) (fnSpec_ok _) (by rintro _ _ ⟨_, ⟨_, _, rfl, _⟩, _⟩; rfl) meets_refErr
theorem sd_bitmap_CheckBitmap_R_Err04 : SoundAt prg n_bitmap_CheckBitmap (fnSpec R_Err04) := w_bitmap_CheckBitmap.sound mixed (ctx_cons sd_bitmap_within_R_bitmap_within (ctx_cons sd_bitmap_size_R_size (ctx_cons sd_bitmap_unless_R_bitmap_unless ctx_nil))) (fnSpec_ok _) (by rintro _ _ ⟨_, ⟨_, _, rfl, _⟩, _⟩; rfl) meets_CheckBitmap
theorem sd_ref04_Count_R_refCount : SoundAt prg n_ref04_Count (fnSpec R_refCount) := w_ref04_Count.sound mixed (ctx_cons sd_ref04_Bit_R_Bit04 ctx_nil) (fnSpec_ok _) (by rintro _ _ ⟨_, ⟨_, _, rfl, _⟩, _⟩; rfl) meets_refCount
theorem sd_base_CopyRuns_S_CopyRuns : SoundAt prg n_base_CopyRuns S_CopyRuns := w_base_CopyRuns.sound mixed ctx_nil (mkS_ok _ _) (by rintro _ _ ⟨_, rfl, _⟩; rfl) meets_CopyRuns
theorem sd_base_SameRuns_R_SameRuns : SoundAt prg n_base_SameRuns (fnSpec R_SameRuns) := w_base_SameRuns.sound mixed ctx_nil (fnSpec_ok _) (by rintro _ _ ⟨_, ⟨_, _, rfl, _⟩, _⟩; rfl) meets_SameRuns
theorem sd_bitmap_within_Q_within : SoundAt prg n_bitmap_within (fnB Q_within) := w_bitmap_within.sound mixed ctx_nil (fnB_ok _) (by rintro _ _ ⟨_, ⟨_, _, _, rfl, _⟩, _⟩; rfl) meets_Qwithin
theorem sd_base_Within_Q_within : SoundAt prg n_base_Within (fnB Q_within) := w_base_Within.sound mixed ctx_nil (fnB_ok _) (by rintro _ _ ⟨_, ⟨_, _, _, rfl, _⟩, _⟩; rfl) meets_QWithin
theorem sd_ref04_Bits_S_Bits : SoundAt prg n_ref04_Bits S_Bits := w_ref04_Bits.sound mixed (ctx_cons sd_ref04_Bit_R_Bit04 ctx_nil) (mkS_ok _ _) (by rintro _ _ ⟨_, _, rfl, _⟩; rfl) meets_refBits
theorem sd_bitmap_bitmap_at_R_at : SoundAt prg n_bitmap_bitmap_at (fnSpec R_at) := w_bitmap_bitmap_at.sound mixed ctx_nil (fnSpec_ok _) (by rintro _ _ ⟨_, ⟨_, _, _, rfl, _⟩, _⟩; rfl) meets_at
theorem sd_bitmap_open_S_open : SoundAt prg n_bitmap_open S_open := w_bitmap_open.sound mixed (ctx_cons sd_bitmap_CheckBitmap_R_Err04 ctx_nil) (mkS_ok _ _) (by rintro _ _ ⟨_, _, rfl, _⟩; rfl) meets_open
theorem sd_law04_short_Q_short : SoundAt prg n_law04_short (fnB Q_short) := w_law04_short.sound mixed ctx_nil (fnB_ok _) (by rintro _ _ ⟨_, ⟨_, rfl, _⟩, _⟩; rfl) meets_short
theorem sd_math_bits_OnesCount8_R_OnesCount8 : SoundAt prg n_math_bits_OnesCount8 (fnSpec R_OnesCount8) := w_math_bits_OnesCount8.sound mixed ctx_nil (fnSpec_ok _) (by rintro _ _ ⟨_, ⟨_, rfl, _⟩, _⟩; rfl) meets_OnesCount8
theorem sd_bitmap_bitmap_extents_f1_Q_extents_f1 : SoundAt prg n_bitmap_bitmap_extents_f1 (fnB Q_extents_f1) := w_bitmap_bitmap_extents_f1.sound mixed (ctx_cons sd_bitmap_bitmap_at_R_at ctx_nil) (fnB_ok _) (by rintro _ _ ⟨_, ⟨_, _, _, _, rfl, _⟩, _⟩; rfl) meets_extents_f1
theorem sd_bitmap_DifferenceOf_f1_Q_difference_f1 : SoundAt prg n_bitmap_DifferenceOf_f1 (fnB Q_difference_f1) := w_bitmap_DifferenceOf_f1.sound mixed (ctx_cons sd_bitmap_bitmap_at_R_at ctx_nil) (fnB_ok _) (by rintro _ _ ⟨_, ⟨_, _, _, _, _, rfl, _⟩, _⟩; rfl) meets_difference_f1
theorem sd_ref04_RunsOf_S_RunsOf : SoundAt prg n_ref04_RunsOf S_RunsOf := w_ref04_RunsOf.sound mixed ctx_nil (mkS_ok _ _) (by rintro _ _ ⟨_, _, _, rfl, _⟩; rfl) meets_RunsOf
theorem sd_bitmap_first_S_first2 : SoundAt prg n_bitmap_first S_first2 := w_bitmap_first.sound mixed ctx_nil first2_ok (by rintro _ _ ⟨_, _, rfl, _⟩; rfl) meets_first2
theorem sd_base_SameRuns_Q_SameRuns : SoundAt prg n_base_SameRuns (fnB Q_SameRuns) := w_base_SameRuns.sound mixed ctx_nil (fnB_ok _) (by rintro _ _ ⟨_, ⟨_, _, rfl, _⟩, _⟩; rfl) meets_QSameRuns
theorem sd_bitmap_CountOf_S_CountOf : SoundAt prg n_bitmap_CountOf S_CountOf := w_bitmap_CountOf.sound mixed (ctx_cons sd_bitmap_open_S_open (ctx_cons sd_math_bits_OnesCount8_R_OnesCount8 ctx_nil)) (mkS_ok _ _) (by rintro _ _ ⟨_, _, rfl, _⟩; rfl) meets_CountOf
theorem sd_bitmap_BitAt_S_BitAt : SoundAt prg n_bitmap_BitAt S_BitAt := w_bitmap_BitAt.sound mixed (ctx_cons sd_bitmap_open_S_open (ctx_cons sd_bitmap_first_S_first2 (ctx_cons sd_bitmap_unless_R_bitmap_unless (ctx_cons sd_bitmap_within_Q_within (ctx_cons sd_bitmap_bitmap_at_R_at ctx_nil))))) (mkS_ok _ _) (by rintro _ _ ⟨_, _, _, rfl, _⟩; rfl) meets_BitAt
theorem sd_bitmap_fresh_S_fresh : SoundAt prg n_bitmap_fresh S_fresh := w_bitmap_fresh.sound mixed (ctx_cons sd_bitmap_within_Q_within (ctx_cons sd_bitmap_size_R_size ctx_nil)) (mkS_ok _ _) (by rintro _ _ ⟨_, rfl, _⟩; rfl) meets_fresh
theorem sd_bitmap_NewBitmap_S_NewBitmap : SoundAt prg n_bitmap_NewBitmap S_NewBitmap := w_bitmap_NewBitmap.sound mixed (ctx_cons sd_bitmap_fresh_S_fresh ctx_nil) (mkS_ok _ _) (by rintro _ _ ⟨_, rfl, _⟩; rfl) meets_NewBitmap
theorem sd_slices_Index_bool_bool_S_IndexB : SoundAt prg n_slices_Index_bool_bool S_IndexB := w_slices_Index_bool_bool.sound mixed ctx_nil (mkS_ok _ _) (by rintro _ _ ⟨_, _, rfl, _⟩; rfl) meets_IndexB
theorem sd_slices_Contains_bool_bool_S_ContainsB : SoundAt prg n_slices_Contains_bool_bool S_ContainsB := w_slices_Contains_bool_bool.sound mixed (ctx_cons sd_slices_Index_bool_bool_S_IndexB ctx_nil) (mkS_ok _ _) (by rintro _ _ ⟨_, _, rfl, _⟩; rfl) meets_ContainsB
theorem sd_bitmap_bitmap_runsErr_S_runsErr : SoundAt prg n_bitmap_bitmap_runsErr S_runsErr := w_bitmap_bitmap_runsErr.sound mixed (ctx_cons sd_bitmap_within_Q_within (ctx_cons sd_slices_Contains_bool_bool_S_ContainsB ctx_nil)) (mkS_ok _ _) (by rintro _ _ ⟨_, _, _, rfl, _⟩; rfl) meets_runsErr
theorem sd_ref04_RunsErr_S_RunsErr : SoundAt prg n_ref04_RunsErr S_RunsErr := w_ref04_RunsErr.sound mixed (ctx_cons sd_base_Within_Q_within ctx_nil) ok_RunsErr (by rintro _ _ ⟨_, _, rfl, _⟩; rfl) meets_RunsErr
theorem sd_bitmap_bitmap_set_M_set : SoundAt prg n_bitmap_bitmap_set (mkM M_set) := w_bitmap_bitmap_set.soundM mixed ctx_nil (by rintro _ _ _ ⟨_, _, _, _, _, rfl, _⟩; rfl) meets_set
theorem sd_bitmap_bitmap_put_M_put : SoundAt prg n_bitmap_bitmap_put (mkM M_put) := w_bitmap_bitmap_put.soundM mixed (ctx_cons sd_bitmap_bitmap_runsErr_S_runsErr (ctx_cons sd_bitmap_bitmap_at_R_at (ctx_cons sd_bitmap_bitmap_set_M_set ctx_nil))) (by rintro _ _ _ ⟨_, _, _, _, _, rfl, _⟩; rfl) meets_put
theorem sd_bitmap_changed_S_changed : SoundAt prg n_bitmap_changed S_changed := w_bitmap_changed.sound mixed (ctx_cons sd_bitmap_open_S_open (ctx_cons sd_bitmap_bitmap_put_M_put ctx_nil)) (mkS_ok _ _) (by rintro _ _ ⟨_, _, _, _, rfl, _⟩; rfl) meets_changed
theorem sd_bitmap_Marked_S_Marked_1 : SoundAt prg n_bitmap_Marked (S_Marked 1) := w_bitmap_Marked.sound mixed (ctx_cons sd_bitmap_changed_S_changed ctx_nil) (mkS_ok _ _) (by rintro _ _ ⟨_, _, _, rfl, _⟩; rfl) meets_Marked
theorem sd_bitmap_Cleared_S_Marked_0 : SoundAt prg n_bitmap_Cleared (S_Marked 0) := w_bitmap_Cleared.sound mixed (ctx_cons sd_bitmap_changed_S_changed ctx_nil) (mkS_ok _ _) (by rintro _ _ ⟨_, _, _, rfl, _⟩; rfl) meets_Cleared
theorem sd_bitmap_BitmapOf_S_BitmapOf : SoundAt prg n_bitmap_BitmapOf S_BitmapOf := w_bitmap_BitmapOf.sound mixed (ctx_cons sd_bitmap_fresh_S_fresh (ctx_cons sd_bitmap_bitmap_put_M_put ctx_nil)) (mkS_ok _ _) (by rintro _ _ ⟨_, _, rfl, _⟩; rfl) meets_BitmapOf
theorem sd_bitmap_Resized_S_Resized : SoundAt prg n_bitmap_Resized S_Resized := w_bitmap_Resized.sound mixed (ctx_cons sd_bitmap_open_S_open (ctx_cons sd_bitmap_fresh_S_fresh (ctx_cons sd_bitmap_bitmap_at_R_at (ctx_cons sd_bitmap_bitmap_set_M_set ctx_nil)))) (mkS_ok _ _) (by rintro _ _ ⟨_, _, _, rfl, _⟩; rfl) meets_Resized
theorem sd_ref04_From_S_From : SoundAt prg n_ref04_From S_From := w_ref04_From.sound mixed (ctx_cons sd_base_Ceil_R_Ceil8 (ctx_cons sd_base_Power_R_base_Power ctx_nil)) ok_From (by rintro _ _ ⟨_, rfl, _⟩; rfl) meets_From
theorem sd_ref04_MarkErr_S_MarkErr : SoundAt prg n_ref04_MarkErr S_MarkErr := w_ref04_MarkErr.sound mixed (ctx_cons sd_ref04_RunsErr_S_RunsErr (ctx_cons sd_ref04_Bit_R_Bit04 ctx_nil)) (mkS_ok _ _) (by rintro _ _ ⟨_, _, _, _, rfl, _⟩; rfl) meets_MarkErr
theorem sd_ref04_Mark_S_Mark : SoundAt prg n_ref04_Mark S_Mark := w_ref04_Mark.sound mixed (ctx_cons sd_ref04_Bits_S_Bits (ctx_cons sd_ref04_From_S_From ctx_nil)) ok_Mark (by rintro _ _ ⟨_, _, _, _, rfl, _⟩; rfl) meets_Mark
theorem sd_cmp_isNaN_int_R_isNaN : SoundAt prg n_cmp_isNaN_int (fnSpec R_isNaN) := w_cmp_isNaN_int.sound mixed ctx_nil (fnSpec_ok _) (by rintro _ _ ⟨_, ⟨_, rfl, _⟩, _⟩; rfl) meets_isNaN
theorem sd_cmp_Compare_int_R_Compare : SoundAt prg n_cmp_Compare_int (fnSpec R_Compare) := w_cmp_Compare_int.sound mixed (ctx_cons sd_cmp_isNaN_int_R_isNaN ctx_nil) (fnSpec_ok _) (by rintro _ _ ⟨_, ⟨_, _, rfl, _⟩, _⟩; rfl) meets_Compare
theorem sd_cmp_Or_int_R_Or : SoundAt prg n_cmp_Or_int (fnSpec R_Or) := w_cmp_Or_int.sound mixed ctx_nil (fnSpec_ok _) (by rintro _ _ ⟨_, ⟨_, rfl, _⟩, _⟩; rfl) meets_Or
theorem sd_bitmap_away_R_away : SoundAt prg n_bitmap_away (fnSpec R_away) := w_bitmap_away.sound mixed ctx_nil (fnSpec_ok _) (by rintro _ _ ⟨_, ⟨_, _, rfl, _⟩, _⟩; rfl) meets_away
theorem sd_bitmap_Gathered_f1_R_cmpG : SoundAt prg n_bitmap_Gathered_f1 (fnSpec R_cmpG) := w_bitmap_Gathered_f1.sound mixed (ctx_cons sd_cmp_Or_int_R_Or (ctx_cons sd_cmp_Compare_int_R_Compare (ctx_cons sd_bitmap_away_R_away ctx_nil))) (fnSpec_ok _) (by rintro _ _ ⟨_, ⟨_, _, _, _, rfl, _⟩, _⟩; rfl) meets_cmpG
theorem sd_slices_swapRangeCmpFunc_depository_api_Run_M_swap : SoundAt prg n_slices_swapRangeCmpFunc_depository_api_Run (mkM M_swap) := w_slices_swapRangeCmpFunc_depository_api_Run.soundM mixed ctx_nil (by rintro _ _ _ ⟨_, _, _, _, _, _, _, _, rfl, _⟩; rfl) meets_swap
theorem sd_slices_rotateCmpFunc_depository_api_Run_M_rot : SoundAt prg n_slices_rotateCmpFunc_depository_api_Run (mkM M_rot) := w_slices_rotateCmpFunc_depository_api_Run.soundM mixed (ctx_cons sd_slices_swapRangeCmpFunc_depository_api_Run_M_swap ctx_nil) (by rintro _ _ _ ⟨_, _, _, _, _, _, _, _, rfl, _⟩; rfl) meets_rot
theorem sd_slices_insertionSortCmpFunc_depository_api_Run_M_ins : SoundAt prg n_slices_insertionSortCmpFunc_depository_api_Run (mkM M_ins) := w_slices_insertionSortCmpFunc_depository_api_Run.soundM mixed (ctx_cons sd_bitmap_Gathered_f1_R_cmpG ctx_nil) (by rintro _ _ _ ⟨_, _, _, _, _, _, _, rfl, _⟩; rfl) meets_ins
theorem sd_bitmap_openAsk_S_openAsk : SoundAt prg n_bitmap_openAsk S_openAsk := w_bitmap_openAsk.sound mixed (ctx_cons sd_bitmap_open_S_open (ctx_cons sd_bitmap_first_S_first2 (ctx_cons sd_bitmap_unless_R_bitmap_unless (ctx_cons sd_bitmap_within_Q_within ctx_nil)))) (mkS_ok _ _) (by rintro _ _ ⟨_, _, _, _, rfl, _⟩; rfl) meets_openAsk
theorem sd_bitmap_bitmap_room_f1_R_room_f1 : SoundAt prg n_bitmap_bitmap_room_f1 (fnB R_room_f1) := w_bitmap_bitmap_room_f1.sound mixed ctx_nil (fnB_ok _) (by rintro _ _ ⟨_, ⟨_, _, rfl, _⟩, _⟩; rfl) meets_room_f1
theorem sd_slices_IndexFunc_depository_api_Run_depository_api_Run_S_IndexF : SoundAt prg n_slices_IndexFunc_depository_api_Run_depository_api_Run S_IndexF := w_slices_IndexFunc_depository_api_Run_depository_api_Run.sound mixed (ctx_cons sd_bitmap_bitmap_room_f1_R_room_f1 ctx_nil) (mkS_ok _ _) (by rintro _ _ ⟨_, _, rfl, _⟩; rfl) meets_IndexF
theorem sd_slices_DeleteFunc_depository_api_Run_depository_api_Run_M_delete : SoundAt prg n_slices_DeleteFunc_depository_api_Run_depository_api_Run (mkM M_delete) := w_slices_DeleteFunc_depository_api_Run_depository_api_Run.soundM mixed (ctx_cons sd_slices_IndexFunc_depository_api_Run_depository_api_Run_S_IndexF (ctx_cons sd_bitmap_bitmap_room_f1_R_room_f1 ctx_nil)) (by rintro _ _ _ ⟨_, _, _, rfl, _⟩; rfl) meets_delete
theorem sd_bitmap_BestFit_f1_R_min_f1 : SoundAt prg n_bitmap_BestFit_f1 (fnSpec R_min_f1) := w_bitmap_BestFit_f1.sound mixed ctx_nil (fnSpec_ok _) (by rintro _ _ ⟨_, ⟨_, _, rfl, _⟩, _⟩; rfl) meets_min_f1
theorem sd_slices_MinFunc_depository_api_Run_depository_api_Run_S_MinFunc : SoundAt prg n_slices_MinFunc_depository_api_Run_depository_api_Run S_MinFunc := w_slices_MinFunc_depository_api_Run_depository_api_Run.sound mixed (ctx_cons sd_bitmap_BestFit_f1_R_min_f1 ctx_nil) (mkS_ok _ _) (by rintro _ _ ⟨_, _, rfl, _⟩; rfl) meets_MinFunc
theorem sd_ref04_Extents_S_refExt : SoundAt prg n_ref04_Extents S_refExt := w_ref04_Extents.sound mixed (ctx_cons sd_ref04_Bits_S_Bits (ctx_cons sd_ref04_RunsOf_S_RunsOf ctx_nil)) (mkS_ok _ _) (by rintro _ _ ⟨_, _, _, rfl, _⟩; rfl) meets_refExt
theorem sd_ref04_First_S_refFirst : SoundAt prg n_ref04_First S_refFirst := w_ref04_First.sound mixed (ctx_cons sd_ref04_Extents_S_refExt ctx_nil) (mkS_ok _ _) (by rintro _ _ ⟨_, _, _, rfl, _⟩; rfl) meets_refFirst
theorem sd_ref04_Best_S_refBest : SoundAt prg n_ref04_Best S_refBest := w_ref04_Best.sound mixed (ctx_cons sd_ref04_Extents_S_refExt ctx_nil) (mkS_ok _ _) (by rintro _ _ ⟨_, _, _, rfl, _⟩; rfl) meets_refBest
theorem sd_base_Size_R_Size : SoundAt prg n_base_Size (fnSpec R_Size) := w_base_Size.sound mixed ctx_nil (fnSpec_ok _) (by rintro _ _ ⟨_, ⟨_, rfl, _⟩, _⟩; rfl) meets_Size
theorem sd_ref04_Near_S_refNear : SoundAt prg n_ref04_Near S_refNear := w_ref04_Near.sound mixed (ctx_cons sd_ref04_Extents_S_refExt (ctx_cons sd_base_Size_R_Size ctx_nil)) (mkS_ok _ _) (by rintro _ _ ⟨_, _, _, _, rfl, _⟩; rfl) meets_refNear
theorem sd_ref04_Differences_S_refDiff : SoundAt prg n_ref04_Differences S_refDiff := w_ref04_Differences.sound mixed (ctx_cons sd_ref04_Bits_S_Bits (ctx_cons sd_ref04_RunsOf_S_RunsOf (ctx_cons sd_base_Mod_R_base_Mod ctx_nil))) (mkS_ok _ _) (by rintro _ _ ⟨_, _, _, rfl, _⟩; rfl) meets_refDiff
theorem sd_ref04_Gathered_S_refGathered : SoundAt prg n_ref04_Gathered S_refGathered := w_ref04_Gathered.sound mixed (ctx_cons sd_ref04_Count_R_refCount (ctx_cons sd_ref04_Near_S_refNear (ctx_cons sd_ref04_Extents_S_refExt (ctx_cons sd_base_Size_R_Size ctx_nil)))) (mkS_ok _ _) (by rintro _ _ ⟨_, _, _, _, rfl, _⟩; rfl) meets_refGathered
theorem sd_law04_same_Q_same : SoundAt prg n_law04_same (fnB Q_same) := w_law04_same.sound mixed ctx_nil (fnB_ok _) (by rintro _ _ ⟨_, ⟨_, _, _, _, rfl, _⟩, _⟩; rfl) meets_same
theorem sd_law04_sameAt_Q_sameAt : SoundAt prg n_law04_sameAt (fnB Q_sameAt) := w_law04_sameAt.sound mixed ctx_nil (fnB_ok _) (by rintro _ _ ⟨_, ⟨_, _, _, _, rfl, _⟩, _⟩; rfl) meets_sameAt
theorem sd_law04_sameRuns_Q_sameRuns : SoundAt prg n_law04_sameRuns (fnB Q_sameRuns) := w_law04_sameRuns.sound mixed (ctx_cons sd_base_SameRuns_Q_SameRuns ctx_nil) (fnB_ok _) (by rintro _ _ ⟨_, ⟨_, _, _, _, _, rfl, _⟩, _⟩; rfl) meets_sameRuns
theorem sd_ref04_Err_R_Err04w : SoundAt prg n_ref04_Err (fnSpec R_Err04w) := w_ref04_Err.sound mixed (ctx_cons sd_ref04_SizeErr_R_SizeErr (ctx_cons sd_base_Ceil_R_Ceil8 (ctx_cons sd_ref04_Bit_R_Bit04 ctx_nil))) (fnSpec_ok _) (by rintro _ _ ⟨_, ⟨_, _, rfl, _⟩, _⟩; rfl) meets_refErrW
theorem sd_bitmap_bitmap_runs_S_runs : SoundAt prg n_bitmap_bitmap_runs S_runs := w_bitmap_bitmap_runs.sound mixed (ctx_cons sd_bitmap_bitmap_extents_f1_Q_extents_f1 (ctx_cons sd_bitmap_DifferenceOf_f1_Q_difference_f1 ctx_nil)) (mkS_ok _ _) (by rintro _ _ (⟨_, _, _, rfl, _⟩ | ⟨_, _, _, rfl, _⟩) <;> rfl) meets_runs
theorem sd_slices_symMergeCmpFunc_depository_api_Run_M_symA : SoundAt prg n_slices_symMergeCmpFunc_depository_api_Run (mkM M_symA) := at_sym sd_bitmap_Gathered_f1_R_cmpG sd_slices_rotateCmpFunc_depository_api_Run_M_rot 100000
theorem sd_bitmap_bitmap_extents_S_extents : SoundAt prg n_bitmap_bitmap_extents S_extents := w_bitmap_bitmap_extents.sound mixed (ctx_cons sd_bitmap_bitmap_runs_S_runs (ctx_cons sd_bitmap_bitmap_extents_f1_Q_extents_f1 ctx_nil)) (mkS_ok _ _) (by rintro _ _ ⟨_, _, _, rfl, _⟩; rfl) meets_extents
theorem sd_bitmap_ExtentsOf_S_ExtentsOf : SoundAt prg n_bitmap_ExtentsOf S_ExtentsOf := w_bitmap_ExtentsOf.sound mixed (ctx_cons sd_bitmap_open_S_open (ctx_cons sd_bitmap_first_S_first2 (ctx_cons sd_bitmap_unless_R_bitmap_unless (ctx_cons sd_bitmap_within_Q_within (ctx_cons sd_bitmap_bitmap_extents_S_extents ctx_nil))))) (mkS_ok _ _) (by rintro _ _ ⟨_, _, _, rfl, _⟩; rfl) meets_ExtentsOf
theorem sd_bitmap_DifferenceOf_S_DifferenceOf : SoundAt prg n_bitmap_DifferenceOf S_DifferenceOf := w_bitmap_DifferenceOf.sound mixed (ctx_cons sd_bitmap_open_S_open (ctx_cons sd_bitmap_first_S_first2 (ctx_cons sd_bitmap_bitmap_runs_S_runs (ctx_cons sd_bitmap_DifferenceOf_f1_Q_difference_f1 ctx_nil)))) (mkS_ok _ _) (by rintro _ _ ⟨_, _, _, rfl, _⟩; rfl) meets_DifferenceOf
theorem sd_slices_stableCmpFunc_depository_api_Run_M_stb : SoundAt prg n_slices_stableCmpFunc_depository_api_Run (mkM M_stb) := w_slices_stableCmpFunc_depository_api_Run.soundM mixed (ctx_cons sd_slices_insertionSortCmpFunc_depository_api_Run_M_ins (ctx_cons sd_slices_symMergeCmpFunc_depository_api_Run_M_symA ctx_nil)) (by rintro _ _ _ ⟨_, _, _, _, _, rfl, _⟩; rfl) meets_stb
theorem sd_slices_SortStableFunc_depository_api_Run_depository_api_Run_M_stable : SoundAt prg n_slices_SortStableFunc_depository_api_Run_depository_api_Run (mkM M_stable) := w_slices_SortStableFunc_depository_api_Run_depository_api_Run.soundM mixed (ctx_cons sd_slices_stableCmpFunc_depository_api_Run_M_stb ctx_nil) (by rintro _ _ _ ⟨_, _, _, _, rfl, _⟩; rfl) meets_stable
theorem sd_bitmap_bitmap_room_S_room : SoundAt prg n_bitmap_bitmap_room S_room := w_bitmap_bitmap_room.sound mixed (ctx_cons sd_bitmap_bitmap_extents_S_extents (ctx_cons sd_slices_DeleteFunc_depository_api_Run_depository_api_Run_M_delete (ctx_cons sd_bitmap_bitmap_room_f1_R_room_f1 ctx_nil))) (mkS_ok _ _) (by rintro _ _ ⟨_, _, _, rfl, _⟩; rfl) meets_room
theorem sd_bitmap_FirstFit_S_FirstFit : SoundAt prg n_bitmap_FirstFit S_FirstFit := w_bitmap_FirstFit.sound mixed (ctx_cons sd_bitmap_openAsk_S_openAsk (ctx_cons sd_bitmap_bitmap_room_S_room ctx_nil)) (mkS_ok _ _) (by rintro _ _ ⟨_, _, _, rfl, _⟩; rfl) meets_FirstFit
theorem sd_bitmap_BestFit_S_BestFit : SoundAt prg n_bitmap_BestFit S_BestFit := w_bitmap_BestFit.sound mixed (ctx_cons sd_bitmap_openAsk_S_openAsk (ctx_cons sd_bitmap_bitmap_room_S_room (ctx_cons sd_slices_MinFunc_depository_api_Run_depository_api_Run_S_MinFunc ctx_nil))) (mkS_ok _ _) (by rintro _ _ ⟨_, _, _, rfl, _⟩; rfl) meets_BestFit
theorem sd_bitmap_bitmap_near_S_near : SoundAt prg n_bitmap_bitmap_near S_near := w_bitmap_bitmap_near.sound mixed (ctx_cons sd_bitmap_bitmap_room_S_room (ctx_cons sd_bitmap_away_R_away ctx_nil)) (mkS_ok _ _) (by rintro _ _ ⟨_, _, _, _, rfl, _⟩; rfl) meets_near
theorem sd_bitmap_NearFit_S_NearFit : SoundAt prg n_bitmap_NearFit S_NearFit := w_bitmap_NearFit.sound mixed (ctx_cons sd_bitmap_openAsk_S_openAsk (ctx_cons sd_bitmap_bitmap_near_S_near (ctx_cons sd_bitmap_unless_R_bitmap_unless ctx_nil))) (mkS_ok _ _) (by rintro _ _ ⟨_, _, _, _, rfl, _⟩; rfl) meets_NearFit
theorem sd_bitmap_Gathered_S_Gathered : SoundAt prg n_bitmap_Gathered S_Gathered := w_bitmap_Gathered.sound mixed (ctx_cons sd_bitmap_openAsk_S_openAsk (ctx_cons sd_bitmap_bitmap_near_S_near (ctx_cons sd_bitmap_bitmap_extents_S_extents (ctx_cons sd_slices_SortStableFunc_depository_api_Run_depository_api_Run_M_stable (ctx_cons sd_bitmap_Gathered_f1_R_cmpG (ctx_cons sd_bitmap_first_S_first2 (ctx_cons sd_bitmap_unless_R_bitmap_unless ctx_nil))))))) (mkS_ok _ _) (by rintro _ _ ⟨_, _, _, _, rfl, _⟩; rfl) meets_Gathered
theorem sd_law04_awake_S_true0 : SoundAt prg n_law04_awake S_true0 := w_law04_awake.sound mixed (ctx_cons sd_bitmap_CountOf_S_CountOf (ctx_cons sd_bitmap_ExtentsOf_S_ExtentsOf (ctx_cons sd_bitmap_NearFit_S_NearFit (ctx_cons sd_bitmap_Gathered_S_Gathered (ctx_cons sd_bitmap_Marked_S_Marked_1 (ctx_cons sd_base_SameRuns_Q_SameRuns ctx_nil)))))) ok_true0 (by rintro _ _ ⟨rfl, _⟩; rfl) meets_awake
theorem sd_law04_BitmapChecks_R_lawChecks : SoundAt prg n_law04_BitmapChecks (fnSpec R_lawChecks) := w_law04_BitmapChecks.sound mixed (ctx_cons sd_law04_awake_S_true0 (ctx_cons sd_law04_short_Q_short (ctx_cons sd_bitmap_CheckBitmap_R_Err04 (ctx_cons sd_bitmap_NewBitmap_S_NewBitmap (ctx_cons sd_bitmap_BitAt_S_BitAt (ctx_cons sd_bitmap_CountOf_S_CountOf (ctx_cons sd_ref04_SizeErr_R_SizeErr (ctx_cons sd_base_Zeros_R_Zeros (ctx_cons sd_base_Ceil_R_Ceil8 (ctx_cons sd_ref04_Err_R_Err04 (ctx_cons sd_ref04_Count_R_refCount (ctx_cons sd_base_Within_Q_within (ctx_cons sd_ref04_Bit_R_Bit04 ctx_nil))))))))))))) (fnSpec_ok _) (by rintro _ _ ⟨_, ⟨_, _, _, rfl, _⟩, _⟩; rfl) meets_lawChecks
theorem sd_law04_BitmapExtents_R_lawExtents : SoundAt prg n_law04_BitmapExtents (fnSpec R_lawExtents) := w_law04_BitmapExtents.sound mixed (ctx_cons sd_law04_awake_S_true0 (ctx_cons sd_law04_short_Q_short (ctx_cons sd_bitmap_ExtentsOf_S_ExtentsOf (ctx_cons sd_bitmap_DifferenceOf_S_DifferenceOf (ctx_cons sd_ref04_Err_R_Err04 (ctx_cons sd_law04_sameRuns_Q_sameRuns (ctx_cons sd_ref04_Differences_S_refDiff (ctx_cons sd_base_Within_Q_within (ctx_cons sd_ref04_Extents_S_refExt ctx_nil))))))))) (fnSpec_ok _) (by rintro _ _ ⟨_, ⟨_, _, _, _, rfl, _⟩, _⟩; rfl) meets_lawExtents
theorem sd_bitmap_Gathered_S_GatheredD : SoundAt prg n_bitmap_Gathered S_GatheredD := w_bitmap_Gathered.sound mixed (ctx_cons sd_bitmap_openAsk_S_openAsk (ctx_cons sd_bitmap_bitmap_near_S_near (ctx_cons sd_bitmap_bitmap_extents_S_extents (ctx_cons sd_slices_SortStableFunc_depository_api_Run_depository_api_Run_M_stable (ctx_cons sd_bitmap_Gathered_f1_R_cmpG (ctx_cons sd_bitmap_first_S_first2 (ctx_cons sd_bitmap_unless_R_bitmap_unless ctx_nil))))))) (mkS_ok _ _) (by rintro _ _ ⟨_, _, _, _, rfl, _⟩; rfl) meets_GatheredD
theorem sd_law04_BitmapRoom_R_lawRoom : SoundAt prg n_law04_BitmapRoom (fnSpec R_lawRoom) := w_law04_BitmapRoom.sound mixed (ctx_cons sd_law04_awake_S_true0 (ctx_cons sd_law04_short_Q_short (ctx_cons sd_bitmap_FirstFit_S_FirstFit (ctx_cons sd_bitmap_BestFit_S_BestFit (ctx_cons sd_bitmap_NearFit_S_NearFit (ctx_cons sd_bitmap_Gathered_S_GatheredD (ctx_cons sd_ref04_Err_R_Err04 (ctx_cons sd_base_Within_Q_within (ctx_cons sd_law04_sameAt_Q_sameAt (ctx_cons sd_law04_sameRuns_Q_sameRuns (ctx_cons sd_ref04_First_S_refFirst (ctx_cons sd_ref04_Best_S_refBest (ctx_cons sd_ref04_Near_S_refNear (ctx_cons sd_ref04_Gathered_S_refGathered ctx_nil)))))))))))))) (fnSpec_ok _) (by rintro _ _ ⟨_, ⟨_, _, _, _, rfl, _⟩, _⟩; rfl) meets_lawRoom
theorem sd_law04_BitmapBack_R_lawBack : SoundAt prg n_law04_BitmapBack (fnSpec R_lawBack) := w_law04_BitmapBack.sound mixed (ctx_cons sd_law04_awake_S_true0 (ctx_cons sd_base_Within_Q_within (ctx_cons sd_ref04_Err_R_Err04w (ctx_cons sd_ref04_RunsErr_S_RunsErr (ctx_cons sd_bitmap_CountOf_S_CountOf (ctx_cons sd_bitmap_ExtentsOf_S_ExtentsOf (ctx_cons sd_bitmap_BitmapOf_S_BitmapOf (ctx_cons sd_bitmap_Marked_S_Marked_1 (ctx_cons sd_bitmap_Cleared_S_Marked_0 (ctx_cons sd_base_CopyRuns_S_CopyRuns ctx_nil)))))))))) (fnSpec_ok _) (by rintro _ _ ⟨_, ⟨_, _, _, rfl, _⟩, _⟩; rfl) meets_lawBack
theorem sd_law04_BitmapMarks_R_lawMarks : SoundAt prg n_law04_BitmapMarks (fnSpec R_lawMarks) := w_law04_BitmapMarks.sound mixed (ctx_cons sd_law04_awake_S_true0 (ctx_cons sd_law04_short_Q_short (ctx_cons sd_base_CopyRuns_S_CopyRuns (ctx_cons sd_bitmap_Marked_S_Marked_1 (ctx_cons sd_bitmap_Cleared_S_Marked_0 (ctx_cons sd_bitmap_BitmapOf_S_BitmapOf (ctx_cons sd_bitmap_Resized_S_Resized (ctx_cons sd_ref04_SizeErr_R_SizeErr (ctx_cons sd_ref04_RunsErr_S_RunsErr (ctx_cons sd_law04_same_Q_same (ctx_cons sd_ref04_Mark_S_Mark (ctx_cons sd_base_Zeros_R_Zeros (ctx_cons sd_base_Ceil_R_Ceil8 (ctx_cons sd_ref04_Err_R_Err04 (ctx_cons sd_ref04_MarkErr_S_MarkErr (ctx_cons sd_ref04_Bits_S_Bits (ctx_cons sd_ref04_From_S_From ctx_nil))))))))))))))))) (fnSpec_ok _) (by rintro _ _ ⟨_, ⟨_, _, _, _, _, _, rfl, _⟩, _⟩; rfl) meets_lawMarks
theorem sd_law04_BitmapFits_R_lawFits : SoundAt prg n_law04_BitmapFits (fnSpec R_lawFits) := w_law04_BitmapFits.sound mixed (ctx_cons sd_law04_awake_S_true0 (ctx_cons sd_base_Within_Q_within (ctx_cons sd_ref04_Err_R_Err04w (ctx_cons sd_bitmap_FirstFit_S_FirstFit (ctx_cons sd_bitmap_BestFit_S_BestFit (ctx_cons sd_bitmap_NearFit_S_NearFit (ctx_cons sd_bitmap_Gathered_S_GatheredD (ctx_cons sd_bitmap_Marked_S_Marked_1 (ctx_cons sd_base_SameRuns_Q_SameRuns (ctx_cons sd_ref04_Count_R_refCount (ctx_cons sd_base_CopyRuns_S_CopyRuns (ctx_cons sd_ref04_Extents_S_refExt ctx_nil)))))))))))) (fnSpec_ok _) (by rintro _ _ ⟨_, ⟨_, _, _, _, rfl, _⟩, _⟩; rfl) meets_lawFits
end Go.Dv.Try
end
section
/-
  The laws of chapter 4: what their arguments are.
-/
namespace Go.Dv.Try
open Go Go.Dv

theorem run_checks : ∀ xs, HasPs [(false, [.str]), (false, [.int .i64]), (false, [.int .i64])] xs → (fnSpec R_lawChecks).run xs fun r => r = .pv (.bool true) := by
  intro xs h
  simp only [HasPs] at h
  obtain ⟨y, _, rfl, _, h1, z, _, rfl, _, h2, u, _, rfl, _, h3, rfl⟩ := h
  obtain ⟨d, rfl, _⟩ := sig_str (h1 trivial)
  obtain ⟨n, rfl, _⟩ := sig_int (h2 trivial)
  obtain ⟨a, rfl, _⟩ := sig_int (h3 trivial)
  exact ⟨_, ⟨d, n, a, rfl, rfl⟩, rfl⟩
theorem run_extents : ∀ xs, HasPs [(false, [.str]), (false, [.str]), (true, [.int .i64, .int .i64])] xs → (fnSpec R_lawExtents).run xs fun r => r = .pv (.bool true) := by
  intro xs h
  simp only [HasPs] at h
  obtain ⟨y, _, rfl, _, h1, z, _, rfl, _, h2, u, _, rfl, h3, _, rfl⟩ := h
  obtain ⟨d, rfl, _⟩ := sig_str (h1 trivial)
  obtain ⟨e, rfl, _⟩ := sig_str (h2 trivial)
  obtain ⟨zs, rfl, h4⟩ := h3 trivial
  simp only [HasL, HasC] at h4
  obtain ⟨_, _, rfl, ⟨n, rfl, _⟩, _, _, rfl, ⟨v, rfl, _⟩, rfl⟩ := h4
  exact ⟨_, ⟨d, e, n, v, rfl, rfl⟩, rfl⟩
theorem run_room : ∀ xs, HasPs [(false, [.str]), (false, [.int .i64]), (true, [.int .i64, .int .i64])] xs → (fnSpec R_lawRoom).run xs fun r => r = .pv (.bool true) := by
  intro xs h
  simp only [HasPs] at h
  obtain ⟨y, _, rfl, _, h1, z, _, rfl, _, h2, u, _, rfl, h3, _, rfl⟩ := h
  obtain ⟨d, rfl, _⟩ := sig_str (h1 trivial)
  obtain ⟨e, rfl, _⟩ := sig_int (h2 trivial)
  obtain ⟨zs, rfl, h4⟩ := h3 trivial
  simp only [HasL, HasC] at h4
  obtain ⟨_, _, rfl, ⟨n, rfl, _⟩, _, _, rfl, ⟨v, rfl, _⟩, rfl⟩ := h4
  exact ⟨_, ⟨d, e, n, v, rfl, rfl⟩, rfl⟩
theorem sig_runs {y : PV} (h : HasL [.sl true [.int .i64, .int .i64]] [y]) : ∃ l : List Rn, y = .sl 2 (l.map Rn.pv) := by
  simp only [HasL, HasC] at h
  obtain ⟨_, _, e, ⟨els, rfl, _, h⟩, rfl⟩ := h
  injection e with e _
  subst e
  obtain ⟨l, rfl, _⟩ := list_of (g := Rn.pv) (q := fun _ => True) fun z hz => by
    obtain ⟨zs, rfl, y, ys, rfl, ⟨a, rfl, _⟩, y2, ys2, rfl, ⟨b, rfl, _⟩, rfl⟩ := (h z hz).1 trivial
    exact ⟨⟨a, b⟩, rfl, trivial⟩
  exact ⟨l, rfl⟩
theorem run_back : ∀ xs, HasPs [(false, [.str]), (false, [.int .i64]), (false, [.sl true [.int .i64, .int .i64]])] xs → (fnSpec R_lawBack).run xs fun r => r = .pv (.bool true) := by
  intro xs h
  simp only [HasPs] at h
  obtain ⟨y, _, rfl, _, h1, z, _, rfl, _, h2, u, _, rfl, _, h3, rfl⟩ := h
  obtain ⟨d, rfl, _⟩ := sig_str (h1 trivial)
  obtain ⟨n, rfl, _⟩ := sig_int (h2 trivial)
  obtain ⟨l, rfl⟩ := sig_runs (h3 trivial)
  exact ⟨_, ⟨d, n, l, rfl, rfl⟩, rfl⟩
theorem run_marks : ∀ xs, HasPs [(false, [.str]), (false, [.int .i64]), (true, [.sl true [.int .i64, .int .i64], .int .i64, .int .i64, .int .i64])] xs → (fnSpec R_lawMarks).run xs fun r => r = .pv (.bool true) := by
  intro xs h
  simp only [HasPs] at h
  obtain ⟨y, _, rfl, _, h1, z, _, rfl, _, h2, u, _, rfl, h3, _, rfl⟩ := h
  obtain ⟨d, rfl, _⟩ := sig_str (h1 trivial)
  obtain ⟨n, rfl, _⟩ := sig_int (h2 trivial)
  obtain ⟨zs, rfl, h4⟩ := h3 trivial
  unfold HasL at h4
  obtain ⟨w, ws, rfl, h5, h6⟩ := h4
  obtain ⟨l, rfl⟩ := sig_runs (y := w) (by unfold HasL HasL; exact ⟨_, _, rfl, h5, rfl⟩)
  simp only [HasL, HasC] at h6
  obtain ⟨_, _, rfl, ⟨v, rfl, _⟩, _, _, rfl, ⟨a, rfl, _⟩, _, _, rfl, ⟨t, rfl, _⟩, rfl⟩ := h6
  exact ⟨_, ⟨d, n, l, v, a, t, rfl, rfl⟩, rfl⟩
theorem run_fits : ∀ xs, HasPs [(false, [.str]), (false, [.int .i64]), (true, [.int .i64, .int .i64])] xs → (fnSpec R_lawFits).run xs fun r => r = .pv (.bool true) := by
  intro xs h
  simp only [HasPs] at h
  obtain ⟨y, _, rfl, _, h1, z, _, rfl, _, h2, u, _, rfl, h3, _, rfl⟩ := h
  obtain ⟨d, rfl, _⟩ := sig_str (h1 trivial)
  obtain ⟨e, rfl, _⟩ := sig_int (h2 trivial)
  obtain ⟨zs, rfl, h4⟩ := h3 trivial
  simp only [HasL, HasC] at h4
  obtain ⟨_, _, rfl, ⟨n, rfl, _⟩, _, _, rfl, ⟨v, rfl, _⟩, rfl⟩ := h4
  exact ⟨_, ⟨d, e, n, v, rfl, rfl⟩, rfl⟩
end Go.Dv.Try
end
