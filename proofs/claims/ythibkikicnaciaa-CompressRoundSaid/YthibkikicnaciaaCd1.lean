/-
  A part of the proof: own texts, laid together by a tool of our own: 2.
-/
import Derived.Test.YthibkikicnaciaaProg
import Derived.Test.YthibkikicnaciaaDv2
import Derived.KernelRfl
section
/-
  The compiled code of the functions: printed by a tool of our own out of the model's code, held against it by the kernel.
-/
namespace Go.Dv.Try
open Go Go.Dv
theorem mixed : Go.Proofs.Try.prog.follows .mixedOrders = true := by kernel_rfl
noncomputable abbrev prg : Program := Go.Proofs.Try.prog
abbrev n_gosem_cut_init : Nat := 2
abbrev n_law06_CompressGreedy : Nat := 3
abbrev n_law06_CompressOptimal : Nat := 4
abbrev n_law06_CompressShifts : Nat := 5
abbrev n_law06_CompressCosts : Nat := 6
abbrev n_law06_CompressBest : Nat := 7
abbrev n_law06_CompressTokens : Nat := 8
abbrev n_law06_CompressDecodes : Nat := 9
abbrev n_law06_CompressUnits : Nat := 10
abbrev n_law06_CompressRound : Nat := 11
abbrev n_law06_awake : Nat := 12
abbrev n_law06_few : Nat := 13
abbrev n_compress_GreedyOf : Nat := 14
abbrev n_ref06_DataErr : Nat := 15
abbrev n_ref06_SameTokens : Nat := 16
abbrev n_ref06_Greedy : Nat := 17
abbrev n_compress_OptimalOf : Nat := 18
abbrev n_compress_Encode : Nat := 19
abbrev n_ref06_Optimal : Nat := 20
abbrev n_ref06_Encode : Nat := 21
abbrev n_compress_ShiftAt : Nat := 22
abbrev n_base_Within : Nat := 23
abbrev n_ref06_Shift : Nat := 24
abbrev n_compress_CostsOf : Nat := 25
abbrev n_compress_CheckCosts : Nat := 26
abbrev n_base_CopyInts : Nat := 27
abbrev n_base_Ints : Nat := 28
abbrev n_ref06_Costs : Nat := 29
abbrev n_ref06_TokensErr : Nat := 30
abbrev n_ref06_Expanded : Nat := 31
abbrev n_ref06_Bits : Nat := 32
abbrev n_compress_CheckTokens : Nat := 33
abbrev n_ref06_CopyTokens : Nat := 34
abbrev n_compress_Expanded : Nat := 35
abbrev n_compress_ChunkOf : Nat := 36
abbrev n_ref06_CheckTokens : Nat := 37
abbrev n_ref06_Chunk : Nat := 38
abbrev n_compress_TokensOf : Nat := 39
abbrev n_compress_Decode : Nat := 40
abbrev n_ref06_TokensOf : Nat := 41
abbrev n_ref06_Decode : Nat := 42
abbrev n_law06_Unit : Nat := 43
abbrev n_compress_PackUnit : Nat := 44
abbrev n_ref06_Pack : Nat := 45
abbrev n_compress_UnpackUnit : Nat := 46
abbrev n_ref06_Unpack : Nat := 47
abbrev n_compress_dataErr : Nat := 48
abbrev n_compress_data_literal : Nat := 49
abbrev n_compress_data_matches : Nat := 50
abbrev n_compress_made : Nat := 51
abbrev n_ref06_literal : Nat := 52
abbrev n_ref06_Best : Nat := 53
abbrev n_ref06_Makes : Nat := 54
abbrev n_compress_data_optimal : Nat := 55
abbrev n_compress_head : Nat := 56
abbrev n_compress_chunk : Nat := 57
abbrev n_ref06_Match : Nat := 58
abbrev n_ref06_Body : Nat := 59
abbrev n_ref06_Head : Nat := 60
abbrev n_compress_within : Nat := 61
abbrev n_compress_shift : Nat := 62
abbrev n_base_Power : Nat := 63
abbrev n_compress_data_costs : Nat := 64
abbrev n_compress_first : Nat := 65
abbrev n_compress_unless : Nat := 66
abbrev n_compress_data_cost : Nat := 67
abbrev n_ref06_Cost : Nat := 68
abbrev n_ref06_Copy : Nat := 69
abbrev n_compress_tokenErr : Nat := 70
abbrev n_compress_expanded : Nat := 71
abbrev n_ref06_TokenErr : Nat := 72
abbrev n_compress_opened : Nat := 73
abbrev n_compress_tokens : Nat := 74
abbrev n_ref06_Parts : Nat := 75
abbrev n_base_LittleAt : Nat := 76
abbrev n_ref06_Tokens : Nat := 77
abbrev n_base_Zeros : Nat := 78
abbrev n_compress_zeros : Nat := 79
abbrev n_compress_clusters : Nat := 80
abbrev n_base_IsZeros : Nat := 81
abbrev n_ref06_Clusters : Nat := 82
abbrev n_compress_data_matches_f1 : Nat := 83
abbrev n_compress_data_room : Nat := 84
abbrev n_compress_data_match : Nat := 85
abbrev n_compress_isCopy : Nat := 86
abbrev n_ref06_Longest : Nat := 87
abbrev n_compress_data_nearest : Nat := 88
abbrev n_compress_word : Nat := 89
abbrev n_compress_tokenBytes : Nat := 90
abbrev n_strings_Builder_WriteByte : Nat := 91
abbrev n_strings_Builder_WriteString : Nat := 92
abbrev n_strings_Builder_Len : Nat := 93
abbrev n_strings_Builder_String : Nat := 94
abbrev n_base_Little : Nat := 95
abbrev n_base_Bit : Nat := 96
abbrev n_math_bits_Len : Nat := 97
abbrev n_compress_data_greatest : Nat := 98
abbrev n_compress_longest : Nat := 99
abbrev n_compress_wordAt : Nat := 100
abbrev n_strings_Repeat : Nat := 101
abbrev n_base_Mod : Nat := 102
abbrev n_strings_Builder_copyCheck : Nat := 103
abbrev n_math_bits_Len32 : Nat := 104
abbrev n_math_bits_Len64 : Nat := 105
/-! depository/depositorylaw06.CompressGreedy (1 parameters) -/
def c_law06_CompressGreedy_0 : PC := .region [
  ⟨some 2, none, .mv (.const (.bool false))⟩]
def c_law06_CompressGreedy_1 : PC := .region [
  ⟨some 6, none, .call 12 []⟩,
  ⟨some 7, none, .un .not (.tmp 6)⟩]
def c_law06_CompressGreedy_2 : PC := .region [
  ⟨some 2, none, .mv (.const (.bool false))⟩]
def c_law06_CompressGreedy_3 : PC := .seq c_law06_CompressGreedy_2 .ret
def c_law06_CompressGreedy_4 : PC := .cond (.tmp 7) c_law06_CompressGreedy_3 .skip
def c_law06_CompressGreedy_5 : PC := .seq c_law06_CompressGreedy_1 c_law06_CompressGreedy_4
def c_law06_CompressGreedy_6 : PC := .region [
  ⟨some 8, none, .mv (.tmp 0)⟩,
  ⟨some 9, none, .call 13 [.tmp 8]⟩,
  ⟨some 10, none, .un .not (.tmp 9)⟩]
def c_law06_CompressGreedy_7 : PC := .region [
  ⟨some 2, none, .mv (.const (.bool true))⟩]
def c_law06_CompressGreedy_8 : PC := .seq c_law06_CompressGreedy_7 .ret
def c_law06_CompressGreedy_9 : PC := .cond (.tmp 10) c_law06_CompressGreedy_8 .skip
def c_law06_CompressGreedy_10 : PC := .seq c_law06_CompressGreedy_6 c_law06_CompressGreedy_9
def c_law06_CompressGreedy_11 : PC := .region [
  ⟨some 12, none, .mv (.tmp 0)⟩,
  ⟨some 13, none, .call 14 [.tmp 12]⟩,
  ⟨some 11, none, .mv (.tmp 13)⟩,
  ⟨some 14, none, .ext (.tmp 11) 0⟩,
  ⟨some 15, none, .ext (.tmp 11) 1⟩,
  ⟨some 3, none, .mv (.tmp 14)⟩,
  ⟨some 4, none, .mv (.tmp 15)⟩]
def c_law06_CompressGreedy_12 : PC := .region [
  ⟨some 16, none, .mv (.tmp 0)⟩,
  ⟨some 17, none, .call 15 [.tmp 16]⟩,
  ⟨some 5, none, .mv (.tmp 17)⟩]
def c_law06_CompressGreedy_13 : PC := .region [
  ⟨some 18, none, .mv (.tmp 5)⟩,
  ⟨some 19, none, .bin .neq (.tmp 18) (.const (.int .i64 0))⟩]
def c_law06_CompressGreedy_14 : PC := .region [
  ⟨some 20, none, .mv (.tmp 4)⟩,
  ⟨some 21, none, .mv (.tmp 5)⟩,
  ⟨some 22, none, .bin .eql (.tmp 20) (.tmp 21)⟩,
  ⟨some 23, none, .mv (.tmp 22)⟩,
  ⟨some 24, some (⟨23, true⟩), .mv (.tmp 3)⟩,
  ⟨some 25, some (⟨23, true⟩), .lenR (.tmp 24)⟩,
  ⟨some 26, some (⟨23, true⟩), .bin .eql (.tmp 25) (.const (.int .i64 0))⟩,
  ⟨some 27, none, .pick (.tmp 23) (.tmp 26) (.const (.bool false))⟩,
  ⟨some 2, none, .mv (.tmp 27)⟩]
def c_law06_CompressGreedy_15 : PC := .seq c_law06_CompressGreedy_14 .ret
def c_law06_CompressGreedy_16 : PC := .cond (.tmp 19) c_law06_CompressGreedy_15 .skip
def c_law06_CompressGreedy_17 : PC := .seq c_law06_CompressGreedy_13 c_law06_CompressGreedy_16
def c_law06_CompressGreedy_18 : PC := .seq c_law06_CompressGreedy_12 c_law06_CompressGreedy_17
def c_law06_CompressGreedy_19 : PC := .region [
  ⟨some 28, none, .mv (.tmp 4)⟩,
  ⟨some 29, none, .bin .eql (.tmp 28) (.const (.int .i64 0))⟩,
  ⟨some 30, none, .mv (.tmp 29)⟩,
  ⟨some 31, some (⟨30, true⟩), .mv (.tmp 3)⟩,
  ⟨some 32, some (⟨30, true⟩), .mv (.tmp 0)⟩,
  ⟨some 33, some (⟨30, true⟩), .call 17 [.tmp 32]⟩,
  ⟨some 34, some (⟨30, true⟩), .call 16 [.tmp 31, .tmp 33]⟩,
  ⟨some 35, none, .pick (.tmp 30) (.tmp 34) (.const (.bool false))⟩,
  ⟨some 2, none, .mv (.tmp 35)⟩]
def c_law06_CompressGreedy_20 : PC := .seq c_law06_CompressGreedy_19 .ret
def c_law06_CompressGreedy_21 : PC := .seq c_law06_CompressGreedy_18 c_law06_CompressGreedy_20
def c_law06_CompressGreedy_22 : PC := .seq c_law06_CompressGreedy_11 c_law06_CompressGreedy_21
def c_law06_CompressGreedy_23 : PC := .seq c_law06_CompressGreedy_10 c_law06_CompressGreedy_22
def c_law06_CompressGreedy_24 : PC := .seq c_law06_CompressGreedy_5 c_law06_CompressGreedy_23
def c_law06_CompressGreedy_25 : PC := .seq c_law06_CompressGreedy_0 c_law06_CompressGreedy_24
def c_law06_CompressGreedy : PC := c_law06_CompressGreedy_25
def s_law06_CompressGreedy : List Nat := [0, 2, 3, 4, 5]
def r_law06_CompressGreedy : List (Nat × Option (Bool × Nat)) := [⟨2, none⟩]
theorem sound_law06_CompressGreedy {Γ : Ctx} {S : Spec} (hΓ : Sound Go.Proofs.Try.prog Γ) (hS : FnOk S) (hargs : ∀ args K, S.run args K → args.length = 1) (h : Meets Γ s_law06_CompressGreedy c_law06_CompressGreedy r_law06_CompressGreedy S) : SoundAt Go.Proofs.Try.prog n_law06_CompressGreedy S := by
  have hb : ∃ c, Go.Proofs.Try.f3.body = some c ∧ compC Go.Proofs.Try.prog Go.Proofs.Try.f3.ntmps c = some (strip c_law06_CompressGreedy) := ⟨_, rfl, by kernel_rfl⟩
  obtain ⟨c, hb, hc⟩ := hb
  exact meets_sound hΓ mixed (fn := Go.Proofs.Try.f3) (by kernel_rfl) (by kernel_rfl) hb hc (l := [.tmp 2]) (by kernel_rfl) (by kernel_rfl) (by decide) hS 1 (by decide) hargs h

/-! depository/depositorylaw06.CompressOptimal (1 parameters) -/
def c_law06_CompressOptimal_0 : PC := .region [
  ⟨some 2, none, .mv (.const (.bool false))⟩]
def c_law06_CompressOptimal_1 : PC := .region [
  ⟨some 8, none, .call 12 []⟩,
  ⟨some 9, none, .un .not (.tmp 8)⟩]
def c_law06_CompressOptimal_2 : PC := .region [
  ⟨some 2, none, .mv (.const (.bool false))⟩]
def c_law06_CompressOptimal_3 : PC := .seq c_law06_CompressOptimal_2 .ret
def c_law06_CompressOptimal_4 : PC := .cond (.tmp 9) c_law06_CompressOptimal_3 .skip
def c_law06_CompressOptimal_5 : PC := .seq c_law06_CompressOptimal_1 c_law06_CompressOptimal_4
def c_law06_CompressOptimal_6 : PC := .region [
  ⟨some 10, none, .mv (.tmp 0)⟩,
  ⟨some 11, none, .call 13 [.tmp 10]⟩,
  ⟨some 12, none, .un .not (.tmp 11)⟩]
def c_law06_CompressOptimal_7 : PC := .region [
  ⟨some 2, none, .mv (.const (.bool true))⟩]
def c_law06_CompressOptimal_8 : PC := .seq c_law06_CompressOptimal_7 .ret
def c_law06_CompressOptimal_9 : PC := .cond (.tmp 12) c_law06_CompressOptimal_8 .skip
def c_law06_CompressOptimal_10 : PC := .seq c_law06_CompressOptimal_6 c_law06_CompressOptimal_9
def c_law06_CompressOptimal_11 : PC := .region [
  ⟨some 14, none, .mv (.tmp 0)⟩,
  ⟨some 15, none, .call 18 [.tmp 14]⟩,
  ⟨some 13, none, .mv (.tmp 15)⟩,
  ⟨some 16, none, .ext (.tmp 13) 0⟩,
  ⟨some 17, none, .ext (.tmp 13) 1⟩,
  ⟨some 3, none, .mv (.tmp 16)⟩,
  ⟨some 4, none, .mv (.tmp 17)⟩]
def c_law06_CompressOptimal_12 : PC := .region [
  ⟨some 19, none, .mv (.tmp 0)⟩,
  ⟨some 20, none, .call 19 [.tmp 19]⟩,
  ⟨some 18, none, .mv (.tmp 20)⟩,
  ⟨some 21, none, .ext (.tmp 18) 0⟩,
  ⟨some 22, none, .ext (.tmp 18) 1⟩,
  ⟨some 5, none, .mv (.tmp 21)⟩,
  ⟨some 6, none, .mv (.tmp 22)⟩]
def c_law06_CompressOptimal_13 : PC := .region [
  ⟨some 23, none, .mv (.tmp 0)⟩,
  ⟨some 24, none, .call 15 [.tmp 23]⟩,
  ⟨some 7, none, .mv (.tmp 24)⟩]
def c_law06_CompressOptimal_14 : PC := .region [
  ⟨some 25, none, .mv (.tmp 7)⟩,
  ⟨some 26, none, .bin .neq (.tmp 25) (.const (.int .i64 0))⟩]
def c_law06_CompressOptimal_15 : PC := .region [
  ⟨some 27, none, .mv (.tmp 4)⟩,
  ⟨some 28, none, .mv (.tmp 7)⟩,
  ⟨some 29, none, .bin .eql (.tmp 27) (.tmp 28)⟩,
  ⟨some 30, none, .mv (.tmp 29)⟩,
  ⟨some 31, some (⟨30, true⟩), .mv (.tmp 3)⟩,
  ⟨some 32, some (⟨30, true⟩), .lenR (.tmp 31)⟩,
  ⟨some 33, some (⟨30, true⟩), .bin .eql (.tmp 32) (.const (.int .i64 0))⟩,
  ⟨some 34, none, .pick (.tmp 30) (.tmp 33) (.const (.bool false))⟩,
  ⟨some 35, none, .mv (.tmp 34)⟩,
  ⟨some 36, some (⟨35, true⟩), .mv (.tmp 6)⟩,
  ⟨some 37, some (⟨35, true⟩), .mv (.tmp 7)⟩,
  ⟨some 38, some (⟨35, true⟩), .bin .eql (.tmp 36) (.tmp 37)⟩,
  ⟨some 39, none, .pick (.tmp 35) (.tmp 38) (.const (.bool false))⟩,
  ⟨some 40, none, .mv (.tmp 39)⟩,
  ⟨some 41, some (⟨40, true⟩), .mv (.tmp 5)⟩,
  ⟨some 42, some (⟨40, true⟩), .bin .eql (.tmp 41) (.const (.string (ByteArray.mk (Array.mk []))))⟩,
  ⟨some 43, none, .pick (.tmp 40) (.tmp 42) (.const (.bool false))⟩,
  ⟨some 2, none, .mv (.tmp 43)⟩]
def c_law06_CompressOptimal_16 : PC := .seq c_law06_CompressOptimal_15 .ret
def c_law06_CompressOptimal_17 : PC := .cond (.tmp 26) c_law06_CompressOptimal_16 .skip
def c_law06_CompressOptimal_18 : PC := .seq c_law06_CompressOptimal_14 c_law06_CompressOptimal_17
def c_law06_CompressOptimal_19 : PC := .seq c_law06_CompressOptimal_13 c_law06_CompressOptimal_18
def c_law06_CompressOptimal_20 : PC := .region [
  ⟨some 44, none, .mv (.tmp 4)⟩,
  ⟨some 45, none, .bin .eql (.tmp 44) (.const (.int .i64 0))⟩,
  ⟨some 46, none, .mv (.tmp 45)⟩,
  ⟨some 47, some (⟨46, true⟩), .mv (.tmp 3)⟩,
  ⟨some 48, some (⟨46, true⟩), .mv (.tmp 0)⟩,
  ⟨some 49, some (⟨46, true⟩), .call 20 [.tmp 48]⟩,
  ⟨some 50, some (⟨46, true⟩), .call 16 [.tmp 47, .tmp 49]⟩,
  ⟨some 51, none, .pick (.tmp 46) (.tmp 50) (.const (.bool false))⟩,
  ⟨some 52, none, .mv (.tmp 51)⟩,
  ⟨some 53, some (⟨52, true⟩), .mv (.tmp 6)⟩,
  ⟨some 54, some (⟨52, true⟩), .bin .eql (.tmp 53) (.const (.int .i64 0))⟩,
  ⟨some 55, none, .pick (.tmp 52) (.tmp 54) (.const (.bool false))⟩,
  ⟨some 56, none, .mv (.tmp 55)⟩,
  ⟨some 57, some (⟨56, true⟩), .mv (.tmp 5)⟩,
  ⟨some 58, some (⟨56, true⟩), .mv (.tmp 0)⟩,
  ⟨some 59, some (⟨56, true⟩), .call 21 [.tmp 58]⟩,
  ⟨some 60, some (⟨56, true⟩), .bin .eql (.tmp 57) (.tmp 59)⟩,
  ⟨some 61, none, .pick (.tmp 56) (.tmp 60) (.const (.bool false))⟩,
  ⟨some 2, none, .mv (.tmp 61)⟩]
def c_law06_CompressOptimal_21 : PC := .seq c_law06_CompressOptimal_20 .ret
def c_law06_CompressOptimal_22 : PC := .seq c_law06_CompressOptimal_19 c_law06_CompressOptimal_21
def c_law06_CompressOptimal_23 : PC := .seq c_law06_CompressOptimal_12 c_law06_CompressOptimal_22
def c_law06_CompressOptimal_24 : PC := .seq c_law06_CompressOptimal_11 c_law06_CompressOptimal_23
def c_law06_CompressOptimal_25 : PC := .seq c_law06_CompressOptimal_10 c_law06_CompressOptimal_24
def c_law06_CompressOptimal_26 : PC := .seq c_law06_CompressOptimal_5 c_law06_CompressOptimal_25
def c_law06_CompressOptimal_27 : PC := .seq c_law06_CompressOptimal_0 c_law06_CompressOptimal_26
def c_law06_CompressOptimal : PC := c_law06_CompressOptimal_27
def s_law06_CompressOptimal : List Nat := [0, 2, 3, 4, 5, 6, 7]
def r_law06_CompressOptimal : List (Nat × Option (Bool × Nat)) := [⟨2, none⟩]
theorem sound_law06_CompressOptimal {Γ : Ctx} {S : Spec} (hΓ : Sound Go.Proofs.Try.prog Γ) (hS : FnOk S) (hargs : ∀ args K, S.run args K → args.length = 1) (h : Meets Γ s_law06_CompressOptimal c_law06_CompressOptimal r_law06_CompressOptimal S) : SoundAt Go.Proofs.Try.prog n_law06_CompressOptimal S := by
  have hb : ∃ c, Go.Proofs.Try.f4.body = some c ∧ compC Go.Proofs.Try.prog Go.Proofs.Try.f4.ntmps c = some (strip c_law06_CompressOptimal) := ⟨_, rfl, by kernel_rfl⟩
  obtain ⟨c, hb, hc⟩ := hb
  exact meets_sound hΓ mixed (fn := Go.Proofs.Try.f4) (by kernel_rfl) (by kernel_rfl) hb hc (l := [.tmp 2]) (by kernel_rfl) (by kernel_rfl) (by decide) hS 1 (by decide) hargs h

/-! depository/depositorylaw06.CompressShifts (1 parameters) -/
def c_law06_CompressShifts_0 : PC := .region [
  ⟨some 2, none, .mv (.const (.bool false))⟩]
def c_law06_CompressShifts_1 : PC := .region [
  ⟨some 5, none, .call 12 []⟩,
  ⟨some 6, none, .un .not (.tmp 5)⟩]
def c_law06_CompressShifts_2 : PC := .region [
  ⟨some 2, none, .mv (.const (.bool false))⟩]
def c_law06_CompressShifts_3 : PC := .seq c_law06_CompressShifts_2 .ret
def c_law06_CompressShifts_4 : PC := .cond (.tmp 6) c_law06_CompressShifts_3 .skip
def c_law06_CompressShifts_5 : PC := .seq c_law06_CompressShifts_1 c_law06_CompressShifts_4
def c_law06_CompressShifts_6 : PC := .region [
  ⟨some 8, none, .mv (.tmp 0)⟩,
  ⟨some 9, none, .call 22 [.tmp 8]⟩,
  ⟨some 7, none, .mv (.tmp 9)⟩,
  ⟨some 10, none, .ext (.tmp 7) 0⟩,
  ⟨some 11, none, .ext (.tmp 7) 1⟩,
  ⟨some 3, none, .mv (.tmp 10)⟩,
  ⟨some 4, none, .mv (.tmp 11)⟩]
def c_law06_CompressShifts_7 : PC := .region [
  ⟨some 12, none, .mv (.tmp 0)⟩,
  ⟨some 13, none, .call 23 [.tmp 12, .const (.int .i64 0), .const (.int .i64 4095)]⟩,
  ⟨some 14, none, .un .not (.tmp 13)⟩]
def c_law06_CompressShifts_8 : PC := .region [
  ⟨some 15, none, .mv (.tmp 4)⟩,
  ⟨some 16, none, .bin .eql (.tmp 15) (.const (.int .i64 2))⟩,
  ⟨some 17, none, .mv (.tmp 16)⟩,
  ⟨some 18, some (⟨17, true⟩), .mv (.tmp 3)⟩,
  ⟨some 19, some (⟨17, true⟩), .bin .eql (.tmp 18) (.const (.int .i64 0))⟩,
  ⟨some 20, none, .pick (.tmp 17) (.tmp 19) (.const (.bool false))⟩,
  ⟨some 2, none, .mv (.tmp 20)⟩]
def c_law06_CompressShifts_9 : PC := .seq c_law06_CompressShifts_8 .ret
def c_law06_CompressShifts_10 : PC := .cond (.tmp 14) c_law06_CompressShifts_9 .skip
def c_law06_CompressShifts_11 : PC := .seq c_law06_CompressShifts_7 c_law06_CompressShifts_10
def c_law06_CompressShifts_12 : PC := .region [
  ⟨some 21, none, .mv (.tmp 4)⟩,
  ⟨some 22, none, .bin .eql (.tmp 21) (.const (.int .i64 0))⟩,
  ⟨some 23, none, .mv (.tmp 22)⟩,
  ⟨some 24, some (⟨23, true⟩), .mv (.tmp 3)⟩,
  ⟨some 25, some (⟨23, true⟩), .mv (.tmp 0)⟩,
  ⟨some 26, some (⟨23, true⟩), .call 24 [.tmp 25]⟩,
  ⟨some 27, some (⟨23, true⟩), .bin .eql (.tmp 24) (.tmp 26)⟩,
  ⟨some 28, none, .pick (.tmp 23) (.tmp 27) (.const (.bool false))⟩,
  ⟨some 2, none, .mv (.tmp 28)⟩]
def c_law06_CompressShifts_13 : PC := .seq c_law06_CompressShifts_12 .ret
def c_law06_CompressShifts_14 : PC := .seq c_law06_CompressShifts_11 c_law06_CompressShifts_13
def c_law06_CompressShifts_15 : PC := .seq c_law06_CompressShifts_6 c_law06_CompressShifts_14
def c_law06_CompressShifts_16 : PC := .seq c_law06_CompressShifts_5 c_law06_CompressShifts_15
def c_law06_CompressShifts_17 : PC := .seq c_law06_CompressShifts_0 c_law06_CompressShifts_16
def c_law06_CompressShifts : PC := c_law06_CompressShifts_17
def s_law06_CompressShifts : List Nat := [0, 2, 3, 4]
def r_law06_CompressShifts : List (Nat × Option (Bool × Nat)) := [⟨2, none⟩]
theorem sound_law06_CompressShifts {Γ : Ctx} {S : Spec} (hΓ : Sound Go.Proofs.Try.prog Γ) (hS : FnOk S) (hargs : ∀ args K, S.run args K → args.length = 1) (h : Meets Γ s_law06_CompressShifts c_law06_CompressShifts r_law06_CompressShifts S) : SoundAt Go.Proofs.Try.prog n_law06_CompressShifts S := by
  have hb : ∃ c, Go.Proofs.Try.f5.body = some c ∧ compC Go.Proofs.Try.prog Go.Proofs.Try.f5.ntmps c = some (strip c_law06_CompressShifts) := ⟨_, rfl, by kernel_rfl⟩
  obtain ⟨c, hb, hc⟩ := hb
  exact meets_sound hΓ mixed (fn := Go.Proofs.Try.f5) (by kernel_rfl) (by kernel_rfl) hb hc (l := [.tmp 2]) (by kernel_rfl) (by kernel_rfl) (by decide) hS 1 (by decide) hargs h

/-! depository/depositorylaw06.CompressCosts (2 parameters) -/
def c_law06_CompressCosts_0 : PC := .region [
  ⟨some 4, none, .mv (.const (.bool false))⟩]
def c_law06_CompressCosts_1 : PC := .region [
  ⟨some 11, none, .call 12 []⟩,
  ⟨some 12, none, .un .not (.tmp 11)⟩]
def c_law06_CompressCosts_2 : PC := .region [
  ⟨some 4, none, .mv (.const (.bool false))⟩]
def c_law06_CompressCosts_3 : PC := .seq c_law06_CompressCosts_2 .ret
def c_law06_CompressCosts_4 : PC := .cond (.tmp 12) c_law06_CompressCosts_3 .skip
def c_law06_CompressCosts_5 : PC := .seq c_law06_CompressCosts_1 c_law06_CompressCosts_4
def c_law06_CompressCosts_6 : PC := .region [
  ⟨some 13, none, .mv (.tmp 0)⟩,
  ⟨some 14, none, .call 13 [.tmp 13]⟩,
  ⟨some 15, none, .un .not (.tmp 14)⟩,
  ⟨some 16, none, .mv (.tmp 15)⟩,
  ⟨some 17, some (⟨16, false⟩), .mv (.tmp 1)⟩,
  ⟨some 18, some (⟨16, false⟩), .lenR (.tmp 17)⟩,
  ⟨some 19, some (⟨16, false⟩), .bin .gtr (.tmp 18) (.const (.int .i64 400))⟩,
  ⟨some 20, none, .pick (.tmp 16) (.const (.bool true)) (.tmp 19)⟩]
def c_law06_CompressCosts_7 : PC := .region [
  ⟨some 4, none, .mv (.const (.bool true))⟩]
def c_law06_CompressCosts_8 : PC := .seq c_law06_CompressCosts_7 .ret
def c_law06_CompressCosts_9 : PC := .cond (.tmp 20) c_law06_CompressCosts_8 .skip
def c_law06_CompressCosts_10 : PC := .seq c_law06_CompressCosts_6 c_law06_CompressCosts_9
def c_law06_CompressCosts_11 : PC := .region [
  ⟨some 22, none, .mv (.tmp 0)⟩,
  ⟨some 23, none, .call 25 [.tmp 22]⟩,
  ⟨some 21, none, .mv (.tmp 23)⟩,
  ⟨some 24, none, .ext (.tmp 21) 0⟩,
  ⟨some 25, none, .ext (.tmp 21) 1⟩,
  ⟨some 5, none, .mv (.tmp 24)⟩,
  ⟨some 6, none, .mv (.tmp 25)⟩]
def c_law06_CompressCosts_12 : PC := .region [
  ⟨some 27, none, .mv (.tmp 0)⟩,
  ⟨some 28, none, .mv (.tmp 1)⟩,
  ⟨some 29, none, .call 27 [.tmp 28]⟩,
  ⟨some 30, none, .call 26 [.tmp 27, .tmp 29]⟩,
  ⟨some 26, none, .mv (.tmp 30)⟩,
  ⟨some 31, none, .ext (.tmp 26) 0⟩,
  ⟨some 32, none, .ext (.tmp 26) 1⟩,
  ⟨some 7, none, .mv (.tmp 31)⟩,
  ⟨some 8, none, .mv (.tmp 32)⟩]
def c_law06_CompressCosts_13 : PC := .region [
  ⟨some 33, none, .mv (.tmp 0)⟩,
  ⟨some 34, none, .call 15 [.tmp 33]⟩,
  ⟨some 9, none, .mv (.tmp 34)⟩]
def c_law06_CompressCosts_14 : PC := .region [
  ⟨some 35, none, .mv (.tmp 9)⟩,
  ⟨some 36, none, .bin .neq (.tmp 35) (.const (.int .i64 0))⟩]
def c_law06_CompressCosts_15 : PC := .region [
  ⟨some 37, none, .mv (.tmp 6)⟩,
  ⟨some 38, none, .mv (.tmp 9)⟩,
  ⟨some 39, none, .bin .eql (.tmp 37) (.tmp 38)⟩,
  ⟨some 40, none, .mv (.tmp 39)⟩,
  ⟨some 41, some (⟨40, true⟩), .mv (.tmp 5)⟩,
  ⟨some 42, some (⟨40, true⟩), .lenR (.tmp 41)⟩,
  ⟨some 43, some (⟨40, true⟩), .bin .eql (.tmp 42) (.const (.int .i64 0))⟩,
  ⟨some 44, none, .pick (.tmp 40) (.tmp 43) (.const (.bool false))⟩,
  ⟨some 45, none, .mv (.tmp 44)⟩,
  ⟨some 46, some (⟨45, true⟩), .mv (.tmp 8)⟩,
  ⟨some 47, some (⟨45, true⟩), .mv (.tmp 9)⟩,
  ⟨some 48, some (⟨45, true⟩), .bin .eql (.tmp 46) (.tmp 47)⟩,
  ⟨some 49, none, .pick (.tmp 45) (.tmp 48) (.const (.bool false))⟩,
  ⟨some 50, none, .mv (.tmp 49)⟩,
  ⟨some 51, some (⟨50, true⟩), .mv (.tmp 7)⟩,
  ⟨some 52, some (⟨50, true⟩), .bin .eql (.tmp 51) (.const (.int .i64 0))⟩,
  ⟨some 53, none, .pick (.tmp 50) (.tmp 52) (.const (.bool false))⟩,
  ⟨some 4, none, .mv (.tmp 53)⟩]
def c_law06_CompressCosts_16 : PC := .seq c_law06_CompressCosts_15 .ret
def c_law06_CompressCosts_17 : PC := .cond (.tmp 36) c_law06_CompressCosts_16 .skip
def c_law06_CompressCosts_18 : PC := .seq c_law06_CompressCosts_14 c_law06_CompressCosts_17
def c_law06_CompressCosts_19 : PC := .seq c_law06_CompressCosts_13 c_law06_CompressCosts_18
def c_law06_CompressCosts_20 : PC := .region [
  ⟨some 54, none, .mv (.tmp 6)⟩,
  ⟨some 55, none, .bin .neq (.tmp 54) (.const (.int .i64 0))⟩,
  ⟨some 56, none, .mv (.tmp 55)⟩,
  ⟨some 57, some (⟨56, false⟩), .mv (.tmp 5)⟩,
  ⟨some 58, some (⟨56, false⟩), .mv (.tmp 0)⟩,
  ⟨some 59, some (⟨56, false⟩), .call 29 [.tmp 58]⟩,
  ⟨some 60, some (⟨56, false⟩), .call 28 [.tmp 57, .tmp 59]⟩,
  ⟨some 61, some (⟨56, false⟩), .un .not (.tmp 60)⟩,
  ⟨some 62, none, .pick (.tmp 56) (.const (.bool true)) (.tmp 61)⟩]
def c_law06_CompressCosts_21 : PC := .region [
  ⟨some 4, none, .mv (.const (.bool false))⟩]
def c_law06_CompressCosts_22 : PC := .seq c_law06_CompressCosts_21 .ret
def c_law06_CompressCosts_23 : PC := .cond (.tmp 62) c_law06_CompressCosts_22 .skip
def c_law06_CompressCosts_24 : PC := .seq c_law06_CompressCosts_20 c_law06_CompressCosts_23
def c_law06_CompressCosts_25 : PC := .region [
  ⟨some 63, none, .mv (.tmp 1)⟩,
  ⟨some 64, none, .lenR (.tmp 63)⟩,
  ⟨some 65, none, .mv (.tmp 0)⟩,
  ⟨some 66, none, .lenS (.tmp 65)⟩,
  ⟨some 67, none, .bin .add (.tmp 66) (.const (.int .i64 1))⟩,
  ⟨some 68, none, .bin .neq (.tmp 64) (.tmp 67)⟩]
def c_law06_CompressCosts_26 : PC := .region [
  ⟨some 69, none, .mv (.tmp 8)⟩,
  ⟨some 70, none, .bin .eql (.tmp 69) (.const (.int .i64 10))⟩,
  ⟨some 71, none, .mv (.tmp 70)⟩,
  ⟨some 72, some (⟨71, true⟩), .mv (.tmp 7)⟩,
  ⟨some 73, some (⟨71, true⟩), .bin .eql (.tmp 72) (.const (.int .i64 0))⟩,
  ⟨some 74, none, .pick (.tmp 71) (.tmp 73) (.const (.bool false))⟩,
  ⟨some 4, none, .mv (.tmp 74)⟩]
def c_law06_CompressCosts_27 : PC := .seq c_law06_CompressCosts_26 .ret
def c_law06_CompressCosts_28 : PC := .cond (.tmp 68) c_law06_CompressCosts_27 .skip
def c_law06_CompressCosts_29 : PC := .seq c_law06_CompressCosts_25 c_law06_CompressCosts_28
def c_law06_CompressCosts_30 : PC := .region [
  ⟨some 75, none, .mv (.tmp 0)⟩,
  ⟨some 76, none, .lenS (.tmp 75)⟩,
  ⟨some 10, none, .mv (.tmp 76)⟩]
def c_law06_CompressCosts_31 : PC := .region [
  ⟨some 77, none, .mv (.tmp 10)⟩,
  ⟨some 78, none, .bin .geq (.tmp 77) (.const (.int .i64 0))⟩]
def c_law06_CompressCosts_32 : PC := .cond (.tmp 78) .skip (.exit 0)
def c_law06_CompressCosts_33 : PC := .seq c_law06_CompressCosts_31 c_law06_CompressCosts_32
def c_law06_CompressCosts_34 : PC := .draw [
  ⟨some 81, none, .mv (.tmp 1)⟩,
  ⟨some 82, none, .mv (.tmp 10)⟩,
  ⟨some 83, none, .idxA 1 (.tmp 81) (.tmp 82)⟩,
  ⟨some 84, none, .load false 1 (.tmp 83)⟩,
  ⟨some 85, none, .mv (.tmp 5)⟩,
  ⟨some 86, none, .mv (.tmp 10)⟩,
  ⟨some 87, none, .idxA 1 (.tmp 85) (.tmp 86)⟩,
  ⟨some 88, none, .load false 1 (.tmp 87)⟩,
  ⟨some 89, none, .bin .neq (.tmp 84) (.tmp 88)⟩]
  [[], [], [0, 1], [2], [], [], [4, 5], [6], [3, 7]]
def c_law06_CompressCosts_35 : PC := .region [
  ⟨some 90, none, .mv (.tmp 8)⟩,
  ⟨some 91, none, .bin .eql (.tmp 90) (.const (.int .i64 19))⟩,
  ⟨some 92, none, .mv (.tmp 91)⟩,
  ⟨some 93, some (⟨92, true⟩), .mv (.tmp 7)⟩,
  ⟨some 94, some (⟨92, true⟩), .mv (.tmp 10)⟩,
  ⟨some 95, some (⟨92, true⟩), .bin .eql (.tmp 93) (.tmp 94)⟩,
  ⟨some 96, none, .pick (.tmp 92) (.tmp 95) (.const (.bool false))⟩,
  ⟨some 4, none, .mv (.tmp 96)⟩]
def c_law06_CompressCosts_36 : PC := .seq c_law06_CompressCosts_35 .ret
def c_law06_CompressCosts_37 : PC := .cond (.tmp 89) c_law06_CompressCosts_36 .skip
def c_law06_CompressCosts_38 : PC := .seq c_law06_CompressCosts_34 c_law06_CompressCosts_37
def c_law06_CompressCosts_39 : PC := .block 1 c_law06_CompressCosts_38
def c_law06_CompressCosts_40 : PC := .region [
  ⟨some 79, none, .mv (.tmp 10)⟩,
  ⟨some 80, none, .bin .sub (.tmp 79) (.const (.int .i64 1))⟩,
  ⟨some 10, none, .mv (.tmp 80)⟩]
def c_law06_CompressCosts_41 : PC := .seq c_law06_CompressCosts_39 c_law06_CompressCosts_40
def c_law06_CompressCosts_42 : PC := .seq c_law06_CompressCosts_33 c_law06_CompressCosts_41
def c_law06_CompressCosts_43 : PC := .loop [1, 5, 7, 8, 10] c_law06_CompressCosts_42
def c_law06_CompressCosts_44 : PC := .block 0 c_law06_CompressCosts_43
def c_law06_CompressCosts_45 : PC := .seq c_law06_CompressCosts_30 c_law06_CompressCosts_44
def c_law06_CompressCosts_46 : PC := .region [
  ⟨some 97, none, .mv (.tmp 8)⟩,
  ⟨some 98, none, .bin .eql (.tmp 97) (.const (.int .i64 0))⟩,
  ⟨some 99, none, .mv (.tmp 98)⟩,
  ⟨some 100, some (⟨99, true⟩), .mv (.tmp 7)⟩,
  ⟨some 101, some (⟨99, true⟩), .bin .eql (.tmp 100) (.const (.int .i64 0))⟩,
  ⟨some 102, none, .pick (.tmp 99) (.tmp 101) (.const (.bool false))⟩,
  ⟨some 4, none, .mv (.tmp 102)⟩]
def c_law06_CompressCosts_47 : PC := .seq c_law06_CompressCosts_46 .ret
def c_law06_CompressCosts_48 : PC := .seq c_law06_CompressCosts_45 c_law06_CompressCosts_47
def c_law06_CompressCosts_49 : PC := .seq c_law06_CompressCosts_29 c_law06_CompressCosts_48
def c_law06_CompressCosts_50 : PC := .seq c_law06_CompressCosts_24 c_law06_CompressCosts_49
def c_law06_CompressCosts_51 : PC := .seq c_law06_CompressCosts_19 c_law06_CompressCosts_50
def c_law06_CompressCosts_52 : PC := .seq c_law06_CompressCosts_12 c_law06_CompressCosts_51
def c_law06_CompressCosts_53 : PC := .seq c_law06_CompressCosts_11 c_law06_CompressCosts_52
def c_law06_CompressCosts_54 : PC := .seq c_law06_CompressCosts_10 c_law06_CompressCosts_53
def c_law06_CompressCosts_55 : PC := .seq c_law06_CompressCosts_5 c_law06_CompressCosts_54
def c_law06_CompressCosts_56 : PC := .seq c_law06_CompressCosts_0 c_law06_CompressCosts_55
def c_law06_CompressCosts : PC := c_law06_CompressCosts_56
def s_law06_CompressCosts : List Nat := [0, 1, 4, 5, 6, 7, 8, 9, 10]
def r_law06_CompressCosts : List (Nat × Option (Bool × Nat)) := [⟨4, none⟩]
theorem sound_law06_CompressCosts {Γ : Ctx} {S : Spec} (hΓ : Sound Go.Proofs.Try.prog Γ) (hS : FnOk S) (hargs : ∀ args K, S.run args K → args.length = 2) (h : Meets Γ s_law06_CompressCosts c_law06_CompressCosts r_law06_CompressCosts S) : SoundAt Go.Proofs.Try.prog n_law06_CompressCosts S := by
  have hb : ∃ c, Go.Proofs.Try.f6.body = some c ∧ compC Go.Proofs.Try.prog Go.Proofs.Try.f6.ntmps c = some (strip c_law06_CompressCosts) := ⟨_, rfl, by kernel_rfl⟩
  obtain ⟨c, hb, hc⟩ := hb
  exact meets_sound hΓ mixed (fn := Go.Proofs.Try.f6) (by kernel_rfl) (by kernel_rfl) hb hc (l := [.tmp 4]) (by kernel_rfl) (by kernel_rfl) (by decide) hS 2 (by decide) hargs h

/-! depository/depositorylaw06.CompressBest (3 parameters) -/
def c_law06_CompressBest_0 : PC := .region [
  ⟨some 6, none, .mv (.const (.bool false))⟩]
def c_law06_CompressBest_1 : PC := .region [
  ⟨some 18, none, .call 12 []⟩,
  ⟨some 19, none, .un .not (.tmp 18)⟩]
def c_law06_CompressBest_2 : PC := .region [
  ⟨some 6, none, .mv (.const (.bool false))⟩]
def c_law06_CompressBest_3 : PC := .seq c_law06_CompressBest_2 .ret
def c_law06_CompressBest_4 : PC := .cond (.tmp 19) c_law06_CompressBest_3 .skip
def c_law06_CompressBest_5 : PC := .seq c_law06_CompressBest_1 c_law06_CompressBest_4
def c_law06_CompressBest_6 : PC := .region [
  ⟨some 20, none, .mv (.tmp 0)⟩,
  ⟨some 21, none, .lenR (.tmp 20)⟩,
  ⟨some 22, none, .bin .gtr (.tmp 21) (.const (.int .i64 300))⟩,
  ⟨some 23, none, .mv (.tmp 22)⟩,
  ⟨some 24, some (⟨23, false⟩), .mv (.tmp 0)⟩,
  ⟨some 25, some (⟨23, false⟩), .call 30 [.tmp 24]⟩,
  ⟨some 26, some (⟨23, false⟩), .bin .neq (.tmp 25) (.const (.int .i64 0))⟩,
  ⟨some 27, none, .pick (.tmp 23) (.const (.bool true)) (.tmp 26)⟩]
def c_law06_CompressBest_7 : PC := .region [
  ⟨some 6, none, .mv (.const (.bool true))⟩]
def c_law06_CompressBest_8 : PC := .seq c_law06_CompressBest_7 .ret
def c_law06_CompressBest_9 : PC := .cond (.tmp 27) c_law06_CompressBest_8 .skip
def c_law06_CompressBest_10 : PC := .seq c_law06_CompressBest_6 c_law06_CompressBest_9
def c_law06_CompressBest_11 : PC := .region [
  ⟨some 28, none, .mv (.tmp 0)⟩,
  ⟨some 29, none, .call 31 [.tmp 28]⟩,
  ⟨some 7, none, .mv (.tmp 29)⟩]
def c_law06_CompressBest_12 : PC := .region [
  ⟨some 30, none, .mv (.tmp 7)⟩,
  ⟨some 31, none, .call 13 [.tmp 30]⟩,
  ⟨some 32, none, .un .not (.tmp 31)⟩,
  ⟨some 33, none, .mv (.tmp 32)⟩,
  ⟨some 34, some (⟨33, false⟩), .mv (.tmp 7)⟩,
  ⟨some 35, some (⟨33, false⟩), .call 15 [.tmp 34]⟩,
  ⟨some 36, some (⟨33, false⟩), .bin .neq (.tmp 35) (.const (.int .i64 0))⟩,
  ⟨some 37, none, .pick (.tmp 33) (.const (.bool true)) (.tmp 36)⟩]
def c_law06_CompressBest_13 : PC := .region [
  ⟨some 6, none, .mv (.const (.bool true))⟩]
def c_law06_CompressBest_14 : PC := .seq c_law06_CompressBest_13 .ret
def c_law06_CompressBest_15 : PC := .cond (.tmp 37) c_law06_CompressBest_14 .skip
def c_law06_CompressBest_16 : PC := .seq c_law06_CompressBest_12 c_law06_CompressBest_15
def c_law06_CompressBest_17 : PC := .region [
  ⟨some 39, none, .mv (.tmp 7)⟩,
  ⟨some 40, none, .call 25 [.tmp 39]⟩,
  ⟨some 38, none, .mv (.tmp 40)⟩,
  ⟨some 41, none, .ext (.tmp 38) 0⟩,
  ⟨some 42, none, .ext (.tmp 38) 1⟩,
  ⟨some 8, none, .mv (.tmp 41)⟩,
  ⟨some 9, none, .mv (.tmp 42)⟩]
def c_law06_CompressBest_18 : PC := .region [
  ⟨some 44, none, .mv (.tmp 7)⟩,
  ⟨some 45, none, .call 18 [.tmp 44]⟩,
  ⟨some 43, none, .mv (.tmp 45)⟩,
  ⟨some 46, none, .ext (.tmp 43) 0⟩,
  ⟨some 47, none, .ext (.tmp 43) 1⟩,
  ⟨some 10, none, .mv (.tmp 46)⟩,
  ⟨some 11, none, .mv (.tmp 47)⟩]
def c_law06_CompressBest_19 : PC := .region [
  ⟨some 49, none, .mv (.tmp 7)⟩,
  ⟨some 50, none, .call 14 [.tmp 49]⟩,
  ⟨some 48, none, .mv (.tmp 50)⟩,
  ⟨some 51, none, .ext (.tmp 48) 0⟩,
  ⟨some 52, none, .ext (.tmp 48) 1⟩,
  ⟨some 12, none, .mv (.tmp 51)⟩,
  ⟨some 13, none, .mv (.tmp 52)⟩]
def c_law06_CompressBest_20 : PC := .region [
  ⟨some 53, none, .mv (.tmp 9)⟩,
  ⟨some 54, none, .bin .neq (.tmp 53) (.const (.int .i64 0))⟩,
  ⟨some 55, none, .mv (.tmp 54)⟩,
  ⟨some 56, some (⟨55, false⟩), .mv (.tmp 11)⟩,
  ⟨some 57, some (⟨55, false⟩), .bin .neq (.tmp 56) (.const (.int .i64 0))⟩,
  ⟨some 58, none, .pick (.tmp 55) (.const (.bool true)) (.tmp 57)⟩,
  ⟨some 59, none, .mv (.tmp 58)⟩,
  ⟨some 60, some (⟨59, false⟩), .mv (.tmp 13)⟩,
  ⟨some 61, some (⟨59, false⟩), .bin .neq (.tmp 60) (.const (.int .i64 0))⟩,
  ⟨some 62, none, .pick (.tmp 59) (.const (.bool true)) (.tmp 61)⟩,
  ⟨some 63, none, .mv (.tmp 62)⟩,
  ⟨some 64, some (⟨63, false⟩), .mv (.tmp 8)⟩,
  ⟨some 65, some (⟨63, false⟩), .lenR (.tmp 64)⟩,
  ⟨some 66, some (⟨63, false⟩), .mv (.tmp 7)⟩,
  ⟨some 67, some (⟨63, false⟩), .lenS (.tmp 66)⟩,
  ⟨some 68, some (⟨63, false⟩), .bin .add (.tmp 67) (.const (.int .i64 1))⟩,
  ⟨some 69, some (⟨63, false⟩), .bin .neq (.tmp 65) (.tmp 68)⟩,
  ⟨some 70, none, .pick (.tmp 63) (.const (.bool true)) (.tmp 69)⟩]
def c_law06_CompressBest_21 : PC := .region [
  ⟨some 6, none, .mv (.const (.bool false))⟩]
def c_law06_CompressBest_22 : PC := .seq c_law06_CompressBest_21 .ret
def c_law06_CompressBest_23 : PC := .cond (.tmp 70) c_law06_CompressBest_22 .skip
def c_law06_CompressBest_24 : PC := .seq c_law06_CompressBest_20 c_law06_CompressBest_23
def c_law06_CompressBest_25 : PC := .draw [
  ⟨some 71, none, .mv (.tmp 0)⟩,
  ⟨some 72, none, .call 32 [.tmp 71]⟩,
  ⟨some 73, none, .mv (.tmp 8)⟩,
  ⟨some 74, none, .idxA 1 (.tmp 73) (.const (.int .i64 0))⟩,
  ⟨some 75, none, .load false 1 (.tmp 74)⟩,
  ⟨some 76, none, .bin .lss (.tmp 72) (.tmp 75)⟩,
  ⟨some 77, none, .mv (.tmp 76)⟩,
  ⟨some 78, some (⟨77, false⟩), .mv (.tmp 10)⟩,
  ⟨some 79, some (⟨77, false⟩), .call 32 [.tmp 78]⟩,
  ⟨some 80, some (⟨77, false⟩), .mv (.tmp 8)⟩,
  ⟨some 81, some (⟨77, false⟩), .idxA 1 (.tmp 80) (.const (.int .i64 0))⟩,
  ⟨some 82, some (⟨77, false⟩), .load false 1 (.tmp 81)⟩,
  ⟨some 83, some (⟨77, false⟩), .bin .neq (.tmp 79) (.tmp 82)⟩,
  ⟨some 84, none, .pick (.tmp 77) (.const (.bool true)) (.tmp 83)⟩,
  ⟨some 85, none, .mv (.tmp 84)⟩,
  ⟨some 86, some (⟨85, false⟩), .mv (.tmp 12)⟩,
  ⟨some 87, some (⟨85, false⟩), .call 32 [.tmp 86]⟩,
  ⟨some 88, some (⟨85, false⟩), .mv (.tmp 8)⟩,
  ⟨some 89, some (⟨85, false⟩), .idxA 1 (.tmp 88) (.const (.int .i64 0))⟩,
  ⟨some 90, some (⟨85, false⟩), .load false 1 (.tmp 89)⟩,
  ⟨some 91, some (⟨85, false⟩), .bin .lss (.tmp 87) (.tmp 90)⟩,
  ⟨some 92, none, .pick (.tmp 85) (.const (.bool true)) (.tmp 91)⟩]
  [[], [0], [], [2], [3], [1, 4], [5, 1], [6], [7, 6, 6], [6], [9, 6], [10, 6], [8, 11, 6], [6, 12], [13, 8], [14], [15, 14, 14], [14], [17, 14], [18, 14], [16, 19, 14], [14, 20]]
def c_law06_CompressBest_26 : PC := .region [
  ⟨some 6, none, .mv (.const (.bool false))⟩]
def c_law06_CompressBest_27 : PC := .seq c_law06_CompressBest_26 .ret
def c_law06_CompressBest_28 : PC := .cond (.tmp 92) c_law06_CompressBest_27 .skip
def c_law06_CompressBest_29 : PC := .seq c_law06_CompressBest_25 c_law06_CompressBest_28
def c_law06_CompressBest_30 : PC := .region [
  ⟨some 94, none, .mv (.tmp 7)⟩,
  ⟨some 95, none, .mv (.tmp 8)⟩,
  ⟨some 96, none, .call 27 [.tmp 95]⟩,
  ⟨some 97, none, .call 26 [.tmp 94, .tmp 96]⟩,
  ⟨some 93, none, .mv (.tmp 97)⟩,
  ⟨some 98, none, .ext (.tmp 93) 0⟩,
  ⟨some 99, none, .ext (.tmp 93) 1⟩,
  ⟨some 14, none, .mv (.tmp 98)⟩,
  ⟨some 15, none, .mv (.tmp 99)⟩]
def c_law06_CompressBest_31 : PC := .region [
  ⟨some 100, none, .mv (.tmp 8)⟩,
  ⟨some 101, none, .mv (.tmp 1)⟩,
  ⟨some 102, none, .conv (.toInt .i64) (.tmp 101)⟩,
  ⟨some 103, none, .mv (.tmp 8)⟩,
  ⟨some 104, none, .lenR (.tmp 103)⟩,
  ⟨some 105, none, .bin .rem (.tmp 102) (.tmp 104)⟩,
  ⟨some 106, none, .idxA 1 (.tmp 100) (.tmp 105)⟩,
  ⟨some 107, none, .load false 1 (.tmp 106)⟩,
  ⟨some 108, none, .mv (.tmp 2)⟩,
  ⟨some 109, none, .conv (.toInt .i64) (.tmp 108)⟩,
  ⟨some 110, none, .bin .add (.tmp 107) (.tmp 109)⟩,
  ⟨some 111, none, .idxA 1 (.tmp 100) (.tmp 105)⟩,
  ⟨none, none, .store 1 (.tmp 111) (.tmp 110)⟩]
def c_law06_CompressBest_32 : PC := .region [
  ⟨some 113, none, .mv (.tmp 7)⟩,
  ⟨some 114, none, .mv (.tmp 8)⟩,
  ⟨some 115, none, .call 26 [.tmp 113, .tmp 114]⟩,
  ⟨some 112, none, .mv (.tmp 115)⟩,
  ⟨some 116, none, .ext (.tmp 112) 0⟩,
  ⟨some 117, none, .ext (.tmp 112) 1⟩,
  ⟨some 16, none, .mv (.tmp 116)⟩,
  ⟨some 17, none, .mv (.tmp 117)⟩]
def c_law06_CompressBest_33 : PC := .region [
  ⟨some 118, none, .mv (.tmp 15)⟩,
  ⟨some 119, none, .bin .eql (.tmp 118) (.const (.int .i64 0))⟩,
  ⟨some 120, none, .mv (.tmp 119)⟩,
  ⟨some 121, some (⟨120, true⟩), .mv (.tmp 14)⟩,
  ⟨some 122, some (⟨120, true⟩), .bin .eql (.tmp 121) (.const (.int .i64 0))⟩,
  ⟨some 123, none, .pick (.tmp 120) (.tmp 122) (.const (.bool false))⟩,
  ⟨some 124, none, .mv (.tmp 123)⟩,
  ⟨some 125, some (⟨124, true⟩), .mv (.tmp 17)⟩,
  ⟨some 126, some (⟨124, true⟩), .bin .eql (.tmp 125) (.const (.int .i64 0))⟩,
  ⟨some 127, some (⟨124, true⟩), .mv (.tmp 2)⟩,
  ⟨some 128, some (⟨124, true⟩), .bin .eql (.tmp 127) (.const (.int .i8 0))⟩,
  ⟨some 129, some (⟨124, true⟩), .eqb false (.tmp 126) (.tmp 128)⟩,
  ⟨some 130, none, .pick (.tmp 124) (.tmp 129) (.const (.bool false))⟩,
  ⟨some 6, none, .mv (.tmp 130)⟩]
def c_law06_CompressBest_34 : PC := .seq c_law06_CompressBest_33 .ret
def c_law06_CompressBest_35 : PC := .seq c_law06_CompressBest_32 c_law06_CompressBest_34
def c_law06_CompressBest_36 : PC := .seq c_law06_CompressBest_31 c_law06_CompressBest_35
def c_law06_CompressBest_37 : PC := .seq c_law06_CompressBest_30 c_law06_CompressBest_36
def c_law06_CompressBest_38 : PC := .seq c_law06_CompressBest_29 c_law06_CompressBest_37
def c_law06_CompressBest_39 : PC := .seq c_law06_CompressBest_24 c_law06_CompressBest_38
def c_law06_CompressBest_40 : PC := .seq c_law06_CompressBest_19 c_law06_CompressBest_39
def c_law06_CompressBest_41 : PC := .seq c_law06_CompressBest_18 c_law06_CompressBest_40
def c_law06_CompressBest_42 : PC := .seq c_law06_CompressBest_17 c_law06_CompressBest_41
def c_law06_CompressBest_43 : PC := .seq c_law06_CompressBest_16 c_law06_CompressBest_42
def c_law06_CompressBest_44 : PC := .seq c_law06_CompressBest_11 c_law06_CompressBest_43
def c_law06_CompressBest_45 : PC := .seq c_law06_CompressBest_10 c_law06_CompressBest_44
def c_law06_CompressBest_46 : PC := .seq c_law06_CompressBest_5 c_law06_CompressBest_45
def c_law06_CompressBest_47 : PC := .seq c_law06_CompressBest_0 c_law06_CompressBest_46
def c_law06_CompressBest : PC := c_law06_CompressBest_47
def s_law06_CompressBest : List Nat := [0, 1, 2, 6, 7, 8, 9, 10, 11, 12, 13, 14, 15, 17]
def r_law06_CompressBest : List (Nat × Option (Bool × Nat)) := [⟨6, none⟩]
theorem sound_law06_CompressBest {Γ : Ctx} {S : Spec} (hΓ : Sound Go.Proofs.Try.prog Γ) (hS : FnOk S) (hargs : ∀ args K, S.run args K → args.length = 3) (h : Meets Γ s_law06_CompressBest c_law06_CompressBest r_law06_CompressBest S) : SoundAt Go.Proofs.Try.prog n_law06_CompressBest S := by
  have hb : ∃ c, Go.Proofs.Try.f7.body = some c ∧ compC Go.Proofs.Try.prog Go.Proofs.Try.f7.ntmps c = some (strip c_law06_CompressBest) := ⟨_, rfl, by kernel_rfl⟩
  obtain ⟨c, hb, hc⟩ := hb
  exact meets_sound hΓ mixed (fn := Go.Proofs.Try.f7) (by kernel_rfl) (by kernel_rfl) hb hc (l := [.tmp 6]) (by kernel_rfl) (by kernel_rfl) (by decide) hS 3 (by decide) hargs h

/-! depository/depositorylaw06.CompressTokens (1 parameters) -/
def c_law06_CompressTokens_0 : PC := .region [
  ⟨some 2, none, .mv (.const (.bool false))⟩]
def c_law06_CompressTokens_1 : PC := .region [
  ⟨some 13, none, .call 12 []⟩,
  ⟨some 14, none, .un .not (.tmp 13)⟩]
def c_law06_CompressTokens_2 : PC := .region [
  ⟨some 2, none, .mv (.const (.bool false))⟩]
def c_law06_CompressTokens_3 : PC := .seq c_law06_CompressTokens_2 .ret
def c_law06_CompressTokens_4 : PC := .cond (.tmp 14) c_law06_CompressTokens_3 .skip
def c_law06_CompressTokens_5 : PC := .seq c_law06_CompressTokens_1 c_law06_CompressTokens_4
def c_law06_CompressTokens_6 : PC := .region [
  ⟨some 15, none, .mv (.tmp 0)⟩,
  ⟨some 16, none, .lenR (.tmp 15)⟩,
  ⟨some 17, none, .bin .gtr (.tmp 16) (.const (.int .i64 5000))⟩]
def c_law06_CompressTokens_7 : PC := .region [
  ⟨some 2, none, .mv (.const (.bool true))⟩]
def c_law06_CompressTokens_8 : PC := .seq c_law06_CompressTokens_7 .ret
def c_law06_CompressTokens_9 : PC := .cond (.tmp 17) c_law06_CompressTokens_8 .skip
def c_law06_CompressTokens_10 : PC := .seq c_law06_CompressTokens_6 c_law06_CompressTokens_9
def c_law06_CompressTokens_11 : PC := .region [
  ⟨some 19, none, .mv (.tmp 0)⟩,
  ⟨some 20, none, .call 34 [.tmp 19]⟩,
  ⟨some 21, none, .call 33 [.tmp 20]⟩,
  ⟨some 18, none, .mv (.tmp 21)⟩,
  ⟨some 22, none, .ext (.tmp 18) 0⟩,
  ⟨some 23, none, .ext (.tmp 18) 1⟩,
  ⟨some 3, none, .mv (.tmp 22)⟩,
  ⟨some 4, none, .mv (.tmp 23)⟩]
def c_law06_CompressTokens_12 : PC := .region [
  ⟨some 25, none, .mv (.tmp 0)⟩,
  ⟨some 26, none, .call 34 [.tmp 25]⟩,
  ⟨some 27, none, .call 35 [.tmp 26]⟩,
  ⟨some 24, none, .mv (.tmp 27)⟩,
  ⟨some 28, none, .ext (.tmp 24) 0⟩,
  ⟨some 29, none, .ext (.tmp 24) 1⟩,
  ⟨some 5, none, .mv (.tmp 28)⟩,
  ⟨some 6, none, .mv (.tmp 29)⟩]
def c_law06_CompressTokens_13 : PC := .region [
  ⟨some 31, none, .mv (.tmp 0)⟩,
  ⟨some 32, none, .call 34 [.tmp 31]⟩,
  ⟨some 33, none, .call 36 [.tmp 32]⟩,
  ⟨some 30, none, .mv (.tmp 33)⟩,
  ⟨some 34, none, .ext (.tmp 30) 0⟩,
  ⟨some 35, none, .ext (.tmp 30) 1⟩,
  ⟨some 7, none, .mv (.tmp 34)⟩,
  ⟨some 8, none, .mv (.tmp 35)⟩]
def c_law06_CompressTokens_14 : PC := .region [
  ⟨some 37, none, .mv (.tmp 0)⟩,
  ⟨some 38, none, .call 37 [.tmp 37]⟩,
  ⟨some 36, none, .mv (.tmp 38)⟩,
  ⟨some 39, none, .ext (.tmp 36) 0⟩,
  ⟨some 40, none, .ext (.tmp 36) 1⟩,
  ⟨some 9, none, .mv (.tmp 39)⟩,
  ⟨some 10, none, .mv (.tmp 40)⟩]
def c_law06_CompressTokens_15 : PC := .region [
  ⟨some 41, none, .mv (.tmp 10)⟩,
  ⟨some 42, none, .bin .neq (.tmp 41) (.const (.int .i64 0))⟩]
def c_law06_CompressTokens_16 : PC := .region [
  ⟨some 43, none, .mv (.tmp 4)⟩,
  ⟨some 44, none, .mv (.tmp 10)⟩,
  ⟨some 45, none, .bin .eql (.tmp 43) (.tmp 44)⟩,
  ⟨some 46, none, .mv (.tmp 45)⟩,
  ⟨some 47, some (⟨46, true⟩), .mv (.tmp 3)⟩,
  ⟨some 48, some (⟨46, true⟩), .mv (.tmp 9)⟩,
  ⟨some 49, some (⟨46, true⟩), .bin .eql (.tmp 47) (.tmp 48)⟩,
  ⟨some 50, none, .pick (.tmp 46) (.tmp 49) (.const (.bool false))⟩,
  ⟨some 51, none, .mv (.tmp 50)⟩,
  ⟨some 52, some (⟨51, true⟩), .mv (.tmp 6)⟩,
  ⟨some 53, some (⟨51, true⟩), .mv (.tmp 10)⟩,
  ⟨some 54, some (⟨51, true⟩), .bin .eql (.tmp 52) (.tmp 53)⟩,
  ⟨some 55, none, .pick (.tmp 51) (.tmp 54) (.const (.bool false))⟩,
  ⟨some 56, none, .mv (.tmp 55)⟩,
  ⟨some 57, some (⟨56, true⟩), .mv (.tmp 5)⟩,
  ⟨some 58, some (⟨56, true⟩), .bin .eql (.tmp 57) (.const (.string (ByteArray.mk (Array.mk []))))⟩,
  ⟨some 59, none, .pick (.tmp 56) (.tmp 58) (.const (.bool false))⟩,
  ⟨some 60, none, .mv (.tmp 59)⟩,
  ⟨some 61, some (⟨60, true⟩), .mv (.tmp 8)⟩,
  ⟨some 62, some (⟨60, true⟩), .mv (.tmp 10)⟩,
  ⟨some 63, some (⟨60, true⟩), .bin .eql (.tmp 61) (.tmp 62)⟩,
  ⟨some 64, none, .pick (.tmp 60) (.tmp 63) (.const (.bool false))⟩,
  ⟨some 65, none, .mv (.tmp 64)⟩,
  ⟨some 66, some (⟨65, true⟩), .mv (.tmp 7)⟩,
  ⟨some 67, some (⟨65, true⟩), .bin .eql (.tmp 66) (.const (.string (ByteArray.mk (Array.mk []))))⟩,
  ⟨some 68, none, .pick (.tmp 65) (.tmp 67) (.const (.bool false))⟩,
  ⟨some 2, none, .mv (.tmp 68)⟩]
def c_law06_CompressTokens_17 : PC := .seq c_law06_CompressTokens_16 .ret
def c_law06_CompressTokens_18 : PC := .cond (.tmp 42) c_law06_CompressTokens_17 .skip
def c_law06_CompressTokens_19 : PC := .seq c_law06_CompressTokens_15 c_law06_CompressTokens_18
def c_law06_CompressTokens_20 : PC := .region [
  ⟨some 70, none, .mv (.tmp 0)⟩,
  ⟨some 71, none, .call 38 [.tmp 70]⟩,
  ⟨some 69, none, .mv (.tmp 71)⟩,
  ⟨some 72, none, .ext (.tmp 69) 0⟩,
  ⟨some 73, none, .ext (.tmp 69) 1⟩,
  ⟨some 11, none, .mv (.tmp 72)⟩,
  ⟨some 12, none, .mv (.tmp 73)⟩]
def c_law06_CompressTokens_21 : PC := .region [
  ⟨some 74, none, .mv (.tmp 4)⟩,
  ⟨some 75, none, .bin .eql (.tmp 74) (.const (.int .i64 0))⟩,
  ⟨some 76, none, .mv (.tmp 75)⟩,
  ⟨some 77, some (⟨76, true⟩), .mv (.tmp 3)⟩,
  ⟨some 78, some (⟨76, true⟩), .bin .eql (.tmp 77) (.const (.int .i64 0))⟩,
  ⟨some 79, none, .pick (.tmp 76) (.tmp 78) (.const (.bool false))⟩,
  ⟨some 80, none, .mv (.tmp 79)⟩,
  ⟨some 81, some (⟨80, true⟩), .mv (.tmp 6)⟩,
  ⟨some 82, some (⟨80, true⟩), .bin .eql (.tmp 81) (.const (.int .i64 0))⟩,
  ⟨some 83, none, .pick (.tmp 80) (.tmp 82) (.const (.bool false))⟩,
  ⟨some 84, none, .mv (.tmp 83)⟩,
  ⟨some 85, some (⟨84, true⟩), .mv (.tmp 5)⟩,
  ⟨some 86, some (⟨84, true⟩), .mv (.tmp 0)⟩,
  ⟨some 87, some (⟨84, true⟩), .call 31 [.tmp 86]⟩,
  ⟨some 88, some (⟨84, true⟩), .bin .eql (.tmp 85) (.tmp 87)⟩,
  ⟨some 89, none, .pick (.tmp 84) (.tmp 88) (.const (.bool false))⟩,
  ⟨some 90, none, .mv (.tmp 89)⟩,
  ⟨some 91, some (⟨90, true⟩), .mv (.tmp 8)⟩,
  ⟨some 92, some (⟨90, true⟩), .mv (.tmp 12)⟩,
  ⟨some 93, some (⟨90, true⟩), .bin .eql (.tmp 91) (.tmp 92)⟩,
  ⟨some 94, none, .pick (.tmp 90) (.tmp 93) (.const (.bool false))⟩,
  ⟨some 95, none, .mv (.tmp 94)⟩,
  ⟨some 96, some (⟨95, true⟩), .mv (.tmp 7)⟩,
  ⟨some 97, some (⟨95, true⟩), .mv (.tmp 11)⟩,
  ⟨some 98, some (⟨95, true⟩), .bin .eql (.tmp 96) (.tmp 97)⟩,
  ⟨some 99, none, .pick (.tmp 95) (.tmp 98) (.const (.bool false))⟩,
  ⟨some 2, none, .mv (.tmp 99)⟩]
def c_law06_CompressTokens_22 : PC := .seq c_law06_CompressTokens_21 .ret
def c_law06_CompressTokens_23 : PC := .seq c_law06_CompressTokens_20 c_law06_CompressTokens_22
def c_law06_CompressTokens_24 : PC := .seq c_law06_CompressTokens_19 c_law06_CompressTokens_23
def c_law06_CompressTokens_25 : PC := .seq c_law06_CompressTokens_14 c_law06_CompressTokens_24
def c_law06_CompressTokens_26 : PC := .seq c_law06_CompressTokens_13 c_law06_CompressTokens_25
def c_law06_CompressTokens_27 : PC := .seq c_law06_CompressTokens_12 c_law06_CompressTokens_26
def c_law06_CompressTokens_28 : PC := .seq c_law06_CompressTokens_11 c_law06_CompressTokens_27
def c_law06_CompressTokens_29 : PC := .seq c_law06_CompressTokens_10 c_law06_CompressTokens_28
def c_law06_CompressTokens_30 : PC := .seq c_law06_CompressTokens_5 c_law06_CompressTokens_29
def c_law06_CompressTokens_31 : PC := .seq c_law06_CompressTokens_0 c_law06_CompressTokens_30
def c_law06_CompressTokens : PC := c_law06_CompressTokens_31
def s_law06_CompressTokens : List Nat := [0, 2, 3, 4, 5, 6, 7, 8, 9, 10, 11, 12]
def r_law06_CompressTokens : List (Nat × Option (Bool × Nat)) := [⟨2, none⟩]
theorem sound_law06_CompressTokens {Γ : Ctx} {S : Spec} (hΓ : Sound Go.Proofs.Try.prog Γ) (hS : FnOk S) (hargs : ∀ args K, S.run args K → args.length = 1) (h : Meets Γ s_law06_CompressTokens c_law06_CompressTokens r_law06_CompressTokens S) : SoundAt Go.Proofs.Try.prog n_law06_CompressTokens S := by
  have hb : ∃ c, Go.Proofs.Try.f8.body = some c ∧ compC Go.Proofs.Try.prog Go.Proofs.Try.f8.ntmps c = some (strip c_law06_CompressTokens) := ⟨_, rfl, by kernel_rfl⟩
  obtain ⟨c, hb, hc⟩ := hb
  exact meets_sound hΓ mixed (fn := Go.Proofs.Try.f8) (by kernel_rfl) (by kernel_rfl) hb hc (l := [.tmp 2]) (by kernel_rfl) (by kernel_rfl) (by decide) hS 1 (by decide) hargs h

/-! depository/depositorylaw06.CompressDecodes (1 parameters) -/
def c_law06_CompressDecodes_0 : PC := .region [
  ⟨some 2, none, .mv (.const (.bool false))⟩]
def c_law06_CompressDecodes_1 : PC := .region [
  ⟨some 11, none, .call 12 []⟩,
  ⟨some 12, none, .un .not (.tmp 11)⟩]
def c_law06_CompressDecodes_2 : PC := .region [
  ⟨some 2, none, .mv (.const (.bool false))⟩]
def c_law06_CompressDecodes_3 : PC := .seq c_law06_CompressDecodes_2 .ret
def c_law06_CompressDecodes_4 : PC := .cond (.tmp 12) c_law06_CompressDecodes_3 .skip
def c_law06_CompressDecodes_5 : PC := .seq c_law06_CompressDecodes_1 c_law06_CompressDecodes_4
def c_law06_CompressDecodes_6 : PC := .region [
  ⟨some 13, none, .mv (.tmp 0)⟩,
  ⟨some 14, none, .lenS (.tmp 13)⟩,
  ⟨some 15, none, .bin .gtr (.tmp 14) (.const (.int .i64 4200))⟩]
def c_law06_CompressDecodes_7 : PC := .region [
  ⟨some 2, none, .mv (.const (.bool true))⟩]
def c_law06_CompressDecodes_8 : PC := .seq c_law06_CompressDecodes_7 .ret
def c_law06_CompressDecodes_9 : PC := .cond (.tmp 15) c_law06_CompressDecodes_8 .skip
def c_law06_CompressDecodes_10 : PC := .seq c_law06_CompressDecodes_6 c_law06_CompressDecodes_9
def c_law06_CompressDecodes_11 : PC := .region [
  ⟨some 17, none, .mv (.tmp 0)⟩,
  ⟨some 18, none, .call 39 [.tmp 17]⟩,
  ⟨some 16, none, .mv (.tmp 18)⟩,
  ⟨some 19, none, .ext (.tmp 16) 0⟩,
  ⟨some 20, none, .ext (.tmp 16) 1⟩,
  ⟨some 3, none, .mv (.tmp 19)⟩,
  ⟨some 4, none, .mv (.tmp 20)⟩]
def c_law06_CompressDecodes_12 : PC := .region [
  ⟨some 22, none, .mv (.tmp 0)⟩,
  ⟨some 23, none, .call 40 [.tmp 22]⟩,
  ⟨some 21, none, .mv (.tmp 23)⟩,
  ⟨some 24, none, .ext (.tmp 21) 0⟩,
  ⟨some 25, none, .ext (.tmp 21) 1⟩,
  ⟨some 5, none, .mv (.tmp 24)⟩,
  ⟨some 6, none, .mv (.tmp 25)⟩]
def c_law06_CompressDecodes_13 : PC := .region [
  ⟨some 27, none, .mv (.tmp 0)⟩,
  ⟨some 28, none, .call 41 [.tmp 27]⟩,
  ⟨some 26, none, .mv (.tmp 28)⟩,
  ⟨some 29, none, .ext (.tmp 26) 0⟩,
  ⟨some 30, none, .ext (.tmp 26) 1⟩,
  ⟨some 7, none, .mv (.tmp 29)⟩,
  ⟨some 8, none, .mv (.tmp 30)⟩]
def c_law06_CompressDecodes_14 : PC := .region [
  ⟨some 32, none, .mv (.tmp 0)⟩,
  ⟨some 33, none, .call 42 [.tmp 32]⟩,
  ⟨some 31, none, .mv (.tmp 33)⟩,
  ⟨some 34, none, .ext (.tmp 31) 0⟩,
  ⟨some 35, none, .ext (.tmp 31) 1⟩,
  ⟨some 9, none, .mv (.tmp 34)⟩,
  ⟨some 10, none, .mv (.tmp 35)⟩]
def c_law06_CompressDecodes_15 : PC := .region [
  ⟨some 36, none, .mv (.tmp 4)⟩,
  ⟨some 37, none, .mv (.tmp 8)⟩,
  ⟨some 38, none, .bin .eql (.tmp 36) (.tmp 37)⟩,
  ⟨some 39, none, .mv (.tmp 38)⟩,
  ⟨some 40, some (⟨39, true⟩), .mv (.tmp 3)⟩,
  ⟨some 41, some (⟨39, true⟩), .mv (.tmp 7)⟩,
  ⟨some 42, some (⟨39, true⟩), .call 16 [.tmp 40, .tmp 41]⟩,
  ⟨some 43, none, .pick (.tmp 39) (.tmp 42) (.const (.bool false))⟩,
  ⟨some 44, none, .mv (.tmp 43)⟩,
  ⟨some 45, some (⟨44, true⟩), .mv (.tmp 6)⟩,
  ⟨some 46, some (⟨44, true⟩), .mv (.tmp 10)⟩,
  ⟨some 47, some (⟨44, true⟩), .bin .eql (.tmp 45) (.tmp 46)⟩,
  ⟨some 48, none, .pick (.tmp 44) (.tmp 47) (.const (.bool false))⟩,
  ⟨some 49, none, .mv (.tmp 48)⟩,
  ⟨some 50, some (⟨49, true⟩), .mv (.tmp 5)⟩,
  ⟨some 51, some (⟨49, true⟩), .mv (.tmp 9)⟩,
  ⟨some 52, some (⟨49, true⟩), .bin .eql (.tmp 50) (.tmp 51)⟩,
  ⟨some 53, none, .pick (.tmp 49) (.tmp 52) (.const (.bool false))⟩,
  ⟨some 2, none, .mv (.tmp 53)⟩]
def c_law06_CompressDecodes_16 : PC := .seq c_law06_CompressDecodes_15 .ret
def c_law06_CompressDecodes_17 : PC := .seq c_law06_CompressDecodes_14 c_law06_CompressDecodes_16
def c_law06_CompressDecodes_18 : PC := .seq c_law06_CompressDecodes_13 c_law06_CompressDecodes_17
def c_law06_CompressDecodes_19 : PC := .seq c_law06_CompressDecodes_12 c_law06_CompressDecodes_18
def c_law06_CompressDecodes_20 : PC := .seq c_law06_CompressDecodes_11 c_law06_CompressDecodes_19
def c_law06_CompressDecodes_21 : PC := .seq c_law06_CompressDecodes_10 c_law06_CompressDecodes_20
def c_law06_CompressDecodes_22 : PC := .seq c_law06_CompressDecodes_5 c_law06_CompressDecodes_21
def c_law06_CompressDecodes_23 : PC := .seq c_law06_CompressDecodes_0 c_law06_CompressDecodes_22
def c_law06_CompressDecodes : PC := c_law06_CompressDecodes_23
def s_law06_CompressDecodes : List Nat := [0, 2, 3, 4, 5, 6, 7, 8, 9, 10]
def r_law06_CompressDecodes : List (Nat × Option (Bool × Nat)) := [⟨2, none⟩]
theorem sound_law06_CompressDecodes {Γ : Ctx} {S : Spec} (hΓ : Sound Go.Proofs.Try.prog Γ) (hS : FnOk S) (hargs : ∀ args K, S.run args K → args.length = 1) (h : Meets Γ s_law06_CompressDecodes c_law06_CompressDecodes r_law06_CompressDecodes S) : SoundAt Go.Proofs.Try.prog n_law06_CompressDecodes S := by
  have hb : ∃ c, Go.Proofs.Try.f9.body = some c ∧ compC Go.Proofs.Try.prog Go.Proofs.Try.f9.ntmps c = some (strip c_law06_CompressDecodes) := ⟨_, rfl, by kernel_rfl⟩
  obtain ⟨c, hb, hc⟩ := hb
  exact meets_sound hΓ mixed (fn := Go.Proofs.Try.f9) (by kernel_rfl) (by kernel_rfl) hb hc (l := [.tmp 2]) (by kernel_rfl) (by kernel_rfl) (by decide) hS 1 (by decide) hargs h

/-! depository/depositorylaw06.CompressUnits (3 parameters) -/
def c_law06_CompressUnits_0 : PC := .region [
  ⟨some 6, none, .mv (.const (.bool false))⟩]
def c_law06_CompressUnits_1 : PC := .region [
  ⟨some 16, none, .call 12 []⟩,
  ⟨some 17, none, .un .not (.tmp 16)⟩]
def c_law06_CompressUnits_2 : PC := .region [
  ⟨some 6, none, .mv (.const (.bool false))⟩]
def c_law06_CompressUnits_3 : PC := .seq c_law06_CompressUnits_2 .ret
def c_law06_CompressUnits_4 : PC := .cond (.tmp 17) c_law06_CompressUnits_3 .skip
def c_law06_CompressUnits_5 : PC := .seq c_law06_CompressUnits_1 c_law06_CompressUnits_4
def c_law06_CompressUnits_6 : PC := .region [
  ⟨some 18, none, .mv (.tmp 0)⟩,
  ⟨some 19, none, .mv (.tmp 1)⟩,
  ⟨some 20, none, .call 43 [.tmp 18, .tmp 19]⟩,
  ⟨some 7, none, .mv (.tmp 20)⟩]
def c_law06_CompressUnits_7 : PC := .region [
  ⟨some 22, none, .mv (.tmp 7)⟩,
  ⟨some 23, none, .call 44 [.tmp 22]⟩,
  ⟨some 21, none, .mv (.tmp 23)⟩,
  ⟨some 24, none, .ext (.tmp 21) 0⟩,
  ⟨some 25, none, .ext (.tmp 21) 1⟩,
  ⟨some 8, none, .mv (.tmp 24)⟩,
  ⟨some 9, none, .mv (.tmp 25)⟩]
def c_law06_CompressUnits_8 : PC := .region [
  ⟨some 27, none, .mv (.tmp 7)⟩,
  ⟨some 28, none, .slcS (.tmp 27) (some (.const (.int .i64 1))) none⟩,
  ⟨some 29, none, .call 44 [.tmp 28]⟩,
  ⟨some 26, none, .mv (.tmp 29)⟩,
  ⟨some 30, none, .ext (.tmp 26) 0⟩,
  ⟨some 31, none, .ext (.tmp 26) 1⟩,
  ⟨some 10, none, .mv (.tmp 30)⟩,
  ⟨some 11, none, .mv (.tmp 31)⟩]
def c_law06_CompressUnits_9 : PC := .region [
  ⟨some 32, none, .mv (.tmp 9)⟩,
  ⟨some 33, none, .bin .neq (.tmp 32) (.const (.int .i64 0))⟩,
  ⟨some 34, none, .mv (.tmp 33)⟩,
  ⟨some 35, some (⟨34, false⟩), .mv (.tmp 8)⟩,
  ⟨some 36, some (⟨34, false⟩), .mv (.tmp 7)⟩,
  ⟨some 37, some (⟨34, false⟩), .call 45 [.tmp 36]⟩,
  ⟨some 38, some (⟨34, false⟩), .bin .neq (.tmp 35) (.tmp 37)⟩,
  ⟨some 39, none, .pick (.tmp 34) (.const (.bool true)) (.tmp 38)⟩,
  ⟨some 40, none, .mv (.tmp 39)⟩,
  ⟨some 41, some (⟨40, false⟩), .mv (.tmp 11)⟩,
  ⟨some 42, some (⟨40, false⟩), .bin .neq (.tmp 41) (.const (.int .i64 10))⟩,
  ⟨some 43, none, .pick (.tmp 40) (.const (.bool true)) (.tmp 42)⟩,
  ⟨some 44, none, .mv (.tmp 43)⟩,
  ⟨some 45, some (⟨44, false⟩), .mv (.tmp 10)⟩,
  ⟨some 46, some (⟨44, false⟩), .bin .neq (.tmp 45) (.const (.string (ByteArray.mk (Array.mk []))))⟩,
  ⟨some 47, none, .pick (.tmp 44) (.const (.bool true)) (.tmp 46)⟩]
def c_law06_CompressUnits_10 : PC := .region [
  ⟨some 6, none, .mv (.const (.bool false))⟩]
def c_law06_CompressUnits_11 : PC := .seq c_law06_CompressUnits_10 .ret
def c_law06_CompressUnits_12 : PC := .cond (.tmp 47) c_law06_CompressUnits_11 .skip
def c_law06_CompressUnits_13 : PC := .seq c_law06_CompressUnits_9 c_law06_CompressUnits_12
def c_law06_CompressUnits_14 : PC := .region [
  ⟨some 48, none, .mv (.tmp 2)⟩,
  ⟨some 49, none, .lenS (.tmp 48)⟩,
  ⟨some 50, none, .bin .gtr (.tmp 49) (.const (.int .i64 5000))⟩]
def c_law06_CompressUnits_15 : PC := .region [
  ⟨some 6, none, .mv (.const (.bool true))⟩]
def c_law06_CompressUnits_16 : PC := .seq c_law06_CompressUnits_15 .ret
def c_law06_CompressUnits_17 : PC := .cond (.tmp 50) c_law06_CompressUnits_16 .skip
def c_law06_CompressUnits_18 : PC := .seq c_law06_CompressUnits_14 c_law06_CompressUnits_17
def c_law06_CompressUnits_19 : PC := .region [
  ⟨some 52, none, .mv (.tmp 2)⟩,
  ⟨some 53, none, .call 46 [.tmp 52]⟩,
  ⟨some 51, none, .mv (.tmp 53)⟩,
  ⟨some 54, none, .ext (.tmp 51) 0⟩,
  ⟨some 55, none, .ext (.tmp 51) 1⟩,
  ⟨some 12, none, .mv (.tmp 54)⟩,
  ⟨some 13, none, .mv (.tmp 55)⟩]
def c_law06_CompressUnits_20 : PC := .region [
  ⟨some 57, none, .mv (.tmp 2)⟩,
  ⟨some 58, none, .call 47 [.tmp 57]⟩,
  ⟨some 56, none, .mv (.tmp 58)⟩,
  ⟨some 59, none, .ext (.tmp 56) 0⟩,
  ⟨some 60, none, .ext (.tmp 56) 1⟩,
  ⟨some 14, none, .mv (.tmp 59)⟩,
  ⟨some 15, none, .mv (.tmp 60)⟩]
def c_law06_CompressUnits_21 : PC := .region [
  ⟨some 61, none, .mv (.tmp 13)⟩,
  ⟨some 62, none, .mv (.tmp 15)⟩,
  ⟨some 63, none, .bin .eql (.tmp 61) (.tmp 62)⟩,
  ⟨some 64, none, .mv (.tmp 63)⟩,
  ⟨some 65, some (⟨64, true⟩), .mv (.tmp 12)⟩,
  ⟨some 66, some (⟨64, true⟩), .mv (.tmp 14)⟩,
  ⟨some 67, some (⟨64, true⟩), .bin .eql (.tmp 65) (.tmp 66)⟩,
  ⟨some 68, none, .pick (.tmp 64) (.tmp 67) (.const (.bool false))⟩,
  ⟨some 6, none, .mv (.tmp 68)⟩]
def c_law06_CompressUnits_22 : PC := .seq c_law06_CompressUnits_21 .ret
def c_law06_CompressUnits_23 : PC := .seq c_law06_CompressUnits_20 c_law06_CompressUnits_22
def c_law06_CompressUnits_24 : PC := .seq c_law06_CompressUnits_19 c_law06_CompressUnits_23
def c_law06_CompressUnits_25 : PC := .seq c_law06_CompressUnits_18 c_law06_CompressUnits_24
def c_law06_CompressUnits_26 : PC := .seq c_law06_CompressUnits_13 c_law06_CompressUnits_25
def c_law06_CompressUnits_27 : PC := .seq c_law06_CompressUnits_8 c_law06_CompressUnits_26
def c_law06_CompressUnits_28 : PC := .seq c_law06_CompressUnits_7 c_law06_CompressUnits_27
def c_law06_CompressUnits_29 : PC := .seq c_law06_CompressUnits_6 c_law06_CompressUnits_28
def c_law06_CompressUnits_30 : PC := .seq c_law06_CompressUnits_5 c_law06_CompressUnits_29
def c_law06_CompressUnits_31 : PC := .seq c_law06_CompressUnits_0 c_law06_CompressUnits_30
def c_law06_CompressUnits : PC := c_law06_CompressUnits_31
def s_law06_CompressUnits : List Nat := [0, 1, 2, 6, 7, 8, 9, 10, 11, 12, 13, 14, 15]
def r_law06_CompressUnits : List (Nat × Option (Bool × Nat)) := [⟨6, none⟩]
theorem sound_law06_CompressUnits {Γ : Ctx} {S : Spec} (hΓ : Sound Go.Proofs.Try.prog Γ) (hS : FnOk S) (hargs : ∀ args K, S.run args K → args.length = 3) (h : Meets Γ s_law06_CompressUnits c_law06_CompressUnits r_law06_CompressUnits S) : SoundAt Go.Proofs.Try.prog n_law06_CompressUnits S := by
  have hb : ∃ c, Go.Proofs.Try.f10.body = some c ∧ compC Go.Proofs.Try.prog Go.Proofs.Try.f10.ntmps c = some (strip c_law06_CompressUnits) := ⟨_, rfl, by kernel_rfl⟩
  obtain ⟨c, hb, hc⟩ := hb
  exact meets_sound hΓ mixed (fn := Go.Proofs.Try.f10) (by kernel_rfl) (by kernel_rfl) hb hc (l := [.tmp 6]) (by kernel_rfl) (by kernel_rfl) (by decide) hS 3 (by decide) hargs h

/-! depository/depositorylaw06.CompressRound (3 parameters) -/
def c_law06_CompressRound_0 : PC := .region [
  ⟨some 6, none, .mv (.const (.bool false))⟩]
def c_law06_CompressRound_1 : PC := .region [
  ⟨some 25, none, .call 12 []⟩,
  ⟨some 26, none, .un .not (.tmp 25)⟩]
def c_law06_CompressRound_2 : PC := .region [
  ⟨some 6, none, .mv (.const (.bool false))⟩]
def c_law06_CompressRound_3 : PC := .seq c_law06_CompressRound_2 .ret
def c_law06_CompressRound_4 : PC := .cond (.tmp 26) c_law06_CompressRound_3 .skip
def c_law06_CompressRound_5 : PC := .seq c_law06_CompressRound_1 c_law06_CompressRound_4
def c_law06_CompressRound_6 : PC := .region [
  ⟨some 27, none, .mv (.tmp 1)⟩,
  ⟨some 28, none, .mv (.tmp 2)⟩,
  ⟨some 29, none, .call 43 [.tmp 27, .tmp 28]⟩,
  ⟨some 7, none, .mv (.tmp 29)⟩]
def c_law06_CompressRound_7 : PC := .region [
  ⟨some 31, none, .mv (.tmp 7)⟩,
  ⟨some 32, none, .call 44 [.tmp 31]⟩,
  ⟨some 30, none, .mv (.tmp 32)⟩,
  ⟨some 33, none, .ext (.tmp 30) 0⟩,
  ⟨some 34, none, .ext (.tmp 30) 1⟩,
  ⟨some 8, none, .mv (.tmp 33)⟩,
  ⟨some 9, none, .mv (.tmp 34)⟩]
def c_law06_CompressRound_8 : PC := .region [
  ⟨some 36, none, .mv (.tmp 8)⟩,
  ⟨some 37, none, .call 46 [.tmp 36]⟩,
  ⟨some 35, none, .mv (.tmp 37)⟩,
  ⟨some 38, none, .ext (.tmp 35) 0⟩,
  ⟨some 39, none, .ext (.tmp 35) 1⟩,
  ⟨some 10, none, .mv (.tmp 38)⟩,
  ⟨some 11, none, .mv (.tmp 39)⟩]
def c_law06_CompressRound_9 : PC := .region [
  ⟨some 40, none, .mv (.tmp 9)⟩,
  ⟨some 41, none, .bin .neq (.tmp 40) (.const (.int .i64 0))⟩,
  ⟨some 42, none, .mv (.tmp 41)⟩,
  ⟨some 43, some (⟨42, false⟩), .mv (.tmp 11)⟩,
  ⟨some 44, some (⟨42, false⟩), .bin .neq (.tmp 43) (.const (.int .i64 0))⟩,
  ⟨some 45, none, .pick (.tmp 42) (.const (.bool true)) (.tmp 44)⟩,
  ⟨some 46, none, .mv (.tmp 45)⟩,
  ⟨some 47, some (⟨46, false⟩), .mv (.tmp 10)⟩,
  ⟨some 48, some (⟨46, false⟩), .mv (.tmp 7)⟩,
  ⟨some 49, some (⟨46, false⟩), .bin .neq (.tmp 47) (.tmp 48)⟩,
  ⟨some 50, none, .pick (.tmp 46) (.const (.bool true)) (.tmp 49)⟩,
  ⟨some 51, none, .mv (.tmp 50)⟩,
  ⟨some 52, some (⟨51, false⟩), .mv (.tmp 8)⟩,
  ⟨some 53, some (⟨51, false⟩), .lenS (.tmp 52)⟩,
  ⟨some 54, some (⟨51, false⟩), .bin .gtr (.tmp 53) (.const (.int .i64 4096))⟩,
  ⟨some 55, none, .pick (.tmp 51) (.const (.bool true)) (.tmp 54)⟩,
  ⟨some 56, none, .mv (.tmp 55)⟩,
  ⟨some 57, some (⟨56, false⟩), .mv (.tmp 8)⟩,
  ⟨some 58, some (⟨56, false⟩), .lenS (.tmp 57)⟩,
  ⟨some 59, some (⟨56, false⟩), .bin .rem (.tmp 58) (.const (.int .i64 256))⟩,
  ⟨some 60, some (⟨56, false⟩), .bin .neq (.tmp 59) (.const (.int .i64 0))⟩,
  ⟨some 61, none, .pick (.tmp 56) (.const (.bool true)) (.tmp 60)⟩,
  ⟨some 62, none, .mv (.tmp 61)⟩,
  ⟨some 63, some (⟨62, false⟩), .mv (.tmp 8)⟩,
  ⟨some 64, some (⟨62, false⟩), .lenS (.tmp 63)⟩,
  ⟨some 65, some (⟨62, false⟩), .bin .eql (.tmp 64) (.const (.int .i64 4096))⟩,
  ⟨some 66, some (⟨62, false⟩), .mv (.tmp 65)⟩,
  ⟨some 67, some (⟨66, true⟩), .mv (.tmp 8)⟩,
  ⟨some 68, some (⟨66, true⟩), .mv (.tmp 7)⟩,
  ⟨some 69, some (⟨66, true⟩), .bin .neq (.tmp 67) (.tmp 68)⟩,
  ⟨some 70, some (⟨62, false⟩), .pick (.tmp 66) (.tmp 69) (.const (.bool false))⟩,
  ⟨some 71, none, .pick (.tmp 62) (.const (.bool true)) (.tmp 70)⟩]
def c_law06_CompressRound_10 : PC := .region [
  ⟨some 6, none, .mv (.const (.bool false))⟩]
def c_law06_CompressRound_11 : PC := .seq c_law06_CompressRound_10 .ret
def c_law06_CompressRound_12 : PC := .cond (.tmp 71) c_law06_CompressRound_11 .skip
def c_law06_CompressRound_13 : PC := .seq c_law06_CompressRound_9 c_law06_CompressRound_12
def c_law06_CompressRound_14 : PC := .region [
  ⟨some 72, none, .mv (.tmp 0)⟩,
  ⟨some 73, none, .call 13 [.tmp 72]⟩,
  ⟨some 74, none, .un .not (.tmp 73)⟩,
  ⟨some 75, none, .mv (.tmp 74)⟩,
  ⟨some 76, some (⟨75, false⟩), .mv (.tmp 0)⟩,
  ⟨some 77, some (⟨75, false⟩), .call 15 [.tmp 76]⟩,
  ⟨some 78, some (⟨75, false⟩), .bin .neq (.tmp 77) (.const (.int .i64 0))⟩,
  ⟨some 79, none, .pick (.tmp 75) (.const (.bool true)) (.tmp 78)⟩]
def c_law06_CompressRound_15 : PC := .region [
  ⟨some 6, none, .mv (.const (.bool true))⟩]
def c_law06_CompressRound_16 : PC := .seq c_law06_CompressRound_15 .ret
def c_law06_CompressRound_17 : PC := .cond (.tmp 79) c_law06_CompressRound_16 .skip
def c_law06_CompressRound_18 : PC := .seq c_law06_CompressRound_14 c_law06_CompressRound_17
def c_law06_CompressRound_19 : PC := .region [
  ⟨some 81, none, .mv (.tmp 0)⟩,
  ⟨some 82, none, .call 19 [.tmp 81]⟩,
  ⟨some 80, none, .mv (.tmp 82)⟩,
  ⟨some 83, none, .ext (.tmp 80) 0⟩,
  ⟨some 84, none, .ext (.tmp 80) 1⟩,
  ⟨some 12, none, .mv (.tmp 83)⟩,
  ⟨some 13, none, .mv (.tmp 84)⟩]
def c_law06_CompressRound_20 : PC := .region [
  ⟨some 86, none, .mv (.tmp 12)⟩,
  ⟨some 87, none, .call 40 [.tmp 86]⟩,
  ⟨some 85, none, .mv (.tmp 87)⟩,
  ⟨some 88, none, .ext (.tmp 85) 0⟩,
  ⟨some 89, none, .ext (.tmp 85) 1⟩,
  ⟨some 14, none, .mv (.tmp 88)⟩,
  ⟨some 15, none, .mv (.tmp 89)⟩]
def c_law06_CompressRound_21 : PC := .region [
  ⟨some 90, none, .mv (.tmp 13)⟩,
  ⟨some 91, none, .bin .neq (.tmp 90) (.const (.int .i64 0))⟩,
  ⟨some 92, none, .mv (.tmp 91)⟩,
  ⟨some 93, some (⟨92, false⟩), .mv (.tmp 15)⟩,
  ⟨some 94, some (⟨92, false⟩), .bin .neq (.tmp 93) (.const (.int .i64 0))⟩,
  ⟨some 95, none, .pick (.tmp 92) (.const (.bool true)) (.tmp 94)⟩,
  ⟨some 96, none, .mv (.tmp 95)⟩,
  ⟨some 97, some (⟨96, false⟩), .mv (.tmp 14)⟩,
  ⟨some 98, some (⟨96, false⟩), .mv (.tmp 0)⟩,
  ⟨some 99, some (⟨96, false⟩), .bin .neq (.tmp 97) (.tmp 98)⟩,
  ⟨some 100, none, .pick (.tmp 96) (.const (.bool true)) (.tmp 99)⟩,
  ⟨some 101, none, .mv (.tmp 100)⟩,
  ⟨some 102, some (⟨101, false⟩), .mv (.tmp 12)⟩,
  ⟨some 103, some (⟨101, false⟩), .lenS (.tmp 102)⟩,
  ⟨some 104, some (⟨101, false⟩), .mv (.tmp 0)⟩,
  ⟨some 105, some (⟨101, false⟩), .lenS (.tmp 104)⟩,
  ⟨some 106, some (⟨101, false⟩), .bin .add (.tmp 105) (.const (.int .i64 2))⟩,
  ⟨some 107, some (⟨101, false⟩), .bin .gtr (.tmp 103) (.tmp 106)⟩,
  ⟨some 108, none, .pick (.tmp 101) (.const (.bool true)) (.tmp 107)⟩]
def c_law06_CompressRound_22 : PC := .region [
  ⟨some 6, none, .mv (.const (.bool false))⟩]
def c_law06_CompressRound_23 : PC := .seq c_law06_CompressRound_22 .ret
def c_law06_CompressRound_24 : PC := .cond (.tmp 108) c_law06_CompressRound_23 .skip
def c_law06_CompressRound_25 : PC := .seq c_law06_CompressRound_21 c_law06_CompressRound_24
def c_law06_CompressRound_26 : PC := .region [
  ⟨some 16, none, .mv (.const (.int .i64 0))⟩]
def c_law06_CompressRound_27 : PC := .region [
  ⟨some 109, none, .mv (.tmp 16)⟩,
  ⟨some 110, none, .bin .lss (.tmp 109) (.const (.int .i64 2))⟩]
def c_law06_CompressRound_28 : PC := .cond (.tmp 110) .skip (.exit 0)
def c_law06_CompressRound_29 : PC := .seq c_law06_CompressRound_27 c_law06_CompressRound_28
def c_law06_CompressRound_30 : PC := .region [
  ⟨some 114, none, .mv (.tmp 0)⟩,
  ⟨some 115, none, .call 14 [.tmp 114]⟩,
  ⟨some 113, none, .mv (.tmp 115)⟩,
  ⟨some 116, none, .ext (.tmp 113) 0⟩,
  ⟨some 117, none, .ext (.tmp 113) 1⟩,
  ⟨some 17, none, .mv (.tmp 116)⟩,
  ⟨some 18, none, .mv (.tmp 117)⟩]
def c_law06_CompressRound_31 : PC := .region [
  ⟨some 118, none, .mv (.tmp 16)⟩,
  ⟨some 119, none, .bin .eql (.tmp 118) (.const (.int .i64 1))⟩]
def c_law06_CompressRound_32 : PC := .region [
  ⟨some 121, none, .mv (.tmp 0)⟩,
  ⟨some 122, none, .call 18 [.tmp 121]⟩,
  ⟨some 120, none, .mv (.tmp 122)⟩,
  ⟨some 123, none, .ext (.tmp 120) 0⟩,
  ⟨some 124, none, .ext (.tmp 120) 1⟩,
  ⟨some 17, none, .mv (.tmp 123)⟩,
  ⟨some 18, none, .mv (.tmp 124)⟩]
def c_law06_CompressRound_33 : PC := .cond (.tmp 119) c_law06_CompressRound_32 .skip
def c_law06_CompressRound_34 : PC := .seq c_law06_CompressRound_31 c_law06_CompressRound_33
def c_law06_CompressRound_35 : PC := .region [
  ⟨some 126, none, .mv (.tmp 17)⟩,
  ⟨some 127, none, .call 34 [.tmp 126]⟩,
  ⟨some 128, none, .call 35 [.tmp 127]⟩,
  ⟨some 125, none, .mv (.tmp 128)⟩,
  ⟨some 129, none, .ext (.tmp 125) 0⟩,
  ⟨some 130, none, .ext (.tmp 125) 1⟩,
  ⟨some 19, none, .mv (.tmp 129)⟩,
  ⟨some 20, none, .mv (.tmp 130)⟩]
def c_law06_CompressRound_36 : PC := .region [
  ⟨some 132, none, .mv (.tmp 17)⟩,
  ⟨some 133, none, .call 34 [.tmp 132]⟩,
  ⟨some 134, none, .call 36 [.tmp 133]⟩,
  ⟨some 131, none, .mv (.tmp 134)⟩,
  ⟨some 135, none, .ext (.tmp 131) 0⟩,
  ⟨some 136, none, .ext (.tmp 131) 1⟩,
  ⟨some 21, none, .mv (.tmp 135)⟩,
  ⟨some 22, none, .mv (.tmp 136)⟩]
def c_law06_CompressRound_37 : PC := .region [
  ⟨some 138, none, .mv (.tmp 21)⟩,
  ⟨some 139, none, .call 39 [.tmp 138]⟩,
  ⟨some 137, none, .mv (.tmp 139)⟩,
  ⟨some 140, none, .ext (.tmp 137) 0⟩,
  ⟨some 141, none, .ext (.tmp 137) 1⟩,
  ⟨some 23, none, .mv (.tmp 140)⟩,
  ⟨some 24, none, .mv (.tmp 141)⟩]
def c_law06_CompressRound_38 : PC := .region [
  ⟨some 142, none, .mv (.tmp 18)⟩,
  ⟨some 143, none, .bin .neq (.tmp 142) (.const (.int .i64 0))⟩,
  ⟨some 144, none, .mv (.tmp 143)⟩,
  ⟨some 145, some (⟨144, false⟩), .mv (.tmp 20)⟩,
  ⟨some 146, some (⟨144, false⟩), .bin .neq (.tmp 145) (.const (.int .i64 0))⟩,
  ⟨some 147, none, .pick (.tmp 144) (.const (.bool true)) (.tmp 146)⟩,
  ⟨some 148, none, .mv (.tmp 147)⟩,
  ⟨some 149, some (⟨148, false⟩), .mv (.tmp 19)⟩,
  ⟨some 150, some (⟨148, false⟩), .mv (.tmp 0)⟩,
  ⟨some 151, some (⟨148, false⟩), .bin .neq (.tmp 149) (.tmp 150)⟩,
  ⟨some 152, none, .pick (.tmp 148) (.const (.bool true)) (.tmp 151)⟩,
  ⟨some 153, none, .mv (.tmp 152)⟩,
  ⟨some 154, some (⟨153, false⟩), .mv (.tmp 22)⟩,
  ⟨some 155, some (⟨153, false⟩), .bin .neq (.tmp 154) (.const (.int .i64 0))⟩,
  ⟨some 156, none, .pick (.tmp 153) (.const (.bool true)) (.tmp 155)⟩,
  ⟨some 157, none, .mv (.tmp 156)⟩,
  ⟨some 158, some (⟨157, false⟩), .mv (.tmp 24)⟩,
  ⟨some 159, some (⟨157, false⟩), .bin .neq (.tmp 158) (.const (.int .i64 0))⟩,
  ⟨some 160, none, .pick (.tmp 157) (.const (.bool true)) (.tmp 159)⟩,
  ⟨some 161, none, .mv (.tmp 160)⟩,
  ⟨some 162, some (⟨161, false⟩), .mv (.tmp 23)⟩,
  ⟨some 163, some (⟨161, false⟩), .mv (.tmp 17)⟩,
  ⟨some 164, some (⟨161, false⟩), .call 16 [.tmp 162, .tmp 163]⟩,
  ⟨some 165, some (⟨161, false⟩), .un .not (.tmp 164)⟩,
  ⟨some 166, none, .pick (.tmp 161) (.const (.bool true)) (.tmp 165)⟩]
def c_law06_CompressRound_39 : PC := .region [
  ⟨some 6, none, .mv (.const (.bool false))⟩]
def c_law06_CompressRound_40 : PC := .seq c_law06_CompressRound_39 .ret
def c_law06_CompressRound_41 : PC := .cond (.tmp 166) c_law06_CompressRound_40 .skip
def c_law06_CompressRound_42 : PC := .seq c_law06_CompressRound_38 c_law06_CompressRound_41
def c_law06_CompressRound_43 : PC := .seq c_law06_CompressRound_37 c_law06_CompressRound_42
def c_law06_CompressRound_44 : PC := .seq c_law06_CompressRound_36 c_law06_CompressRound_43
def c_law06_CompressRound_45 : PC := .seq c_law06_CompressRound_35 c_law06_CompressRound_44
def c_law06_CompressRound_46 : PC := .seq c_law06_CompressRound_34 c_law06_CompressRound_45
def c_law06_CompressRound_47 : PC := .seq c_law06_CompressRound_30 c_law06_CompressRound_46
def c_law06_CompressRound_48 : PC := .block 1 c_law06_CompressRound_47
def c_law06_CompressRound_49 : PC := .region [
  ⟨some 111, none, .mv (.tmp 16)⟩,
  ⟨some 112, none, .bin .add (.tmp 111) (.const (.int .i64 1))⟩,
  ⟨some 16, none, .mv (.tmp 112)⟩]
def c_law06_CompressRound_50 : PC := .seq c_law06_CompressRound_48 c_law06_CompressRound_49
def c_law06_CompressRound_51 : PC := .seq c_law06_CompressRound_29 c_law06_CompressRound_50
def c_law06_CompressRound_52 : PC := .loop [0, 16] c_law06_CompressRound_51
def c_law06_CompressRound_53 : PC := .block 0 c_law06_CompressRound_52
def c_law06_CompressRound_54 : PC := .seq c_law06_CompressRound_26 c_law06_CompressRound_53
def c_law06_CompressRound_55 : PC := .region [
  ⟨some 6, none, .mv (.const (.bool true))⟩]
def c_law06_CompressRound_56 : PC := .seq c_law06_CompressRound_55 .ret
def c_law06_CompressRound_57 : PC := .seq c_law06_CompressRound_54 c_law06_CompressRound_56
def c_law06_CompressRound_58 : PC := .seq c_law06_CompressRound_25 c_law06_CompressRound_57
def c_law06_CompressRound_59 : PC := .seq c_law06_CompressRound_20 c_law06_CompressRound_58
def c_law06_CompressRound_60 : PC := .seq c_law06_CompressRound_19 c_law06_CompressRound_59
def c_law06_CompressRound_61 : PC := .seq c_law06_CompressRound_18 c_law06_CompressRound_60
def c_law06_CompressRound_62 : PC := .seq c_law06_CompressRound_13 c_law06_CompressRound_61
def c_law06_CompressRound_63 : PC := .seq c_law06_CompressRound_8 c_law06_CompressRound_62
def c_law06_CompressRound_64 : PC := .seq c_law06_CompressRound_7 c_law06_CompressRound_63
def c_law06_CompressRound_65 : PC := .seq c_law06_CompressRound_6 c_law06_CompressRound_64
def c_law06_CompressRound_66 : PC := .seq c_law06_CompressRound_5 c_law06_CompressRound_65
def c_law06_CompressRound_67 : PC := .seq c_law06_CompressRound_0 c_law06_CompressRound_66
def c_law06_CompressRound : PC := c_law06_CompressRound_67
def s_law06_CompressRound : List Nat := [0, 1, 2, 6, 7, 8, 9, 10, 11, 12, 13, 14, 15, 16, 17, 18, 19, 20, 21, 22, 23, 24]
def r_law06_CompressRound : List (Nat × Option (Bool × Nat)) := [⟨6, none⟩]
theorem sound_law06_CompressRound {Γ : Ctx} {S : Spec} (hΓ : Sound Go.Proofs.Try.prog Γ) (hS : FnOk S) (hargs : ∀ args K, S.run args K → args.length = 3) (h : Meets Γ s_law06_CompressRound c_law06_CompressRound r_law06_CompressRound S) : SoundAt Go.Proofs.Try.prog n_law06_CompressRound S := by
  have hb : ∃ c, Go.Proofs.Try.f11.body = some c ∧ compC Go.Proofs.Try.prog Go.Proofs.Try.f11.ntmps c = some (strip c_law06_CompressRound) := ⟨_, rfl, by kernel_rfl⟩
  obtain ⟨c, hb, hc⟩ := hb
  exact meets_sound hΓ mixed (fn := Go.Proofs.Try.f11) (by kernel_rfl) (by kernel_rfl) hb hc (l := [.tmp 6]) (by kernel_rfl) (by kernel_rfl) (by decide) hS 3 (by decide) hargs h

/-! depository/depositorylaw06.awake (0 parameters) -/
def c_law06_awake_0 : PC := .region [
  ⟨some 0, none, .mv (.const (.bool false))⟩]
def c_law06_awake_1 : PC := .region [
  ⟨some 10, none, .call 14 [.const (.string (ByteArray.mk (Array.mk [97, 98, 99, 97, 98, 99, 97, 98, 99, 97, 98, 99])))]⟩,
  ⟨some 9, none, .mv (.tmp 10)⟩,
  ⟨some 11, none, .ext (.tmp 9) 0⟩,
  ⟨some 12, none, .ext (.tmp 9) 1⟩,
  ⟨some 1, none, .mv (.tmp 11)⟩,
  ⟨some 2, none, .mv (.tmp 12)⟩]
def c_law06_awake_2 : PC := .region [
  ⟨some 14, none, .call 19 [.const (.string (ByteArray.mk (Array.mk [97, 98, 99, 97, 98, 99, 97, 98, 99, 97, 98, 99])))]⟩,
  ⟨some 13, none, .mv (.tmp 14)⟩,
  ⟨some 15, none, .ext (.tmp 13) 0⟩,
  ⟨some 16, none, .ext (.tmp 13) 1⟩,
  ⟨some 3, none, .mv (.tmp 15)⟩,
  ⟨some 4, none, .mv (.tmp 16)⟩]
def c_law06_awake_3 : PC := .region [
  ⟨some 18, none, .call 25 [.const (.string (ByteArray.mk (Array.mk [97, 98, 99, 97, 98, 99, 97, 98, 99, 97, 98, 99])))]⟩,
  ⟨some 17, none, .mv (.tmp 18)⟩,
  ⟨some 19, none, .ext (.tmp 17) 0⟩,
  ⟨some 20, none, .ext (.tmp 17) 1⟩,
  ⟨some 5, none, .mv (.tmp 19)⟩,
  ⟨some 6, none, .mv (.tmp 20)⟩]
def c_law06_awake_4 : PC := .region [
  ⟨some 22, none, .call 19 [.const (.string (ByteArray.mk (Array.mk [97, 98])))]⟩,
  ⟨some 21, none, .mv (.tmp 22)⟩,
  ⟨some 23, none, .ext (.tmp 21) 0⟩,
  ⟨some 24, none, .ext (.tmp 21) 1⟩,
  ⟨some 7, none, .mv (.tmp 23)⟩,
  ⟨some 8, none, .mv (.tmp 24)⟩]
def c_law06_awake_5 : PC := .region [
  ⟨some 25, none, .mv (.tmp 2)⟩,
  ⟨some 26, none, .bin .eql (.tmp 25) (.const (.int .i64 0))⟩,
  ⟨some 27, none, .mv (.tmp 26)⟩,
  ⟨some 28, some (⟨27, true⟩), .mv (.tmp 1)⟩,
  ⟨some 29, some (⟨27, true⟩), .build [.int .i64 0, .int .i64 0, .int .i64 0] [⟨2, ⟨1, .const (.int .i64 97)⟩⟩]⟩,
  ⟨some 30, some (⟨27, true⟩), .build [.int .i64 0, .int .i64 0, .int .i64 0] [⟨2, ⟨1, .const (.int .i64 98)⟩⟩]⟩,
  ⟨some 31, some (⟨27, true⟩), .build [.int .i64 0, .int .i64 0, .int .i64 0] [⟨2, ⟨1, .const (.int .i64 99)⟩⟩]⟩,
  ⟨some 32, some (⟨27, true⟩), .build [.int .i64 0, .int .i64 0, .int .i64 0] [⟨0, ⟨1, .const (.int .i64 3)⟩⟩, ⟨1, ⟨1, .const (.int .i64 9)⟩⟩]⟩,
  ⟨some 33, some (⟨27, true⟩), .bslice 68 3 [.tmp 29, .tmp 30, .tmp 31, .tmp 32]⟩,
  ⟨some 34, some (⟨27, true⟩), .call 16 [.tmp 28, .tmp 33]⟩,
  ⟨some 35, none, .pick (.tmp 27) (.tmp 34) (.const (.bool false))⟩,
  ⟨some 36, none, .mv (.tmp 35)⟩,
  ⟨some 37, some (⟨36, true⟩), .mv (.tmp 4)⟩,
  ⟨some 38, some (⟨36, true⟩), .bin .eql (.tmp 37) (.const (.int .i64 0))⟩,
  ⟨some 39, none, .pick (.tmp 36) (.tmp 38) (.const (.bool false))⟩,
  ⟨some 40, none, .mv (.tmp 39)⟩,
  ⟨some 41, some (⟨40, true⟩), .mv (.tmp 3)⟩,
  ⟨some 42, some (⟨40, true⟩), .bin .eql (.tmp 41) (.const (.string (ByteArray.mk (Array.mk [5, 176, 8, 97, 98, 99, 6, 32]))))⟩,
  ⟨some 43, none, .pick (.tmp 40) (.tmp 42) (.const (.bool false))⟩,
  ⟨some 44, none, .mv (.tmp 43)⟩,
  ⟨some 45, some (⟨44, true⟩), .mv (.tmp 6)⟩,
  ⟨some 46, some (⟨44, true⟩), .bin .eql (.tmp 45) (.const (.int .i64 0))⟩,
  ⟨some 47, none, .pick (.tmp 44) (.tmp 46) (.const (.bool false))⟩,
  ⟨some 48, none, .mv (.tmp 47)⟩,
  ⟨some 49, some (⟨48, true⟩), .mv (.tmp 5)⟩,
  ⟨some 50, some (⟨48, true⟩), .bslice 3 1 [.const (.int .i64 44), .const (.int .i64 35), .const (.int .i64 26), .const (.int .i64 17), .const (.int .i64 17), .const (.int .i64 17), .const (.int .i64 17), .const (.int .i64 17), .const (.int .i64 17), .const (.int .i64 17), .const (.int .i64 18), .const (.int .i64 9), .const (.int .i64 0)]⟩,
  ⟨some 51, some (⟨48, true⟩), .call 28 [.tmp 49, .tmp 50]⟩,
  ⟨some 52, none, .pick (.tmp 48) (.tmp 51) (.const (.bool false))⟩,
  ⟨some 53, none, .mv (.tmp 52)⟩,
  ⟨some 54, some (⟨53, true⟩), .mv (.tmp 8)⟩,
  ⟨some 55, some (⟨53, true⟩), .bin .eql (.tmp 54) (.const (.int .i64 0))⟩,
  ⟨some 56, none, .pick (.tmp 53) (.tmp 55) (.const (.bool false))⟩,
  ⟨some 57, none, .mv (.tmp 56)⟩,
  ⟨some 58, some (⟨57, true⟩), .mv (.tmp 7)⟩,
  ⟨some 59, some (⟨57, true⟩), .bin .eql (.tmp 58) (.const (.string (ByteArray.mk (Array.mk [1, 48, 97, 98]))))⟩,
  ⟨some 60, none, .pick (.tmp 57) (.tmp 59) (.const (.bool false))⟩,
  ⟨some 0, none, .mv (.tmp 60)⟩]
def c_law06_awake_6 : PC := .seq c_law06_awake_5 .ret
def c_law06_awake_7 : PC := .seq c_law06_awake_4 c_law06_awake_6
def c_law06_awake_8 : PC := .seq c_law06_awake_3 c_law06_awake_7
def c_law06_awake_9 : PC := .seq c_law06_awake_2 c_law06_awake_8
def c_law06_awake_10 : PC := .seq c_law06_awake_1 c_law06_awake_9
def c_law06_awake_11 : PC := .seq c_law06_awake_0 c_law06_awake_10
def c_law06_awake : PC := c_law06_awake_11
def s_law06_awake : List Nat := [0, 1, 2, 3, 4, 5, 6, 7, 8]
def r_law06_awake : List (Nat × Option (Bool × Nat)) := [⟨0, none⟩]
theorem sound_law06_awake {Γ : Ctx} {S : Spec} (hΓ : Sound Go.Proofs.Try.prog Γ) (hS : FnOk S) (hargs : ∀ args K, S.run args K → args.length = 0) (h : Meets Γ s_law06_awake c_law06_awake r_law06_awake S) : SoundAt Go.Proofs.Try.prog n_law06_awake S := by
  have hb : ∃ c, Go.Proofs.Try.f12.body = some c ∧ compC Go.Proofs.Try.prog Go.Proofs.Try.f12.ntmps c = some (strip c_law06_awake) := ⟨_, rfl, by kernel_rfl⟩
  obtain ⟨c, hb, hc⟩ := hb
  exact meets_sound hΓ mixed (fn := Go.Proofs.Try.f12) (by kernel_rfl) (by kernel_rfl) hb hc (l := [.tmp 0]) (by kernel_rfl) (by kernel_rfl) (by decide) hS 0 (by decide) hargs h

/-! depository/depositorylaw06.few (1 parameters) -/
def c_law06_few_0 : PC := .region [
  ⟨some 2, none, .mv (.const (.bool false))⟩]
def c_law06_few_1 : PC := .region [
  ⟨some 3, none, .mv (.tmp 0)⟩,
  ⟨some 4, none, .lenS (.tmp 3)⟩,
  ⟨some 5, none, .bin .leq (.tmp 4) (.const (.int .i64 300))⟩,
  ⟨some 6, none, .mv (.tmp 5)⟩,
  ⟨some 7, some (⟨6, false⟩), .mv (.tmp 0)⟩,
  ⟨some 8, some (⟨6, false⟩), .lenS (.tmp 7)⟩,
  ⟨some 9, some (⟨6, false⟩), .call 23 [.tmp 8, .const (.int .i64 4097), .const (.int .i64 4106)]⟩,
  ⟨some 10, none, .pick (.tmp 6) (.const (.bool true)) (.tmp 9)⟩,
  ⟨some 2, none, .mv (.tmp 10)⟩]
def c_law06_few_2 : PC := .seq c_law06_few_1 .ret
def c_law06_few_3 : PC := .seq c_law06_few_0 c_law06_few_2
def c_law06_few : PC := c_law06_few_3
def s_law06_few : List Nat := [0, 2]
def r_law06_few : List (Nat × Option (Bool × Nat)) := [⟨2, none⟩]
theorem sound_law06_few {Γ : Ctx} {S : Spec} (hΓ : Sound Go.Proofs.Try.prog Γ) (hS : FnOk S) (hargs : ∀ args K, S.run args K → args.length = 1) (h : Meets Γ s_law06_few c_law06_few r_law06_few S) : SoundAt Go.Proofs.Try.prog n_law06_few S := by
  have hb : ∃ c, Go.Proofs.Try.f13.body = some c ∧ compC Go.Proofs.Try.prog Go.Proofs.Try.f13.ntmps c = some (strip c_law06_few) := ⟨_, rfl, by kernel_rfl⟩
  obtain ⟨c, hb, hc⟩ := hb
  exact meets_sound hΓ mixed (fn := Go.Proofs.Try.f13) (by kernel_rfl) (by kernel_rfl) hb hc (l := [.tmp 2]) (by kernel_rfl) (by kernel_rfl) (by decide) hS 1 (by decide) hargs h

/-! depository/compress.GreedyOf (1 parameters) -/
def c_compress_GreedyOf_0 : PC := .region [
  ⟨some 2, none, .nilR 68 3⟩,
  ⟨some 3, none, .mv (.const (.int .i64 0))⟩]
def c_compress_GreedyOf_1 : PC := .region [
  ⟨some 11, none, .mv (.tmp 0)⟩,
  ⟨some 12, none, .call 48 [.tmp 11]⟩,
  ⟨some 4, none, .mv (.tmp 12)⟩]
def c_compress_GreedyOf_2 : PC := .region [
  ⟨some 13, none, .mv (.tmp 4)⟩,
  ⟨some 14, none, .bin .neq (.tmp 13) (.const (.int .i64 0))⟩]
def c_compress_GreedyOf_3 : PC := .region [
  ⟨some 15, none, .mv (.tmp 4)⟩,
  ⟨some 2, none, .nilR 68 3⟩,
  ⟨some 3, none, .mv (.tmp 15)⟩]
def c_compress_GreedyOf_4 : PC := .seq c_compress_GreedyOf_3 .ret
def c_compress_GreedyOf_5 : PC := .cond (.tmp 14) c_compress_GreedyOf_4 .skip
def c_compress_GreedyOf_6 : PC := .seq c_compress_GreedyOf_2 c_compress_GreedyOf_5
def c_compress_GreedyOf_7 : PC := .seq c_compress_GreedyOf_1 c_compress_GreedyOf_6
def c_compress_GreedyOf_8 : PC := .region [
  ⟨some 16, none, .mv (.tmp 0)⟩,
  ⟨some 5, none, .mv (.tmp 16)⟩]
def c_compress_GreedyOf_9 : PC := .region [
  ⟨some 6, none, .nilR 68 3⟩]
def c_compress_GreedyOf_10 : PC := .region [
  ⟨some 7, none, .mv (.const (.int .i64 0))⟩]
def c_compress_GreedyOf_11 : PC := .region [
  ⟨some 17, none, .mv (.tmp 7)⟩,
  ⟨some 18, none, .mv (.tmp 5)⟩,
  ⟨some 19, none, .lenS (.tmp 18)⟩,
  ⟨some 20, none, .bin .lss (.tmp 17) (.tmp 19)⟩]
def c_compress_GreedyOf_12 : PC := .cond (.tmp 20) .skip (.exit 0)
def c_compress_GreedyOf_13 : PC := .seq c_compress_GreedyOf_11 c_compress_GreedyOf_12
def c_compress_GreedyOf_14 : PC := .region [
  ⟨some 21, none, .mv (.tmp 5)⟩,
  ⟨some 22, none, .mv (.tmp 7)⟩,
  ⟨some 23, none, .call 49 [.tmp 21, .tmp 22]⟩,
  ⟨some 8, none, .alloc 68 (.agg [.int .i64 0, .int .i64 0, .int .i64 0])⟩,
  ⟨none, none, .store 3 (.tmp 8) (.tmp 23)⟩]
def c_compress_GreedyOf_15 : PC := .region [
  ⟨some 24, none, .mv (.tmp 5)⟩,
  ⟨some 25, none, .mv (.tmp 7)⟩,
  ⟨some 26, none, .call 50 [.tmp 24, .tmp 25]⟩]
def c_compress_GreedyOf_16 : PC := .region [
  ⟨some 29, none, .mv (.tmp 10)⟩,
  ⟨some 30, none, .bin .geq (.tmp 29) (.const (.int .i64 3))⟩]
def c_compress_GreedyOf_17 : PC := .region [
  ⟨some 31, none, .mv (.tmp 9)⟩,
  ⟨some 32, none, .mv (.tmp 10)⟩,
  ⟨some 33, none, .build [.int .i64 0, .int .i64 0, .int .i64 0] [⟨0, ⟨1, .tmp 31⟩⟩, ⟨1, ⟨1, .tmp 32⟩⟩]⟩,
  ⟨none, none, .store 3 (.tmp 8) (.tmp 33)⟩]
def c_compress_GreedyOf_18 : PC := .cond (.tmp 30) c_compress_GreedyOf_17 .skip
def c_compress_GreedyOf_19 : PC := .seq c_compress_GreedyOf_16 c_compress_GreedyOf_18
def c_compress_GreedyOf_20 : PC := .block 3 c_compress_GreedyOf_19
def c_compress_GreedyOf_21 : PC := .rangeF (.tmp 26) [27, 28] [⟨some 9, none, .mv (.tmp 27)⟩, ⟨some 10, none, .mv (.tmp 28)⟩] c_compress_GreedyOf_20
def c_compress_GreedyOf_22 : PC := .block 2 c_compress_GreedyOf_21
def c_compress_GreedyOf_23 : PC := .seq c_compress_GreedyOf_15 c_compress_GreedyOf_22
def c_compress_GreedyOf_24 : PC := .region [
  ⟨some 34, none, .mv (.tmp 6)⟩,
  ⟨some 35, none, .load true 3 (.tmp 8)⟩,
  ⟨some 36, none, .bslice 68 3 [.tmp 35]⟩,
  ⟨some 37, none, .app 68 3 24 (.tmp 34) (.tmp 36)⟩,
  ⟨some 6, none, .mv (.tmp 37)⟩]
def c_compress_GreedyOf_25 : PC := .region [
  ⟨some 38, none, .mv (.tmp 7)⟩,
  ⟨some 39, none, .load true 3 (.tmp 8)⟩,
  ⟨some 40, none, .call 51 [.tmp 39]⟩,
  ⟨some 41, none, .bin .add (.tmp 38) (.tmp 40)⟩,
  ⟨some 7, none, .mv (.tmp 41)⟩]
def c_compress_GreedyOf_26 : PC := .seq c_compress_GreedyOf_24 c_compress_GreedyOf_25
def c_compress_GreedyOf_27 : PC := .seq c_compress_GreedyOf_23 c_compress_GreedyOf_26
def c_compress_GreedyOf_28 : PC := .seq c_compress_GreedyOf_14 c_compress_GreedyOf_27
def c_compress_GreedyOf_29 : PC := .block 1 c_compress_GreedyOf_28
def c_compress_GreedyOf_30 : PC := .seq c_compress_GreedyOf_13 c_compress_GreedyOf_29
def c_compress_GreedyOf_31 : PC := .loop [5, 6, 7] c_compress_GreedyOf_30
def c_compress_GreedyOf_32 : PC := .block 0 c_compress_GreedyOf_31
def c_compress_GreedyOf_33 : PC := .seq c_compress_GreedyOf_10 c_compress_GreedyOf_32
def c_compress_GreedyOf_34 : PC := .region [
  ⟨some 42, none, .mv (.tmp 6)⟩,
  ⟨some 2, none, .mv (.tmp 42)⟩,
  ⟨some 3, none, .mv (.const (.int .i64 0))⟩]
def c_compress_GreedyOf_35 : PC := .seq c_compress_GreedyOf_34 .ret
def c_compress_GreedyOf_36 : PC := .seq c_compress_GreedyOf_33 c_compress_GreedyOf_35
def c_compress_GreedyOf_37 : PC := .seq c_compress_GreedyOf_9 c_compress_GreedyOf_36
def c_compress_GreedyOf_38 : PC := .seq c_compress_GreedyOf_8 c_compress_GreedyOf_37
def c_compress_GreedyOf_39 : PC := .seq c_compress_GreedyOf_7 c_compress_GreedyOf_38
def c_compress_GreedyOf_40 : PC := .seq c_compress_GreedyOf_0 c_compress_GreedyOf_39
def c_compress_GreedyOf : PC := c_compress_GreedyOf_40
def s_compress_GreedyOf : List Nat := [0, 2, 3, 4, 5, 6, 7, 8, 9, 10, 26]
def r_compress_GreedyOf : List (Nat × Option (Bool × Nat)) := [⟨2, none⟩, ⟨3, none⟩]
theorem sound_compress_GreedyOf {Γ : Ctx} {S : Spec} (hΓ : Sound Go.Proofs.Try.prog Γ) (hS : FnOk S) (hargs : ∀ args K, S.run args K → args.length = 1) (h : Meets Γ s_compress_GreedyOf c_compress_GreedyOf r_compress_GreedyOf S) : SoundAt Go.Proofs.Try.prog n_compress_GreedyOf S := by
  have hb : ∃ c, Go.Proofs.Try.f14.body = some c ∧ compC Go.Proofs.Try.prog Go.Proofs.Try.f14.ntmps c = some (strip c_compress_GreedyOf) := ⟨_, rfl, by kernel_rfl⟩
  obtain ⟨c, hb, hc⟩ := hb
  exact meets_sound hΓ mixed (fn := Go.Proofs.Try.f14) (by kernel_rfl) (by kernel_rfl) hb hc (l := [.tmp 2, .tmp 3]) (by kernel_rfl) (by kernel_rfl) (by decide) hS 1 (by decide) hargs h

/-! depository/depositoryref06.DataErr (1 parameters) -/
def c_ref06_DataErr_0 : PC := .region [
  ⟨some 2, none, .mv (.const (.int .i64 0))⟩]
def c_ref06_DataErr_1 : PC := .region [
  ⟨some 3, none, .mv (.tmp 0)⟩,
  ⟨some 4, none, .lenS (.tmp 3)⟩,
  ⟨some 5, none, .bin .eql (.tmp 4) (.const (.int .i64 0))⟩]
def c_ref06_DataErr_2 : PC := .region [
  ⟨some 2, none, .mv (.const (.int .i64 17))⟩]
def c_ref06_DataErr_3 : PC := .seq c_ref06_DataErr_2 .ret
def c_ref06_DataErr_4 : PC := .cond (.tmp 5) c_ref06_DataErr_3 .skip
def c_ref06_DataErr_5 : PC := .seq c_ref06_DataErr_1 c_ref06_DataErr_4
def c_ref06_DataErr_6 : PC := .region [
  ⟨some 6, none, .mv (.tmp 0)⟩,
  ⟨some 7, none, .lenS (.tmp 6)⟩,
  ⟨some 8, none, .bin .gtr (.tmp 7) (.const (.int .i64 4096))⟩]
def c_ref06_DataErr_7 : PC := .region [
  ⟨some 2, none, .mv (.const (.int .i64 8))⟩]
def c_ref06_DataErr_8 : PC := .seq c_ref06_DataErr_7 .ret
def c_ref06_DataErr_9 : PC := .cond (.tmp 8) c_ref06_DataErr_8 .skip
def c_ref06_DataErr_10 : PC := .seq c_ref06_DataErr_6 c_ref06_DataErr_9
def c_ref06_DataErr_11 : PC := .region [
  ⟨some 2, none, .mv (.const (.int .i64 0))⟩]
def c_ref06_DataErr_12 : PC := .seq c_ref06_DataErr_11 .ret
def c_ref06_DataErr_13 : PC := .seq c_ref06_DataErr_10 c_ref06_DataErr_12
def c_ref06_DataErr_14 : PC := .seq c_ref06_DataErr_5 c_ref06_DataErr_13
def c_ref06_DataErr_15 : PC := .seq c_ref06_DataErr_0 c_ref06_DataErr_14
def c_ref06_DataErr : PC := c_ref06_DataErr_15
def s_ref06_DataErr : List Nat := [0, 2]
def r_ref06_DataErr : List (Nat × Option (Bool × Nat)) := [⟨2, none⟩]
theorem sound_ref06_DataErr {Γ : Ctx} {S : Spec} (hΓ : Sound Go.Proofs.Try.prog Γ) (hS : FnOk S) (hargs : ∀ args K, S.run args K → args.length = 1) (h : Meets Γ s_ref06_DataErr c_ref06_DataErr r_ref06_DataErr S) : SoundAt Go.Proofs.Try.prog n_ref06_DataErr S := by
  have hb : ∃ c, Go.Proofs.Try.f15.body = some c ∧ compC Go.Proofs.Try.prog Go.Proofs.Try.f15.ntmps c = some (strip c_ref06_DataErr) := ⟨_, rfl, by kernel_rfl⟩
  obtain ⟨c, hb, hc⟩ := hb
  exact meets_sound hΓ mixed (fn := Go.Proofs.Try.f15) (by kernel_rfl) (by kernel_rfl) hb hc (l := [.tmp 2]) (by kernel_rfl) (by kernel_rfl) (by decide) hS 1 (by decide) hargs h

/-! depository/depositoryref06.SameTokens (2 parameters) -/
def c_ref06_SameTokens_0 : PC := .region [
  ⟨some 4, none, .mv (.const (.bool false))⟩]
def c_ref06_SameTokens_1 : PC := .region [
  ⟨some 6, none, .mv (.tmp 0)⟩,
  ⟨some 7, none, .lenR (.tmp 6)⟩,
  ⟨some 8, none, .mv (.tmp 1)⟩,
  ⟨some 9, none, .lenR (.tmp 8)⟩,
  ⟨some 10, none, .bin .neq (.tmp 7) (.tmp 9)⟩]
def c_ref06_SameTokens_2 : PC := .region [
  ⟨some 4, none, .mv (.const (.bool false))⟩]
def c_ref06_SameTokens_3 : PC := .seq c_ref06_SameTokens_2 .ret
def c_ref06_SameTokens_4 : PC := .cond (.tmp 10) c_ref06_SameTokens_3 .skip
def c_ref06_SameTokens_5 : PC := .seq c_ref06_SameTokens_1 c_ref06_SameTokens_4
def c_ref06_SameTokens_6 : PC := .region [
  ⟨some 5, none, .mv (.const (.int .i64 0))⟩]
def c_ref06_SameTokens_7 : PC := .region [
  ⟨some 11, none, .mv (.tmp 5)⟩,
  ⟨some 12, none, .mv (.tmp 0)⟩,
  ⟨some 13, none, .lenR (.tmp 12)⟩,
  ⟨some 14, none, .bin .lss (.tmp 11) (.tmp 13)⟩]
def c_ref06_SameTokens_8 : PC := .cond (.tmp 14) .skip (.exit 0)
def c_ref06_SameTokens_9 : PC := .seq c_ref06_SameTokens_7 c_ref06_SameTokens_8
def c_ref06_SameTokens_10 : PC := .draw [
  ⟨some 17, none, .mv (.tmp 0)⟩,
  ⟨some 18, none, .mv (.tmp 5)⟩,
  ⟨some 19, none, .idxA 3 (.tmp 17) (.tmp 18)⟩,
  ⟨some 20, none, .load true 3 (.tmp 19)⟩,
  ⟨some 21, none, .mv (.tmp 1)⟩,
  ⟨some 22, none, .mv (.tmp 5)⟩,
  ⟨some 23, none, .idxA 3 (.tmp 21) (.tmp 22)⟩,
  ⟨some 24, none, .load true 3 (.tmp 23)⟩,
  ⟨some 25, none, .eqs true [0, 0, 0] (.tmp 20) (.tmp 24)⟩]
  [[], [], [0, 1], [2], [], [], [4, 5], [6], [3, 7]]
def c_ref06_SameTokens_11 : PC := .region [
  ⟨some 4, none, .mv (.const (.bool false))⟩]
def c_ref06_SameTokens_12 : PC := .seq c_ref06_SameTokens_11 .ret
def c_ref06_SameTokens_13 : PC := .cond (.tmp 25) c_ref06_SameTokens_12 .skip
def c_ref06_SameTokens_14 : PC := .seq c_ref06_SameTokens_10 c_ref06_SameTokens_13
def c_ref06_SameTokens_15 : PC := .block 1 c_ref06_SameTokens_14
def c_ref06_SameTokens_16 : PC := .region [
  ⟨some 15, none, .mv (.tmp 5)⟩,
  ⟨some 16, none, .bin .add (.tmp 15) (.const (.int .i64 1))⟩,
  ⟨some 5, none, .mv (.tmp 16)⟩]
def c_ref06_SameTokens_17 : PC := .seq c_ref06_SameTokens_15 c_ref06_SameTokens_16
def c_ref06_SameTokens_18 : PC := .seq c_ref06_SameTokens_9 c_ref06_SameTokens_17
def c_ref06_SameTokens_19 : PC := .loop [0, 1, 5] c_ref06_SameTokens_18
def c_ref06_SameTokens_20 : PC := .block 0 c_ref06_SameTokens_19
def c_ref06_SameTokens_21 : PC := .seq c_ref06_SameTokens_6 c_ref06_SameTokens_20
def c_ref06_SameTokens_22 : PC := .region [
  ⟨some 4, none, .mv (.const (.bool true))⟩]
def c_ref06_SameTokens_23 : PC := .seq c_ref06_SameTokens_22 .ret
def c_ref06_SameTokens_24 : PC := .seq c_ref06_SameTokens_21 c_ref06_SameTokens_23
def c_ref06_SameTokens_25 : PC := .seq c_ref06_SameTokens_5 c_ref06_SameTokens_24
def c_ref06_SameTokens_26 : PC := .seq c_ref06_SameTokens_0 c_ref06_SameTokens_25
def c_ref06_SameTokens : PC := c_ref06_SameTokens_26
def s_ref06_SameTokens : List Nat := [0, 1, 4, 5]
def r_ref06_SameTokens : List (Nat × Option (Bool × Nat)) := [⟨4, none⟩]
theorem sound_ref06_SameTokens {Γ : Ctx} {S : Spec} (hΓ : Sound Go.Proofs.Try.prog Γ) (hS : FnOk S) (hargs : ∀ args K, S.run args K → args.length = 2) (h : Meets Γ s_ref06_SameTokens c_ref06_SameTokens r_ref06_SameTokens S) : SoundAt Go.Proofs.Try.prog n_ref06_SameTokens S := by
  have hb : ∃ c, Go.Proofs.Try.f16.body = some c ∧ compC Go.Proofs.Try.prog Go.Proofs.Try.f16.ntmps c = some (strip c_ref06_SameTokens) := ⟨_, rfl, by kernel_rfl⟩
  obtain ⟨c, hb, hc⟩ := hb
  exact meets_sound hΓ mixed (fn := Go.Proofs.Try.f16) (by kernel_rfl) (by kernel_rfl) hb hc (l := [.tmp 4]) (by kernel_rfl) (by kernel_rfl) (by decide) hS 2 (by decide) hargs h

/-! depository/depositoryref06.Greedy (1 parameters) -/
def c_ref06_Greedy_0 : PC := .region [
  ⟨some 2, none, .nilR 68 3⟩]
def c_ref06_Greedy_1 : PC := .region [
  ⟨some 3, none, .nilR 68 3⟩]
def c_ref06_Greedy_2 : PC := .region [
  ⟨some 4, none, .mv (.const (.int .i64 0))⟩]
def c_ref06_Greedy_3 : PC := .region [
  ⟨some 8, none, .mv (.tmp 4)⟩,
  ⟨some 9, none, .mv (.tmp 0)⟩,
  ⟨some 10, none, .lenS (.tmp 9)⟩,
  ⟨some 11, none, .bin .lss (.tmp 8) (.tmp 10)⟩]
def c_ref06_Greedy_4 : PC := .cond (.tmp 11) .skip (.exit 0)
def c_ref06_Greedy_5 : PC := .seq c_ref06_Greedy_3 c_ref06_Greedy_4
def c_ref06_Greedy_6 : PC := .region [
  ⟨some 12, none, .mv (.tmp 0)⟩,
  ⟨some 13, none, .mv (.tmp 4)⟩,
  ⟨some 14, none, .call 52 [.tmp 12, .tmp 13]⟩,
  ⟨some 5, none, .alloc 68 (.agg [.int .i64 0, .int .i64 0, .int .i64 0])⟩,
  ⟨none, none, .store 3 (.tmp 5) (.tmp 14)⟩]
def c_ref06_Greedy_7 : PC := .region [
  ⟨some 16, none, .mv (.tmp 0)⟩,
  ⟨some 17, none, .mv (.tmp 4)⟩,
  ⟨some 18, none, .call 53 [.tmp 16, .tmp 17]⟩,
  ⟨some 15, none, .mv (.tmp 18)⟩,
  ⟨some 19, none, .ext (.tmp 15) 0⟩,
  ⟨some 20, none, .ext (.tmp 15) 1⟩,
  ⟨some 6, none, .mv (.tmp 19)⟩,
  ⟨some 7, none, .mv (.tmp 20)⟩]
def c_ref06_Greedy_8 : PC := .region [
  ⟨some 21, none, .mv (.tmp 7)⟩,
  ⟨some 22, none, .bin .geq (.tmp 21) (.const (.int .i64 3))⟩]
def c_ref06_Greedy_9 : PC := .region [
  ⟨some 23, none, .mv (.tmp 6)⟩,
  ⟨some 24, none, .mv (.tmp 7)⟩,
  ⟨some 25, none, .build [.int .i64 0, .int .i64 0, .int .i64 0] [⟨0, ⟨1, .tmp 23⟩⟩, ⟨1, ⟨1, .tmp 24⟩⟩]⟩,
  ⟨none, none, .store 3 (.tmp 5) (.tmp 25)⟩]
def c_ref06_Greedy_10 : PC := .cond (.tmp 22) c_ref06_Greedy_9 .skip
def c_ref06_Greedy_11 : PC := .seq c_ref06_Greedy_8 c_ref06_Greedy_10
def c_ref06_Greedy_12 : PC := .seq c_ref06_Greedy_7 c_ref06_Greedy_11
def c_ref06_Greedy_13 : PC := .region [
  ⟨some 26, none, .mv (.tmp 3)⟩,
  ⟨some 27, none, .load true 3 (.tmp 5)⟩,
  ⟨some 28, none, .bslice 68 3 [.tmp 27]⟩,
  ⟨some 29, none, .app 68 3 24 (.tmp 26) (.tmp 28)⟩,
  ⟨some 3, none, .mv (.tmp 29)⟩]
def c_ref06_Greedy_14 : PC := .region [
  ⟨some 30, none, .mv (.tmp 4)⟩,
  ⟨some 31, none, .load true 3 (.tmp 5)⟩,
  ⟨some 32, none, .call 54 [.tmp 31]⟩,
  ⟨some 33, none, .bin .add (.tmp 30) (.tmp 32)⟩,
  ⟨some 4, none, .mv (.tmp 33)⟩]
def c_ref06_Greedy_15 : PC := .seq c_ref06_Greedy_13 c_ref06_Greedy_14
def c_ref06_Greedy_16 : PC := .seq c_ref06_Greedy_12 c_ref06_Greedy_15
def c_ref06_Greedy_17 : PC := .seq c_ref06_Greedy_6 c_ref06_Greedy_16
def c_ref06_Greedy_18 : PC := .block 1 c_ref06_Greedy_17
def c_ref06_Greedy_19 : PC := .seq c_ref06_Greedy_5 c_ref06_Greedy_18
def c_ref06_Greedy_20 : PC := .loop [0, 3, 4] c_ref06_Greedy_19
def c_ref06_Greedy_21 : PC := .block 0 c_ref06_Greedy_20
def c_ref06_Greedy_22 : PC := .region [
  ⟨some 34, none, .mv (.tmp 3)⟩,
  ⟨some 2, none, .mv (.tmp 34)⟩]
def c_ref06_Greedy_23 : PC := .seq c_ref06_Greedy_22 .ret
def c_ref06_Greedy_24 : PC := .seq c_ref06_Greedy_21 c_ref06_Greedy_23
def c_ref06_Greedy_25 : PC := .seq c_ref06_Greedy_2 c_ref06_Greedy_24
def c_ref06_Greedy_26 : PC := .seq c_ref06_Greedy_1 c_ref06_Greedy_25
def c_ref06_Greedy_27 : PC := .seq c_ref06_Greedy_0 c_ref06_Greedy_26
def c_ref06_Greedy : PC := c_ref06_Greedy_27
def s_ref06_Greedy : List Nat := [0, 2, 3, 4, 5, 6, 7]
def r_ref06_Greedy : List (Nat × Option (Bool × Nat)) := [⟨2, none⟩]
theorem sound_ref06_Greedy {Γ : Ctx} {S : Spec} (hΓ : Sound Go.Proofs.Try.prog Γ) (hS : FnOk S) (hargs : ∀ args K, S.run args K → args.length = 1) (h : Meets Γ s_ref06_Greedy c_ref06_Greedy r_ref06_Greedy S) : SoundAt Go.Proofs.Try.prog n_ref06_Greedy S := by
  have hb : ∃ c, Go.Proofs.Try.f17.body = some c ∧ compC Go.Proofs.Try.prog Go.Proofs.Try.f17.ntmps c = some (strip c_ref06_Greedy) := ⟨_, rfl, by kernel_rfl⟩
  obtain ⟨c, hb, hc⟩ := hb
  exact meets_sound hΓ mixed (fn := Go.Proofs.Try.f17) (by kernel_rfl) (by kernel_rfl) hb hc (l := [.tmp 2]) (by kernel_rfl) (by kernel_rfl) (by decide) hS 1 (by decide) hargs h

/-! depository/compress.OptimalOf (1 parameters) -/
def c_compress_OptimalOf_0 : PC := .region [
  ⟨some 2, none, .nilR 68 3⟩,
  ⟨some 3, none, .mv (.const (.int .i64 0))⟩]
def c_compress_OptimalOf_1 : PC := .region [
  ⟨some 5, none, .mv (.tmp 0)⟩,
  ⟨some 6, none, .call 48 [.tmp 5]⟩,
  ⟨some 4, none, .mv (.tmp 6)⟩]
def c_compress_OptimalOf_2 : PC := .region [
  ⟨some 7, none, .mv (.tmp 4)⟩,
  ⟨some 8, none, .bin .neq (.tmp 7) (.const (.int .i64 0))⟩]
def c_compress_OptimalOf_3 : PC := .region [
  ⟨some 9, none, .mv (.tmp 4)⟩,
  ⟨some 2, none, .nilR 68 3⟩,
  ⟨some 3, none, .mv (.tmp 9)⟩]
def c_compress_OptimalOf_4 : PC := .seq c_compress_OptimalOf_3 .ret
def c_compress_OptimalOf_5 : PC := .cond (.tmp 8) c_compress_OptimalOf_4 .skip
def c_compress_OptimalOf_6 : PC := .seq c_compress_OptimalOf_2 c_compress_OptimalOf_5
def c_compress_OptimalOf_7 : PC := .seq c_compress_OptimalOf_1 c_compress_OptimalOf_6
def c_compress_OptimalOf_8 : PC := .region [
  ⟨some 10, none, .mv (.tmp 0)⟩,
  ⟨some 11, none, .call 55 [.tmp 10]⟩,
  ⟨some 2, none, .mv (.tmp 11)⟩,
  ⟨some 3, none, .mv (.const (.int .i64 0))⟩]
def c_compress_OptimalOf_9 : PC := .seq c_compress_OptimalOf_8 .ret
def c_compress_OptimalOf_10 : PC := .seq c_compress_OptimalOf_7 c_compress_OptimalOf_9
def c_compress_OptimalOf_11 : PC := .seq c_compress_OptimalOf_0 c_compress_OptimalOf_10
def c_compress_OptimalOf : PC := c_compress_OptimalOf_11
def s_compress_OptimalOf : List Nat := [0, 2, 3, 4]
def r_compress_OptimalOf : List (Nat × Option (Bool × Nat)) := [⟨2, none⟩, ⟨3, none⟩]
theorem sound_compress_OptimalOf {Γ : Ctx} {S : Spec} (hΓ : Sound Go.Proofs.Try.prog Γ) (hS : FnOk S) (hargs : ∀ args K, S.run args K → args.length = 1) (h : Meets Γ s_compress_OptimalOf c_compress_OptimalOf r_compress_OptimalOf S) : SoundAt Go.Proofs.Try.prog n_compress_OptimalOf S := by
  have hb : ∃ c, Go.Proofs.Try.f18.body = some c ∧ compC Go.Proofs.Try.prog Go.Proofs.Try.f18.ntmps c = some (strip c_compress_OptimalOf) := ⟨_, rfl, by kernel_rfl⟩
  obtain ⟨c, hb, hc⟩ := hb
  exact meets_sound hΓ mixed (fn := Go.Proofs.Try.f18) (by kernel_rfl) (by kernel_rfl) hb hc (l := [.tmp 2, .tmp 3]) (by kernel_rfl) (by kernel_rfl) (by decide) hS 1 (by decide) hargs h

/-! depository/compress.Encode (1 parameters) -/
def c_compress_Encode_0 : PC := .region [
  ⟨some 2, none, .mv (.const (.string (ByteArray.mk (Array.mk []))))⟩,
  ⟨some 3, none, .mv (.const (.int .i64 0))⟩]
def c_compress_Encode_1 : PC := .region [
  ⟨some 8, none, .mv (.tmp 0)⟩,
  ⟨some 9, none, .call 48 [.tmp 8]⟩,
  ⟨some 4, none, .mv (.tmp 9)⟩]
def c_compress_Encode_2 : PC := .region [
  ⟨some 10, none, .mv (.tmp 4)⟩,
  ⟨some 11, none, .bin .neq (.tmp 10) (.const (.int .i64 0))⟩]
def c_compress_Encode_3 : PC := .region [
  ⟨some 12, none, .mv (.tmp 4)⟩,
  ⟨some 2, none, .mv (.const (.string (ByteArray.mk (Array.mk []))))⟩,
  ⟨some 3, none, .mv (.tmp 12)⟩]
def c_compress_Encode_4 : PC := .seq c_compress_Encode_3 .ret
def c_compress_Encode_5 : PC := .cond (.tmp 11) c_compress_Encode_4 .skip
def c_compress_Encode_6 : PC := .seq c_compress_Encode_2 c_compress_Encode_5
def c_compress_Encode_7 : PC := .seq c_compress_Encode_1 c_compress_Encode_6
def c_compress_Encode_8 : PC := .region [
  ⟨some 13, none, .mv (.tmp 0)⟩,
  ⟨some 14, none, .lenS (.tmp 13)⟩,
  ⟨some 15, none, .call 56 [.tmp 14, .const (.bool false)]⟩,
  ⟨some 16, none, .mv (.tmp 0)⟩,
  ⟨some 17, none, .bin .add (.tmp 15) (.tmp 16)⟩,
  ⟨some 5, none, .mv (.tmp 17)⟩]
def c_compress_Encode_9 : PC := .region [
  ⟨some 19, none, .mv (.tmp 0)⟩,
  ⟨some 20, none, .call 55 [.tmp 19]⟩,
  ⟨some 21, none, .call 57 [.tmp 20]⟩,
  ⟨some 18, none, .mv (.tmp 21)⟩,
  ⟨some 22, none, .ext (.tmp 18) 0⟩,
  ⟨some 23, none, .ext (.tmp 18) 1⟩,
  ⟨some 6, none, .mv (.tmp 22)⟩,
  ⟨some 7, none, .mv (.tmp 23)⟩]
def c_compress_Encode_10 : PC := .region [
  ⟨some 24, none, .mv (.tmp 7)⟩,
  ⟨some 25, none, .bin .eql (.tmp 24) (.const (.int .i64 0))⟩,
  ⟨some 26, none, .mv (.tmp 25)⟩,
  ⟨some 27, some (⟨26, true⟩), .mv (.tmp 6)⟩,
  ⟨some 28, some (⟨26, true⟩), .lenS (.tmp 27)⟩,
  ⟨some 29, some (⟨26, true⟩), .mv (.tmp 5)⟩,
  ⟨some 30, some (⟨26, true⟩), .lenS (.tmp 29)⟩,
  ⟨some 31, some (⟨26, true⟩), .bin .lss (.tmp 28) (.tmp 30)⟩,
  ⟨some 32, none, .pick (.tmp 26) (.tmp 31) (.const (.bool false))⟩]
def c_compress_Encode_11 : PC := .region [
  ⟨some 33, none, .mv (.tmp 6)⟩,
  ⟨some 2, none, .mv (.tmp 33)⟩,
  ⟨some 3, none, .mv (.const (.int .i64 0))⟩]
def c_compress_Encode_12 : PC := .seq c_compress_Encode_11 .ret
def c_compress_Encode_13 : PC := .cond (.tmp 32) c_compress_Encode_12 .skip
def c_compress_Encode_14 : PC := .seq c_compress_Encode_10 c_compress_Encode_13
def c_compress_Encode_15 : PC := .seq c_compress_Encode_9 c_compress_Encode_14
def c_compress_Encode_16 : PC := .region [
  ⟨some 34, none, .mv (.tmp 5)⟩,
  ⟨some 2, none, .mv (.tmp 34)⟩,
  ⟨some 3, none, .mv (.const (.int .i64 0))⟩]
def c_compress_Encode_17 : PC := .seq c_compress_Encode_16 .ret
def c_compress_Encode_18 : PC := .seq c_compress_Encode_15 c_compress_Encode_17
def c_compress_Encode_19 : PC := .seq c_compress_Encode_8 c_compress_Encode_18
def c_compress_Encode_20 : PC := .seq c_compress_Encode_7 c_compress_Encode_19
def c_compress_Encode_21 : PC := .seq c_compress_Encode_0 c_compress_Encode_20
def c_compress_Encode : PC := c_compress_Encode_21
def s_compress_Encode : List Nat := [0, 2, 3, 4, 5, 6, 7]
def r_compress_Encode : List (Nat × Option (Bool × Nat)) := [⟨2, none⟩, ⟨3, none⟩]
theorem sound_compress_Encode {Γ : Ctx} {S : Spec} (hΓ : Sound Go.Proofs.Try.prog Γ) (hS : FnOk S) (hargs : ∀ args K, S.run args K → args.length = 1) (h : Meets Γ s_compress_Encode c_compress_Encode r_compress_Encode S) : SoundAt Go.Proofs.Try.prog n_compress_Encode S := by
  have hb : ∃ c, Go.Proofs.Try.f19.body = some c ∧ compC Go.Proofs.Try.prog Go.Proofs.Try.f19.ntmps c = some (strip c_compress_Encode) := ⟨_, rfl, by kernel_rfl⟩
  obtain ⟨c, hb, hc⟩ := hb
  exact meets_sound hΓ mixed (fn := Go.Proofs.Try.f19) (by kernel_rfl) (by kernel_rfl) hb hc (l := [.tmp 2, .tmp 3]) (by kernel_rfl) (by kernel_rfl) (by decide) hS 1 (by decide) hargs h

/-! depository/depositoryref06.Optimal (1 parameters) -/
def c_ref06_Optimal_0 : PC := .region [
  ⟨some 2, none, .nilR 68 3⟩]
def c_ref06_Optimal_1 : PC := .region [
  ⟨some 9, none, .mv (.tmp 0)⟩,
  ⟨some 10, none, .call 29 [.tmp 9]⟩,
  ⟨some 3, none, .mv (.tmp 10)⟩]
def c_ref06_Optimal_2 : PC := .region [
  ⟨some 4, none, .nilR 68 3⟩]
def c_ref06_Optimal_3 : PC := .region [
  ⟨some 5, none, .mv (.const (.int .i64 0))⟩]
def c_ref06_Optimal_4 : PC := .region [
  ⟨some 11, none, .mv (.tmp 5)⟩,
  ⟨some 12, none, .mv (.tmp 0)⟩,
  ⟨some 13, none, .lenS (.tmp 12)⟩,
  ⟨some 14, none, .bin .lss (.tmp 11) (.tmp 13)⟩]
def c_ref06_Optimal_5 : PC := .cond (.tmp 14) .skip (.exit 0)
def c_ref06_Optimal_6 : PC := .seq c_ref06_Optimal_4 c_ref06_Optimal_5
def c_ref06_Optimal_7 : PC := .region [
  ⟨some 15, none, .mv (.tmp 0)⟩,
  ⟨some 16, none, .mv (.tmp 5)⟩,
  ⟨some 17, none, .call 52 [.tmp 15, .tmp 16]⟩,
  ⟨some 6, none, .alloc 68 (.agg [.int .i64 0, .int .i64 0, .int .i64 0])⟩,
  ⟨none, none, .store 3 (.tmp 6) (.tmp 17)⟩]
def c_ref06_Optimal_8 : PC := .draw [
  ⟨some 18, none, .mv (.tmp 3)⟩,
  ⟨some 19, none, .mv (.tmp 5)⟩,
  ⟨some 20, none, .bin .add (.tmp 19) (.const (.int .i64 1))⟩,
  ⟨some 21, none, .idxA 1 (.tmp 18) (.tmp 20)⟩,
  ⟨some 22, none, .load false 1 (.tmp 21)⟩,
  ⟨some 23, none, .bin .add (.const (.int .i64 9)) (.tmp 22)⟩,
  ⟨some 24, none, .mv (.tmp 3)⟩,
  ⟨some 25, none, .mv (.tmp 5)⟩,
  ⟨some 26, none, .idxA 1 (.tmp 24) (.tmp 25)⟩,
  ⟨some 27, none, .load false 1 (.tmp 26)⟩,
  ⟨some 28, none, .bin .neq (.tmp 23) (.tmp 27)⟩]
  [[], [], [1], [0, 2], [3], [4], [], [], [6, 7], [8], [5, 9]]
def c_ref06_Optimal_9 : PC := .region [
  ⟨some 7, none, .mv (.const (.int .i64 3))⟩]
def c_ref06_Optimal_10 : PC := .draw [
  ⟨some 29, none, .mv (.tmp 3)⟩,
  ⟨some 30, none, .mv (.tmp 5)⟩,
  ⟨some 31, none, .mv (.tmp 7)⟩,
  ⟨some 32, none, .bin .add (.tmp 30) (.tmp 31)⟩,
  ⟨some 33, none, .idxA 1 (.tmp 29) (.tmp 32)⟩,
  ⟨some 34, none, .load false 1 (.tmp 33)⟩,
  ⟨some 35, none, .bin .add (.const (.int .i64 17)) (.tmp 34)⟩,
  ⟨some 36, none, .mv (.tmp 3)⟩,
  ⟨some 37, none, .mv (.tmp 5)⟩,
  ⟨some 38, none, .idxA 1 (.tmp 36) (.tmp 37)⟩,
  ⟨some 39, none, .load false 1 (.tmp 38)⟩,
  ⟨some 40, none, .bin .neq (.tmp 35) (.tmp 39)⟩]
  [[], [], [], [1, 2], [0, 3], [4], [5], [], [], [7, 8], [9], [6, 10]]
def c_ref06_Optimal_11 : PC := .cond (.tmp 40) .skip (.exit 2)
def c_ref06_Optimal_12 : PC := .seq c_ref06_Optimal_10 c_ref06_Optimal_11
def c_ref06_Optimal_13 : PC := .region [
  ⟨some 41, none, .mv (.tmp 7)⟩,
  ⟨some 42, none, .bin .add (.tmp 41) (.const (.int .i64 1))⟩,
  ⟨some 7, none, .mv (.tmp 42)⟩]
def c_ref06_Optimal_14 : PC := .block 3 c_ref06_Optimal_13
def c_ref06_Optimal_15 : PC := .seq c_ref06_Optimal_12 c_ref06_Optimal_14
def c_ref06_Optimal_16 : PC := .loop [0, 3, 4, 5, 6, 7] c_ref06_Optimal_15
def c_ref06_Optimal_17 : PC := .block 2 c_ref06_Optimal_16
def c_ref06_Optimal_18 : PC := .region [
  ⟨some 8, none, .mv (.const (.int .i64 1))⟩]
def c_ref06_Optimal_19 : PC := .region [
  ⟨some 43, none, .mv (.tmp 0)⟩,
  ⟨some 44, none, .mv (.tmp 5)⟩,
  ⟨some 45, none, .mv (.tmp 8)⟩,
  ⟨some 46, none, .call 58 [.tmp 43, .tmp 44, .tmp 45]⟩,
  ⟨some 47, none, .mv (.tmp 7)⟩,
  ⟨some 48, none, .bin .lss (.tmp 46) (.tmp 47)⟩]
def c_ref06_Optimal_20 : PC := .cond (.tmp 48) .skip (.exit 4)
def c_ref06_Optimal_21 : PC := .seq c_ref06_Optimal_19 c_ref06_Optimal_20
def c_ref06_Optimal_22 : PC := .region [
  ⟨some 49, none, .mv (.tmp 8)⟩,
  ⟨some 50, none, .bin .add (.tmp 49) (.const (.int .i64 1))⟩,
  ⟨some 8, none, .mv (.tmp 50)⟩]
def c_ref06_Optimal_23 : PC := .block 5 c_ref06_Optimal_22
def c_ref06_Optimal_24 : PC := .seq c_ref06_Optimal_21 c_ref06_Optimal_23
def c_ref06_Optimal_25 : PC := .loop [0, 3, 4, 5, 6, 7, 8] c_ref06_Optimal_24
def c_ref06_Optimal_26 : PC := .block 4 c_ref06_Optimal_25
def c_ref06_Optimal_27 : PC := .region [
  ⟨some 51, none, .mv (.tmp 8)⟩,
  ⟨some 52, none, .mv (.tmp 7)⟩,
  ⟨some 53, none, .build [.int .i64 0, .int .i64 0, .int .i64 0] [⟨0, ⟨1, .tmp 51⟩⟩, ⟨1, ⟨1, .tmp 52⟩⟩]⟩,
  ⟨none, none, .store 3 (.tmp 6) (.tmp 53)⟩]
def c_ref06_Optimal_28 : PC := .seq c_ref06_Optimal_26 c_ref06_Optimal_27
def c_ref06_Optimal_29 : PC := .seq c_ref06_Optimal_18 c_ref06_Optimal_28
def c_ref06_Optimal_30 : PC := .seq c_ref06_Optimal_17 c_ref06_Optimal_29
def c_ref06_Optimal_31 : PC := .seq c_ref06_Optimal_9 c_ref06_Optimal_30
def c_ref06_Optimal_32 : PC := .cond (.tmp 28) c_ref06_Optimal_31 .skip
def c_ref06_Optimal_33 : PC := .seq c_ref06_Optimal_8 c_ref06_Optimal_32
def c_ref06_Optimal_34 : PC := .region [
  ⟨some 54, none, .mv (.tmp 4)⟩,
  ⟨some 55, none, .load true 3 (.tmp 6)⟩,
  ⟨some 56, none, .bslice 68 3 [.tmp 55]⟩,
  ⟨some 57, none, .app 68 3 24 (.tmp 54) (.tmp 56)⟩,
  ⟨some 4, none, .mv (.tmp 57)⟩]
def c_ref06_Optimal_35 : PC := .region [
  ⟨some 58, none, .mv (.tmp 5)⟩,
  ⟨some 59, none, .load true 3 (.tmp 6)⟩,
  ⟨some 60, none, .call 54 [.tmp 59]⟩,
  ⟨some 61, none, .bin .add (.tmp 58) (.tmp 60)⟩,
  ⟨some 5, none, .mv (.tmp 61)⟩]
def c_ref06_Optimal_36 : PC := .seq c_ref06_Optimal_34 c_ref06_Optimal_35
def c_ref06_Optimal_37 : PC := .seq c_ref06_Optimal_33 c_ref06_Optimal_36
def c_ref06_Optimal_38 : PC := .seq c_ref06_Optimal_7 c_ref06_Optimal_37
def c_ref06_Optimal_39 : PC := .block 1 c_ref06_Optimal_38
def c_ref06_Optimal_40 : PC := .seq c_ref06_Optimal_6 c_ref06_Optimal_39
def c_ref06_Optimal_41 : PC := .loop [0, 3, 4, 5] c_ref06_Optimal_40
def c_ref06_Optimal_42 : PC := .block 0 c_ref06_Optimal_41
def c_ref06_Optimal_43 : PC := .region [
  ⟨some 62, none, .mv (.tmp 4)⟩,
  ⟨some 2, none, .mv (.tmp 62)⟩]
def c_ref06_Optimal_44 : PC := .seq c_ref06_Optimal_43 .ret
def c_ref06_Optimal_45 : PC := .seq c_ref06_Optimal_42 c_ref06_Optimal_44
def c_ref06_Optimal_46 : PC := .seq c_ref06_Optimal_3 c_ref06_Optimal_45
def c_ref06_Optimal_47 : PC := .seq c_ref06_Optimal_2 c_ref06_Optimal_46
def c_ref06_Optimal_48 : PC := .seq c_ref06_Optimal_1 c_ref06_Optimal_47
def c_ref06_Optimal_49 : PC := .seq c_ref06_Optimal_0 c_ref06_Optimal_48
def c_ref06_Optimal : PC := c_ref06_Optimal_49
def s_ref06_Optimal : List Nat := [0, 2, 3, 4, 5, 6, 7, 8]
def r_ref06_Optimal : List (Nat × Option (Bool × Nat)) := [⟨2, none⟩]
theorem sound_ref06_Optimal {Γ : Ctx} {S : Spec} (hΓ : Sound Go.Proofs.Try.prog Γ) (hS : FnOk S) (hargs : ∀ args K, S.run args K → args.length = 1) (h : Meets Γ s_ref06_Optimal c_ref06_Optimal r_ref06_Optimal S) : SoundAt Go.Proofs.Try.prog n_ref06_Optimal S := by
  have hb : ∃ c, Go.Proofs.Try.f20.body = some c ∧ compC Go.Proofs.Try.prog Go.Proofs.Try.f20.ntmps c = some (strip c_ref06_Optimal) := ⟨_, rfl, by kernel_rfl⟩
  obtain ⟨c, hb, hc⟩ := hb
  exact meets_sound hΓ mixed (fn := Go.Proofs.Try.f20) (by kernel_rfl) (by kernel_rfl) hb hc (l := [.tmp 2]) (by kernel_rfl) (by kernel_rfl) (by decide) hS 1 (by decide) hargs h

/-! depository/depositoryref06.Encode (1 parameters) -/
def c_ref06_Encode_0 : PC := .region [
  ⟨some 2, none, .mv (.const (.string (ByteArray.mk (Array.mk []))))⟩]
def c_ref06_Encode_1 : PC := .region [
  ⟨some 4, none, .mv (.tmp 0)⟩,
  ⟨some 5, none, .call 20 [.tmp 4]⟩,
  ⟨some 6, none, .call 59 [.tmp 5]⟩,
  ⟨some 3, none, .mv (.tmp 6)⟩]
def c_ref06_Encode_2 : PC := .region [
  ⟨some 7, none, .mv (.tmp 3)⟩,
  ⟨some 8, none, .lenS (.tmp 7)⟩,
  ⟨some 9, none, .mv (.tmp 0)⟩,
  ⟨some 10, none, .lenS (.tmp 9)⟩,
  ⟨some 11, none, .bin .lss (.tmp 8) (.tmp 10)⟩]
def c_ref06_Encode_3 : PC := .region [
  ⟨some 12, none, .mv (.tmp 3)⟩,
  ⟨some 13, none, .lenS (.tmp 12)⟩,
  ⟨some 14, none, .call 60 [.tmp 13, .const (.bool true)]⟩,
  ⟨some 15, none, .mv (.tmp 3)⟩,
  ⟨some 16, none, .bin .add (.tmp 14) (.tmp 15)⟩,
  ⟨some 2, none, .mv (.tmp 16)⟩]
def c_ref06_Encode_4 : PC := .seq c_ref06_Encode_3 .ret
def c_ref06_Encode_5 : PC := .cond (.tmp 11) c_ref06_Encode_4 .skip
def c_ref06_Encode_6 : PC := .seq c_ref06_Encode_2 c_ref06_Encode_5
def c_ref06_Encode_7 : PC := .region [
  ⟨some 17, none, .mv (.tmp 0)⟩,
  ⟨some 18, none, .lenS (.tmp 17)⟩,
  ⟨some 19, none, .call 60 [.tmp 18, .const (.bool false)]⟩,
  ⟨some 20, none, .mv (.tmp 0)⟩,
  ⟨some 21, none, .bin .add (.tmp 19) (.tmp 20)⟩,
  ⟨some 2, none, .mv (.tmp 21)⟩]
def c_ref06_Encode_8 : PC := .seq c_ref06_Encode_7 .ret
def c_ref06_Encode_9 : PC := .seq c_ref06_Encode_6 c_ref06_Encode_8
def c_ref06_Encode_10 : PC := .seq c_ref06_Encode_1 c_ref06_Encode_9
def c_ref06_Encode_11 : PC := .seq c_ref06_Encode_0 c_ref06_Encode_10
def c_ref06_Encode : PC := c_ref06_Encode_11
def s_ref06_Encode : List Nat := [0, 2, 3]
def r_ref06_Encode : List (Nat × Option (Bool × Nat)) := [⟨2, none⟩]
theorem sound_ref06_Encode {Γ : Ctx} {S : Spec} (hΓ : Sound Go.Proofs.Try.prog Γ) (hS : FnOk S) (hargs : ∀ args K, S.run args K → args.length = 1) (h : Meets Γ s_ref06_Encode c_ref06_Encode r_ref06_Encode S) : SoundAt Go.Proofs.Try.prog n_ref06_Encode S := by
  have hb : ∃ c, Go.Proofs.Try.f21.body = some c ∧ compC Go.Proofs.Try.prog Go.Proofs.Try.f21.ntmps c = some (strip c_ref06_Encode) := ⟨_, rfl, by kernel_rfl⟩
  obtain ⟨c, hb, hc⟩ := hb
  exact meets_sound hΓ mixed (fn := Go.Proofs.Try.f21) (by kernel_rfl) (by kernel_rfl) hb hc (l := [.tmp 2]) (by kernel_rfl) (by kernel_rfl) (by decide) hS 1 (by decide) hargs h

/-! depository/compress.ShiftAt (1 parameters) -/
def c_compress_ShiftAt_0 : PC := .region [
  ⟨some 2, none, .mv (.const (.int .i64 0))⟩,
  ⟨some 3, none, .mv (.const (.int .i64 0))⟩]
def c_compress_ShiftAt_1 : PC := .region [
  ⟨some 4, none, .mv (.tmp 0)⟩,
  ⟨some 5, none, .call 61 [.tmp 4, .const (.int .i64 0), .const (.int .i64 4095)]⟩,
  ⟨some 6, none, .un .not (.tmp 5)⟩]
def c_compress_ShiftAt_2 : PC := .region [
  ⟨some 2, none, .mv (.const (.int .i64 0))⟩,
  ⟨some 3, none, .mv (.const (.int .i64 2))⟩]
def c_compress_ShiftAt_3 : PC := .seq c_compress_ShiftAt_2 .ret
def c_compress_ShiftAt_4 : PC := .cond (.tmp 6) c_compress_ShiftAt_3 .skip
def c_compress_ShiftAt_5 : PC := .seq c_compress_ShiftAt_1 c_compress_ShiftAt_4
def c_compress_ShiftAt_6 : PC := .region [
  ⟨some 7, none, .mv (.tmp 0)⟩,
  ⟨some 8, none, .call 62 [.tmp 7]⟩,
  ⟨some 2, none, .mv (.tmp 8)⟩,
  ⟨some 3, none, .mv (.const (.int .i64 0))⟩]
def c_compress_ShiftAt_7 : PC := .seq c_compress_ShiftAt_6 .ret
def c_compress_ShiftAt_8 : PC := .seq c_compress_ShiftAt_5 c_compress_ShiftAt_7
def c_compress_ShiftAt_9 : PC := .seq c_compress_ShiftAt_0 c_compress_ShiftAt_8
def c_compress_ShiftAt : PC := c_compress_ShiftAt_9
def s_compress_ShiftAt : List Nat := [0, 2, 3]
def r_compress_ShiftAt : List (Nat × Option (Bool × Nat)) := [⟨2, none⟩, ⟨3, none⟩]
theorem sound_compress_ShiftAt {Γ : Ctx} {S : Spec} (hΓ : Sound Go.Proofs.Try.prog Γ) (hS : FnOk S) (hargs : ∀ args K, S.run args K → args.length = 1) (h : Meets Γ s_compress_ShiftAt c_compress_ShiftAt r_compress_ShiftAt S) : SoundAt Go.Proofs.Try.prog n_compress_ShiftAt S := by
  have hb : ∃ c, Go.Proofs.Try.f22.body = some c ∧ compC Go.Proofs.Try.prog Go.Proofs.Try.f22.ntmps c = some (strip c_compress_ShiftAt) := ⟨_, rfl, by kernel_rfl⟩
  obtain ⟨c, hb, hc⟩ := hb
  exact meets_sound hΓ mixed (fn := Go.Proofs.Try.f22) (by kernel_rfl) (by kernel_rfl) hb hc (l := [.tmp 2, .tmp 3]) (by kernel_rfl) (by kernel_rfl) (by decide) hS 1 (by decide) hargs h

/-! depository/depositorybase.Within (3 parameters) -/
def c_base_Within_0 : PC := .region [
  ⟨some 6, none, .mv (.const (.bool false))⟩]
def c_base_Within_1 : PC := .region [
  ⟨some 7, none, .mv (.tmp 1)⟩,
  ⟨some 8, none, .mv (.tmp 0)⟩,
  ⟨some 9, none, .bin .leq (.tmp 7) (.tmp 8)⟩,
  ⟨some 10, none, .mv (.tmp 9)⟩,
  ⟨some 11, some (⟨10, true⟩), .mv (.tmp 0)⟩,
  ⟨some 12, some (⟨10, true⟩), .mv (.tmp 2)⟩,
  ⟨some 13, some (⟨10, true⟩), .bin .leq (.tmp 11) (.tmp 12)⟩,
  ⟨some 14, none, .pick (.tmp 10) (.tmp 13) (.const (.bool false))⟩,
  ⟨some 6, none, .mv (.tmp 14)⟩]
def c_base_Within_2 : PC := .seq c_base_Within_1 .ret
def c_base_Within_3 : PC := .seq c_base_Within_0 c_base_Within_2
def c_base_Within : PC := c_base_Within_3
def s_base_Within : List Nat := [0, 1, 2, 6]
def r_base_Within : List (Nat × Option (Bool × Nat)) := [⟨6, none⟩]
theorem sound_base_Within {Γ : Ctx} {S : Spec} (hΓ : Sound Go.Proofs.Try.prog Γ) (hS : FnOk S) (hargs : ∀ args K, S.run args K → args.length = 3) (h : Meets Γ s_base_Within c_base_Within r_base_Within S) : SoundAt Go.Proofs.Try.prog n_base_Within S := by
  have hb : ∃ c, Go.Proofs.Try.f23.body = some c ∧ compC Go.Proofs.Try.prog Go.Proofs.Try.f23.ntmps c = some (strip c_base_Within) := ⟨_, rfl, by kernel_rfl⟩
  obtain ⟨c, hb, hc⟩ := hb
  exact meets_sound hΓ mixed (fn := Go.Proofs.Try.f23) (by kernel_rfl) (by kernel_rfl) hb hc (l := [.tmp 6]) (by kernel_rfl) (by kernel_rfl) (by decide) hS 3 (by decide) hargs h

/-! depository/depositoryref06.Shift (1 parameters) -/
def c_ref06_Shift_0 : PC := .region [
  ⟨some 2, none, .mv (.const (.int .i64 0))⟩]
def c_ref06_Shift_1 : PC := .region [
  ⟨some 3, none, .mv (.const (.int .i64 4))⟩]
def c_ref06_Shift_2 : PC := .region [
  ⟨some 4, none, .mv (.tmp 3)⟩,
  ⟨some 5, none, .call 63 [.tmp 4]⟩,
  ⟨some 6, none, .mv (.tmp 0)⟩,
  ⟨some 7, none, .bin .lss (.tmp 5) (.tmp 6)⟩]
def c_ref06_Shift_3 : PC := .cond (.tmp 7) .skip (.exit 0)
def c_ref06_Shift_4 : PC := .seq c_ref06_Shift_2 c_ref06_Shift_3
def c_ref06_Shift_5 : PC := .region [
  ⟨some 8, none, .mv (.tmp 3)⟩,
  ⟨some 9, none, .bin .add (.tmp 8) (.const (.int .i64 1))⟩,
  ⟨some 3, none, .mv (.tmp 9)⟩]
def c_ref06_Shift_6 : PC := .block 1 c_ref06_Shift_5
def c_ref06_Shift_7 : PC := .seq c_ref06_Shift_4 c_ref06_Shift_6
def c_ref06_Shift_8 : PC := .loop [0, 3] c_ref06_Shift_7
def c_ref06_Shift_9 : PC := .block 0 c_ref06_Shift_8
def c_ref06_Shift_10 : PC := .region [
  ⟨some 10, none, .mv (.tmp 3)⟩,
  ⟨some 2, none, .mv (.tmp 10)⟩]
def c_ref06_Shift_11 : PC := .seq c_ref06_Shift_10 .ret
def c_ref06_Shift_12 : PC := .seq c_ref06_Shift_9 c_ref06_Shift_11
def c_ref06_Shift_13 : PC := .seq c_ref06_Shift_1 c_ref06_Shift_12
def c_ref06_Shift_14 : PC := .seq c_ref06_Shift_0 c_ref06_Shift_13
def c_ref06_Shift : PC := c_ref06_Shift_14
def s_ref06_Shift : List Nat := [0, 2, 3]
def r_ref06_Shift : List (Nat × Option (Bool × Nat)) := [⟨2, none⟩]
theorem sound_ref06_Shift {Γ : Ctx} {S : Spec} (hΓ : Sound Go.Proofs.Try.prog Γ) (hS : FnOk S) (hargs : ∀ args K, S.run args K → args.length = 1) (h : Meets Γ s_ref06_Shift c_ref06_Shift r_ref06_Shift S) : SoundAt Go.Proofs.Try.prog n_ref06_Shift S := by
  have hb : ∃ c, Go.Proofs.Try.f24.body = some c ∧ compC Go.Proofs.Try.prog Go.Proofs.Try.f24.ntmps c = some (strip c_ref06_Shift) := ⟨_, rfl, by kernel_rfl⟩
  obtain ⟨c, hb, hc⟩ := hb
  exact meets_sound hΓ mixed (fn := Go.Proofs.Try.f24) (by kernel_rfl) (by kernel_rfl) hb hc (l := [.tmp 2]) (by kernel_rfl) (by kernel_rfl) (by decide) hS 1 (by decide) hargs h

/-! depository/compress.CostsOf (1 parameters) -/
def c_compress_CostsOf_0 : PC := .region [
  ⟨some 2, none, .nilR 3 1⟩,
  ⟨some 3, none, .mv (.const (.int .i64 0))⟩]
def c_compress_CostsOf_1 : PC := .region [
  ⟨some 5, none, .mv (.tmp 0)⟩,
  ⟨some 6, none, .call 48 [.tmp 5]⟩,
  ⟨some 4, none, .mv (.tmp 6)⟩]
def c_compress_CostsOf_2 : PC := .region [
  ⟨some 7, none, .mv (.tmp 4)⟩,
  ⟨some 8, none, .bin .neq (.tmp 7) (.const (.int .i64 0))⟩]
def c_compress_CostsOf_3 : PC := .region [
  ⟨some 9, none, .mv (.tmp 4)⟩,
  ⟨some 2, none, .nilR 3 1⟩,
  ⟨some 3, none, .mv (.tmp 9)⟩]
def c_compress_CostsOf_4 : PC := .seq c_compress_CostsOf_3 .ret
def c_compress_CostsOf_5 : PC := .cond (.tmp 8) c_compress_CostsOf_4 .skip
def c_compress_CostsOf_6 : PC := .seq c_compress_CostsOf_2 c_compress_CostsOf_5
def c_compress_CostsOf_7 : PC := .seq c_compress_CostsOf_1 c_compress_CostsOf_6
def c_compress_CostsOf_8 : PC := .region [
  ⟨some 10, none, .mv (.tmp 0)⟩,
  ⟨some 11, none, .call 64 [.tmp 10]⟩,
  ⟨some 2, none, .mv (.tmp 11)⟩,
  ⟨some 3, none, .mv (.const (.int .i64 0))⟩]
def c_compress_CostsOf_9 : PC := .seq c_compress_CostsOf_8 .ret
def c_compress_CostsOf_10 : PC := .seq c_compress_CostsOf_7 c_compress_CostsOf_9
def c_compress_CostsOf_11 : PC := .seq c_compress_CostsOf_0 c_compress_CostsOf_10
def c_compress_CostsOf : PC := c_compress_CostsOf_11
def s_compress_CostsOf : List Nat := [0, 2, 3, 4]
def r_compress_CostsOf : List (Nat × Option (Bool × Nat)) := [⟨2, none⟩, ⟨3, none⟩]
theorem sound_compress_CostsOf {Γ : Ctx} {S : Spec} (hΓ : Sound Go.Proofs.Try.prog Γ) (hS : FnOk S) (hargs : ∀ args K, S.run args K → args.length = 1) (h : Meets Γ s_compress_CostsOf c_compress_CostsOf r_compress_CostsOf S) : SoundAt Go.Proofs.Try.prog n_compress_CostsOf S := by
  have hb : ∃ c, Go.Proofs.Try.f25.body = some c ∧ compC Go.Proofs.Try.prog Go.Proofs.Try.f25.ntmps c = some (strip c_compress_CostsOf) := ⟨_, rfl, by kernel_rfl⟩
  obtain ⟨c, hb, hc⟩ := hb
  exact meets_sound hΓ mixed (fn := Go.Proofs.Try.f25) (by kernel_rfl) (by kernel_rfl) hb hc (l := [.tmp 2, .tmp 3]) (by kernel_rfl) (by kernel_rfl) (by decide) hS 1 (by decide) hargs h

/-! depository/compress.CheckCosts (2 parameters) -/
def c_compress_CheckCosts_0 : PC := .region [
  ⟨some 4, none, .mv (.const (.int .i64 0))⟩,
  ⟨some 5, none, .mv (.const (.int .i64 0))⟩]
def c_compress_CheckCosts_1 : PC := .region [
  ⟨some 8, none, .mv (.tmp 0)⟩,
  ⟨some 9, none, .call 48 [.tmp 8]⟩,
  ⟨some 10, none, .mv (.tmp 1)⟩,
  ⟨some 11, none, .lenR (.tmp 10)⟩,
  ⟨some 12, none, .mv (.tmp 0)⟩,
  ⟨some 13, none, .lenS (.tmp 12)⟩,
  ⟨some 14, none, .bin .add (.tmp 13) (.const (.int .i64 1))⟩,
  ⟨some 15, none, .bin .eql (.tmp 11) (.tmp 14)⟩,
  ⟨some 16, none, .call 66 [.tmp 15, .const (.int .i64 10)]⟩,
  ⟨some 17, none, .bslice 25 1 [.tmp 9, .tmp 16]⟩,
  ⟨some 18, none, .call 65 [.tmp 17]⟩,
  ⟨some 6, none, .mv (.tmp 18)⟩]
def c_compress_CheckCosts_2 : PC := .region [
  ⟨some 19, none, .mv (.tmp 6)⟩,
  ⟨some 20, none, .bin .neq (.tmp 19) (.const (.int .i64 0))⟩]
def c_compress_CheckCosts_3 : PC := .region [
  ⟨some 21, none, .mv (.tmp 6)⟩,
  ⟨some 4, none, .mv (.const (.int .i64 0))⟩,
  ⟨some 5, none, .mv (.tmp 21)⟩]
def c_compress_CheckCosts_4 : PC := .seq c_compress_CheckCosts_3 .ret
def c_compress_CheckCosts_5 : PC := .cond (.tmp 20) c_compress_CheckCosts_4 .skip
def c_compress_CheckCosts_6 : PC := .seq c_compress_CheckCosts_2 c_compress_CheckCosts_5
def c_compress_CheckCosts_7 : PC := .seq c_compress_CheckCosts_1 c_compress_CheckCosts_6
def c_compress_CheckCosts_8 : PC := .region [
  ⟨some 22, none, .mv (.tmp 1)⟩,
  ⟨some 23, none, .mv (.tmp 0)⟩,
  ⟨some 24, none, .lenS (.tmp 23)⟩,
  ⟨some 25, none, .idxA 1 (.tmp 22) (.tmp 24)⟩,
  ⟨some 26, none, .load false 1 (.tmp 25)⟩,
  ⟨some 27, none, .bin .neq (.tmp 26) (.const (.int .i64 0))⟩]
def c_compress_CheckCosts_9 : PC := .region [
  ⟨some 28, none, .mv (.tmp 0)⟩,
  ⟨some 29, none, .lenS (.tmp 28)⟩,
  ⟨some 4, none, .mv (.tmp 29)⟩,
  ⟨some 5, none, .mv (.const (.int .i64 19))⟩]
def c_compress_CheckCosts_10 : PC := .seq c_compress_CheckCosts_9 .ret
def c_compress_CheckCosts_11 : PC := .cond (.tmp 27) c_compress_CheckCosts_10 .skip
def c_compress_CheckCosts_12 : PC := .seq c_compress_CheckCosts_8 c_compress_CheckCosts_11
def c_compress_CheckCosts_13 : PC := .region [
  ⟨some 30, none, .mv (.tmp 0)⟩,
  ⟨some 31, none, .lenS (.tmp 30)⟩,
  ⟨some 32, none, .bin .sub (.tmp 31) (.const (.int .i64 1))⟩,
  ⟨some 7, none, .mv (.tmp 32)⟩]
def c_compress_CheckCosts_14 : PC := .region [
  ⟨some 33, none, .mv (.tmp 7)⟩,
  ⟨some 34, none, .bin .geq (.tmp 33) (.const (.int .i64 0))⟩]
def c_compress_CheckCosts_15 : PC := .cond (.tmp 34) .skip (.exit 0)
def c_compress_CheckCosts_16 : PC := .seq c_compress_CheckCosts_14 c_compress_CheckCosts_15
def c_compress_CheckCosts_17 : PC := .draw [
  ⟨some 37, none, .mv (.tmp 1)⟩,
  ⟨some 38, none, .mv (.tmp 7)⟩,
  ⟨some 39, none, .idxA 1 (.tmp 37) (.tmp 38)⟩,
  ⟨some 40, none, .load false 1 (.tmp 39)⟩,
  ⟨some 41, none, .mv (.tmp 0)⟩,
  ⟨some 42, none, .mv (.tmp 1)⟩,
  ⟨some 43, none, .mv (.tmp 7)⟩,
  ⟨some 44, none, .call 67 [.tmp 41, .tmp 42, .tmp 43]⟩,
  ⟨some 45, none, .bin .neq (.tmp 40) (.tmp 44)⟩]
  [[], [], [0, 1], [2], [], [], [], [4, 5, 6], [3, 7]]
def c_compress_CheckCosts_18 : PC := .region [
  ⟨some 46, none, .mv (.tmp 7)⟩,
  ⟨some 4, none, .mv (.tmp 46)⟩,
  ⟨some 5, none, .mv (.const (.int .i64 19))⟩]
def c_compress_CheckCosts_19 : PC := .seq c_compress_CheckCosts_18 .ret
def c_compress_CheckCosts_20 : PC := .cond (.tmp 45) c_compress_CheckCosts_19 .skip
def c_compress_CheckCosts_21 : PC := .seq c_compress_CheckCosts_17 c_compress_CheckCosts_20
def c_compress_CheckCosts_22 : PC := .block 1 c_compress_CheckCosts_21
def c_compress_CheckCosts_23 : PC := .region [
  ⟨some 35, none, .mv (.tmp 7)⟩,
  ⟨some 36, none, .bin .sub (.tmp 35) (.const (.int .i64 1))⟩,
  ⟨some 7, none, .mv (.tmp 36)⟩]
def c_compress_CheckCosts_24 : PC := .seq c_compress_CheckCosts_22 c_compress_CheckCosts_23
def c_compress_CheckCosts_25 : PC := .seq c_compress_CheckCosts_16 c_compress_CheckCosts_24
def c_compress_CheckCosts_26 : PC := .loop [0, 1, 7] c_compress_CheckCosts_25
def c_compress_CheckCosts_27 : PC := .block 0 c_compress_CheckCosts_26
def c_compress_CheckCosts_28 : PC := .seq c_compress_CheckCosts_13 c_compress_CheckCosts_27
def c_compress_CheckCosts_29 : PC := .region [
  ⟨some 4, none, .mv (.const (.int .i64 0))⟩,
  ⟨some 5, none, .mv (.const (.int .i64 0))⟩]
def c_compress_CheckCosts_30 : PC := .seq c_compress_CheckCosts_29 .ret
def c_compress_CheckCosts_31 : PC := .seq c_compress_CheckCosts_28 c_compress_CheckCosts_30
def c_compress_CheckCosts_32 : PC := .seq c_compress_CheckCosts_12 c_compress_CheckCosts_31
def c_compress_CheckCosts_33 : PC := .seq c_compress_CheckCosts_7 c_compress_CheckCosts_32
def c_compress_CheckCosts_34 : PC := .seq c_compress_CheckCosts_0 c_compress_CheckCosts_33
def c_compress_CheckCosts : PC := c_compress_CheckCosts_34
def s_compress_CheckCosts : List Nat := [0, 1, 4, 5, 6, 7]
def r_compress_CheckCosts : List (Nat × Option (Bool × Nat)) := [⟨4, none⟩, ⟨5, none⟩]
theorem sound_compress_CheckCosts {Γ : Ctx} {S : Spec} (hΓ : Sound Go.Proofs.Try.prog Γ) (hS : FnOk S) (hargs : ∀ args K, S.run args K → args.length = 2) (h : Meets Γ s_compress_CheckCosts c_compress_CheckCosts r_compress_CheckCosts S) : SoundAt Go.Proofs.Try.prog n_compress_CheckCosts S := by
  have hb : ∃ c, Go.Proofs.Try.f26.body = some c ∧ compC Go.Proofs.Try.prog Go.Proofs.Try.f26.ntmps c = some (strip c_compress_CheckCosts) := ⟨_, rfl, by kernel_rfl⟩
  obtain ⟨c, hb, hc⟩ := hb
  exact meets_sound hΓ mixed (fn := Go.Proofs.Try.f26) (by kernel_rfl) (by kernel_rfl) hb hc (l := [.tmp 4, .tmp 5]) (by kernel_rfl) (by kernel_rfl) (by decide) hS 2 (by decide) hargs h

/-! depository/depositorybase.CopyInts (1 parameters) -/
def c_base_CopyInts_0 : PC := .region [
  ⟨some 2, none, .nilR 3 1⟩]
def c_base_CopyInts_1 : PC := .region [
  ⟨some 3, none, .bslice 3 1 []⟩,
  ⟨some 4, none, .mv (.tmp 0)⟩,
  ⟨some 5, none, .app 3 1 8 (.tmp 3) (.tmp 4)⟩,
  ⟨some 2, none, .mv (.tmp 5)⟩]
def c_base_CopyInts_2 : PC := .seq c_base_CopyInts_1 .ret
def c_base_CopyInts_3 : PC := .seq c_base_CopyInts_0 c_base_CopyInts_2
def c_base_CopyInts : PC := c_base_CopyInts_3
def s_base_CopyInts : List Nat := [0, 2]
def r_base_CopyInts : List (Nat × Option (Bool × Nat)) := [⟨2, none⟩]
theorem sound_base_CopyInts {Γ : Ctx} {S : Spec} (hΓ : Sound Go.Proofs.Try.prog Γ) (hS : FnOk S) (hargs : ∀ args K, S.run args K → args.length = 1) (h : Meets Γ s_base_CopyInts c_base_CopyInts r_base_CopyInts S) : SoundAt Go.Proofs.Try.prog n_base_CopyInts S := by
  have hb : ∃ c, Go.Proofs.Try.f27.body = some c ∧ compC Go.Proofs.Try.prog Go.Proofs.Try.f27.ntmps c = some (strip c_base_CopyInts) := ⟨_, rfl, by kernel_rfl⟩
  obtain ⟨c, hb, hc⟩ := hb
  exact meets_sound hΓ mixed (fn := Go.Proofs.Try.f27) (by kernel_rfl) (by kernel_rfl) hb hc (l := [.tmp 2]) (by kernel_rfl) (by kernel_rfl) (by decide) hS 1 (by decide) hargs h

/-! depository/depositorybase.Ints (2 parameters) -/
def c_base_Ints_0 : PC := .region [
  ⟨some 4, none, .mv (.const (.bool false))⟩]
def c_base_Ints_1 : PC := .region [
  ⟨some 6, none, .mv (.tmp 0)⟩,
  ⟨some 7, none, .lenR (.tmp 6)⟩,
  ⟨some 8, none, .mv (.tmp 1)⟩,
  ⟨some 9, none, .lenR (.tmp 8)⟩,
  ⟨some 10, none, .bin .neq (.tmp 7) (.tmp 9)⟩]
def c_base_Ints_2 : PC := .region [
  ⟨some 4, none, .mv (.const (.bool false))⟩]
def c_base_Ints_3 : PC := .seq c_base_Ints_2 .ret
def c_base_Ints_4 : PC := .cond (.tmp 10) c_base_Ints_3 .skip
def c_base_Ints_5 : PC := .seq c_base_Ints_1 c_base_Ints_4
def c_base_Ints_6 : PC := .region [
  ⟨some 5, none, .mv (.const (.int .i64 0))⟩]
def c_base_Ints_7 : PC := .region [
  ⟨some 11, none, .mv (.tmp 5)⟩,
  ⟨some 12, none, .mv (.tmp 0)⟩,
  ⟨some 13, none, .lenR (.tmp 12)⟩,
  ⟨some 14, none, .bin .lss (.tmp 11) (.tmp 13)⟩]
def c_base_Ints_8 : PC := .cond (.tmp 14) .skip (.exit 0)
def c_base_Ints_9 : PC := .seq c_base_Ints_7 c_base_Ints_8
def c_base_Ints_10 : PC := .draw [
  ⟨some 17, none, .mv (.tmp 0)⟩,
  ⟨some 18, none, .mv (.tmp 5)⟩,
  ⟨some 19, none, .idxA 1 (.tmp 17) (.tmp 18)⟩,
  ⟨some 20, none, .load false 1 (.tmp 19)⟩,
  ⟨some 21, none, .mv (.tmp 1)⟩,
  ⟨some 22, none, .mv (.tmp 5)⟩,
  ⟨some 23, none, .idxA 1 (.tmp 21) (.tmp 22)⟩,
  ⟨some 24, none, .load false 1 (.tmp 23)⟩,
  ⟨some 25, none, .bin .neq (.tmp 20) (.tmp 24)⟩]
  [[], [], [0, 1], [2], [], [], [4, 5], [6], [3, 7]]
def c_base_Ints_11 : PC := .region [
  ⟨some 4, none, .mv (.const (.bool false))⟩]
def c_base_Ints_12 : PC := .seq c_base_Ints_11 .ret
def c_base_Ints_13 : PC := .cond (.tmp 25) c_base_Ints_12 .skip
def c_base_Ints_14 : PC := .seq c_base_Ints_10 c_base_Ints_13
def c_base_Ints_15 : PC := .block 1 c_base_Ints_14
def c_base_Ints_16 : PC := .region [
  ⟨some 15, none, .mv (.tmp 5)⟩,
  ⟨some 16, none, .bin .add (.tmp 15) (.const (.int .i64 1))⟩,
  ⟨some 5, none, .mv (.tmp 16)⟩]
def c_base_Ints_17 : PC := .seq c_base_Ints_15 c_base_Ints_16
def c_base_Ints_18 : PC := .seq c_base_Ints_9 c_base_Ints_17
def c_base_Ints_19 : PC := .loop [0, 1, 5] c_base_Ints_18
def c_base_Ints_20 : PC := .block 0 c_base_Ints_19
def c_base_Ints_21 : PC := .seq c_base_Ints_6 c_base_Ints_20
def c_base_Ints_22 : PC := .region [
  ⟨some 4, none, .mv (.const (.bool true))⟩]
def c_base_Ints_23 : PC := .seq c_base_Ints_22 .ret
def c_base_Ints_24 : PC := .seq c_base_Ints_21 c_base_Ints_23
def c_base_Ints_25 : PC := .seq c_base_Ints_5 c_base_Ints_24
def c_base_Ints_26 : PC := .seq c_base_Ints_0 c_base_Ints_25
def c_base_Ints : PC := c_base_Ints_26
def s_base_Ints : List Nat := [0, 1, 4, 5]
def r_base_Ints : List (Nat × Option (Bool × Nat)) := [⟨4, none⟩]
theorem sound_base_Ints {Γ : Ctx} {S : Spec} (hΓ : Sound Go.Proofs.Try.prog Γ) (hS : FnOk S) (hargs : ∀ args K, S.run args K → args.length = 2) (h : Meets Γ s_base_Ints c_base_Ints r_base_Ints S) : SoundAt Go.Proofs.Try.prog n_base_Ints S := by
  have hb : ∃ c, Go.Proofs.Try.f28.body = some c ∧ compC Go.Proofs.Try.prog Go.Proofs.Try.f28.ntmps c = some (strip c_base_Ints) := ⟨_, rfl, by kernel_rfl⟩
  obtain ⟨c, hb, hc⟩ := hb
  exact meets_sound hΓ mixed (fn := Go.Proofs.Try.f28) (by kernel_rfl) (by kernel_rfl) hb hc (l := [.tmp 4]) (by kernel_rfl) (by kernel_rfl) (by decide) hS 2 (by decide) hargs h

/-! depository/depositoryref06.Costs (1 parameters) -/
def c_ref06_Costs_0 : PC := .region [
  ⟨some 2, none, .nilR 3 1⟩]
def c_ref06_Costs_1 : PC := .region [
  ⟨some 5, none, .mv (.tmp 0)⟩,
  ⟨some 6, none, .lenS (.tmp 5)⟩,
  ⟨some 7, none, .bin .add (.tmp 6) (.const (.int .i64 1))⟩,
  ⟨some 8, none, .mksl 3 1 8 (.int .i64 0) (.tmp 7) (.tmp 7)⟩,
  ⟨some 3, none, .mv (.tmp 8)⟩]
def c_ref06_Costs_2 : PC := .region [
  ⟨some 9, none, .mv (.tmp 0)⟩,
  ⟨some 10, none, .lenS (.tmp 9)⟩,
  ⟨some 4, none, .mv (.tmp 10)⟩]
def c_ref06_Costs_3 : PC := .region [
  ⟨some 11, none, .mv (.tmp 4)⟩,
  ⟨some 12, none, .bin .geq (.tmp 11) (.const (.int .i64 0))⟩]
def c_ref06_Costs_4 : PC := .cond (.tmp 12) .skip (.exit 0)
def c_ref06_Costs_5 : PC := .seq c_ref06_Costs_3 c_ref06_Costs_4
def c_ref06_Costs_6 : PC := .region [
  ⟨some 15, none, .mv (.tmp 3)⟩,
  ⟨some 16, none, .mv (.tmp 4)⟩,
  ⟨some 17, none, .mv (.tmp 0)⟩,
  ⟨some 18, none, .mv (.tmp 3)⟩,
  ⟨some 19, none, .mv (.tmp 4)⟩,
  ⟨some 20, none, .call 68 [.tmp 17, .tmp 18, .tmp 19]⟩,
  ⟨some 21, none, .idxA 1 (.tmp 15) (.tmp 16)⟩,
  ⟨none, none, .store 1 (.tmp 21) (.tmp 20)⟩]
def c_ref06_Costs_7 : PC := .block 1 c_ref06_Costs_6
def c_ref06_Costs_8 : PC := .region [
  ⟨some 13, none, .mv (.tmp 4)⟩,
  ⟨some 14, none, .bin .sub (.tmp 13) (.const (.int .i64 1))⟩,
  ⟨some 4, none, .mv (.tmp 14)⟩]
def c_ref06_Costs_9 : PC := .seq c_ref06_Costs_7 c_ref06_Costs_8
def c_ref06_Costs_10 : PC := .seq c_ref06_Costs_5 c_ref06_Costs_9
def c_ref06_Costs_11 : PC := .loop [0, 3, 4] c_ref06_Costs_10
def c_ref06_Costs_12 : PC := .block 0 c_ref06_Costs_11
def c_ref06_Costs_13 : PC := .seq c_ref06_Costs_2 c_ref06_Costs_12
def c_ref06_Costs_14 : PC := .region [
  ⟨some 22, none, .mv (.tmp 3)⟩,
  ⟨some 2, none, .mv (.tmp 22)⟩]
def c_ref06_Costs_15 : PC := .seq c_ref06_Costs_14 .ret
def c_ref06_Costs_16 : PC := .seq c_ref06_Costs_13 c_ref06_Costs_15
def c_ref06_Costs_17 : PC := .seq c_ref06_Costs_1 c_ref06_Costs_16
def c_ref06_Costs_18 : PC := .seq c_ref06_Costs_0 c_ref06_Costs_17
def c_ref06_Costs : PC := c_ref06_Costs_18
def s_ref06_Costs : List Nat := [0, 2, 3, 4]
def r_ref06_Costs : List (Nat × Option (Bool × Nat)) := [⟨2, none⟩]
theorem sound_ref06_Costs {Γ : Ctx} {S : Spec} (hΓ : Sound Go.Proofs.Try.prog Γ) (hS : FnOk S) (hargs : ∀ args K, S.run args K → args.length = 1) (h : Meets Γ s_ref06_Costs c_ref06_Costs r_ref06_Costs S) : SoundAt Go.Proofs.Try.prog n_ref06_Costs S := by
  have hb : ∃ c, Go.Proofs.Try.f29.body = some c ∧ compC Go.Proofs.Try.prog Go.Proofs.Try.f29.ntmps c = some (strip c_ref06_Costs) := ⟨_, rfl, by kernel_rfl⟩
  obtain ⟨c, hb, hc⟩ := hb
  exact meets_sound hΓ mixed (fn := Go.Proofs.Try.f29) (by kernel_rfl) (by kernel_rfl) hb hc (l := [.tmp 2]) (by kernel_rfl) (by kernel_rfl) (by decide) hS 1 (by decide) hargs h

/-! depository/depositoryref06.TokensErr (1 parameters) -/
def c_ref06_TokensErr_0 : PC := .region [
  ⟨some 2, none, .mv (.const (.int .i64 0))⟩]
def c_ref06_TokensErr_1 : PC := .region [
  ⟨some 6, none, .mv (.tmp 0)⟩,
  ⟨some 7, none, .call 37 [.tmp 6]⟩,
  ⟨some 5, none, .mv (.tmp 7)⟩,
  ⟨some 8, none, .ext (.tmp 5) 0⟩,
  ⟨some 9, none, .ext (.tmp 5) 1⟩,
  ⟨some 3, none, .mv (.tmp 8)⟩,
  ⟨some 4, none, .mv (.tmp 9)⟩]
def c_ref06_TokensErr_2 : PC := .region [
  ⟨some 10, none, .mv (.tmp 4)⟩,
  ⟨some 2, none, .mv (.tmp 10)⟩]
def c_ref06_TokensErr_3 : PC := .seq c_ref06_TokensErr_2 .ret
def c_ref06_TokensErr_4 : PC := .seq c_ref06_TokensErr_1 c_ref06_TokensErr_3
def c_ref06_TokensErr_5 : PC := .seq c_ref06_TokensErr_0 c_ref06_TokensErr_4
def c_ref06_TokensErr : PC := c_ref06_TokensErr_5
def s_ref06_TokensErr : List Nat := [0, 2, 4]
def r_ref06_TokensErr : List (Nat × Option (Bool × Nat)) := [⟨2, none⟩]
theorem sound_ref06_TokensErr {Γ : Ctx} {S : Spec} (hΓ : Sound Go.Proofs.Try.prog Γ) (hS : FnOk S) (hargs : ∀ args K, S.run args K → args.length = 1) (h : Meets Γ s_ref06_TokensErr c_ref06_TokensErr r_ref06_TokensErr S) : SoundAt Go.Proofs.Try.prog n_ref06_TokensErr S := by
  have hb : ∃ c, Go.Proofs.Try.f30.body = some c ∧ compC Go.Proofs.Try.prog Go.Proofs.Try.f30.ntmps c = some (strip c_ref06_TokensErr) := ⟨_, rfl, by kernel_rfl⟩
  obtain ⟨c, hb, hc⟩ := hb
  exact meets_sound hΓ mixed (fn := Go.Proofs.Try.f30) (by kernel_rfl) (by kernel_rfl) hb hc (l := [.tmp 2]) (by kernel_rfl) (by kernel_rfl) (by decide) hS 1 (by decide) hargs h

/-! depository/depositoryref06.Expanded (1 parameters) -/
def c_ref06_Expanded_0 : PC := .region [
  ⟨some 2, none, .mv (.const (.string (ByteArray.mk (Array.mk []))))⟩]
def c_ref06_Expanded_1 : PC := .region [
  ⟨some 3, none, .nilR 5 1⟩]
def c_ref06_Expanded_2 : PC := .region [
  ⟨some 4, none, .mv (.const (.int .i64 0))⟩]
def c_ref06_Expanded_3 : PC := .region [
  ⟨some 6, none, .mv (.tmp 4)⟩,
  ⟨some 7, none, .mv (.tmp 0)⟩,
  ⟨some 8, none, .lenR (.tmp 7)⟩,
  ⟨some 9, none, .bin .lss (.tmp 6) (.tmp 8)⟩]
def c_ref06_Expanded_4 : PC := .cond (.tmp 9) .skip (.exit 0)
def c_ref06_Expanded_5 : PC := .seq c_ref06_Expanded_3 c_ref06_Expanded_4
def c_ref06_Expanded_6 : PC := .region [
  ⟨some 12, none, .mv (.tmp 0)⟩,
  ⟨some 13, none, .mv (.tmp 4)⟩,
  ⟨some 14, none, .idxA 3 (.tmp 12) (.tmp 13)⟩,
  ⟨some 15, none, .load true 3 (.tmp 14)⟩,
  ⟨some 16, none, .call 69 [.tmp 15]⟩,
  ⟨some 17, none, .un .not (.tmp 16)⟩]
def c_ref06_Expanded_7 : PC := .region [
  ⟨some 18, none, .mv (.tmp 3)⟩,
  ⟨some 19, none, .mv (.tmp 0)⟩,
  ⟨some 20, none, .mv (.tmp 4)⟩,
  ⟨some 21, none, .idxA 3 (.tmp 19) (.tmp 20)⟩,
  ⟨some 22, none, .fldA 2 (.tmp 21)⟩,
  ⟨some 23, none, .load false 1 (.tmp 22)⟩,
  ⟨some 24, none, .conv (.toInt .u8) (.tmp 23)⟩,
  ⟨some 25, none, .bslice 5 1 [.tmp 24]⟩,
  ⟨some 26, none, .app 5 1 1 (.tmp 18) (.tmp 25)⟩,
  ⟨some 3, none, .mv (.tmp 26)⟩]
def c_ref06_Expanded_8 : PC := .seq c_ref06_Expanded_7 (.exit 1)
def c_ref06_Expanded_9 : PC := .cond (.tmp 17) c_ref06_Expanded_8 .skip
def c_ref06_Expanded_10 : PC := .seq c_ref06_Expanded_6 c_ref06_Expanded_9
def c_ref06_Expanded_11 : PC := .region [
  ⟨some 5, none, .mv (.const (.int .i64 0))⟩]
def c_ref06_Expanded_12 : PC := .region [
  ⟨some 27, none, .mv (.tmp 5)⟩,
  ⟨some 28, none, .mv (.tmp 0)⟩,
  ⟨some 29, none, .mv (.tmp 4)⟩,
  ⟨some 30, none, .idxA 3 (.tmp 28) (.tmp 29)⟩,
  ⟨some 31, none, .fldA 1 (.tmp 30)⟩,
  ⟨some 32, none, .load false 1 (.tmp 31)⟩,
  ⟨some 33, none, .bin .lss (.tmp 27) (.tmp 32)⟩]
def c_ref06_Expanded_13 : PC := .cond (.tmp 33) .skip (.exit 2)
def c_ref06_Expanded_14 : PC := .seq c_ref06_Expanded_12 c_ref06_Expanded_13
def c_ref06_Expanded_15 : PC := .region [
  ⟨some 36, none, .mv (.tmp 3)⟩,
  ⟨some 37, none, .mv (.tmp 3)⟩,
  ⟨some 38, none, .mv (.tmp 3)⟩,
  ⟨some 39, none, .lenR (.tmp 38)⟩,
  ⟨some 40, none, .mv (.tmp 0)⟩,
  ⟨some 41, none, .mv (.tmp 4)⟩,
  ⟨some 42, none, .idxA 3 (.tmp 40) (.tmp 41)⟩,
  ⟨some 43, none, .fldA 0 (.tmp 42)⟩,
  ⟨some 44, none, .load false 1 (.tmp 43)⟩,
  ⟨some 45, none, .bin .sub (.tmp 39) (.tmp 44)⟩,
  ⟨some 46, none, .idxA 1 (.tmp 37) (.tmp 45)⟩,
  ⟨some 47, none, .load false 1 (.tmp 46)⟩,
  ⟨some 48, none, .bslice 5 1 [.tmp 47]⟩,
  ⟨some 49, none, .app 5 1 1 (.tmp 36) (.tmp 48)⟩,
  ⟨some 3, none, .mv (.tmp 49)⟩]
def c_ref06_Expanded_16 : PC := .block 3 c_ref06_Expanded_15
def c_ref06_Expanded_17 : PC := .region [
  ⟨some 34, none, .mv (.tmp 5)⟩,
  ⟨some 35, none, .bin .add (.tmp 34) (.const (.int .i64 1))⟩,
  ⟨some 5, none, .mv (.tmp 35)⟩]
def c_ref06_Expanded_18 : PC := .seq c_ref06_Expanded_16 c_ref06_Expanded_17
def c_ref06_Expanded_19 : PC := .seq c_ref06_Expanded_14 c_ref06_Expanded_18
def c_ref06_Expanded_20 : PC := .loop [0, 3, 4, 5] c_ref06_Expanded_19
def c_ref06_Expanded_21 : PC := .block 2 c_ref06_Expanded_20
def c_ref06_Expanded_22 : PC := .seq c_ref06_Expanded_11 c_ref06_Expanded_21
def c_ref06_Expanded_23 : PC := .seq c_ref06_Expanded_10 c_ref06_Expanded_22
def c_ref06_Expanded_24 : PC := .block 1 c_ref06_Expanded_23
def c_ref06_Expanded_25 : PC := .region [
  ⟨some 10, none, .mv (.tmp 4)⟩,
  ⟨some 11, none, .bin .add (.tmp 10) (.const (.int .i64 1))⟩,
  ⟨some 4, none, .mv (.tmp 11)⟩]
def c_ref06_Expanded_26 : PC := .seq c_ref06_Expanded_24 c_ref06_Expanded_25
def c_ref06_Expanded_27 : PC := .seq c_ref06_Expanded_5 c_ref06_Expanded_26
def c_ref06_Expanded_28 : PC := .loop [0, 3, 4] c_ref06_Expanded_27
def c_ref06_Expanded_29 : PC := .block 0 c_ref06_Expanded_28
def c_ref06_Expanded_30 : PC := .seq c_ref06_Expanded_2 c_ref06_Expanded_29
def c_ref06_Expanded_31 : PC := .region [
  ⟨some 50, none, .mv (.tmp 3)⟩,
  ⟨some 51, none, .conv .bts (.tmp 50)⟩,
  ⟨some 2, none, .mv (.tmp 51)⟩]
def c_ref06_Expanded_32 : PC := .seq c_ref06_Expanded_31 .ret
def c_ref06_Expanded_33 : PC := .seq c_ref06_Expanded_30 c_ref06_Expanded_32
def c_ref06_Expanded_34 : PC := .seq c_ref06_Expanded_1 c_ref06_Expanded_33
def c_ref06_Expanded_35 : PC := .seq c_ref06_Expanded_0 c_ref06_Expanded_34
def c_ref06_Expanded : PC := c_ref06_Expanded_35
def s_ref06_Expanded : List Nat := [0, 2, 3, 4, 5]
def r_ref06_Expanded : List (Nat × Option (Bool × Nat)) := [⟨2, none⟩]
theorem sound_ref06_Expanded {Γ : Ctx} {S : Spec} (hΓ : Sound Go.Proofs.Try.prog Γ) (hS : FnOk S) (hargs : ∀ args K, S.run args K → args.length = 1) (h : Meets Γ s_ref06_Expanded c_ref06_Expanded r_ref06_Expanded S) : SoundAt Go.Proofs.Try.prog n_ref06_Expanded S := by
  have hb : ∃ c, Go.Proofs.Try.f31.body = some c ∧ compC Go.Proofs.Try.prog Go.Proofs.Try.f31.ntmps c = some (strip c_ref06_Expanded) := ⟨_, rfl, by kernel_rfl⟩
  obtain ⟨c, hb, hc⟩ := hb
  exact meets_sound hΓ mixed (fn := Go.Proofs.Try.f31) (by kernel_rfl) (by kernel_rfl) hb hc (l := [.tmp 2]) (by kernel_rfl) (by kernel_rfl) (by decide) hS 1 (by decide) hargs h

/-! depository/depositoryref06.Bits (1 parameters) -/
def c_ref06_Bits_0 : PC := .region [
  ⟨some 2, none, .mv (.const (.int .i64 0))⟩]
def c_ref06_Bits_1 : PC := .region [
  ⟨some 3, none, .mv (.const (.int .i64 0))⟩]
def c_ref06_Bits_2 : PC := .region [
  ⟨some 4, none, .mv (.const (.int .i64 0))⟩]
def c_ref06_Bits_3 : PC := .region [
  ⟨some 5, none, .mv (.tmp 4)⟩,
  ⟨some 6, none, .mv (.tmp 0)⟩,
  ⟨some 7, none, .lenR (.tmp 6)⟩,
  ⟨some 8, none, .bin .lss (.tmp 5) (.tmp 7)⟩]
def c_ref06_Bits_4 : PC := .cond (.tmp 8) .skip (.exit 0)
def c_ref06_Bits_5 : PC := .seq c_ref06_Bits_3 c_ref06_Bits_4
def c_ref06_Bits_6 : PC := .region [
  ⟨some 11, none, .mv (.tmp 3)⟩,
  ⟨some 12, none, .bin .add (.tmp 11) (.const (.int .i64 9))⟩,
  ⟨some 3, none, .mv (.tmp 12)⟩]
def c_ref06_Bits_7 : PC := .region [
  ⟨some 13, none, .mv (.tmp 0)⟩,
  ⟨some 14, none, .mv (.tmp 4)⟩,
  ⟨some 15, none, .idxA 3 (.tmp 13) (.tmp 14)⟩,
  ⟨some 16, none, .load true 3 (.tmp 15)⟩,
  ⟨some 17, none, .call 69 [.tmp 16]⟩]
def c_ref06_Bits_8 : PC := .region [
  ⟨some 18, none, .mv (.tmp 3)⟩,
  ⟨some 19, none, .bin .add (.tmp 18) (.const (.int .i64 17))⟩,
  ⟨some 20, none, .bin .sub (.tmp 19) (.const (.int .i64 9))⟩,
  ⟨some 3, none, .mv (.tmp 20)⟩]
def c_ref06_Bits_9 : PC := .cond (.tmp 17) c_ref06_Bits_8 .skip
def c_ref06_Bits_10 : PC := .seq c_ref06_Bits_7 c_ref06_Bits_9
def c_ref06_Bits_11 : PC := .seq c_ref06_Bits_6 c_ref06_Bits_10
def c_ref06_Bits_12 : PC := .block 1 c_ref06_Bits_11
def c_ref06_Bits_13 : PC := .region [
  ⟨some 9, none, .mv (.tmp 4)⟩,
  ⟨some 10, none, .bin .add (.tmp 9) (.const (.int .i64 1))⟩,
  ⟨some 4, none, .mv (.tmp 10)⟩]
def c_ref06_Bits_14 : PC := .seq c_ref06_Bits_12 c_ref06_Bits_13
def c_ref06_Bits_15 : PC := .seq c_ref06_Bits_5 c_ref06_Bits_14
def c_ref06_Bits_16 : PC := .loop [0, 3, 4] c_ref06_Bits_15
def c_ref06_Bits_17 : PC := .block 0 c_ref06_Bits_16
def c_ref06_Bits_18 : PC := .seq c_ref06_Bits_2 c_ref06_Bits_17
def c_ref06_Bits_19 : PC := .region [
  ⟨some 21, none, .mv (.tmp 3)⟩,
  ⟨some 2, none, .mv (.tmp 21)⟩]
def c_ref06_Bits_20 : PC := .seq c_ref06_Bits_19 .ret
def c_ref06_Bits_21 : PC := .seq c_ref06_Bits_18 c_ref06_Bits_20
def c_ref06_Bits_22 : PC := .seq c_ref06_Bits_1 c_ref06_Bits_21
def c_ref06_Bits_23 : PC := .seq c_ref06_Bits_0 c_ref06_Bits_22
def c_ref06_Bits : PC := c_ref06_Bits_23
def s_ref06_Bits : List Nat := [0, 2, 3, 4]
def r_ref06_Bits : List (Nat × Option (Bool × Nat)) := [⟨2, none⟩]
theorem sound_ref06_Bits {Γ : Ctx} {S : Spec} (hΓ : Sound Go.Proofs.Try.prog Γ) (hS : FnOk S) (hargs : ∀ args K, S.run args K → args.length = 1) (h : Meets Γ s_ref06_Bits c_ref06_Bits r_ref06_Bits S) : SoundAt Go.Proofs.Try.prog n_ref06_Bits S := by
  have hb : ∃ c, Go.Proofs.Try.f32.body = some c ∧ compC Go.Proofs.Try.prog Go.Proofs.Try.f32.ntmps c = some (strip c_ref06_Bits) := ⟨_, rfl, by kernel_rfl⟩
  obtain ⟨c, hb, hc⟩ := hb
  exact meets_sound hΓ mixed (fn := Go.Proofs.Try.f32) (by kernel_rfl) (by kernel_rfl) hb hc (l := [.tmp 2]) (by kernel_rfl) (by kernel_rfl) (by decide) hS 1 (by decide) hargs h

/-! depository/compress.CheckTokens (1 parameters) -/
def c_compress_CheckTokens_0 : PC := .region [
  ⟨some 2, none, .mv (.const (.int .i64 0))⟩,
  ⟨some 3, none, .mv (.const (.int .i64 0))⟩]
def c_compress_CheckTokens_1 : PC := .region [
  ⟨some 8, none, .mv (.tmp 0)⟩,
  ⟨some 9, none, .lenR (.tmp 8)⟩,
  ⟨some 10, none, .bin .eql (.tmp 9) (.const (.int .i64 0))⟩]
def c_compress_CheckTokens_2 : PC := .region [
  ⟨some 2, none, .mv (.const (.int .i64 0))⟩,
  ⟨some 3, none, .mv (.const (.int .i64 17))⟩]
def c_compress_CheckTokens_3 : PC := .seq c_compress_CheckTokens_2 .ret
def c_compress_CheckTokens_4 : PC := .cond (.tmp 10) c_compress_CheckTokens_3 .skip
def c_compress_CheckTokens_5 : PC := .seq c_compress_CheckTokens_1 c_compress_CheckTokens_4
def c_compress_CheckTokens_6 : PC := .region [
  ⟨some 4, none, .mv (.const (.int .i64 0))⟩]
def c_compress_CheckTokens_7 : PC := .region [
  ⟨some 11, none, .mv (.tmp 0)⟩,
  ⟨some 12, none, .lenR (.tmp 11)⟩,
  ⟨some 13, none, .mv (.const (.int .i64 0))⟩]
def c_compress_CheckTokens_8 : PC := .region [
  ⟨some 14, none, .bin .lss (.tmp 13) (.tmp 12)⟩]
def c_compress_CheckTokens_9 : PC := .cond (.tmp 14) .skip (.exit 0)
def c_compress_CheckTokens_10 : PC := .region [
  ⟨some 15, none, .mv (.tmp 13)⟩,
  ⟨some 16, none, .idxA 3 (.tmp 11) (.tmp 13)⟩,
  ⟨some 17, none, .load true 3 (.tmp 16)⟩,
  ⟨some 6, none, .alloc 68 (.agg [.int .i64 0, .int .i64 0, .int .i64 0])⟩,
  ⟨some 5, none, .mv (.tmp 15)⟩,
  ⟨none, none, .store 3 (.tmp 6) (.tmp 17)⟩]
def c_compress_CheckTokens_11 : PC := .region [
  ⟨some 18, none, .load true 3 (.tmp 6)⟩,
  ⟨some 19, none, .mv (.tmp 4)⟩,
  ⟨some 20, none, .call 70 [.tmp 18, .tmp 19]⟩,
  ⟨some 7, none, .mv (.tmp 20)⟩]
def c_compress_CheckTokens_12 : PC := .region [
  ⟨some 21, none, .mv (.tmp 7)⟩,
  ⟨some 22, none, .bin .neq (.tmp 21) (.const (.int .i64 0))⟩]
def c_compress_CheckTokens_13 : PC := .region [
  ⟨some 23, none, .mv (.tmp 5)⟩,
  ⟨some 24, none, .mv (.tmp 7)⟩,
  ⟨some 2, none, .mv (.tmp 23)⟩,
  ⟨some 3, none, .mv (.tmp 24)⟩]
def c_compress_CheckTokens_14 : PC := .seq c_compress_CheckTokens_13 .ret
def c_compress_CheckTokens_15 : PC := .cond (.tmp 22) c_compress_CheckTokens_14 .skip
def c_compress_CheckTokens_16 : PC := .seq c_compress_CheckTokens_12 c_compress_CheckTokens_15
def c_compress_CheckTokens_17 : PC := .seq c_compress_CheckTokens_11 c_compress_CheckTokens_16
def c_compress_CheckTokens_18 : PC := .region [
  ⟨some 25, none, .mv (.tmp 4)⟩,
  ⟨some 26, none, .load true 3 (.tmp 6)⟩,
  ⟨some 27, none, .call 51 [.tmp 26]⟩,
  ⟨some 28, none, .bin .add (.tmp 25) (.tmp 27)⟩,
  ⟨some 4, none, .mv (.tmp 28)⟩]
def c_compress_CheckTokens_19 : PC := .seq c_compress_CheckTokens_17 c_compress_CheckTokens_18
def c_compress_CheckTokens_20 : PC := .seq c_compress_CheckTokens_10 c_compress_CheckTokens_19
def c_compress_CheckTokens_21 : PC := .block 1 c_compress_CheckTokens_20
def c_compress_CheckTokens_22 : PC := .region [
  ⟨some 29, none, .bin .add (.tmp 13) (.const (.int .i64 1))⟩,
  ⟨some 13, none, .mv (.tmp 29)⟩]
def c_compress_CheckTokens_23 : PC := .seq c_compress_CheckTokens_21 c_compress_CheckTokens_22
def c_compress_CheckTokens_24 : PC := .seq c_compress_CheckTokens_9 c_compress_CheckTokens_23
def c_compress_CheckTokens_25 : PC := .seq c_compress_CheckTokens_8 c_compress_CheckTokens_24
def c_compress_CheckTokens_26 : PC := .loop [4, 11, 12, 13] c_compress_CheckTokens_25
def c_compress_CheckTokens_27 : PC := .block 0 c_compress_CheckTokens_26
def c_compress_CheckTokens_28 : PC := .seq c_compress_CheckTokens_7 c_compress_CheckTokens_27
def c_compress_CheckTokens_29 : PC := .region [
  ⟨some 2, none, .mv (.const (.int .i64 0))⟩,
  ⟨some 3, none, .mv (.const (.int .i64 0))⟩]
def c_compress_CheckTokens_30 : PC := .seq c_compress_CheckTokens_29 .ret
def c_compress_CheckTokens_31 : PC := .seq c_compress_CheckTokens_28 c_compress_CheckTokens_30
def c_compress_CheckTokens_32 : PC := .seq c_compress_CheckTokens_6 c_compress_CheckTokens_31
def c_compress_CheckTokens_33 : PC := .seq c_compress_CheckTokens_5 c_compress_CheckTokens_32
def c_compress_CheckTokens_34 : PC := .seq c_compress_CheckTokens_0 c_compress_CheckTokens_33
def c_compress_CheckTokens : PC := c_compress_CheckTokens_34
def s_compress_CheckTokens : List Nat := [0, 2, 3, 4, 5, 6, 7, 11, 12, 13]
def r_compress_CheckTokens : List (Nat × Option (Bool × Nat)) := [⟨2, none⟩, ⟨3, none⟩]
theorem sound_compress_CheckTokens {Γ : Ctx} {S : Spec} (hΓ : Sound Go.Proofs.Try.prog Γ) (hS : FnOk S) (hargs : ∀ args K, S.run args K → args.length = 1) (h : Meets Γ s_compress_CheckTokens c_compress_CheckTokens r_compress_CheckTokens S) : SoundAt Go.Proofs.Try.prog n_compress_CheckTokens S := by
  have hb : ∃ c, Go.Proofs.Try.f33.body = some c ∧ compC Go.Proofs.Try.prog Go.Proofs.Try.f33.ntmps c = some (strip c_compress_CheckTokens) := ⟨_, rfl, by kernel_rfl⟩
  obtain ⟨c, hb, hc⟩ := hb
  exact meets_sound hΓ mixed (fn := Go.Proofs.Try.f33) (by kernel_rfl) (by kernel_rfl) hb hc (l := [.tmp 2, .tmp 3]) (by kernel_rfl) (by kernel_rfl) (by decide) hS 1 (by decide) hargs h

/-! depository/depositoryref06.CopyTokens (1 parameters) -/
def c_ref06_CopyTokens_0 : PC := .region [
  ⟨some 2, none, .nilR 68 3⟩]
def c_ref06_CopyTokens_1 : PC := .region [
  ⟨some 3, none, .bslice 68 3 []⟩,
  ⟨some 4, none, .mv (.tmp 0)⟩,
  ⟨some 5, none, .app 68 3 24 (.tmp 3) (.tmp 4)⟩,
  ⟨some 2, none, .mv (.tmp 5)⟩]
def c_ref06_CopyTokens_2 : PC := .seq c_ref06_CopyTokens_1 .ret
def c_ref06_CopyTokens_3 : PC := .seq c_ref06_CopyTokens_0 c_ref06_CopyTokens_2
def c_ref06_CopyTokens : PC := c_ref06_CopyTokens_3
def s_ref06_CopyTokens : List Nat := [0, 2]
def r_ref06_CopyTokens : List (Nat × Option (Bool × Nat)) := [⟨2, none⟩]
theorem sound_ref06_CopyTokens {Γ : Ctx} {S : Spec} (hΓ : Sound Go.Proofs.Try.prog Γ) (hS : FnOk S) (hargs : ∀ args K, S.run args K → args.length = 1) (h : Meets Γ s_ref06_CopyTokens c_ref06_CopyTokens r_ref06_CopyTokens S) : SoundAt Go.Proofs.Try.prog n_ref06_CopyTokens S := by
  have hb : ∃ c, Go.Proofs.Try.f34.body = some c ∧ compC Go.Proofs.Try.prog Go.Proofs.Try.f34.ntmps c = some (strip c_ref06_CopyTokens) := ⟨_, rfl, by kernel_rfl⟩
  obtain ⟨c, hb, hc⟩ := hb
  exact meets_sound hΓ mixed (fn := Go.Proofs.Try.f34) (by kernel_rfl) (by kernel_rfl) hb hc (l := [.tmp 2]) (by kernel_rfl) (by kernel_rfl) (by decide) hS 1 (by decide) hargs h

/-! depository/compress.Expanded (1 parameters) -/
def c_compress_Expanded_0 : PC := .region [
  ⟨some 2, none, .mv (.const (.string (ByteArray.mk (Array.mk []))))⟩,
  ⟨some 3, none, .mv (.const (.int .i64 0))⟩]
def c_compress_Expanded_1 : PC := .region [
  ⟨some 7, none, .mv (.tmp 0)⟩,
  ⟨some 8, none, .call 33 [.tmp 7]⟩,
  ⟨some 6, none, .mv (.tmp 8)⟩,
  ⟨some 9, none, .ext (.tmp 6) 0⟩,
  ⟨some 10, none, .ext (.tmp 6) 1⟩,
  ⟨some 4, none, .mv (.tmp 9)⟩,
  ⟨some 5, none, .mv (.tmp 10)⟩]
def c_compress_Expanded_2 : PC := .region [
  ⟨some 11, none, .mv (.tmp 5)⟩,
  ⟨some 12, none, .bin .neq (.tmp 11) (.const (.int .i64 0))⟩]
def c_compress_Expanded_3 : PC := .region [
  ⟨some 13, none, .mv (.tmp 5)⟩,
  ⟨some 2, none, .mv (.const (.string (ByteArray.mk (Array.mk []))))⟩,
  ⟨some 3, none, .mv (.tmp 13)⟩]
def c_compress_Expanded_4 : PC := .seq c_compress_Expanded_3 .ret
def c_compress_Expanded_5 : PC := .cond (.tmp 12) c_compress_Expanded_4 .skip
def c_compress_Expanded_6 : PC := .seq c_compress_Expanded_2 c_compress_Expanded_5
def c_compress_Expanded_7 : PC := .seq c_compress_Expanded_1 c_compress_Expanded_6
def c_compress_Expanded_8 : PC := .region [
  ⟨some 14, none, .mv (.tmp 0)⟩,
  ⟨some 15, none, .call 71 [.tmp 14]⟩,
  ⟨some 2, none, .mv (.tmp 15)⟩,
  ⟨some 3, none, .mv (.const (.int .i64 0))⟩]
def c_compress_Expanded_9 : PC := .seq c_compress_Expanded_8 .ret
def c_compress_Expanded_10 : PC := .seq c_compress_Expanded_7 c_compress_Expanded_9
def c_compress_Expanded_11 : PC := .seq c_compress_Expanded_0 c_compress_Expanded_10
def c_compress_Expanded : PC := c_compress_Expanded_11
def s_compress_Expanded : List Nat := [0, 2, 3, 5]
def r_compress_Expanded : List (Nat × Option (Bool × Nat)) := [⟨2, none⟩, ⟨3, none⟩]
theorem sound_compress_Expanded {Γ : Ctx} {S : Spec} (hΓ : Sound Go.Proofs.Try.prog Γ) (hS : FnOk S) (hargs : ∀ args K, S.run args K → args.length = 1) (h : Meets Γ s_compress_Expanded c_compress_Expanded r_compress_Expanded S) : SoundAt Go.Proofs.Try.prog n_compress_Expanded S := by
  have hb : ∃ c, Go.Proofs.Try.f35.body = some c ∧ compC Go.Proofs.Try.prog Go.Proofs.Try.f35.ntmps c = some (strip c_compress_Expanded) := ⟨_, rfl, by kernel_rfl⟩
  obtain ⟨c, hb, hc⟩ := hb
  exact meets_sound hΓ mixed (fn := Go.Proofs.Try.f35) (by kernel_rfl) (by kernel_rfl) hb hc (l := [.tmp 2, .tmp 3]) (by kernel_rfl) (by kernel_rfl) (by decide) hS 1 (by decide) hargs h

/-! depository/compress.ChunkOf (1 parameters) -/
def c_compress_ChunkOf_0 : PC := .region [
  ⟨some 2, none, .mv (.const (.string (ByteArray.mk (Array.mk []))))⟩,
  ⟨some 3, none, .mv (.const (.int .i64 0))⟩]
def c_compress_ChunkOf_1 : PC := .region [
  ⟨some 7, none, .mv (.tmp 0)⟩,
  ⟨some 8, none, .call 33 [.tmp 7]⟩,
  ⟨some 6, none, .mv (.tmp 8)⟩,
  ⟨some 9, none, .ext (.tmp 6) 0⟩,
  ⟨some 10, none, .ext (.tmp 6) 1⟩,
  ⟨some 4, none, .mv (.tmp 9)⟩,
  ⟨some 5, none, .mv (.tmp 10)⟩]
def c_compress_ChunkOf_2 : PC := .region [
  ⟨some 11, none, .mv (.tmp 5)⟩,
  ⟨some 12, none, .bin .neq (.tmp 11) (.const (.int .i64 0))⟩]
def c_compress_ChunkOf_3 : PC := .region [
  ⟨some 13, none, .mv (.tmp 5)⟩,
  ⟨some 2, none, .mv (.const (.string (ByteArray.mk (Array.mk []))))⟩,
  ⟨some 3, none, .mv (.tmp 13)⟩]
def c_compress_ChunkOf_4 : PC := .seq c_compress_ChunkOf_3 .ret
def c_compress_ChunkOf_5 : PC := .cond (.tmp 12) c_compress_ChunkOf_4 .skip
def c_compress_ChunkOf_6 : PC := .seq c_compress_ChunkOf_2 c_compress_ChunkOf_5
def c_compress_ChunkOf_7 : PC := .seq c_compress_ChunkOf_1 c_compress_ChunkOf_6
def c_compress_ChunkOf_8 : PC := .region [
  ⟨some 14, none, .mv (.tmp 0)⟩,
  ⟨some 15, none, .call 57 [.tmp 14]⟩,
  ⟨some 16, none, .ext (.tmp 15) 0⟩,
  ⟨some 17, none, .ext (.tmp 15) 1⟩,
  ⟨some 2, none, .mv (.tmp 16)⟩,
  ⟨some 3, none, .mv (.tmp 17)⟩]
def c_compress_ChunkOf_9 : PC := .seq c_compress_ChunkOf_8 .ret
def c_compress_ChunkOf_10 : PC := .seq c_compress_ChunkOf_7 c_compress_ChunkOf_9
def c_compress_ChunkOf_11 : PC := .seq c_compress_ChunkOf_0 c_compress_ChunkOf_10
def c_compress_ChunkOf : PC := c_compress_ChunkOf_11
def s_compress_ChunkOf : List Nat := [0, 2, 3, 5]
def r_compress_ChunkOf : List (Nat × Option (Bool × Nat)) := [⟨2, none⟩, ⟨3, none⟩]
theorem sound_compress_ChunkOf {Γ : Ctx} {S : Spec} (hΓ : Sound Go.Proofs.Try.prog Γ) (hS : FnOk S) (hargs : ∀ args K, S.run args K → args.length = 1) (h : Meets Γ s_compress_ChunkOf c_compress_ChunkOf r_compress_ChunkOf S) : SoundAt Go.Proofs.Try.prog n_compress_ChunkOf S := by
  have hb : ∃ c, Go.Proofs.Try.f36.body = some c ∧ compC Go.Proofs.Try.prog Go.Proofs.Try.f36.ntmps c = some (strip c_compress_ChunkOf) := ⟨_, rfl, by kernel_rfl⟩
  obtain ⟨c, hb, hc⟩ := hb
  exact meets_sound hΓ mixed (fn := Go.Proofs.Try.f36) (by kernel_rfl) (by kernel_rfl) hb hc (l := [.tmp 2, .tmp 3]) (by kernel_rfl) (by kernel_rfl) (by decide) hS 1 (by decide) hargs h

/-! depository/depositoryref06.CheckTokens (1 parameters) -/
def c_ref06_CheckTokens_0 : PC := .region [
  ⟨some 2, none, .mv (.const (.int .i64 0))⟩,
  ⟨some 3, none, .mv (.const (.int .i64 0))⟩]
def c_ref06_CheckTokens_1 : PC := .region [
  ⟨some 7, none, .mv (.tmp 0)⟩,
  ⟨some 8, none, .lenR (.tmp 7)⟩,
  ⟨some 9, none, .bin .eql (.tmp 8) (.const (.int .i64 0))⟩]
def c_ref06_CheckTokens_2 : PC := .region [
  ⟨some 2, none, .mv (.const (.int .i64 0))⟩,
  ⟨some 3, none, .mv (.const (.int .i64 17))⟩]
def c_ref06_CheckTokens_3 : PC := .seq c_ref06_CheckTokens_2 .ret
def c_ref06_CheckTokens_4 : PC := .cond (.tmp 9) c_ref06_CheckTokens_3 .skip
def c_ref06_CheckTokens_5 : PC := .seq c_ref06_CheckTokens_1 c_ref06_CheckTokens_4
def c_ref06_CheckTokens_6 : PC := .region [
  ⟨some 4, none, .mv (.const (.int .i64 0))⟩]
def c_ref06_CheckTokens_7 : PC := .region [
  ⟨some 5, none, .mv (.const (.int .i64 0))⟩]
def c_ref06_CheckTokens_8 : PC := .region [
  ⟨some 10, none, .mv (.tmp 5)⟩,
  ⟨some 11, none, .mv (.tmp 0)⟩,
  ⟨some 12, none, .lenR (.tmp 11)⟩,
  ⟨some 13, none, .bin .lss (.tmp 10) (.tmp 12)⟩]
def c_ref06_CheckTokens_9 : PC := .cond (.tmp 13) .skip (.exit 0)
def c_ref06_CheckTokens_10 : PC := .seq c_ref06_CheckTokens_8 c_ref06_CheckTokens_9
def c_ref06_CheckTokens_11 : PC := .region [
  ⟨some 16, none, .mv (.tmp 0)⟩,
  ⟨some 17, none, .mv (.tmp 5)⟩,
  ⟨some 18, none, .idxA 3 (.tmp 16) (.tmp 17)⟩,
  ⟨some 19, none, .load true 3 (.tmp 18)⟩,
  ⟨some 20, none, .mv (.tmp 4)⟩,
  ⟨some 21, none, .call 72 [.tmp 19, .tmp 20]⟩,
  ⟨some 6, none, .mv (.tmp 21)⟩]
def c_ref06_CheckTokens_12 : PC := .region [
  ⟨some 22, none, .mv (.tmp 6)⟩,
  ⟨some 23, none, .bin .neq (.tmp 22) (.const (.int .i64 0))⟩]
def c_ref06_CheckTokens_13 : PC := .region [
  ⟨some 24, none, .mv (.tmp 5)⟩,
  ⟨some 25, none, .mv (.tmp 6)⟩,
  ⟨some 2, none, .mv (.tmp 24)⟩,
  ⟨some 3, none, .mv (.tmp 25)⟩]
def c_ref06_CheckTokens_14 : PC := .seq c_ref06_CheckTokens_13 .ret
def c_ref06_CheckTokens_15 : PC := .cond (.tmp 23) c_ref06_CheckTokens_14 .skip
def c_ref06_CheckTokens_16 : PC := .seq c_ref06_CheckTokens_12 c_ref06_CheckTokens_15
def c_ref06_CheckTokens_17 : PC := .seq c_ref06_CheckTokens_11 c_ref06_CheckTokens_16
def c_ref06_CheckTokens_18 : PC := .region [
  ⟨some 26, none, .mv (.tmp 4)⟩,
  ⟨some 27, none, .mv (.tmp 0)⟩,
  ⟨some 28, none, .mv (.tmp 5)⟩,
  ⟨some 29, none, .idxA 3 (.tmp 27) (.tmp 28)⟩,
  ⟨some 30, none, .load true 3 (.tmp 29)⟩,
  ⟨some 31, none, .call 54 [.tmp 30]⟩,
  ⟨some 32, none, .bin .add (.tmp 26) (.tmp 31)⟩,
  ⟨some 4, none, .mv (.tmp 32)⟩]
def c_ref06_CheckTokens_19 : PC := .seq c_ref06_CheckTokens_17 c_ref06_CheckTokens_18
def c_ref06_CheckTokens_20 : PC := .block 1 c_ref06_CheckTokens_19
def c_ref06_CheckTokens_21 : PC := .region [
  ⟨some 14, none, .mv (.tmp 5)⟩,
  ⟨some 15, none, .bin .add (.tmp 14) (.const (.int .i64 1))⟩,
  ⟨some 5, none, .mv (.tmp 15)⟩]
def c_ref06_CheckTokens_22 : PC := .seq c_ref06_CheckTokens_20 c_ref06_CheckTokens_21
def c_ref06_CheckTokens_23 : PC := .seq c_ref06_CheckTokens_10 c_ref06_CheckTokens_22
def c_ref06_CheckTokens_24 : PC := .loop [0, 4, 5] c_ref06_CheckTokens_23
def c_ref06_CheckTokens_25 : PC := .block 0 c_ref06_CheckTokens_24
def c_ref06_CheckTokens_26 : PC := .seq c_ref06_CheckTokens_7 c_ref06_CheckTokens_25
def c_ref06_CheckTokens_27 : PC := .region [
  ⟨some 2, none, .mv (.const (.int .i64 0))⟩,
  ⟨some 3, none, .mv (.const (.int .i64 0))⟩]
def c_ref06_CheckTokens_28 : PC := .seq c_ref06_CheckTokens_27 .ret
def c_ref06_CheckTokens_29 : PC := .seq c_ref06_CheckTokens_26 c_ref06_CheckTokens_28
def c_ref06_CheckTokens_30 : PC := .seq c_ref06_CheckTokens_6 c_ref06_CheckTokens_29
def c_ref06_CheckTokens_31 : PC := .seq c_ref06_CheckTokens_5 c_ref06_CheckTokens_30
def c_ref06_CheckTokens_32 : PC := .seq c_ref06_CheckTokens_0 c_ref06_CheckTokens_31
def c_ref06_CheckTokens : PC := c_ref06_CheckTokens_32
def s_ref06_CheckTokens : List Nat := [0, 2, 3, 4, 5, 6]
def r_ref06_CheckTokens : List (Nat × Option (Bool × Nat)) := [⟨2, none⟩, ⟨3, none⟩]
theorem sound_ref06_CheckTokens {Γ : Ctx} {S : Spec} (hΓ : Sound Go.Proofs.Try.prog Γ) (hS : FnOk S) (hargs : ∀ args K, S.run args K → args.length = 1) (h : Meets Γ s_ref06_CheckTokens c_ref06_CheckTokens r_ref06_CheckTokens S) : SoundAt Go.Proofs.Try.prog n_ref06_CheckTokens S := by
  have hb : ∃ c, Go.Proofs.Try.f37.body = some c ∧ compC Go.Proofs.Try.prog Go.Proofs.Try.f37.ntmps c = some (strip c_ref06_CheckTokens) := ⟨_, rfl, by kernel_rfl⟩
  obtain ⟨c, hb, hc⟩ := hb
  exact meets_sound hΓ mixed (fn := Go.Proofs.Try.f37) (by kernel_rfl) (by kernel_rfl) hb hc (l := [.tmp 2, .tmp 3]) (by kernel_rfl) (by kernel_rfl) (by decide) hS 1 (by decide) hargs h

/-! depository/depositoryref06.Chunk (1 parameters) -/
def c_ref06_Chunk_0 : PC := .region [
  ⟨some 2, none, .mv (.const (.string (ByteArray.mk (Array.mk []))))⟩,
  ⟨some 3, none, .mv (.const (.int .i64 0))⟩]
def c_ref06_Chunk_1 : PC := .region [
  ⟨some 5, none, .mv (.tmp 0)⟩,
  ⟨some 6, none, .call 59 [.tmp 5]⟩,
  ⟨some 4, none, .mv (.tmp 6)⟩]
def c_ref06_Chunk_2 : PC := .region [
  ⟨some 7, none, .mv (.tmp 4)⟩,
  ⟨some 8, none, .lenS (.tmp 7)⟩,
  ⟨some 9, none, .bin .gtr (.tmp 8) (.const (.int .i64 4096))⟩]
def c_ref06_Chunk_3 : PC := .region [
  ⟨some 2, none, .mv (.const (.string (ByteArray.mk (Array.mk []))))⟩,
  ⟨some 3, none, .mv (.const (.int .i64 8))⟩]
def c_ref06_Chunk_4 : PC := .seq c_ref06_Chunk_3 .ret
def c_ref06_Chunk_5 : PC := .cond (.tmp 9) c_ref06_Chunk_4 .skip
def c_ref06_Chunk_6 : PC := .seq c_ref06_Chunk_2 c_ref06_Chunk_5
def c_ref06_Chunk_7 : PC := .region [
  ⟨some 10, none, .mv (.tmp 4)⟩,
  ⟨some 11, none, .lenS (.tmp 10)⟩,
  ⟨some 12, none, .call 60 [.tmp 11, .const (.bool true)]⟩,
  ⟨some 13, none, .mv (.tmp 4)⟩,
  ⟨some 14, none, .bin .add (.tmp 12) (.tmp 13)⟩,
  ⟨some 2, none, .mv (.tmp 14)⟩,
  ⟨some 3, none, .mv (.const (.int .i64 0))⟩]
def c_ref06_Chunk_8 : PC := .seq c_ref06_Chunk_7 .ret
def c_ref06_Chunk_9 : PC := .seq c_ref06_Chunk_6 c_ref06_Chunk_8
def c_ref06_Chunk_10 : PC := .seq c_ref06_Chunk_1 c_ref06_Chunk_9
def c_ref06_Chunk_11 : PC := .seq c_ref06_Chunk_0 c_ref06_Chunk_10
def c_ref06_Chunk : PC := c_ref06_Chunk_11
def s_ref06_Chunk : List Nat := [0, 2, 3, 4]
def r_ref06_Chunk : List (Nat × Option (Bool × Nat)) := [⟨2, none⟩, ⟨3, none⟩]
theorem sound_ref06_Chunk {Γ : Ctx} {S : Spec} (hΓ : Sound Go.Proofs.Try.prog Γ) (hS : FnOk S) (hargs : ∀ args K, S.run args K → args.length = 1) (h : Meets Γ s_ref06_Chunk c_ref06_Chunk r_ref06_Chunk S) : SoundAt Go.Proofs.Try.prog n_ref06_Chunk S := by
  have hb : ∃ c, Go.Proofs.Try.f38.body = some c ∧ compC Go.Proofs.Try.prog Go.Proofs.Try.f38.ntmps c = some (strip c_ref06_Chunk) := ⟨_, rfl, by kernel_rfl⟩
  obtain ⟨c, hb, hc⟩ := hb
  exact meets_sound hΓ mixed (fn := Go.Proofs.Try.f38) (by kernel_rfl) (by kernel_rfl) hb hc (l := [.tmp 2, .tmp 3]) (by kernel_rfl) (by kernel_rfl) (by decide) hS 1 (by decide) hargs h

/-! depository/compress.TokensOf (1 parameters) -/
def c_compress_TokensOf_0 : PC := .region [
  ⟨some 2, none, .nilR 68 3⟩,
  ⟨some 3, none, .mv (.const (.int .i64 0))⟩]
def c_compress_TokensOf_1 : PC := .region [
  ⟨some 10, none, .mv (.tmp 0)⟩,
  ⟨some 11, none, .call 73 [.tmp 10, .const (.bool false)]⟩,
  ⟨some 9, none, .mv (.tmp 11)⟩,
  ⟨some 12, none, .ext (.tmp 9) 0⟩,
  ⟨some 13, none, .ext (.tmp 9) 1⟩,
  ⟨some 14, none, .ext (.tmp 9) 2⟩,
  ⟨some 4, none, .mv (.tmp 12)⟩,
  ⟨some 5, none, .mv (.tmp 13)⟩,
  ⟨some 6, none, .mv (.tmp 14)⟩]
def c_compress_TokensOf_2 : PC := .region [
  ⟨some 15, none, .mv (.tmp 0)⟩,
  ⟨some 16, none, .lenS (.tmp 15)⟩,
  ⟨some 17, none, .bin .geq (.tmp 16) (.const (.int .i64 2))⟩,
  ⟨some 18, none, .mv (.tmp 17)⟩,
  ⟨some 19, some (⟨18, true⟩), .mv (.tmp 6)⟩,
  ⟨some 20, some (⟨18, true⟩), .bin .neq (.tmp 19) (.const (.int .i64 3))⟩,
  ⟨some 21, none, .pick (.tmp 18) (.tmp 20) (.const (.bool false))⟩,
  ⟨some 22, none, .mv (.tmp 21)⟩,
  ⟨some 23, some (⟨22, true⟩), .mv (.tmp 5)⟩,
  ⟨some 24, some (⟨22, true⟩), .un .not (.tmp 23)⟩,
  ⟨some 25, none, .pick (.tmp 22) (.tmp 24) (.const (.bool false))⟩]
def c_compress_TokensOf_3 : PC := .region [
  ⟨some 2, none, .nilR 68 3⟩,
  ⟨some 3, none, .mv (.const (.int .i64 15))⟩]
def c_compress_TokensOf_4 : PC := .seq c_compress_TokensOf_3 .ret
def c_compress_TokensOf_5 : PC := .cond (.tmp 25) c_compress_TokensOf_4 .skip
def c_compress_TokensOf_6 : PC := .seq c_compress_TokensOf_2 c_compress_TokensOf_5
def c_compress_TokensOf_7 : PC := .region [
  ⟨some 27, none, .mv (.tmp 0)⟩,
  ⟨some 28, none, .call 73 [.tmp 27, .const (.bool true)]⟩,
  ⟨some 26, none, .mv (.tmp 28)⟩,
  ⟨some 29, none, .ext (.tmp 26) 0⟩,
  ⟨some 30, none, .ext (.tmp 26) 1⟩,
  ⟨some 31, none, .ext (.tmp 26) 2⟩,
  ⟨some 7, none, .mv (.tmp 29)⟩,
  ⟨some 8, none, .mv (.tmp 30)⟩,
  ⟨some 6, none, .mv (.tmp 31)⟩]
def c_compress_TokensOf_8 : PC := .region [
  ⟨some 32, none, .mv (.tmp 6)⟩,
  ⟨some 33, none, .bin .neq (.tmp 32) (.const (.int .i64 0))⟩]
def c_compress_TokensOf_9 : PC := .region [
  ⟨some 34, none, .mv (.tmp 6)⟩,
  ⟨some 2, none, .nilR 68 3⟩,
  ⟨some 3, none, .mv (.tmp 34)⟩]
def c_compress_TokensOf_10 : PC := .seq c_compress_TokensOf_9 .ret
def c_compress_TokensOf_11 : PC := .cond (.tmp 33) c_compress_TokensOf_10 .skip
def c_compress_TokensOf_12 : PC := .seq c_compress_TokensOf_8 c_compress_TokensOf_11
def c_compress_TokensOf_13 : PC := .region [
  ⟨some 35, none, .mv (.tmp 7)⟩,
  ⟨some 36, none, .call 74 [.tmp 35]⟩,
  ⟨some 37, none, .ext (.tmp 36) 0⟩,
  ⟨some 38, none, .ext (.tmp 36) 1⟩,
  ⟨some 2, none, .mv (.tmp 37)⟩,
  ⟨some 3, none, .mv (.tmp 38)⟩]
def c_compress_TokensOf_14 : PC := .seq c_compress_TokensOf_13 .ret
def c_compress_TokensOf_15 : PC := .seq c_compress_TokensOf_12 c_compress_TokensOf_14
def c_compress_TokensOf_16 : PC := .seq c_compress_TokensOf_7 c_compress_TokensOf_15
def c_compress_TokensOf_17 : PC := .seq c_compress_TokensOf_6 c_compress_TokensOf_16
def c_compress_TokensOf_18 : PC := .seq c_compress_TokensOf_1 c_compress_TokensOf_17
def c_compress_TokensOf_19 : PC := .seq c_compress_TokensOf_0 c_compress_TokensOf_18
def c_compress_TokensOf : PC := c_compress_TokensOf_19
def s_compress_TokensOf : List Nat := [0, 2, 3, 5, 6, 7]
def r_compress_TokensOf : List (Nat × Option (Bool × Nat)) := [⟨2, none⟩, ⟨3, none⟩]
theorem sound_compress_TokensOf {Γ : Ctx} {S : Spec} (hΓ : Sound Go.Proofs.Try.prog Γ) (hS : FnOk S) (hargs : ∀ args K, S.run args K → args.length = 1) (h : Meets Γ s_compress_TokensOf c_compress_TokensOf r_compress_TokensOf S) : SoundAt Go.Proofs.Try.prog n_compress_TokensOf S := by
  have hb : ∃ c, Go.Proofs.Try.f39.body = some c ∧ compC Go.Proofs.Try.prog Go.Proofs.Try.f39.ntmps c = some (strip c_compress_TokensOf) := ⟨_, rfl, by kernel_rfl⟩
  obtain ⟨c, hb, hc⟩ := hb
  exact meets_sound hΓ mixed (fn := Go.Proofs.Try.f39) (by kernel_rfl) (by kernel_rfl) hb hc (l := [.tmp 2, .tmp 3]) (by kernel_rfl) (by kernel_rfl) (by decide) hS 1 (by decide) hargs h

/-! depository/compress.Decode (1 parameters) -/
def c_compress_Decode_0 : PC := .region [
  ⟨some 2, none, .mv (.const (.string (ByteArray.mk (Array.mk []))))⟩,
  ⟨some 3, none, .mv (.const (.int .i64 0))⟩]
def c_compress_Decode_1 : PC := .region [
  ⟨some 9, none, .mv (.tmp 0)⟩,
  ⟨some 10, none, .call 73 [.tmp 9, .const (.bool true)]⟩,
  ⟨some 8, none, .mv (.tmp 10)⟩,
  ⟨some 11, none, .ext (.tmp 8) 0⟩,
  ⟨some 12, none, .ext (.tmp 8) 1⟩,
  ⟨some 13, none, .ext (.tmp 8) 2⟩,
  ⟨some 4, none, .mv (.tmp 11)⟩,
  ⟨some 5, none, .mv (.tmp 12)⟩,
  ⟨some 6, none, .mv (.tmp 13)⟩]
def c_compress_Decode_2 : PC := .region [
  ⟨some 14, none, .mv (.tmp 6)⟩,
  ⟨some 15, none, .bin .neq (.tmp 14) (.const (.int .i64 0))⟩,
  ⟨some 16, none, .mv (.tmp 15)⟩,
  ⟨some 17, some (⟨16, false⟩), .mv (.tmp 5)⟩,
  ⟨some 18, some (⟨16, false⟩), .un .not (.tmp 17)⟩,
  ⟨some 19, none, .pick (.tmp 16) (.const (.bool true)) (.tmp 18)⟩]
def c_compress_Decode_3 : PC := .region [
  ⟨some 20, none, .mv (.tmp 4)⟩,
  ⟨some 21, none, .mv (.tmp 6)⟩,
  ⟨some 2, none, .mv (.tmp 20)⟩,
  ⟨some 3, none, .mv (.tmp 21)⟩]
def c_compress_Decode_4 : PC := .seq c_compress_Decode_3 .ret
def c_compress_Decode_5 : PC := .cond (.tmp 19) c_compress_Decode_4 .skip
def c_compress_Decode_6 : PC := .seq c_compress_Decode_2 c_compress_Decode_5
def c_compress_Decode_7 : PC := .region [
  ⟨some 23, none, .mv (.tmp 4)⟩,
  ⟨some 24, none, .call 74 [.tmp 23]⟩,
  ⟨some 22, none, .mv (.tmp 24)⟩,
  ⟨some 25, none, .ext (.tmp 22) 0⟩,
  ⟨some 26, none, .ext (.tmp 22) 1⟩,
  ⟨some 7, none, .mv (.tmp 25)⟩,
  ⟨some 6, none, .mv (.tmp 26)⟩]
def c_compress_Decode_8 : PC := .region [
  ⟨some 27, none, .mv (.tmp 6)⟩,
  ⟨some 28, none, .bin .neq (.tmp 27) (.const (.int .i64 0))⟩]
def c_compress_Decode_9 : PC := .region [
  ⟨some 29, none, .mv (.tmp 6)⟩,
  ⟨some 2, none, .mv (.const (.string (ByteArray.mk (Array.mk []))))⟩,
  ⟨some 3, none, .mv (.tmp 29)⟩]
def c_compress_Decode_10 : PC := .seq c_compress_Decode_9 .ret
def c_compress_Decode_11 : PC := .cond (.tmp 28) c_compress_Decode_10 .skip
def c_compress_Decode_12 : PC := .seq c_compress_Decode_8 c_compress_Decode_11
def c_compress_Decode_13 : PC := .region [
  ⟨some 30, none, .mv (.tmp 7)⟩,
  ⟨some 31, none, .call 71 [.tmp 30]⟩,
  ⟨some 2, none, .mv (.tmp 31)⟩,
  ⟨some 3, none, .mv (.const (.int .i64 0))⟩]
def c_compress_Decode_14 : PC := .seq c_compress_Decode_13 .ret
def c_compress_Decode_15 : PC := .seq c_compress_Decode_12 c_compress_Decode_14
def c_compress_Decode_16 : PC := .seq c_compress_Decode_7 c_compress_Decode_15
def c_compress_Decode_17 : PC := .seq c_compress_Decode_6 c_compress_Decode_16
def c_compress_Decode_18 : PC := .seq c_compress_Decode_1 c_compress_Decode_17
def c_compress_Decode_19 : PC := .seq c_compress_Decode_0 c_compress_Decode_18
def c_compress_Decode : PC := c_compress_Decode_19
def s_compress_Decode : List Nat := [0, 2, 3, 4, 5, 6, 7]
def r_compress_Decode : List (Nat × Option (Bool × Nat)) := [⟨2, none⟩, ⟨3, none⟩]
theorem sound_compress_Decode {Γ : Ctx} {S : Spec} (hΓ : Sound Go.Proofs.Try.prog Γ) (hS : FnOk S) (hargs : ∀ args K, S.run args K → args.length = 1) (h : Meets Γ s_compress_Decode c_compress_Decode r_compress_Decode S) : SoundAt Go.Proofs.Try.prog n_compress_Decode S := by
  have hb : ∃ c, Go.Proofs.Try.f40.body = some c ∧ compC Go.Proofs.Try.prog Go.Proofs.Try.f40.ntmps c = some (strip c_compress_Decode) := ⟨_, rfl, by kernel_rfl⟩
  obtain ⟨c, hb, hc⟩ := hb
  exact meets_sound hΓ mixed (fn := Go.Proofs.Try.f40) (by kernel_rfl) (by kernel_rfl) hb hc (l := [.tmp 2, .tmp 3]) (by kernel_rfl) (by kernel_rfl) (by decide) hS 1 (by decide) hargs h

/-! depository/depositoryref06.TokensOf (1 parameters) -/
def c_ref06_TokensOf_0 : PC := .region [
  ⟨some 2, none, .nilR 68 3⟩,
  ⟨some 3, none, .mv (.const (.int .i64 0))⟩]
def c_ref06_TokensOf_1 : PC := .region [
  ⟨some 8, none, .mv (.tmp 0)⟩,
  ⟨some 9, none, .call 75 [.tmp 8]⟩,
  ⟨some 7, none, .mv (.tmp 9)⟩,
  ⟨some 10, none, .ext (.tmp 7) 0⟩,
  ⟨some 11, none, .ext (.tmp 7) 1⟩,
  ⟨some 12, none, .ext (.tmp 7) 2⟩,
  ⟨some 4, none, .mv (.tmp 10)⟩,
  ⟨some 5, none, .mv (.tmp 11)⟩,
  ⟨some 6, none, .mv (.tmp 12)⟩]
def c_ref06_TokensOf_2 : PC := .region [
  ⟨some 13, none, .mv (.tmp 6)⟩,
  ⟨some 14, none, .bin .neq (.tmp 13) (.const (.int .i64 0))⟩]
def c_ref06_TokensOf_3 : PC := .region [
  ⟨some 15, none, .mv (.tmp 6)⟩,
  ⟨some 2, none, .nilR 68 3⟩,
  ⟨some 3, none, .mv (.tmp 15)⟩]
def c_ref06_TokensOf_4 : PC := .seq c_ref06_TokensOf_3 .ret
def c_ref06_TokensOf_5 : PC := .cond (.tmp 14) c_ref06_TokensOf_4 .skip
def c_ref06_TokensOf_6 : PC := .seq c_ref06_TokensOf_2 c_ref06_TokensOf_5
def c_ref06_TokensOf_7 : PC := .region [
  ⟨some 16, none, .mv (.tmp 4)⟩,
  ⟨some 17, none, .un .not (.tmp 16)⟩]
def c_ref06_TokensOf_8 : PC := .region [
  ⟨some 2, none, .nilR 68 3⟩,
  ⟨some 3, none, .mv (.const (.int .i64 15))⟩]
def c_ref06_TokensOf_9 : PC := .seq c_ref06_TokensOf_8 .ret
def c_ref06_TokensOf_10 : PC := .cond (.tmp 17) c_ref06_TokensOf_9 .skip
def c_ref06_TokensOf_11 : PC := .seq c_ref06_TokensOf_7 c_ref06_TokensOf_10
def c_ref06_TokensOf_12 : PC := .region [
  ⟨some 18, none, .mv (.tmp 5)⟩,
  ⟨some 19, none, .lenS (.tmp 18)⟩,
  ⟨some 20, none, .mv (.tmp 0)⟩,
  ⟨some 21, none, .call 76 [.tmp 20, .const (.int .i64 0), .const (.int .i64 2)]⟩,
  ⟨some 22, none, .bin .rem (.tmp 21) (.const (.int .i64 4096))⟩,
  ⟨some 23, none, .bin .add (.tmp 22) (.const (.int .i64 1))⟩,
  ⟨some 24, none, .bin .neq (.tmp 19) (.tmp 23)⟩]
def c_ref06_TokensOf_13 : PC := .region [
  ⟨some 2, none, .nilR 68 3⟩,
  ⟨some 3, none, .mv (.const (.int .i64 10))⟩]
def c_ref06_TokensOf_14 : PC := .seq c_ref06_TokensOf_13 .ret
def c_ref06_TokensOf_15 : PC := .cond (.tmp 24) c_ref06_TokensOf_14 .skip
def c_ref06_TokensOf_16 : PC := .seq c_ref06_TokensOf_12 c_ref06_TokensOf_15
def c_ref06_TokensOf_17 : PC := .region [
  ⟨some 25, none, .mv (.tmp 5)⟩,
  ⟨some 26, none, .call 77 [.tmp 25]⟩,
  ⟨some 27, none, .ext (.tmp 26) 0⟩,
  ⟨some 28, none, .ext (.tmp 26) 1⟩,
  ⟨some 2, none, .mv (.tmp 27)⟩,
  ⟨some 3, none, .mv (.tmp 28)⟩]
def c_ref06_TokensOf_18 : PC := .seq c_ref06_TokensOf_17 .ret
def c_ref06_TokensOf_19 : PC := .seq c_ref06_TokensOf_16 c_ref06_TokensOf_18
def c_ref06_TokensOf_20 : PC := .seq c_ref06_TokensOf_11 c_ref06_TokensOf_19
def c_ref06_TokensOf_21 : PC := .seq c_ref06_TokensOf_6 c_ref06_TokensOf_20
def c_ref06_TokensOf_22 : PC := .seq c_ref06_TokensOf_1 c_ref06_TokensOf_21
def c_ref06_TokensOf_23 : PC := .seq c_ref06_TokensOf_0 c_ref06_TokensOf_22
def c_ref06_TokensOf : PC := c_ref06_TokensOf_23
def s_ref06_TokensOf : List Nat := [0, 2, 3, 4, 5, 6]
def r_ref06_TokensOf : List (Nat × Option (Bool × Nat)) := [⟨2, none⟩, ⟨3, none⟩]
theorem sound_ref06_TokensOf {Γ : Ctx} {S : Spec} (hΓ : Sound Go.Proofs.Try.prog Γ) (hS : FnOk S) (hargs : ∀ args K, S.run args K → args.length = 1) (h : Meets Γ s_ref06_TokensOf c_ref06_TokensOf r_ref06_TokensOf S) : SoundAt Go.Proofs.Try.prog n_ref06_TokensOf S := by
  have hb : ∃ c, Go.Proofs.Try.f41.body = some c ∧ compC Go.Proofs.Try.prog Go.Proofs.Try.f41.ntmps c = some (strip c_ref06_TokensOf) := ⟨_, rfl, by kernel_rfl⟩
  obtain ⟨c, hb, hc⟩ := hb
  exact meets_sound hΓ mixed (fn := Go.Proofs.Try.f41) (by kernel_rfl) (by kernel_rfl) hb hc (l := [.tmp 2, .tmp 3]) (by kernel_rfl) (by kernel_rfl) (by decide) hS 1 (by decide) hargs h

/-! depository/depositoryref06.Decode (1 parameters) -/
def c_ref06_Decode_0 : PC := .region [
  ⟨some 2, none, .mv (.const (.string (ByteArray.mk (Array.mk []))))⟩,
  ⟨some 3, none, .mv (.const (.int .i64 0))⟩]
def c_ref06_Decode_1 : PC := .region [
  ⟨some 9, none, .mv (.tmp 0)⟩,
  ⟨some 10, none, .call 75 [.tmp 9]⟩,
  ⟨some 8, none, .mv (.tmp 10)⟩,
  ⟨some 11, none, .ext (.tmp 8) 0⟩,
  ⟨some 12, none, .ext (.tmp 8) 1⟩,
  ⟨some 13, none, .ext (.tmp 8) 2⟩,
  ⟨some 4, none, .mv (.tmp 11)⟩,
  ⟨some 5, none, .mv (.tmp 12)⟩,
  ⟨some 6, none, .mv (.tmp 13)⟩]
def c_ref06_Decode_2 : PC := .region [
  ⟨some 14, none, .mv (.tmp 6)⟩,
  ⟨some 15, none, .bin .neq (.tmp 14) (.const (.int .i64 0))⟩]
def c_ref06_Decode_3 : PC := .region [
  ⟨some 16, none, .mv (.tmp 6)⟩,
  ⟨some 2, none, .mv (.const (.string (ByteArray.mk (Array.mk []))))⟩,
  ⟨some 3, none, .mv (.tmp 16)⟩]
def c_ref06_Decode_4 : PC := .seq c_ref06_Decode_3 .ret
def c_ref06_Decode_5 : PC := .cond (.tmp 15) c_ref06_Decode_4 .skip
def c_ref06_Decode_6 : PC := .seq c_ref06_Decode_2 c_ref06_Decode_5
def c_ref06_Decode_7 : PC := .region [
  ⟨some 17, none, .mv (.tmp 5)⟩,
  ⟨some 18, none, .lenS (.tmp 17)⟩,
  ⟨some 19, none, .mv (.tmp 0)⟩,
  ⟨some 20, none, .call 76 [.tmp 19, .const (.int .i64 0), .const (.int .i64 2)]⟩,
  ⟨some 21, none, .bin .rem (.tmp 20) (.const (.int .i64 4096))⟩,
  ⟨some 22, none, .bin .add (.tmp 21) (.const (.int .i64 1))⟩,
  ⟨some 23, none, .bin .neq (.tmp 18) (.tmp 22)⟩]
def c_ref06_Decode_8 : PC := .region [
  ⟨some 2, none, .mv (.const (.string (ByteArray.mk (Array.mk []))))⟩,
  ⟨some 3, none, .mv (.const (.int .i64 10))⟩]
def c_ref06_Decode_9 : PC := .seq c_ref06_Decode_8 .ret
def c_ref06_Decode_10 : PC := .cond (.tmp 23) c_ref06_Decode_9 .skip
def c_ref06_Decode_11 : PC := .seq c_ref06_Decode_7 c_ref06_Decode_10
def c_ref06_Decode_12 : PC := .region [
  ⟨some 24, none, .mv (.tmp 4)⟩,
  ⟨some 25, none, .un .not (.tmp 24)⟩]
def c_ref06_Decode_13 : PC := .region [
  ⟨some 26, none, .mv (.tmp 5)⟩,
  ⟨some 2, none, .mv (.tmp 26)⟩,
  ⟨some 3, none, .mv (.const (.int .i64 0))⟩]
def c_ref06_Decode_14 : PC := .seq c_ref06_Decode_13 .ret
def c_ref06_Decode_15 : PC := .cond (.tmp 25) c_ref06_Decode_14 .skip
def c_ref06_Decode_16 : PC := .seq c_ref06_Decode_12 c_ref06_Decode_15
def c_ref06_Decode_17 : PC := .region [
  ⟨some 28, none, .mv (.tmp 5)⟩,
  ⟨some 29, none, .call 77 [.tmp 28]⟩,
  ⟨some 27, none, .mv (.tmp 29)⟩,
  ⟨some 30, none, .ext (.tmp 27) 0⟩,
  ⟨some 31, none, .ext (.tmp 27) 1⟩,
  ⟨some 7, none, .mv (.tmp 30)⟩,
  ⟨some 6, none, .mv (.tmp 31)⟩]
def c_ref06_Decode_18 : PC := .region [
  ⟨some 32, none, .mv (.tmp 6)⟩,
  ⟨some 33, none, .bin .neq (.tmp 32) (.const (.int .i64 0))⟩]
def c_ref06_Decode_19 : PC := .region [
  ⟨some 34, none, .mv (.tmp 6)⟩,
  ⟨some 2, none, .mv (.const (.string (ByteArray.mk (Array.mk []))))⟩,
  ⟨some 3, none, .mv (.tmp 34)⟩]
def c_ref06_Decode_20 : PC := .seq c_ref06_Decode_19 .ret
def c_ref06_Decode_21 : PC := .cond (.tmp 33) c_ref06_Decode_20 .skip
def c_ref06_Decode_22 : PC := .seq c_ref06_Decode_18 c_ref06_Decode_21
def c_ref06_Decode_23 : PC := .region [
  ⟨some 35, none, .mv (.tmp 7)⟩,
  ⟨some 36, none, .call 31 [.tmp 35]⟩,
  ⟨some 2, none, .mv (.tmp 36)⟩,
  ⟨some 3, none, .mv (.const (.int .i64 0))⟩]
def c_ref06_Decode_24 : PC := .seq c_ref06_Decode_23 .ret
def c_ref06_Decode_25 : PC := .seq c_ref06_Decode_22 c_ref06_Decode_24
def c_ref06_Decode_26 : PC := .seq c_ref06_Decode_17 c_ref06_Decode_25
def c_ref06_Decode_27 : PC := .seq c_ref06_Decode_16 c_ref06_Decode_26
def c_ref06_Decode_28 : PC := .seq c_ref06_Decode_11 c_ref06_Decode_27
def c_ref06_Decode_29 : PC := .seq c_ref06_Decode_6 c_ref06_Decode_28
def c_ref06_Decode_30 : PC := .seq c_ref06_Decode_1 c_ref06_Decode_29
def c_ref06_Decode_31 : PC := .seq c_ref06_Decode_0 c_ref06_Decode_30
def c_ref06_Decode : PC := c_ref06_Decode_31
def s_ref06_Decode : List Nat := [0, 2, 3, 4, 5, 6, 7]
def r_ref06_Decode : List (Nat × Option (Bool × Nat)) := [⟨2, none⟩, ⟨3, none⟩]
theorem sound_ref06_Decode {Γ : Ctx} {S : Spec} (hΓ : Sound Go.Proofs.Try.prog Γ) (hS : FnOk S) (hargs : ∀ args K, S.run args K → args.length = 1) (h : Meets Γ s_ref06_Decode c_ref06_Decode r_ref06_Decode S) : SoundAt Go.Proofs.Try.prog n_ref06_Decode S := by
  have hb : ∃ c, Go.Proofs.Try.f42.body = some c ∧ compC Go.Proofs.Try.prog Go.Proofs.Try.f42.ntmps c = some (strip c_ref06_Decode) := ⟨_, rfl, by kernel_rfl⟩
  obtain ⟨c, hb, hc⟩ := hb
  exact meets_sound hΓ mixed (fn := Go.Proofs.Try.f42) (by kernel_rfl) (by kernel_rfl) hb hc (l := [.tmp 2, .tmp 3]) (by kernel_rfl) (by kernel_rfl) (by decide) hS 1 (by decide) hargs h

/-! depository/depositorylaw06.Unit (2 parameters) -/
def c_law06_Unit_0 : PC := .region [
  ⟨some 4, none, .mv (.const (.string (ByteArray.mk (Array.mk []))))⟩]
def c_law06_Unit_1 : PC := .region [
  ⟨some 8, none, .call 78 [.const (.int .i64 4096)]⟩,
  ⟨some 9, none, .conv (.stb 5) (.tmp 8)⟩,
  ⟨some 5, none, .mv (.tmp 9)⟩]
def c_law06_Unit_2 : PC := .region [
  ⟨some 10, none, .mv (.tmp 0)⟩,
  ⟨some 11, none, .lenS (.tmp 10)⟩,
  ⟨some 12, none, .bin .gtr (.tmp 11) (.const (.int .i64 0))⟩,
  ⟨some 13, none, .mv (.tmp 12)⟩,
  ⟨some 14, some (⟨13, true⟩), .mv (.tmp 0)⟩,
  ⟨some 15, some (⟨13, true⟩), .lenS (.tmp 14)⟩,
  ⟨some 16, some (⟨13, true⟩), .bin .leq (.tmp 15) (.const (.int .i64 40))⟩,
  ⟨some 17, none, .pick (.tmp 13) (.tmp 16) (.const (.bool false))⟩]
def c_law06_Unit_3 : PC := .region [
  ⟨some 6, none, .mv (.const (.int .i64 0))⟩]
def c_law06_Unit_4 : PC := .region [
  ⟨some 18, none, .mv (.tmp 6)⟩,
  ⟨some 19, none, .mv (.tmp 5)⟩,
  ⟨some 20, none, .lenR (.tmp 19)⟩,
  ⟨some 21, none, .bin .lss (.tmp 18) (.tmp 20)⟩]
def c_law06_Unit_5 : PC := .cond (.tmp 21) .skip (.exit 0)
def c_law06_Unit_6 : PC := .seq c_law06_Unit_4 c_law06_Unit_5
def c_law06_Unit_7 : PC := .region [
  ⟨some 24, none, .mv (.tmp 5)⟩,
  ⟨some 25, none, .mv (.tmp 6)⟩,
  ⟨some 26, none, .mv (.tmp 0)⟩,
  ⟨some 27, none, .mv (.tmp 6)⟩,
  ⟨some 28, none, .mv (.tmp 0)⟩,
  ⟨some 29, none, .lenS (.tmp 28)⟩,
  ⟨some 30, none, .bin .rem (.tmp 27) (.tmp 29)⟩,
  ⟨some 31, none, .idx (.tmp 26) (.tmp 30)⟩,
  ⟨some 32, none, .idxA 1 (.tmp 24) (.tmp 25)⟩,
  ⟨none, none, .store 1 (.tmp 32) (.tmp 31)⟩]
def c_law06_Unit_8 : PC := .block 1 c_law06_Unit_7
def c_law06_Unit_9 : PC := .region [
  ⟨some 22, none, .mv (.tmp 6)⟩,
  ⟨some 23, none, .bin .add (.tmp 22) (.const (.int .i64 1))⟩,
  ⟨some 6, none, .mv (.tmp 23)⟩]
def c_law06_Unit_10 : PC := .seq c_law06_Unit_8 c_law06_Unit_9
def c_law06_Unit_11 : PC := .seq c_law06_Unit_6 c_law06_Unit_10
def c_law06_Unit_12 : PC := .loop [0, 1, 5, 6] c_law06_Unit_11
def c_law06_Unit_13 : PC := .block 0 c_law06_Unit_12
def c_law06_Unit_14 : PC := .seq c_law06_Unit_3 c_law06_Unit_13
def c_law06_Unit_15 : PC := .cond (.tmp 17) c_law06_Unit_14 .skip
def c_law06_Unit_16 : PC := .seq c_law06_Unit_2 c_law06_Unit_15
def c_law06_Unit_17 : PC := .region [
  ⟨some 7, none, .mv (.const (.int .i64 0))⟩]
def c_law06_Unit_18 : PC := .region [
  ⟨some 33, none, .mv (.tmp 7)⟩,
  ⟨some 34, none, .mv (.tmp 1)⟩,
  ⟨some 35, none, .lenR (.tmp 34)⟩,
  ⟨some 36, none, .bin .lss (.tmp 33) (.tmp 35)⟩,
  ⟨some 37, none, .mv (.tmp 36)⟩,
  ⟨some 38, some (⟨37, true⟩), .mv (.tmp 7)⟩,
  ⟨some 39, some (⟨37, true⟩), .bin .lss (.tmp 38) (.const (.int .i64 200))⟩,
  ⟨some 40, none, .pick (.tmp 37) (.tmp 39) (.const (.bool false))⟩]
def c_law06_Unit_19 : PC := .cond (.tmp 40) .skip (.exit 2)
def c_law06_Unit_20 : PC := .seq c_law06_Unit_18 c_law06_Unit_19
def c_law06_Unit_21 : PC := .draw [
  ⟨some 43, none, .mv (.tmp 5)⟩,
  ⟨some 44, none, .mv (.tmp 1)⟩,
  ⟨some 45, none, .mv (.tmp 7)⟩,
  ⟨some 46, none, .idxA 1 (.tmp 44) (.tmp 45)⟩,
  ⟨some 47, none, .load false 1 (.tmp 46)⟩,
  ⟨some 48, none, .conv (.toInt .i64) (.tmp 47)⟩,
  ⟨some 49, none, .mv (.tmp 5)⟩,
  ⟨some 50, none, .lenN (.tmp 49)⟩,
  ⟨some 51, none, .bin .rem (.tmp 48) (.tmp 50)⟩,
  ⟨some 52, none, .mv (.tmp 1)⟩,
  ⟨some 53, none, .mv (.tmp 7)⟩,
  ⟨some 54, none, .idxA 1 (.tmp 52) (.tmp 53)⟩,
  ⟨some 55, none, .load false 1 (.tmp 54)⟩,
  ⟨some 56, none, .bin .quo (.tmp 55) (.const (.int .u16 256))⟩,
  ⟨some 57, none, .conv (.toInt .u8) (.tmp 56)⟩,
  ⟨some 58, none, .idxA 1 (.tmp 43) (.tmp 51)⟩,
  ⟨none, none, .store 1 (.tmp 58) (.tmp 57)⟩]
  [[], [], [], [1, 2], [3], [4], [], [6], [5, 7], [], [], [9, 10], [11], [12], [13], [0, 8, 0, 1, 2, 3, 4, 5, 6, 7, 8, 9, 10, 11, 12, 13, 14], [15, 14, 0, 1, 2, 3, 4, 5, 6, 7, 8, 9, 10, 11, 12, 13, 14]]
def c_law06_Unit_22 : PC := .block 3 c_law06_Unit_21
def c_law06_Unit_23 : PC := .region [
  ⟨some 41, none, .mv (.tmp 7)⟩,
  ⟨some 42, none, .bin .add (.tmp 41) (.const (.int .i64 1))⟩,
  ⟨some 7, none, .mv (.tmp 42)⟩]
def c_law06_Unit_24 : PC := .seq c_law06_Unit_22 c_law06_Unit_23
def c_law06_Unit_25 : PC := .seq c_law06_Unit_20 c_law06_Unit_24
def c_law06_Unit_26 : PC := .loop [1, 5, 7] c_law06_Unit_25
def c_law06_Unit_27 : PC := .block 2 c_law06_Unit_26
def c_law06_Unit_28 : PC := .seq c_law06_Unit_17 c_law06_Unit_27
def c_law06_Unit_29 : PC := .region [
  ⟨some 59, none, .mv (.tmp 5)⟩,
  ⟨some 60, none, .conv .bts (.tmp 59)⟩,
  ⟨some 4, none, .mv (.tmp 60)⟩]
def c_law06_Unit_30 : PC := .seq c_law06_Unit_29 .ret
def c_law06_Unit_31 : PC := .seq c_law06_Unit_28 c_law06_Unit_30
def c_law06_Unit_32 : PC := .seq c_law06_Unit_16 c_law06_Unit_31
def c_law06_Unit_33 : PC := .seq c_law06_Unit_1 c_law06_Unit_32
def c_law06_Unit_34 : PC := .seq c_law06_Unit_0 c_law06_Unit_33
def c_law06_Unit : PC := c_law06_Unit_34
def s_law06_Unit : List Nat := [0, 1, 4, 5, 6, 7]
def r_law06_Unit : List (Nat × Option (Bool × Nat)) := [⟨4, none⟩]
theorem sound_law06_Unit {Γ : Ctx} {S : Spec} (hΓ : Sound Go.Proofs.Try.prog Γ) (hS : FnOk S) (hargs : ∀ args K, S.run args K → args.length = 2) (h : Meets Γ s_law06_Unit c_law06_Unit r_law06_Unit S) : SoundAt Go.Proofs.Try.prog n_law06_Unit S := by
  have hb : ∃ c, Go.Proofs.Try.f43.body = some c ∧ compC Go.Proofs.Try.prog Go.Proofs.Try.f43.ntmps c = some (strip c_law06_Unit) := ⟨_, rfl, by kernel_rfl⟩
  obtain ⟨c, hb, hc⟩ := hb
  exact meets_sound hΓ mixed (fn := Go.Proofs.Try.f43) (by kernel_rfl) (by kernel_rfl) hb hc (l := [.tmp 4]) (by kernel_rfl) (by kernel_rfl) (by decide) hS 2 (by decide) hargs h

/-! depository/compress.PackUnit (1 parameters) -/
def c_compress_PackUnit_0 : PC := .region [
  ⟨some 2, none, .mv (.const (.string (ByteArray.mk (Array.mk []))))⟩,
  ⟨some 3, none, .mv (.const (.int .i64 0))⟩]
def c_compress_PackUnit_1 : PC := .region [
  ⟨some 7, none, .mv (.tmp 0)⟩,
  ⟨some 8, none, .lenS (.tmp 7)⟩,
  ⟨some 9, none, .bin .neq (.tmp 8) (.const (.int .i64 4096))⟩]
def c_compress_PackUnit_2 : PC := .region [
  ⟨some 2, none, .mv (.const (.string (ByteArray.mk (Array.mk []))))⟩,
  ⟨some 3, none, .mv (.const (.int .i64 10))⟩]
def c_compress_PackUnit_3 : PC := .seq c_compress_PackUnit_2 .ret
def c_compress_PackUnit_4 : PC := .cond (.tmp 9) c_compress_PackUnit_3 .skip
def c_compress_PackUnit_5 : PC := .seq c_compress_PackUnit_1 c_compress_PackUnit_4
def c_compress_PackUnit_6 : PC := .region [
  ⟨some 10, none, .mv (.tmp 0)⟩,
  ⟨some 11, none, .mv (.tmp 0)⟩,
  ⟨some 12, none, .lenS (.tmp 11)⟩,
  ⟨some 13, none, .call 79 [.tmp 12]⟩,
  ⟨some 14, none, .bin .eql (.tmp 10) (.tmp 13)⟩]
def c_compress_PackUnit_7 : PC := .region [
  ⟨some 2, none, .mv (.const (.string (ByteArray.mk (Array.mk []))))⟩,
  ⟨some 3, none, .mv (.const (.int .i64 0))⟩]
def c_compress_PackUnit_8 : PC := .seq c_compress_PackUnit_7 .ret
def c_compress_PackUnit_9 : PC := .cond (.tmp 14) c_compress_PackUnit_8 .skip
def c_compress_PackUnit_10 : PC := .seq c_compress_PackUnit_6 c_compress_PackUnit_9
def c_compress_PackUnit_11 : PC := .region [
  ⟨some 16, none, .mv (.tmp 0)⟩,
  ⟨some 17, none, .call 55 [.tmp 16]⟩,
  ⟨some 18, none, .call 57 [.tmp 17]⟩,
  ⟨some 15, none, .mv (.tmp 18)⟩,
  ⟨some 19, none, .ext (.tmp 15) 0⟩,
  ⟨some 20, none, .ext (.tmp 15) 1⟩,
  ⟨some 4, none, .mv (.tmp 19)⟩,
  ⟨some 5, none, .mv (.tmp 20)⟩]
def c_compress_PackUnit_12 : PC := .region [
  ⟨some 21, none, .mv (.tmp 4)⟩,
  ⟨some 22, none, .lenS (.tmp 21)⟩,
  ⟨some 23, none, .call 80 [.tmp 22]⟩,
  ⟨some 24, none, .bin .mul (.tmp 23) (.const (.int .i64 256))⟩,
  ⟨some 6, none, .mv (.tmp 24)⟩]
def c_compress_PackUnit_13 : PC := .region [
  ⟨some 25, none, .mv (.tmp 5)⟩,
  ⟨some 26, none, .bin .neq (.tmp 25) (.const (.int .i64 0))⟩,
  ⟨some 27, none, .mv (.tmp 26)⟩,
  ⟨some 28, some (⟨27, false⟩), .mv (.tmp 6)⟩,
  ⟨some 29, some (⟨27, false⟩), .bin .geq (.tmp 28) (.const (.int .i64 4096))⟩,
  ⟨some 30, none, .pick (.tmp 27) (.const (.bool true)) (.tmp 29)⟩]
def c_compress_PackUnit_14 : PC := .region [
  ⟨some 31, none, .mv (.tmp 0)⟩,
  ⟨some 2, none, .mv (.tmp 31)⟩,
  ⟨some 3, none, .mv (.const (.int .i64 0))⟩]
def c_compress_PackUnit_15 : PC := .seq c_compress_PackUnit_14 .ret
def c_compress_PackUnit_16 : PC := .cond (.tmp 30) c_compress_PackUnit_15 .skip
def c_compress_PackUnit_17 : PC := .seq c_compress_PackUnit_13 c_compress_PackUnit_16
def c_compress_PackUnit_18 : PC := .region [
  ⟨some 32, none, .mv (.tmp 4)⟩,
  ⟨some 33, none, .mv (.tmp 6)⟩,
  ⟨some 34, none, .mv (.tmp 4)⟩,
  ⟨some 35, none, .lenS (.tmp 34)⟩,
  ⟨some 36, none, .bin .sub (.tmp 33) (.tmp 35)⟩,
  ⟨some 37, none, .call 79 [.tmp 36]⟩,
  ⟨some 38, none, .bin .add (.tmp 32) (.tmp 37)⟩,
  ⟨some 2, none, .mv (.tmp 38)⟩,
  ⟨some 3, none, .mv (.const (.int .i64 0))⟩]
def c_compress_PackUnit_19 : PC := .seq c_compress_PackUnit_18 .ret
def c_compress_PackUnit_20 : PC := .seq c_compress_PackUnit_17 c_compress_PackUnit_19
def c_compress_PackUnit_21 : PC := .seq c_compress_PackUnit_12 c_compress_PackUnit_20
def c_compress_PackUnit_22 : PC := .seq c_compress_PackUnit_11 c_compress_PackUnit_21
def c_compress_PackUnit_23 : PC := .seq c_compress_PackUnit_10 c_compress_PackUnit_22
def c_compress_PackUnit_24 : PC := .seq c_compress_PackUnit_5 c_compress_PackUnit_23
def c_compress_PackUnit_25 : PC := .seq c_compress_PackUnit_0 c_compress_PackUnit_24
def c_compress_PackUnit : PC := c_compress_PackUnit_25
def s_compress_PackUnit : List Nat := [0, 2, 3, 4, 5, 6]
def r_compress_PackUnit : List (Nat × Option (Bool × Nat)) := [⟨2, none⟩, ⟨3, none⟩]
theorem sound_compress_PackUnit {Γ : Ctx} {S : Spec} (hΓ : Sound Go.Proofs.Try.prog Γ) (hS : FnOk S) (hargs : ∀ args K, S.run args K → args.length = 1) (h : Meets Γ s_compress_PackUnit c_compress_PackUnit r_compress_PackUnit S) : SoundAt Go.Proofs.Try.prog n_compress_PackUnit S := by
  have hb : ∃ c, Go.Proofs.Try.f44.body = some c ∧ compC Go.Proofs.Try.prog Go.Proofs.Try.f44.ntmps c = some (strip c_compress_PackUnit) := ⟨_, rfl, by kernel_rfl⟩
  obtain ⟨c, hb, hc⟩ := hb
  exact meets_sound hΓ mixed (fn := Go.Proofs.Try.f44) (by kernel_rfl) (by kernel_rfl) hb hc (l := [.tmp 2, .tmp 3]) (by kernel_rfl) (by kernel_rfl) (by decide) hS 1 (by decide) hargs h

/-! depository/depositoryref06.Pack (1 parameters) -/
def c_ref06_Pack_0 : PC := .region [
  ⟨some 2, none, .mv (.const (.string (ByteArray.mk (Array.mk []))))⟩]
def c_ref06_Pack_1 : PC := .region [
  ⟨some 5, none, .mv (.tmp 0)⟩,
  ⟨some 6, none, .call 81 [.tmp 5]⟩]
def c_ref06_Pack_2 : PC := .region [
  ⟨some 2, none, .mv (.const (.string (ByteArray.mk (Array.mk []))))⟩]
def c_ref06_Pack_3 : PC := .seq c_ref06_Pack_2 .ret
def c_ref06_Pack_4 : PC := .cond (.tmp 6) c_ref06_Pack_3 .skip
def c_ref06_Pack_5 : PC := .seq c_ref06_Pack_1 c_ref06_Pack_4
def c_ref06_Pack_6 : PC := .region [
  ⟨some 7, none, .mv (.tmp 0)⟩,
  ⟨some 8, none, .call 20 [.tmp 7]⟩,
  ⟨some 9, none, .call 59 [.tmp 8]⟩,
  ⟨some 3, none, .mv (.tmp 9)⟩]
def c_ref06_Pack_7 : PC := .region [
  ⟨some 10, none, .mv (.tmp 3)⟩,
  ⟨some 11, none, .bin .add (.const (.string (ByteArray.mk (Array.mk [32, 32])))) (.tmp 10)⟩,
  ⟨some 12, none, .call 82 [.tmp 11]⟩,
  ⟨some 4, none, .mv (.tmp 12)⟩]
def c_ref06_Pack_8 : PC := .region [
  ⟨some 13, none, .mv (.tmp 3)⟩,
  ⟨some 14, none, .lenS (.tmp 13)⟩,
  ⟨some 15, none, .bin .leq (.tmp 14) (.const (.int .i64 4096))⟩,
  ⟨some 16, none, .mv (.tmp 15)⟩,
  ⟨some 17, some (⟨16, true⟩), .mv (.tmp 4)⟩,
  ⟨some 18, some (⟨16, true⟩), .lenS (.tmp 17)⟩,
  ⟨some 19, some (⟨16, true⟩), .bin .lss (.tmp 18) (.const (.int .i64 4096))⟩,
  ⟨some 20, none, .pick (.tmp 16) (.tmp 19) (.const (.bool false))⟩]
def c_ref06_Pack_9 : PC := .region [
  ⟨some 21, none, .mv (.tmp 3)⟩,
  ⟨some 22, none, .lenS (.tmp 21)⟩,
  ⟨some 23, none, .call 60 [.tmp 22, .const (.bool true)]⟩,
  ⟨some 24, none, .mv (.tmp 3)⟩,
  ⟨some 25, none, .bin .add (.tmp 23) (.tmp 24)⟩,
  ⟨some 26, none, .call 82 [.tmp 25]⟩,
  ⟨some 2, none, .mv (.tmp 26)⟩]
def c_ref06_Pack_10 : PC := .seq c_ref06_Pack_9 .ret
def c_ref06_Pack_11 : PC := .cond (.tmp 20) c_ref06_Pack_10 .skip
def c_ref06_Pack_12 : PC := .seq c_ref06_Pack_8 c_ref06_Pack_11
def c_ref06_Pack_13 : PC := .seq c_ref06_Pack_7 c_ref06_Pack_12
def c_ref06_Pack_14 : PC := .region [
  ⟨some 27, none, .mv (.tmp 0)⟩,
  ⟨some 2, none, .mv (.tmp 27)⟩]
def c_ref06_Pack_15 : PC := .seq c_ref06_Pack_14 .ret
def c_ref06_Pack_16 : PC := .seq c_ref06_Pack_13 c_ref06_Pack_15
def c_ref06_Pack_17 : PC := .seq c_ref06_Pack_6 c_ref06_Pack_16
def c_ref06_Pack_18 : PC := .seq c_ref06_Pack_5 c_ref06_Pack_17
def c_ref06_Pack_19 : PC := .seq c_ref06_Pack_0 c_ref06_Pack_18
def c_ref06_Pack : PC := c_ref06_Pack_19
def s_ref06_Pack : List Nat := [0, 2, 3, 4]
def r_ref06_Pack : List (Nat × Option (Bool × Nat)) := [⟨2, none⟩]
theorem sound_ref06_Pack {Γ : Ctx} {S : Spec} (hΓ : Sound Go.Proofs.Try.prog Γ) (hS : FnOk S) (hargs : ∀ args K, S.run args K → args.length = 1) (h : Meets Γ s_ref06_Pack c_ref06_Pack r_ref06_Pack S) : SoundAt Go.Proofs.Try.prog n_ref06_Pack S := by
  have hb : ∃ c, Go.Proofs.Try.f45.body = some c ∧ compC Go.Proofs.Try.prog Go.Proofs.Try.f45.ntmps c = some (strip c_ref06_Pack) := ⟨_, rfl, by kernel_rfl⟩
  obtain ⟨c, hb, hc⟩ := hb
  exact meets_sound hΓ mixed (fn := Go.Proofs.Try.f45) (by kernel_rfl) (by kernel_rfl) hb hc (l := [.tmp 2]) (by kernel_rfl) (by kernel_rfl) (by decide) hS 1 (by decide) hargs h

/-! depository/compress.UnpackUnit (1 parameters) -/
def c_compress_UnpackUnit_0 : PC := .region [
  ⟨some 2, none, .mv (.const (.string (ByteArray.mk (Array.mk []))))⟩,
  ⟨some 3, none, .mv (.const (.int .i64 0))⟩]
def c_compress_UnpackUnit_1 : PC := .region [
  ⟨some 10, none, .mv (.tmp 0)⟩,
  ⟨some 11, none, .lenS (.tmp 10)⟩,
  ⟨some 12, none, .bin .gtr (.tmp 11) (.const (.int .i64 4096))⟩,
  ⟨some 13, none, .mv (.tmp 12)⟩,
  ⟨some 14, some (⟨13, false⟩), .mv (.tmp 0)⟩,
  ⟨some 15, some (⟨13, false⟩), .lenS (.tmp 14)⟩,
  ⟨some 16, some (⟨13, false⟩), .bin .rem (.tmp 15) (.const (.int .i64 256))⟩,
  ⟨some 17, some (⟨13, false⟩), .bin .neq (.tmp 16) (.const (.int .i64 0))⟩,
  ⟨some 18, none, .pick (.tmp 13) (.const (.bool true)) (.tmp 17)⟩]
def c_compress_UnpackUnit_2 : PC := .region [
  ⟨some 2, none, .mv (.const (.string (ByteArray.mk (Array.mk []))))⟩,
  ⟨some 3, none, .mv (.const (.int .i64 10))⟩]
def c_compress_UnpackUnit_3 : PC := .seq c_compress_UnpackUnit_2 .ret
def c_compress_UnpackUnit_4 : PC := .cond (.tmp 18) c_compress_UnpackUnit_3 .skip
def c_compress_UnpackUnit_5 : PC := .seq c_compress_UnpackUnit_1 c_compress_UnpackUnit_4
def c_compress_UnpackUnit_6 : PC := .region [
  ⟨some 19, none, .mv (.tmp 0)⟩,
  ⟨some 20, none, .lenS (.tmp 19)⟩]
def c_compress_UnpackUnit_7 : PC := .region [
  ⟨some 22, none, .bin .eql (.tmp 20) (.const (.int .i64 0))⟩,
  ⟨some 21, none, .mv (.tmp 22)⟩]
def c_compress_UnpackUnit_8 : PC := .region [
  ⟨some 23, none, .call 79 [.const (.int .i64 4096)]⟩,
  ⟨some 2, none, .mv (.tmp 23)⟩,
  ⟨some 3, none, .mv (.const (.int .i64 0))⟩]
def c_compress_UnpackUnit_9 : PC := .seq c_compress_UnpackUnit_8 .ret
def c_compress_UnpackUnit_10 : PC := .region [
  ⟨some 25, none, .bin .eql (.tmp 20) (.const (.int .i64 4096))⟩,
  ⟨some 24, none, .mv (.tmp 25)⟩]
def c_compress_UnpackUnit_11 : PC := .region [
  ⟨some 26, none, .mv (.tmp 0)⟩,
  ⟨some 2, none, .mv (.tmp 26)⟩,
  ⟨some 3, none, .mv (.const (.int .i64 0))⟩]
def c_compress_UnpackUnit_12 : PC := .seq c_compress_UnpackUnit_11 .ret
def c_compress_UnpackUnit_13 : PC := .cond (.tmp 24) c_compress_UnpackUnit_12 .skip
def c_compress_UnpackUnit_14 : PC := .seq c_compress_UnpackUnit_10 c_compress_UnpackUnit_13
def c_compress_UnpackUnit_15 : PC := .cond (.tmp 21) c_compress_UnpackUnit_9 c_compress_UnpackUnit_14
def c_compress_UnpackUnit_16 : PC := .seq c_compress_UnpackUnit_7 c_compress_UnpackUnit_15
def c_compress_UnpackUnit_17 : PC := .block 0 c_compress_UnpackUnit_16
def c_compress_UnpackUnit_18 : PC := .seq c_compress_UnpackUnit_6 c_compress_UnpackUnit_17
def c_compress_UnpackUnit_19 : PC := .region [
  ⟨some 28, none, .mv (.tmp 0)⟩,
  ⟨some 29, none, .call 73 [.tmp 28, .const (.bool false)]⟩,
  ⟨some 27, none, .mv (.tmp 29)⟩,
  ⟨some 30, none, .ext (.tmp 27) 0⟩,
  ⟨some 31, none, .ext (.tmp 27) 1⟩,
  ⟨some 32, none, .ext (.tmp 27) 2⟩,
  ⟨some 4, none, .mv (.tmp 30)⟩,
  ⟨some 5, none, .mv (.tmp 31)⟩,
  ⟨some 6, none, .mv (.tmp 32)⟩]
def c_compress_UnpackUnit_20 : PC := .region [
  ⟨some 33, none, .mv (.tmp 6)⟩,
  ⟨some 34, none, .bin .eql (.tmp 33) (.const (.int .i64 0))⟩,
  ⟨some 35, none, .mv (.tmp 34)⟩,
  ⟨some 36, some (⟨35, false⟩), .mv (.tmp 6)⟩,
  ⟨some 37, some (⟨35, false⟩), .bin .eql (.tmp 36) (.const (.int .i64 10))⟩,
  ⟨some 38, none, .pick (.tmp 35) (.const (.bool true)) (.tmp 37)⟩]
def c_compress_UnpackUnit_21 : PC := .region [
  ⟨some 39, none, .mv (.tmp 5)⟩,
  ⟨some 40, none, .call 66 [.tmp 39, .const (.int .i64 15)]⟩,
  ⟨some 41, none, .mv (.tmp 6)⟩,
  ⟨some 42, none, .bslice 25 1 [.tmp 40, .tmp 41]⟩,
  ⟨some 43, none, .call 65 [.tmp 42]⟩,
  ⟨some 6, none, .mv (.tmp 43)⟩]
def c_compress_UnpackUnit_22 : PC := .cond (.tmp 38) c_compress_UnpackUnit_21 .skip
def c_compress_UnpackUnit_23 : PC := .seq c_compress_UnpackUnit_20 c_compress_UnpackUnit_22
def c_compress_UnpackUnit_24 : PC := .region [
  ⟨some 44, none, .mv (.tmp 6)⟩,
  ⟨some 45, none, .bin .neq (.tmp 44) (.const (.int .i64 0))⟩]
def c_compress_UnpackUnit_25 : PC := .region [
  ⟨some 46, none, .mv (.tmp 6)⟩,
  ⟨some 2, none, .mv (.const (.string (ByteArray.mk (Array.mk []))))⟩,
  ⟨some 3, none, .mv (.tmp 46)⟩]
def c_compress_UnpackUnit_26 : PC := .seq c_compress_UnpackUnit_25 .ret
def c_compress_UnpackUnit_27 : PC := .cond (.tmp 45) c_compress_UnpackUnit_26 .skip
def c_compress_UnpackUnit_28 : PC := .seq c_compress_UnpackUnit_24 c_compress_UnpackUnit_27
def c_compress_UnpackUnit_29 : PC := .region [
  ⟨some 48, none, .mv (.tmp 4)⟩,
  ⟨some 49, none, .call 74 [.tmp 48]⟩,
  ⟨some 47, none, .mv (.tmp 49)⟩,
  ⟨some 50, none, .ext (.tmp 47) 0⟩,
  ⟨some 51, none, .ext (.tmp 47) 1⟩,
  ⟨some 7, none, .mv (.tmp 50)⟩,
  ⟨some 6, none, .mv (.tmp 51)⟩]
def c_compress_UnpackUnit_30 : PC := .region [
  ⟨some 52, none, .mv (.tmp 6)⟩,
  ⟨some 53, none, .bin .neq (.tmp 52) (.const (.int .i64 0))⟩]
def c_compress_UnpackUnit_31 : PC := .region [
  ⟨some 54, none, .mv (.tmp 6)⟩,
  ⟨some 2, none, .mv (.const (.string (ByteArray.mk (Array.mk []))))⟩,
  ⟨some 3, none, .mv (.tmp 54)⟩]
def c_compress_UnpackUnit_32 : PC := .seq c_compress_UnpackUnit_31 .ret
def c_compress_UnpackUnit_33 : PC := .cond (.tmp 53) c_compress_UnpackUnit_32 .skip
def c_compress_UnpackUnit_34 : PC := .seq c_compress_UnpackUnit_30 c_compress_UnpackUnit_33
def c_compress_UnpackUnit_35 : PC := .region [
  ⟨some 55, none, .mv (.tmp 7)⟩,
  ⟨some 56, none, .call 71 [.tmp 55]⟩,
  ⟨some 8, none, .mv (.tmp 56)⟩]
def c_compress_UnpackUnit_36 : PC := .region [
  ⟨some 57, none, .mv (.tmp 4)⟩,
  ⟨some 58, none, .lenS (.tmp 57)⟩,
  ⟨some 59, none, .bin .add (.const (.int .i64 2)) (.tmp 58)⟩,
  ⟨some 9, none, .mv (.tmp 59)⟩]
def c_compress_UnpackUnit_37 : PC := .draw [
  ⟨some 60, none, .mv (.tmp 8)⟩,
  ⟨some 61, none, .lenS (.tmp 60)⟩,
  ⟨some 62, none, .bin .eql (.tmp 61) (.const (.int .i64 4096))⟩,
  ⟨some 63, none, .call 66 [.tmp 62, .const (.int .i64 10)]⟩,
  ⟨some 64, none, .mv (.tmp 0)⟩,
  ⟨some 65, none, .mv (.tmp 9)⟩,
  ⟨some 66, none, .slcS (.tmp 64) (some (.tmp 65)) none⟩,
  ⟨some 67, none, .mv (.tmp 0)⟩,
  ⟨some 68, none, .lenS (.tmp 67)⟩,
  ⟨some 69, none, .mv (.tmp 9)⟩,
  ⟨some 70, none, .bin .sub (.tmp 68) (.tmp 69)⟩,
  ⟨some 71, none, .call 79 [.tmp 70]⟩,
  ⟨some 72, none, .bin .eql (.tmp 66) (.tmp 71)⟩,
  ⟨some 73, none, .mv (.tmp 72)⟩,
  ⟨some 74, some (⟨73, true⟩), .mv (.tmp 9)⟩,
  ⟨some 75, some (⟨73, true⟩), .call 80 [.tmp 74]⟩,
  ⟨some 76, some (⟨73, true⟩), .mv (.tmp 0)⟩,
  ⟨some 77, some (⟨73, true⟩), .lenS (.tmp 76)⟩,
  ⟨some 78, some (⟨73, true⟩), .bin .quo (.tmp 77) (.const (.int .i64 256))⟩,
  ⟨some 79, some (⟨73, true⟩), .bin .eql (.tmp 75) (.tmp 78)⟩,
  ⟨some 80, none, .pick (.tmp 73) (.tmp 79) (.const (.bool false))⟩,
  ⟨some 81, none, .call 66 [.tmp 80, .const (.int .i64 3)]⟩,
  ⟨some 82, none, .bslice 25 1 [.tmp 63, .tmp 81]⟩,
  ⟨some 83, none, .call 65 [.tmp 82]⟩,
  ⟨some 6, none, .mv (.tmp 83)⟩]
  [[], [0], [1], [2], [], [], [4, 5], [], [7], [], [8, 9], [10, 3], [6, 11], [12, 11], [13], [14, 13, 13], [13], [16, 13], [17, 13], [15, 18, 13], [13, 19], [20, 15], [3, 21], [22, 21], [23, 23, 0, 1, 2, 3, 4, 5, 6, 7, 8, 9, 10, 11, 12, 13, 14, 15, 16, 17, 18, 19, 20, 21, 22, 23]]
def c_compress_UnpackUnit_38 : PC := .region [
  ⟨some 84, none, .mv (.tmp 6)⟩,
  ⟨some 85, none, .bin .neq (.tmp 84) (.const (.int .i64 0))⟩]
def c_compress_UnpackUnit_39 : PC := .region [
  ⟨some 86, none, .mv (.tmp 6)⟩,
  ⟨some 2, none, .mv (.const (.string (ByteArray.mk (Array.mk []))))⟩,
  ⟨some 3, none, .mv (.tmp 86)⟩]
def c_compress_UnpackUnit_40 : PC := .seq c_compress_UnpackUnit_39 .ret
def c_compress_UnpackUnit_41 : PC := .cond (.tmp 85) c_compress_UnpackUnit_40 .skip
def c_compress_UnpackUnit_42 : PC := .seq c_compress_UnpackUnit_38 c_compress_UnpackUnit_41
def c_compress_UnpackUnit_43 : PC := .region [
  ⟨some 87, none, .mv (.tmp 8)⟩,
  ⟨some 2, none, .mv (.tmp 87)⟩,
  ⟨some 3, none, .mv (.const (.int .i64 0))⟩]
def c_compress_UnpackUnit_44 : PC := .seq c_compress_UnpackUnit_43 .ret
def c_compress_UnpackUnit_45 : PC := .seq c_compress_UnpackUnit_42 c_compress_UnpackUnit_44
def c_compress_UnpackUnit_46 : PC := .seq c_compress_UnpackUnit_37 c_compress_UnpackUnit_45
def c_compress_UnpackUnit_47 : PC := .seq c_compress_UnpackUnit_36 c_compress_UnpackUnit_46
def c_compress_UnpackUnit_48 : PC := .seq c_compress_UnpackUnit_35 c_compress_UnpackUnit_47
def c_compress_UnpackUnit_49 : PC := .seq c_compress_UnpackUnit_34 c_compress_UnpackUnit_48
def c_compress_UnpackUnit_50 : PC := .seq c_compress_UnpackUnit_29 c_compress_UnpackUnit_49
def c_compress_UnpackUnit_51 : PC := .seq c_compress_UnpackUnit_28 c_compress_UnpackUnit_50
def c_compress_UnpackUnit_52 : PC := .seq c_compress_UnpackUnit_23 c_compress_UnpackUnit_51
def c_compress_UnpackUnit_53 : PC := .seq c_compress_UnpackUnit_19 c_compress_UnpackUnit_52
def c_compress_UnpackUnit_54 : PC := .seq c_compress_UnpackUnit_18 c_compress_UnpackUnit_53
def c_compress_UnpackUnit_55 : PC := .seq c_compress_UnpackUnit_5 c_compress_UnpackUnit_54
def c_compress_UnpackUnit_56 : PC := .seq c_compress_UnpackUnit_0 c_compress_UnpackUnit_55
def c_compress_UnpackUnit : PC := c_compress_UnpackUnit_56
def s_compress_UnpackUnit : List Nat := [0, 2, 3, 4, 5, 6, 7, 8, 9, 20]
def r_compress_UnpackUnit : List (Nat × Option (Bool × Nat)) := [⟨2, none⟩, ⟨3, none⟩]
theorem sound_compress_UnpackUnit {Γ : Ctx} {S : Spec} (hΓ : Sound Go.Proofs.Try.prog Γ) (hS : FnOk S) (hargs : ∀ args K, S.run args K → args.length = 1) (h : Meets Γ s_compress_UnpackUnit c_compress_UnpackUnit r_compress_UnpackUnit S) : SoundAt Go.Proofs.Try.prog n_compress_UnpackUnit S := by
  have hb : ∃ c, Go.Proofs.Try.f46.body = some c ∧ compC Go.Proofs.Try.prog Go.Proofs.Try.f46.ntmps c = some (strip c_compress_UnpackUnit) := ⟨_, rfl, by kernel_rfl⟩
  obtain ⟨c, hb, hc⟩ := hb
  exact meets_sound hΓ mixed (fn := Go.Proofs.Try.f46) (by kernel_rfl) (by kernel_rfl) hb hc (l := [.tmp 2, .tmp 3]) (by kernel_rfl) (by kernel_rfl) (by decide) hS 1 (by decide) hargs h

/-! depository/depositoryref06.Unpack (1 parameters) -/
end Go.Dv.Try
end
