/-
  A part of the proof: own texts, laid together by a tool of our own: 2.
-/
import Derived.Test.YthibkikicnaciaaCd1
section
namespace Go.Dv.Try
open Go Go.Dv
def c_ref06_Unpack_0 : PC := .region [
  ⟨some 2, none, .mv (.const (.string (ByteArray.mk (Array.mk []))))⟩,
  ⟨some 3, none, .mv (.const (.int .i64 0))⟩]
def c_ref06_Unpack_1 : PC := .region [
  ⟨some 10, none, .mv (.tmp 0)⟩,
  ⟨some 11, none, .lenS (.tmp 10)⟩,
  ⟨some 12, none, .bin .gtr (.tmp 11) (.const (.int .i64 4096))⟩,
  ⟨some 13, none, .mv (.tmp 12)⟩,
  ⟨some 14, some (⟨13, false⟩), .mv (.tmp 0)⟩,
  ⟨some 15, some (⟨13, false⟩), .lenS (.tmp 14)⟩,
  ⟨some 16, some (⟨13, false⟩), .bin .rem (.tmp 15) (.const (.int .i64 256))⟩,
  ⟨some 17, some (⟨13, false⟩), .bin .neq (.tmp 16) (.const (.int .i64 0))⟩,
  ⟨some 18, none, .pick (.tmp 13) (.const (.bool true)) (.tmp 17)⟩]
def c_ref06_Unpack_2 : PC := .region [
  ⟨some 2, none, .mv (.const (.string (ByteArray.mk (Array.mk []))))⟩,
  ⟨some 3, none, .mv (.const (.int .i64 10))⟩]
def c_ref06_Unpack_3 : PC := .seq c_ref06_Unpack_2 .ret
def c_ref06_Unpack_4 : PC := .cond (.tmp 18) c_ref06_Unpack_3 .skip
def c_ref06_Unpack_5 : PC := .seq c_ref06_Unpack_1 c_ref06_Unpack_4
def c_ref06_Unpack_6 : PC := .region [
  ⟨some 19, none, .mv (.tmp 0)⟩,
  ⟨some 20, none, .lenS (.tmp 19)⟩,
  ⟨some 21, none, .bin .eql (.tmp 20) (.const (.int .i64 0))⟩]
def c_ref06_Unpack_7 : PC := .region [
  ⟨some 22, none, .call 78 [.const (.int .i64 4096)]⟩,
  ⟨some 2, none, .mv (.tmp 22)⟩,
  ⟨some 3, none, .mv (.const (.int .i64 0))⟩]
def c_ref06_Unpack_8 : PC := .seq c_ref06_Unpack_7 .ret
def c_ref06_Unpack_9 : PC := .cond (.tmp 21) c_ref06_Unpack_8 .skip
def c_ref06_Unpack_10 : PC := .seq c_ref06_Unpack_6 c_ref06_Unpack_9
def c_ref06_Unpack_11 : PC := .region [
  ⟨some 23, none, .mv (.tmp 0)⟩,
  ⟨some 24, none, .lenS (.tmp 23)⟩,
  ⟨some 25, none, .bin .eql (.tmp 24) (.const (.int .i64 4096))⟩]
def c_ref06_Unpack_12 : PC := .region [
  ⟨some 26, none, .mv (.tmp 0)⟩,
  ⟨some 2, none, .mv (.tmp 26)⟩,
  ⟨some 3, none, .mv (.const (.int .i64 0))⟩]
def c_ref06_Unpack_13 : PC := .seq c_ref06_Unpack_12 .ret
def c_ref06_Unpack_14 : PC := .cond (.tmp 25) c_ref06_Unpack_13 .skip
def c_ref06_Unpack_15 : PC := .seq c_ref06_Unpack_11 c_ref06_Unpack_14
def c_ref06_Unpack_16 : PC := .region [
  ⟨some 28, none, .mv (.tmp 0)⟩,
  ⟨some 29, none, .call 75 [.tmp 28]⟩,
  ⟨some 27, none, .mv (.tmp 29)⟩,
  ⟨some 30, none, .ext (.tmp 27) 0⟩,
  ⟨some 31, none, .ext (.tmp 27) 1⟩,
  ⟨some 32, none, .ext (.tmp 27) 2⟩,
  ⟨some 4, none, .mv (.tmp 30)⟩,
  ⟨some 5, none, .mv (.tmp 31)⟩,
  ⟨some 6, none, .mv (.tmp 32)⟩]
def c_ref06_Unpack_17 : PC := .region [
  ⟨some 33, none, .mv (.tmp 6)⟩,
  ⟨some 34, none, .bin .neq (.tmp 33) (.const (.int .i64 0))⟩]
def c_ref06_Unpack_18 : PC := .region [
  ⟨some 35, none, .mv (.tmp 6)⟩,
  ⟨some 2, none, .mv (.const (.string (ByteArray.mk (Array.mk []))))⟩,
  ⟨some 3, none, .mv (.tmp 35)⟩]
def c_ref06_Unpack_19 : PC := .seq c_ref06_Unpack_18 .ret
def c_ref06_Unpack_20 : PC := .cond (.tmp 34) c_ref06_Unpack_19 .skip
def c_ref06_Unpack_21 : PC := .seq c_ref06_Unpack_17 c_ref06_Unpack_20
def c_ref06_Unpack_22 : PC := .region [
  ⟨some 36, none, .mv (.tmp 4)⟩,
  ⟨some 37, none, .un .not (.tmp 36)⟩]
def c_ref06_Unpack_23 : PC := .region [
  ⟨some 2, none, .mv (.const (.string (ByteArray.mk (Array.mk []))))⟩,
  ⟨some 3, none, .mv (.const (.int .i64 15))⟩]
def c_ref06_Unpack_24 : PC := .seq c_ref06_Unpack_23 .ret
def c_ref06_Unpack_25 : PC := .cond (.tmp 37) c_ref06_Unpack_24 .skip
def c_ref06_Unpack_26 : PC := .seq c_ref06_Unpack_22 c_ref06_Unpack_25
def c_ref06_Unpack_27 : PC := .region [
  ⟨some 38, none, .mv (.tmp 0)⟩,
  ⟨some 39, none, .call 76 [.tmp 38, .const (.int .i64 0), .const (.int .i64 2)]⟩,
  ⟨some 40, none, .bin .rem (.tmp 39) (.const (.int .i64 4096))⟩,
  ⟨some 41, none, .bin .add (.tmp 40) (.const (.int .i64 1))⟩,
  ⟨some 7, none, .mv (.tmp 41)⟩]
def c_ref06_Unpack_28 : PC := .region [
  ⟨some 42, none, .mv (.tmp 7)⟩,
  ⟨some 43, none, .mv (.tmp 5)⟩,
  ⟨some 44, none, .lenS (.tmp 43)⟩,
  ⟨some 45, none, .bin .gtr (.tmp 42) (.tmp 44)⟩]
def c_ref06_Unpack_29 : PC := .region [
  ⟨some 2, none, .mv (.const (.string (ByteArray.mk (Array.mk []))))⟩,
  ⟨some 3, none, .mv (.const (.int .i64 10))⟩]
def c_ref06_Unpack_30 : PC := .seq c_ref06_Unpack_29 .ret
def c_ref06_Unpack_31 : PC := .cond (.tmp 45) c_ref06_Unpack_30 .skip
def c_ref06_Unpack_32 : PC := .seq c_ref06_Unpack_28 c_ref06_Unpack_31
def c_ref06_Unpack_33 : PC := .region [
  ⟨some 47, none, .mv (.tmp 5)⟩,
  ⟨some 48, none, .mv (.tmp 7)⟩,
  ⟨some 49, none, .slcS (.tmp 47) none (some (.tmp 48))⟩,
  ⟨some 50, none, .call 77 [.tmp 49]⟩,
  ⟨some 46, none, .mv (.tmp 50)⟩,
  ⟨some 51, none, .ext (.tmp 46) 0⟩,
  ⟨some 52, none, .ext (.tmp 46) 1⟩,
  ⟨some 8, none, .mv (.tmp 51)⟩,
  ⟨some 6, none, .mv (.tmp 52)⟩]
def c_ref06_Unpack_34 : PC := .region [
  ⟨some 53, none, .mv (.tmp 6)⟩,
  ⟨some 54, none, .bin .neq (.tmp 53) (.const (.int .i64 0))⟩]
def c_ref06_Unpack_35 : PC := .region [
  ⟨some 55, none, .mv (.tmp 6)⟩,
  ⟨some 2, none, .mv (.const (.string (ByteArray.mk (Array.mk []))))⟩,
  ⟨some 3, none, .mv (.tmp 55)⟩]
def c_ref06_Unpack_36 : PC := .seq c_ref06_Unpack_35 .ret
def c_ref06_Unpack_37 : PC := .cond (.tmp 54) c_ref06_Unpack_36 .skip
def c_ref06_Unpack_38 : PC := .seq c_ref06_Unpack_34 c_ref06_Unpack_37
def c_ref06_Unpack_39 : PC := .region [
  ⟨some 56, none, .mv (.tmp 8)⟩,
  ⟨some 57, none, .call 31 [.tmp 56]⟩,
  ⟨some 9, none, .mv (.tmp 57)⟩]
def c_ref06_Unpack_40 : PC := .region [
  ⟨some 58, none, .mv (.tmp 9)⟩,
  ⟨some 59, none, .lenS (.tmp 58)⟩,
  ⟨some 60, none, .bin .neq (.tmp 59) (.const (.int .i64 4096))⟩]
def c_ref06_Unpack_41 : PC := .region [
  ⟨some 2, none, .mv (.const (.string (ByteArray.mk (Array.mk []))))⟩,
  ⟨some 3, none, .mv (.const (.int .i64 10))⟩]
def c_ref06_Unpack_42 : PC := .seq c_ref06_Unpack_41 .ret
def c_ref06_Unpack_43 : PC := .cond (.tmp 60) c_ref06_Unpack_42 .skip
def c_ref06_Unpack_44 : PC := .seq c_ref06_Unpack_40 c_ref06_Unpack_43
def c_ref06_Unpack_45 : PC := .region [
  ⟨some 61, none, .mv (.tmp 5)⟩,
  ⟨some 62, none, .mv (.tmp 7)⟩,
  ⟨some 63, none, .slcS (.tmp 61) (some (.tmp 62)) none⟩,
  ⟨some 64, none, .call 81 [.tmp 63]⟩,
  ⟨some 65, none, .un .not (.tmp 64)⟩,
  ⟨some 66, none, .mv (.tmp 65)⟩,
  ⟨some 67, some (⟨66, false⟩), .mv (.tmp 5)⟩,
  ⟨some 68, some (⟨66, false⟩), .lenS (.tmp 67)⟩,
  ⟨some 69, some (⟨66, false⟩), .mv (.tmp 7)⟩,
  ⟨some 70, some (⟨66, false⟩), .bin .sub (.tmp 68) (.tmp 69)⟩,
  ⟨some 71, some (⟨66, false⟩), .bin .geq (.tmp 70) (.const (.int .i64 256))⟩,
  ⟨some 72, none, .pick (.tmp 66) (.const (.bool true)) (.tmp 71)⟩]
def c_ref06_Unpack_46 : PC := .region [
  ⟨some 2, none, .mv (.const (.string (ByteArray.mk (Array.mk []))))⟩,
  ⟨some 3, none, .mv (.const (.int .i64 3))⟩]
def c_ref06_Unpack_47 : PC := .seq c_ref06_Unpack_46 .ret
def c_ref06_Unpack_48 : PC := .cond (.tmp 72) c_ref06_Unpack_47 .skip
def c_ref06_Unpack_49 : PC := .seq c_ref06_Unpack_45 c_ref06_Unpack_48
def c_ref06_Unpack_50 : PC := .region [
  ⟨some 73, none, .mv (.tmp 9)⟩,
  ⟨some 2, none, .mv (.tmp 73)⟩,
  ⟨some 3, none, .mv (.const (.int .i64 0))⟩]
def c_ref06_Unpack_51 : PC := .seq c_ref06_Unpack_50 .ret
def c_ref06_Unpack_52 : PC := .seq c_ref06_Unpack_49 c_ref06_Unpack_51
def c_ref06_Unpack_53 : PC := .seq c_ref06_Unpack_44 c_ref06_Unpack_52
def c_ref06_Unpack_54 : PC := .seq c_ref06_Unpack_39 c_ref06_Unpack_53
def c_ref06_Unpack_55 : PC := .seq c_ref06_Unpack_38 c_ref06_Unpack_54
def c_ref06_Unpack_56 : PC := .seq c_ref06_Unpack_33 c_ref06_Unpack_55
def c_ref06_Unpack_57 : PC := .seq c_ref06_Unpack_32 c_ref06_Unpack_56
def c_ref06_Unpack_58 : PC := .seq c_ref06_Unpack_27 c_ref06_Unpack_57
def c_ref06_Unpack_59 : PC := .seq c_ref06_Unpack_26 c_ref06_Unpack_58
def c_ref06_Unpack_60 : PC := .seq c_ref06_Unpack_21 c_ref06_Unpack_59
def c_ref06_Unpack_61 : PC := .seq c_ref06_Unpack_16 c_ref06_Unpack_60
def c_ref06_Unpack_62 : PC := .seq c_ref06_Unpack_15 c_ref06_Unpack_61
def c_ref06_Unpack_63 : PC := .seq c_ref06_Unpack_10 c_ref06_Unpack_62
def c_ref06_Unpack_64 : PC := .seq c_ref06_Unpack_5 c_ref06_Unpack_63
def c_ref06_Unpack_65 : PC := .seq c_ref06_Unpack_0 c_ref06_Unpack_64
def c_ref06_Unpack : PC := c_ref06_Unpack_65
def s_ref06_Unpack : List Nat := [0, 2, 3, 4, 5, 6, 7, 8, 9]
def r_ref06_Unpack : List (Nat × Option (Bool × Nat)) := [⟨2, none⟩, ⟨3, none⟩]
theorem sound_ref06_Unpack {Γ : Ctx} {S : Spec} (hΓ : Sound Go.Proofs.Try.prog Γ) (hS : FnOk S) (hargs : ∀ args K, S.run args K → args.length = 1) (h : Meets Γ s_ref06_Unpack c_ref06_Unpack r_ref06_Unpack S) : SoundAt Go.Proofs.Try.prog n_ref06_Unpack S := by
  have hb : ∃ c, Go.Proofs.Try.f47.body = some c ∧ compC Go.Proofs.Try.prog Go.Proofs.Try.f47.ntmps c = some (strip c_ref06_Unpack) := ⟨_, rfl, by kernel_rfl⟩
  obtain ⟨c, hb, hc⟩ := hb
  exact meets_sound hΓ mixed (fn := Go.Proofs.Try.f47) (by kernel_rfl) (by kernel_rfl) hb hc (l := [.tmp 2, .tmp 3]) (by kernel_rfl) (by kernel_rfl) (by decide) hS 1 (by decide) hargs h

/-! depository/compress.dataErr (1 parameters) -/
def c_compress_dataErr_0 : PC := .region [
  ⟨some 2, none, .mv (.const (.int .i64 0))⟩]
def c_compress_dataErr_1 : PC := .region [
  ⟨some 3, none, .mv (.tmp 0)⟩,
  ⟨some 4, none, .bin .neq (.tmp 3) (.const (.string (ByteArray.mk (Array.mk []))))⟩,
  ⟨some 5, none, .call 66 [.tmp 4, .const (.int .i64 17)]⟩,
  ⟨some 6, none, .mv (.tmp 0)⟩,
  ⟨some 7, none, .lenS (.tmp 6)⟩,
  ⟨some 8, none, .bin .leq (.tmp 7) (.const (.int .i64 4096))⟩,
  ⟨some 9, none, .call 66 [.tmp 8, .const (.int .i64 8)]⟩,
  ⟨some 10, none, .bslice 25 1 [.tmp 5, .tmp 9]⟩,
  ⟨some 11, none, .call 65 [.tmp 10]⟩,
  ⟨some 2, none, .mv (.tmp 11)⟩]
def c_compress_dataErr_2 : PC := .seq c_compress_dataErr_1 .ret
def c_compress_dataErr_3 : PC := .seq c_compress_dataErr_0 c_compress_dataErr_2
def c_compress_dataErr : PC := c_compress_dataErr_3
def s_compress_dataErr : List Nat := [0, 2]
def r_compress_dataErr : List (Nat × Option (Bool × Nat)) := [⟨2, none⟩]
theorem sound_compress_dataErr {Γ : Ctx} {S : Spec} (hΓ : Sound Go.Proofs.Try.prog Γ) (hS : FnOk S) (hargs : ∀ args K, S.run args K → args.length = 1) (h : Meets Γ s_compress_dataErr c_compress_dataErr r_compress_dataErr S) : SoundAt Go.Proofs.Try.prog n_compress_dataErr S := by
  have hb : ∃ c, Go.Proofs.Try.f48.body = some c ∧ compC Go.Proofs.Try.prog Go.Proofs.Try.f48.ntmps c = some (strip c_compress_dataErr) := ⟨_, rfl, by kernel_rfl⟩
  obtain ⟨c, hb, hc⟩ := hb
  exact meets_sound hΓ mixed (fn := Go.Proofs.Try.f48) (by kernel_rfl) (by kernel_rfl) hb hc (l := [.tmp 2]) (by kernel_rfl) (by kernel_rfl) (by decide) hS 1 (by decide) hargs h

/-! (depository/compress.data).literal (2 parameters) -/
def c_compress_data_literal_0 : PC := .region [
  ⟨some 4, none, .alloc 68 (.agg [.int .i64 0, .int .i64 0, .int .i64 0])⟩]
def c_compress_data_literal_1 : PC := .region [
  ⟨some 5, none, .mv (.tmp 0)⟩,
  ⟨some 6, none, .mv (.tmp 1)⟩,
  ⟨some 7, none, .idx (.tmp 5) (.tmp 6)⟩,
  ⟨some 8, none, .conv (.toInt .i64) (.tmp 7)⟩,
  ⟨some 9, none, .build [.int .i64 0, .int .i64 0, .int .i64 0] [⟨2, ⟨1, .tmp 8⟩⟩]⟩,
  ⟨none, none, .store 3 (.tmp 4) (.tmp 9)⟩]
def c_compress_data_literal_2 : PC := .seq c_compress_data_literal_1 .ret
def c_compress_data_literal_3 : PC := .seq c_compress_data_literal_0 c_compress_data_literal_2
def c_compress_data_literal : PC := c_compress_data_literal_3
def s_compress_data_literal : List Nat := [0, 1, 4]
def r_compress_data_literal : List (Nat × Option (Bool × Nat)) := [⟨4, some (⟨true, 3⟩)⟩]
theorem sound_compress_data_literal {Γ : Ctx} {S : Spec} (hΓ : Sound Go.Proofs.Try.prog Γ) (hS : FnOk S) (hargs : ∀ args K, S.run args K → args.length = 2) (h : Meets Γ s_compress_data_literal c_compress_data_literal r_compress_data_literal S) : SoundAt Go.Proofs.Try.prog n_compress_data_literal S := by
  have hb : ∃ c, Go.Proofs.Try.f49.body = some c ∧ compC Go.Proofs.Try.prog Go.Proofs.Try.f49.ntmps c = some (strip c_compress_data_literal) := ⟨_, rfl, by kernel_rfl⟩
  obtain ⟨c, hb, hc⟩ := hb
  exact meets_sound hΓ mixed (fn := Go.Proofs.Try.f49) (by kernel_rfl) (by kernel_rfl) hb hc (l := [.cell 4 68]) (by kernel_rfl) (by kernel_rfl) (by decide) hS 2 (by decide) hargs h

/-! (depository/compress.data).matches (2 parameters) -/
def c_compress_data_matches_0 : PC := .region [
  ⟨some 2, none, .box 70 (.tmp 0)⟩,
  ⟨some 3, none, .box 3 (.tmp 1)⟩,
  ⟨some 4, none, .mv (.const .nilFunc)⟩]
def c_compress_data_matches_1 : PC := .region [
  ⟨some 5, none, .mkf 83 [.tmp 2, .tmp 3]⟩,
  ⟨some 4, none, .mv (.tmp 5)⟩]
def c_compress_data_matches_2 : PC := .seq c_compress_data_matches_1 .ret
def c_compress_data_matches_3 : PC := .seq c_compress_data_matches_0 c_compress_data_matches_2
def c_compress_data_matches : PC := c_compress_data_matches_3
def s_compress_data_matches : List Nat := [0, 1, 2, 3, 4]
def r_compress_data_matches : List (Nat × Option (Bool × Nat)) := [⟨4, none⟩]
theorem sound_compress_data_matches {Γ : Ctx} {S : Spec} (hΓ : Sound Go.Proofs.Try.prog Γ) (hS : FnOk S) (hargs : ∀ args K, S.run args K → args.length = 2) (h : Meets Γ s_compress_data_matches c_compress_data_matches r_compress_data_matches S) : SoundAt Go.Proofs.Try.prog n_compress_data_matches S := by
  have hb : ∃ c, Go.Proofs.Try.f50.body = some c ∧ compC Go.Proofs.Try.prog Go.Proofs.Try.f50.ntmps c = some (strip c_compress_data_matches) := ⟨_, rfl, by kernel_rfl⟩
  obtain ⟨c, hb, hc⟩ := hb
  exact meets_sound hΓ mixed (fn := Go.Proofs.Try.f50) (by kernel_rfl) (by kernel_rfl) hb hc (l := [.tmp 4]) (by kernel_rfl) (by kernel_rfl) (by decide) hS 2 (by decide) hargs h

/-! depository/compress.made (1 parameters) -/
def c_compress_made_0 : PC := .region [
  ⟨some 1, none, .box 68 (.tmp 0)⟩,
  ⟨some 2, none, .mv (.const (.int .i64 0))⟩]
def c_compress_made_1 : PC := .region [
  ⟨some 3, none, .load true 3 (.tmp 1)⟩,
  ⟨some 4, none, .call 86 [.tmp 3]⟩]
def c_compress_made_2 : PC := .region [
  ⟨some 5, none, .fldA 1 (.tmp 1)⟩,
  ⟨some 6, none, .load false 1 (.tmp 5)⟩,
  ⟨some 2, none, .mv (.tmp 6)⟩]
def c_compress_made_3 : PC := .seq c_compress_made_2 .ret
def c_compress_made_4 : PC := .cond (.tmp 4) c_compress_made_3 .skip
def c_compress_made_5 : PC := .seq c_compress_made_1 c_compress_made_4
def c_compress_made_6 : PC := .region [
  ⟨some 2, none, .mv (.const (.int .i64 1))⟩]
def c_compress_made_7 : PC := .seq c_compress_made_6 .ret
def c_compress_made_8 : PC := .seq c_compress_made_5 c_compress_made_7
def c_compress_made_9 : PC := .seq c_compress_made_0 c_compress_made_8
def c_compress_made : PC := c_compress_made_9
def s_compress_made : List Nat := [0, 1, 2]
def r_compress_made : List (Nat × Option (Bool × Nat)) := [⟨2, none⟩]
theorem sound_compress_made {Γ : Ctx} {S : Spec} (hΓ : Sound Go.Proofs.Try.prog Γ) (hS : FnOk S) (hargs : ∀ args K, S.run args K → args.length = 1) (h : Meets Γ s_compress_made c_compress_made r_compress_made S) : SoundAt Go.Proofs.Try.prog n_compress_made S := by
  have hb : ∃ c, Go.Proofs.Try.f51.body = some c ∧ compC Go.Proofs.Try.prog Go.Proofs.Try.f51.ntmps c = some (strip c_compress_made) := ⟨_, rfl, by kernel_rfl⟩
  obtain ⟨c, hb, hc⟩ := hb
  exact meets_sound hΓ mixed (fn := Go.Proofs.Try.f51) (by kernel_rfl) (by kernel_rfl) hb hc (l := [.tmp 2]) (by kernel_rfl) (by kernel_rfl) (by decide) hS 1 (by decide) hargs h

/-! depository/depositoryref06.literal (2 parameters) -/
def c_ref06_literal_0 : PC := .region [
  ⟨some 4, none, .alloc 68 (.agg [.int .i64 0, .int .i64 0, .int .i64 0])⟩]
def c_ref06_literal_1 : PC := .region [
  ⟨some 5, none, .mv (.tmp 0)⟩,
  ⟨some 6, none, .mv (.tmp 1)⟩,
  ⟨some 7, none, .idx (.tmp 5) (.tmp 6)⟩,
  ⟨some 8, none, .conv (.toInt .i64) (.tmp 7)⟩,
  ⟨some 9, none, .build [.int .i64 0, .int .i64 0, .int .i64 0] [⟨2, ⟨1, .tmp 8⟩⟩]⟩,
  ⟨none, none, .store 3 (.tmp 4) (.tmp 9)⟩]
def c_ref06_literal_2 : PC := .seq c_ref06_literal_1 .ret
def c_ref06_literal_3 : PC := .seq c_ref06_literal_0 c_ref06_literal_2
def c_ref06_literal : PC := c_ref06_literal_3
def s_ref06_literal : List Nat := [0, 1, 4]
def r_ref06_literal : List (Nat × Option (Bool × Nat)) := [⟨4, some (⟨true, 3⟩)⟩]
theorem sound_ref06_literal {Γ : Ctx} {S : Spec} (hΓ : Sound Go.Proofs.Try.prog Γ) (hS : FnOk S) (hargs : ∀ args K, S.run args K → args.length = 2) (h : Meets Γ s_ref06_literal c_ref06_literal r_ref06_literal S) : SoundAt Go.Proofs.Try.prog n_ref06_literal S := by
  have hb : ∃ c, Go.Proofs.Try.f52.body = some c ∧ compC Go.Proofs.Try.prog Go.Proofs.Try.f52.ntmps c = some (strip c_ref06_literal) := ⟨_, rfl, by kernel_rfl⟩
  obtain ⟨c, hb, hc⟩ := hb
  exact meets_sound hΓ mixed (fn := Go.Proofs.Try.f52) (by kernel_rfl) (by kernel_rfl) hb hc (l := [.cell 4 68]) (by kernel_rfl) (by kernel_rfl) (by decide) hS 2 (by decide) hargs h

/-! depository/depositoryref06.Best (2 parameters) -/
def c_ref06_Best_0 : PC := .region [
  ⟨some 4, none, .mv (.const (.int .i64 0))⟩,
  ⟨some 5, none, .mv (.const (.int .i64 0))⟩]
def c_ref06_Best_1 : PC := .region [
  ⟨some 6, none, .mv (.const (.int .i64 0))⟩,
  ⟨some 7, none, .mv (.const (.int .i64 0))⟩]
def c_ref06_Best_2 : PC := .region [
  ⟨some 8, none, .mv (.const (.int .i64 1))⟩]
def c_ref06_Best_3 : PC := .region [
  ⟨some 10, none, .mv (.tmp 8)⟩,
  ⟨some 11, none, .mv (.tmp 1)⟩,
  ⟨some 12, none, .bin .leq (.tmp 10) (.tmp 11)⟩,
  ⟨some 13, none, .mv (.tmp 12)⟩,
  ⟨some 14, some (⟨13, true⟩), .mv (.tmp 7)⟩,
  ⟨some 15, some (⟨13, true⟩), .mv (.tmp 1)⟩,
  ⟨some 16, some (⟨13, true⟩), .call 87 [.tmp 15]⟩,
  ⟨some 17, some (⟨13, true⟩), .mv (.tmp 0)⟩,
  ⟨some 18, some (⟨13, true⟩), .lenS (.tmp 17)⟩,
  ⟨some 19, some (⟨13, true⟩), .mv (.tmp 1)⟩,
  ⟨some 20, some (⟨13, true⟩), .bin .sub (.tmp 18) (.tmp 19)⟩,
  ⟨some 21, some (⟨13, true⟩), .mm false (.tmp 16) (.tmp 20)⟩,
  ⟨some 22, some (⟨13, true⟩), .bin .lss (.tmp 14) (.tmp 21)⟩,
  ⟨some 23, none, .pick (.tmp 13) (.tmp 22) (.const (.bool false))⟩]
def c_ref06_Best_4 : PC := .cond (.tmp 23) .skip (.exit 0)
def c_ref06_Best_5 : PC := .seq c_ref06_Best_3 c_ref06_Best_4
def c_ref06_Best_6 : PC := .region [
  ⟨some 26, none, .mv (.tmp 0)⟩,
  ⟨some 27, none, .mv (.tmp 1)⟩,
  ⟨some 28, none, .mv (.tmp 8)⟩,
  ⟨some 29, none, .call 58 [.tmp 26, .tmp 27, .tmp 28]⟩,
  ⟨some 9, none, .mv (.tmp 29)⟩]
def c_ref06_Best_7 : PC := .region [
  ⟨some 30, none, .mv (.tmp 9)⟩,
  ⟨some 31, none, .mv (.tmp 7)⟩,
  ⟨some 32, none, .bin .gtr (.tmp 30) (.tmp 31)⟩]
def c_ref06_Best_8 : PC := .region [
  ⟨some 33, none, .mv (.tmp 8)⟩,
  ⟨some 34, none, .mv (.tmp 9)⟩,
  ⟨some 6, none, .mv (.tmp 33)⟩,
  ⟨some 7, none, .mv (.tmp 34)⟩]
def c_ref06_Best_9 : PC := .cond (.tmp 32) c_ref06_Best_8 .skip
def c_ref06_Best_10 : PC := .seq c_ref06_Best_7 c_ref06_Best_9
def c_ref06_Best_11 : PC := .seq c_ref06_Best_6 c_ref06_Best_10
def c_ref06_Best_12 : PC := .block 1 c_ref06_Best_11
def c_ref06_Best_13 : PC := .region [
  ⟨some 24, none, .mv (.tmp 8)⟩,
  ⟨some 25, none, .bin .add (.tmp 24) (.const (.int .i64 1))⟩,
  ⟨some 8, none, .mv (.tmp 25)⟩]
def c_ref06_Best_14 : PC := .seq c_ref06_Best_12 c_ref06_Best_13
def c_ref06_Best_15 : PC := .seq c_ref06_Best_5 c_ref06_Best_14
def c_ref06_Best_16 : PC := .loop [0, 1, 6, 7, 8] c_ref06_Best_15
def c_ref06_Best_17 : PC := .block 0 c_ref06_Best_16
def c_ref06_Best_18 : PC := .seq c_ref06_Best_2 c_ref06_Best_17
def c_ref06_Best_19 : PC := .region [
  ⟨some 35, none, .mv (.tmp 6)⟩,
  ⟨some 36, none, .mv (.tmp 7)⟩,
  ⟨some 4, none, .mv (.tmp 35)⟩,
  ⟨some 5, none, .mv (.tmp 36)⟩]
def c_ref06_Best_20 : PC := .seq c_ref06_Best_19 .ret
def c_ref06_Best_21 : PC := .seq c_ref06_Best_18 c_ref06_Best_20
def c_ref06_Best_22 : PC := .seq c_ref06_Best_1 c_ref06_Best_21
def c_ref06_Best_23 : PC := .seq c_ref06_Best_0 c_ref06_Best_22
def c_ref06_Best : PC := c_ref06_Best_23
def s_ref06_Best : List Nat := [0, 1, 4, 5, 6, 7, 8, 9]
def r_ref06_Best : List (Nat × Option (Bool × Nat)) := [⟨4, none⟩, ⟨5, none⟩]
theorem sound_ref06_Best {Γ : Ctx} {S : Spec} (hΓ : Sound Go.Proofs.Try.prog Γ) (hS : FnOk S) (hargs : ∀ args K, S.run args K → args.length = 2) (h : Meets Γ s_ref06_Best c_ref06_Best r_ref06_Best S) : SoundAt Go.Proofs.Try.prog n_ref06_Best S := by
  have hb : ∃ c, Go.Proofs.Try.f53.body = some c ∧ compC Go.Proofs.Try.prog Go.Proofs.Try.f53.ntmps c = some (strip c_ref06_Best) := ⟨_, rfl, by kernel_rfl⟩
  obtain ⟨c, hb, hc⟩ := hb
  exact meets_sound hΓ mixed (fn := Go.Proofs.Try.f53) (by kernel_rfl) (by kernel_rfl) hb hc (l := [.tmp 4, .tmp 5]) (by kernel_rfl) (by kernel_rfl) (by decide) hS 2 (by decide) hargs h

/-! depository/depositoryref06.Makes (1 parameters) -/
def c_ref06_Makes_0 : PC := .region [
  ⟨some 1, none, .box 68 (.tmp 0)⟩,
  ⟨some 2, none, .mv (.const (.int .i64 0))⟩]
def c_ref06_Makes_1 : PC := .region [
  ⟨some 3, none, .load true 3 (.tmp 1)⟩,
  ⟨some 4, none, .call 69 [.tmp 3]⟩]
def c_ref06_Makes_2 : PC := .region [
  ⟨some 5, none, .fldA 1 (.tmp 1)⟩,
  ⟨some 6, none, .load false 1 (.tmp 5)⟩,
  ⟨some 2, none, .mv (.tmp 6)⟩]
def c_ref06_Makes_3 : PC := .seq c_ref06_Makes_2 .ret
def c_ref06_Makes_4 : PC := .cond (.tmp 4) c_ref06_Makes_3 .skip
def c_ref06_Makes_5 : PC := .seq c_ref06_Makes_1 c_ref06_Makes_4
def c_ref06_Makes_6 : PC := .region [
  ⟨some 2, none, .mv (.const (.int .i64 1))⟩]
def c_ref06_Makes_7 : PC := .seq c_ref06_Makes_6 .ret
def c_ref06_Makes_8 : PC := .seq c_ref06_Makes_5 c_ref06_Makes_7
def c_ref06_Makes_9 : PC := .seq c_ref06_Makes_0 c_ref06_Makes_8
def c_ref06_Makes : PC := c_ref06_Makes_9
def s_ref06_Makes : List Nat := [0, 1, 2]
def r_ref06_Makes : List (Nat × Option (Bool × Nat)) := [⟨2, none⟩]
theorem sound_ref06_Makes {Γ : Ctx} {S : Spec} (hΓ : Sound Go.Proofs.Try.prog Γ) (hS : FnOk S) (hargs : ∀ args K, S.run args K → args.length = 1) (h : Meets Γ s_ref06_Makes c_ref06_Makes r_ref06_Makes S) : SoundAt Go.Proofs.Try.prog n_ref06_Makes S := by
  have hb : ∃ c, Go.Proofs.Try.f54.body = some c ∧ compC Go.Proofs.Try.prog Go.Proofs.Try.f54.ntmps c = some (strip c_ref06_Makes) := ⟨_, rfl, by kernel_rfl⟩
  obtain ⟨c, hb, hc⟩ := hb
  exact meets_sound hΓ mixed (fn := Go.Proofs.Try.f54) (by kernel_rfl) (by kernel_rfl) hb hc (l := [.tmp 2]) (by kernel_rfl) (by kernel_rfl) (by decide) hS 1 (by decide) hargs h

/-! (depository/compress.data).optimal (1 parameters) -/
def c_compress_data_optimal_0 : PC := .region [
  ⟨some 2, none, .nilR 68 3⟩]
def c_compress_data_optimal_1 : PC := .region [
  ⟨some 8, none, .mv (.tmp 0)⟩,
  ⟨some 9, none, .call 64 [.tmp 8]⟩,
  ⟨some 3, none, .mv (.tmp 9)⟩]
def c_compress_data_optimal_2 : PC := .region [
  ⟨some 4, none, .nilR 68 3⟩]
def c_compress_data_optimal_3 : PC := .region [
  ⟨some 5, none, .mv (.const (.int .i64 0))⟩]
def c_compress_data_optimal_4 : PC := .region [
  ⟨some 10, none, .mv (.tmp 5)⟩,
  ⟨some 11, none, .mv (.tmp 0)⟩,
  ⟨some 12, none, .lenS (.tmp 11)⟩,
  ⟨some 13, none, .bin .lss (.tmp 10) (.tmp 12)⟩]
def c_compress_data_optimal_5 : PC := .cond (.tmp 13) .skip (.exit 0)
def c_compress_data_optimal_6 : PC := .seq c_compress_data_optimal_4 c_compress_data_optimal_5
def c_compress_data_optimal_7 : PC := .region [
  ⟨some 14, none, .mv (.tmp 0)⟩,
  ⟨some 15, none, .mv (.tmp 5)⟩,
  ⟨some 16, none, .call 49 [.tmp 14, .tmp 15]⟩,
  ⟨some 6, none, .alloc 68 (.agg [.int .i64 0, .int .i64 0, .int .i64 0])⟩,
  ⟨none, none, .store 3 (.tmp 6) (.tmp 16)⟩]
def c_compress_data_optimal_8 : PC := .draw [
  ⟨some 17, none, .mv (.tmp 3)⟩,
  ⟨some 18, none, .mv (.tmp 5)⟩,
  ⟨some 19, none, .bin .add (.tmp 18) (.const (.int .i64 1))⟩,
  ⟨some 20, none, .idxA 1 (.tmp 17) (.tmp 19)⟩,
  ⟨some 21, none, .load false 1 (.tmp 20)⟩,
  ⟨some 22, none, .bin .add (.const (.int .i64 9)) (.tmp 21)⟩,
  ⟨some 23, none, .mv (.tmp 3)⟩,
  ⟨some 24, none, .mv (.tmp 5)⟩,
  ⟨some 25, none, .idxA 1 (.tmp 23) (.tmp 24)⟩,
  ⟨some 26, none, .load false 1 (.tmp 25)⟩,
  ⟨some 27, none, .bin .neq (.tmp 22) (.tmp 26)⟩]
  [[], [], [1], [0, 2], [3], [4], [], [], [6, 7], [8], [5, 9]]
def c_compress_data_optimal_9 : PC := .region [
  ⟨some 7, none, .mv (.const (.int .i64 3))⟩]
def c_compress_data_optimal_10 : PC := .draw [
  ⟨some 28, none, .mv (.tmp 3)⟩,
  ⟨some 29, none, .mv (.tmp 5)⟩,
  ⟨some 30, none, .mv (.tmp 7)⟩,
  ⟨some 31, none, .bin .add (.tmp 29) (.tmp 30)⟩,
  ⟨some 32, none, .idxA 1 (.tmp 28) (.tmp 31)⟩,
  ⟨some 33, none, .load false 1 (.tmp 32)⟩,
  ⟨some 34, none, .bin .add (.const (.int .i64 17)) (.tmp 33)⟩,
  ⟨some 35, none, .mv (.tmp 3)⟩,
  ⟨some 36, none, .mv (.tmp 5)⟩,
  ⟨some 37, none, .idxA 1 (.tmp 35) (.tmp 36)⟩,
  ⟨some 38, none, .load false 1 (.tmp 37)⟩,
  ⟨some 39, none, .bin .neq (.tmp 34) (.tmp 38)⟩]
  [[], [], [], [1, 2], [0, 3], [4], [5], [], [], [7, 8], [9], [6, 10]]
def c_compress_data_optimal_11 : PC := .cond (.tmp 39) .skip (.exit 2)
def c_compress_data_optimal_12 : PC := .seq c_compress_data_optimal_10 c_compress_data_optimal_11
def c_compress_data_optimal_13 : PC := .region [
  ⟨some 40, none, .mv (.tmp 7)⟩,
  ⟨some 41, none, .bin .add (.tmp 40) (.const (.int .i64 1))⟩,
  ⟨some 7, none, .mv (.tmp 41)⟩]
def c_compress_data_optimal_14 : PC := .block 3 c_compress_data_optimal_13
def c_compress_data_optimal_15 : PC := .seq c_compress_data_optimal_12 c_compress_data_optimal_14
def c_compress_data_optimal_16 : PC := .loop [0, 3, 4, 5, 6, 7] c_compress_data_optimal_15
def c_compress_data_optimal_17 : PC := .block 2 c_compress_data_optimal_16
def c_compress_data_optimal_18 : PC := .region [
  ⟨some 42, none, .mv (.tmp 0)⟩,
  ⟨some 43, none, .mv (.tmp 5)⟩,
  ⟨some 44, none, .mv (.tmp 7)⟩,
  ⟨some 45, none, .call 88 [.tmp 42, .tmp 43, .tmp 44]⟩,
  ⟨some 46, none, .mv (.tmp 7)⟩,
  ⟨some 47, none, .build [.int .i64 0, .int .i64 0, .int .i64 0] [⟨0, ⟨1, .tmp 45⟩⟩, ⟨1, ⟨1, .tmp 46⟩⟩]⟩,
  ⟨none, none, .store 3 (.tmp 6) (.tmp 47)⟩]
def c_compress_data_optimal_19 : PC := .seq c_compress_data_optimal_17 c_compress_data_optimal_18
def c_compress_data_optimal_20 : PC := .seq c_compress_data_optimal_9 c_compress_data_optimal_19
def c_compress_data_optimal_21 : PC := .cond (.tmp 27) c_compress_data_optimal_20 .skip
def c_compress_data_optimal_22 : PC := .seq c_compress_data_optimal_8 c_compress_data_optimal_21
def c_compress_data_optimal_23 : PC := .region [
  ⟨some 48, none, .mv (.tmp 4)⟩,
  ⟨some 49, none, .load true 3 (.tmp 6)⟩,
  ⟨some 50, none, .bslice 68 3 [.tmp 49]⟩,
  ⟨some 51, none, .app 68 3 24 (.tmp 48) (.tmp 50)⟩,
  ⟨some 4, none, .mv (.tmp 51)⟩]
def c_compress_data_optimal_24 : PC := .region [
  ⟨some 52, none, .mv (.tmp 5)⟩,
  ⟨some 53, none, .load true 3 (.tmp 6)⟩,
  ⟨some 54, none, .call 51 [.tmp 53]⟩,
  ⟨some 55, none, .bin .add (.tmp 52) (.tmp 54)⟩,
  ⟨some 5, none, .mv (.tmp 55)⟩]
def c_compress_data_optimal_25 : PC := .seq c_compress_data_optimal_23 c_compress_data_optimal_24
def c_compress_data_optimal_26 : PC := .seq c_compress_data_optimal_22 c_compress_data_optimal_25
def c_compress_data_optimal_27 : PC := .seq c_compress_data_optimal_7 c_compress_data_optimal_26
def c_compress_data_optimal_28 : PC := .block 1 c_compress_data_optimal_27
def c_compress_data_optimal_29 : PC := .seq c_compress_data_optimal_6 c_compress_data_optimal_28
def c_compress_data_optimal_30 : PC := .loop [0, 3, 4, 5] c_compress_data_optimal_29
def c_compress_data_optimal_31 : PC := .block 0 c_compress_data_optimal_30
def c_compress_data_optimal_32 : PC := .seq c_compress_data_optimal_3 c_compress_data_optimal_31
def c_compress_data_optimal_33 : PC := .region [
  ⟨some 56, none, .mv (.tmp 4)⟩,
  ⟨some 2, none, .mv (.tmp 56)⟩]
def c_compress_data_optimal_34 : PC := .seq c_compress_data_optimal_33 .ret
def c_compress_data_optimal_35 : PC := .seq c_compress_data_optimal_32 c_compress_data_optimal_34
def c_compress_data_optimal_36 : PC := .seq c_compress_data_optimal_2 c_compress_data_optimal_35
def c_compress_data_optimal_37 : PC := .seq c_compress_data_optimal_1 c_compress_data_optimal_36
def c_compress_data_optimal_38 : PC := .seq c_compress_data_optimal_0 c_compress_data_optimal_37
def c_compress_data_optimal : PC := c_compress_data_optimal_38
def s_compress_data_optimal : List Nat := [0, 2, 3, 4, 5, 6, 7]
def r_compress_data_optimal : List (Nat × Option (Bool × Nat)) := [⟨2, none⟩]
theorem sound_compress_data_optimal {Γ : Ctx} {S : Spec} (hΓ : Sound Go.Proofs.Try.prog Γ) (hS : FnOk S) (hargs : ∀ args K, S.run args K → args.length = 1) (h : Meets Γ s_compress_data_optimal c_compress_data_optimal r_compress_data_optimal S) : SoundAt Go.Proofs.Try.prog n_compress_data_optimal S := by
  have hb : ∃ c, Go.Proofs.Try.f55.body = some c ∧ compC Go.Proofs.Try.prog Go.Proofs.Try.f55.ntmps c = some (strip c_compress_data_optimal) := ⟨_, rfl, by kernel_rfl⟩
  obtain ⟨c, hb, hc⟩ := hb
  exact meets_sound hΓ mixed (fn := Go.Proofs.Try.f55) (by kernel_rfl) (by kernel_rfl) hb hc (l := [.tmp 2]) (by kernel_rfl) (by kernel_rfl) (by decide) hS 1 (by decide) hargs h

/-! depository/compress.head (2 parameters) -/
def c_compress_head_0 : PC := .region [
  ⟨some 4, none, .mv (.const (.string (ByteArray.mk (Array.mk []))))⟩]
def c_compress_head_1 : PC := .region [
  ⟨some 6, none, .mv (.tmp 0)⟩,
  ⟨some 7, none, .bin .sub (.tmp 6) (.const (.int .i64 1))⟩,
  ⟨some 8, none, .bin .or (.tmp 7) (.const (.int .i64 12288))⟩,
  ⟨some 5, none, .mv (.tmp 8)⟩]
def c_compress_head_2 : PC := .region [
  ⟨some 9, none, .mv (.tmp 1)⟩]
def c_compress_head_3 : PC := .region [
  ⟨some 10, none, .mv (.tmp 5)⟩,
  ⟨some 11, none, .bin .or (.tmp 10) (.const (.int .i64 32768))⟩,
  ⟨some 5, none, .mv (.tmp 11)⟩]
def c_compress_head_4 : PC := .cond (.tmp 9) c_compress_head_3 .skip
def c_compress_head_5 : PC := .seq c_compress_head_2 c_compress_head_4
def c_compress_head_6 : PC := .region [
  ⟨some 12, none, .mv (.tmp 5)⟩,
  ⟨some 13, none, .call 89 [.tmp 12]⟩,
  ⟨some 4, none, .mv (.tmp 13)⟩]
def c_compress_head_7 : PC := .seq c_compress_head_6 .ret
def c_compress_head_8 : PC := .seq c_compress_head_5 c_compress_head_7
def c_compress_head_9 : PC := .seq c_compress_head_1 c_compress_head_8
def c_compress_head_10 : PC := .seq c_compress_head_0 c_compress_head_9
def c_compress_head : PC := c_compress_head_10
def s_compress_head : List Nat := [0, 1, 4, 5]
def r_compress_head : List (Nat × Option (Bool × Nat)) := [⟨4, none⟩]
theorem sound_compress_head {Γ : Ctx} {S : Spec} (hΓ : Sound Go.Proofs.Try.prog Γ) (hS : FnOk S) (hargs : ∀ args K, S.run args K → args.length = 2) (h : Meets Γ s_compress_head c_compress_head r_compress_head S) : SoundAt Go.Proofs.Try.prog n_compress_head S := by
  have hb : ∃ c, Go.Proofs.Try.f56.body = some c ∧ compC Go.Proofs.Try.prog Go.Proofs.Try.f56.ntmps c = some (strip c_compress_head) := ⟨_, rfl, by kernel_rfl⟩
  obtain ⟨c, hb, hc⟩ := hb
  exact meets_sound hΓ mixed (fn := Go.Proofs.Try.f56) (by kernel_rfl) (by kernel_rfl) hb hc (l := [.tmp 4]) (by kernel_rfl) (by kernel_rfl) (by decide) hS 2 (by decide) hargs h

/-! depository/compress.chunk (1 parameters) -/
def c_compress_chunk_0 : PC := .region [
  ⟨some 2, none, .mv (.const (.string (ByteArray.mk (Array.mk []))))⟩,
  ⟨some 3, none, .mv (.const (.int .i64 0))⟩]
def c_compress_chunk_1 : PC := .region [
  ⟨some 4, none, .alloc 98 (.agg [.val (.pointer none), .nil 1])⟩]
def c_compress_chunk_2 : PC := .region [
  ⟨some 5, none, .mv (.const (.int .i64 0))⟩]
def c_compress_chunk_3 : PC := .region [
  ⟨some 11, none, .mv (.tmp 0)⟩,
  ⟨some 12, none, .lenR (.tmp 11)⟩,
  ⟨some 13, none, .bin .gtr (.tmp 12) (.const (.int .i64 0))⟩]
def c_compress_chunk_4 : PC := .cond (.tmp 13) .skip (.exit 0)
def c_compress_chunk_5 : PC := .seq c_compress_chunk_3 c_compress_chunk_4
def c_compress_chunk_6 : PC := .region [
  ⟨some 6, none, .mv (.const (.int .u8 0))⟩,
  ⟨some 7, none, .mv (.const (.string (ByteArray.mk (Array.mk []))))⟩]
def c_compress_chunk_7 : PC := .region [
  ⟨some 14, none, .mv (.tmp 0)⟩,
  ⟨some 15, none, .lenR (.tmp 14)⟩,
  ⟨some 16, none, .mm false (.tmp 15) (.const (.int .i64 8))⟩,
  ⟨some 8, none, .mv (.tmp 16)⟩]
def c_compress_chunk_8 : PC := .region [
  ⟨some 17, none, .mv (.tmp 0)⟩,
  ⟨some 18, none, .mv (.tmp 8)⟩,
  ⟨some 19, none, .slcR 3 (.tmp 17) none (some (.tmp 18))⟩,
  ⟨some 20, none, .lenR (.tmp 19)⟩,
  ⟨some 21, none, .mv (.const (.int .i64 0))⟩]
def c_compress_chunk_9 : PC := .region [
  ⟨some 22, none, .bin .lss (.tmp 21) (.tmp 20)⟩]
def c_compress_chunk_10 : PC := .cond (.tmp 22) .skip (.exit 2)
def c_compress_chunk_11 : PC := .region [
  ⟨some 23, none, .mv (.tmp 21)⟩,
  ⟨some 24, none, .idxA 3 (.tmp 19) (.tmp 21)⟩,
  ⟨some 25, none, .load true 3 (.tmp 24)⟩,
  ⟨some 10, none, .alloc 68 (.agg [.int .i64 0, .int .i64 0, .int .i64 0])⟩,
  ⟨some 9, none, .mv (.tmp 23)⟩,
  ⟨none, none, .store 3 (.tmp 10) (.tmp 25)⟩]
def c_compress_chunk_12 : PC := .region [
  ⟨some 26, none, .load true 3 (.tmp 10)⟩,
  ⟨some 27, none, .call 86 [.tmp 26]⟩]
def c_compress_chunk_13 : PC := .region [
  ⟨some 28, none, .mv (.tmp 6)⟩,
  ⟨some 29, none, .mv (.tmp 9)⟩,
  ⟨some 30, none, .bin .shl (.const (.int .u8 1)) (.tmp 29)⟩,
  ⟨some 31, none, .bin .or (.tmp 28) (.tmp 30)⟩,
  ⟨some 6, none, .mv (.tmp 31)⟩]
def c_compress_chunk_14 : PC := .cond (.tmp 27) c_compress_chunk_13 .skip
def c_compress_chunk_15 : PC := .seq c_compress_chunk_12 c_compress_chunk_14
def c_compress_chunk_16 : PC := .region [
  ⟨some 32, none, .mv (.tmp 7)⟩,
  ⟨some 33, none, .load true 3 (.tmp 10)⟩,
  ⟨some 34, none, .mv (.tmp 5)⟩,
  ⟨some 35, none, .call 90 [.tmp 33, .tmp 34]⟩,
  ⟨some 36, none, .bin .add (.tmp 32) (.tmp 35)⟩,
  ⟨some 7, none, .mv (.tmp 36)⟩]
def c_compress_chunk_17 : PC := .region [
  ⟨some 37, none, .mv (.tmp 5)⟩,
  ⟨some 38, none, .load true 3 (.tmp 10)⟩,
  ⟨some 39, none, .call 51 [.tmp 38]⟩,
  ⟨some 40, none, .bin .add (.tmp 37) (.tmp 39)⟩,
  ⟨some 5, none, .mv (.tmp 40)⟩]
def c_compress_chunk_18 : PC := .seq c_compress_chunk_16 c_compress_chunk_17
def c_compress_chunk_19 : PC := .seq c_compress_chunk_15 c_compress_chunk_18
def c_compress_chunk_20 : PC := .seq c_compress_chunk_11 c_compress_chunk_19
def c_compress_chunk_21 : PC := .block 3 c_compress_chunk_20
def c_compress_chunk_22 : PC := .region [
  ⟨some 41, none, .bin .add (.tmp 21) (.const (.int .i64 1))⟩,
  ⟨some 21, none, .mv (.tmp 41)⟩]
def c_compress_chunk_23 : PC := .seq c_compress_chunk_21 c_compress_chunk_22
def c_compress_chunk_24 : PC := .seq c_compress_chunk_10 c_compress_chunk_23
def c_compress_chunk_25 : PC := .seq c_compress_chunk_9 c_compress_chunk_24
def c_compress_chunk_26 : PC := .loop [0, 4, 5, 6, 7, 8, 19, 20, 21] c_compress_chunk_25
def c_compress_chunk_27 : PC := .block 2 c_compress_chunk_26
def c_compress_chunk_28 : PC := .seq c_compress_chunk_8 c_compress_chunk_27
def c_compress_chunk_29 : PC := .region [
  ⟨some 42, none, .mv (.tmp 6)⟩,
  ⟨some 43, none, .call 91 [.tmp 4, .tmp 42]⟩]
def c_compress_chunk_30 : PC := .region [
  ⟨some 44, none, .mv (.tmp 7)⟩,
  ⟨some 45, none, .call 92 [.tmp 4, .tmp 44]⟩]
def c_compress_chunk_31 : PC := .region [
  ⟨some 46, none, .mv (.tmp 0)⟩,
  ⟨some 47, none, .mv (.tmp 8)⟩,
  ⟨some 48, none, .slcR 3 (.tmp 46) (some (.tmp 47)) none⟩,
  ⟨some 0, none, .mv (.tmp 48)⟩]
def c_compress_chunk_32 : PC := .seq c_compress_chunk_30 c_compress_chunk_31
def c_compress_chunk_33 : PC := .seq c_compress_chunk_29 c_compress_chunk_32
def c_compress_chunk_34 : PC := .seq c_compress_chunk_28 c_compress_chunk_33
def c_compress_chunk_35 : PC := .seq c_compress_chunk_7 c_compress_chunk_34
def c_compress_chunk_36 : PC := .seq c_compress_chunk_6 c_compress_chunk_35
def c_compress_chunk_37 : PC := .block 1 c_compress_chunk_36
def c_compress_chunk_38 : PC := .seq c_compress_chunk_5 c_compress_chunk_37
def c_compress_chunk_39 : PC := .loop [0, 4, 5] c_compress_chunk_38
def c_compress_chunk_40 : PC := .block 0 c_compress_chunk_39
def c_compress_chunk_41 : PC := .region [
  ⟨some 49, none, .call 93 [.tmp 4]⟩,
  ⟨some 50, none, .bin .gtr (.tmp 49) (.const (.int .i64 4096))⟩]
def c_compress_chunk_42 : PC := .region [
  ⟨some 2, none, .mv (.const (.string (ByteArray.mk (Array.mk []))))⟩,
  ⟨some 3, none, .mv (.const (.int .i64 8))⟩]
def c_compress_chunk_43 : PC := .seq c_compress_chunk_42 .ret
def c_compress_chunk_44 : PC := .cond (.tmp 50) c_compress_chunk_43 .skip
def c_compress_chunk_45 : PC := .seq c_compress_chunk_41 c_compress_chunk_44
def c_compress_chunk_46 : PC := .region [
  ⟨some 51, none, .call 93 [.tmp 4]⟩,
  ⟨some 52, none, .call 56 [.tmp 51, .const (.bool true)]⟩,
  ⟨some 53, none, .call 94 [.tmp 4]⟩,
  ⟨some 54, none, .bin .add (.tmp 52) (.tmp 53)⟩,
  ⟨some 2, none, .mv (.tmp 54)⟩,
  ⟨some 3, none, .mv (.const (.int .i64 0))⟩]
def c_compress_chunk_47 : PC := .seq c_compress_chunk_46 .ret
def c_compress_chunk_48 : PC := .seq c_compress_chunk_45 c_compress_chunk_47
def c_compress_chunk_49 : PC := .seq c_compress_chunk_40 c_compress_chunk_48
def c_compress_chunk_50 : PC := .seq c_compress_chunk_2 c_compress_chunk_49
def c_compress_chunk_51 : PC := .seq c_compress_chunk_1 c_compress_chunk_50
def c_compress_chunk_52 : PC := .seq c_compress_chunk_0 c_compress_chunk_51
def c_compress_chunk : PC := c_compress_chunk_52
def s_compress_chunk : List Nat := [0, 2, 3, 4, 5, 6, 7, 8, 9, 10, 19, 20, 21]
def r_compress_chunk : List (Nat × Option (Bool × Nat)) := [⟨2, none⟩, ⟨3, none⟩]
theorem sound_compress_chunk {Γ : Ctx} {S : Spec} (hΓ : Sound Go.Proofs.Try.prog Γ) (hS : FnOk S) (hargs : ∀ args K, S.run args K → args.length = 1) (h : Meets Γ s_compress_chunk c_compress_chunk r_compress_chunk S) : SoundAt Go.Proofs.Try.prog n_compress_chunk S := by
  have hb : ∃ c, Go.Proofs.Try.f57.body = some c ∧ compC Go.Proofs.Try.prog Go.Proofs.Try.f57.ntmps c = some (strip c_compress_chunk) := ⟨_, rfl, by kernel_rfl⟩
  obtain ⟨c, hb, hc⟩ := hb
  exact meets_sound hΓ mixed (fn := Go.Proofs.Try.f57) (by kernel_rfl) (by kernel_rfl) hb hc (l := [.tmp 2, .tmp 3]) (by kernel_rfl) (by kernel_rfl) (by decide) hS 1 (by decide) hargs h

/-! depository/depositoryref06.Match (3 parameters) -/
def c_ref06_Match_0 : PC := .region [
  ⟨some 6, none, .mv (.const (.int .i64 0))⟩]
def c_ref06_Match_1 : PC := .region [
  ⟨some 7, none, .mv (.const (.int .i64 0))⟩]
def c_ref06_Match_2 : PC := .draw [
  ⟨some 8, none, .mv (.tmp 7)⟩,
  ⟨some 9, none, .mv (.tmp 1)⟩,
  ⟨some 10, none, .call 87 [.tmp 9]⟩,
  ⟨some 11, none, .bin .lss (.tmp 8) (.tmp 10)⟩,
  ⟨some 12, none, .mv (.tmp 11)⟩,
  ⟨some 13, some (⟨12, true⟩), .mv (.tmp 1)⟩,
  ⟨some 14, some (⟨12, true⟩), .mv (.tmp 7)⟩,
  ⟨some 15, some (⟨12, true⟩), .bin .add (.tmp 13) (.tmp 14)⟩,
  ⟨some 16, some (⟨12, true⟩), .mv (.tmp 0)⟩,
  ⟨some 17, some (⟨12, true⟩), .lenS (.tmp 16)⟩,
  ⟨some 18, some (⟨12, true⟩), .bin .lss (.tmp 15) (.tmp 17)⟩,
  ⟨some 19, none, .pick (.tmp 12) (.tmp 18) (.const (.bool false))⟩,
  ⟨some 20, none, .mv (.tmp 19)⟩,
  ⟨some 21, some (⟨20, true⟩), .mv (.tmp 0)⟩,
  ⟨some 22, some (⟨20, true⟩), .mv (.tmp 1)⟩,
  ⟨some 23, some (⟨20, true⟩), .mv (.tmp 7)⟩,
  ⟨some 24, some (⟨20, true⟩), .bin .add (.tmp 22) (.tmp 23)⟩,
  ⟨some 25, some (⟨20, true⟩), .idx (.tmp 21) (.tmp 24)⟩,
  ⟨some 26, some (⟨20, true⟩), .mv (.tmp 0)⟩,
  ⟨some 27, some (⟨20, true⟩), .mv (.tmp 1)⟩,
  ⟨some 28, some (⟨20, true⟩), .mv (.tmp 7)⟩,
  ⟨some 29, some (⟨20, true⟩), .bin .add (.tmp 27) (.tmp 28)⟩,
  ⟨some 30, some (⟨20, true⟩), .mv (.tmp 2)⟩,
  ⟨some 31, some (⟨20, true⟩), .bin .sub (.tmp 29) (.tmp 30)⟩,
  ⟨some 32, some (⟨20, true⟩), .idx (.tmp 26) (.tmp 31)⟩,
  ⟨some 33, some (⟨20, true⟩), .bin .eql (.tmp 25) (.tmp 32)⟩,
  ⟨some 34, none, .pick (.tmp 20) (.tmp 33) (.const (.bool false))⟩]
  [[], [], [1], [0, 2], [3, 2], [4], [4], [5, 6, 4], [4], [8, 4], [7, 9, 4], [4, 10], [11, 4], [12], [12], [12], [14, 15, 12], [13, 16, 12], [12], [12], [12], [19, 20, 12], [12], [21, 22, 12], [18, 23, 12], [17, 24, 12], [12, 25]]
def c_ref06_Match_3 : PC := .cond (.tmp 34) .skip (.exit 0)
def c_ref06_Match_4 : PC := .seq c_ref06_Match_2 c_ref06_Match_3
def c_ref06_Match_5 : PC := .region [
  ⟨some 35, none, .mv (.tmp 7)⟩,
  ⟨some 36, none, .bin .add (.tmp 35) (.const (.int .i64 1))⟩,
  ⟨some 7, none, .mv (.tmp 36)⟩]
def c_ref06_Match_6 : PC := .block 1 c_ref06_Match_5
def c_ref06_Match_7 : PC := .seq c_ref06_Match_4 c_ref06_Match_6
def c_ref06_Match_8 : PC := .loop [0, 1, 2, 7] c_ref06_Match_7
def c_ref06_Match_9 : PC := .block 0 c_ref06_Match_8
def c_ref06_Match_10 : PC := .region [
  ⟨some 37, none, .mv (.tmp 7)⟩,
  ⟨some 6, none, .mv (.tmp 37)⟩]
def c_ref06_Match_11 : PC := .seq c_ref06_Match_10 .ret
def c_ref06_Match_12 : PC := .seq c_ref06_Match_9 c_ref06_Match_11
def c_ref06_Match_13 : PC := .seq c_ref06_Match_1 c_ref06_Match_12
def c_ref06_Match_14 : PC := .seq c_ref06_Match_0 c_ref06_Match_13
def c_ref06_Match : PC := c_ref06_Match_14
def s_ref06_Match : List Nat := [0, 1, 2, 6, 7]
def r_ref06_Match : List (Nat × Option (Bool × Nat)) := [⟨6, none⟩]
theorem sound_ref06_Match {Γ : Ctx} {S : Spec} (hΓ : Sound Go.Proofs.Try.prog Γ) (hS : FnOk S) (hargs : ∀ args K, S.run args K → args.length = 3) (h : Meets Γ s_ref06_Match c_ref06_Match r_ref06_Match S) : SoundAt Go.Proofs.Try.prog n_ref06_Match S := by
  have hb : ∃ c, Go.Proofs.Try.f58.body = some c ∧ compC Go.Proofs.Try.prog Go.Proofs.Try.f58.ntmps c = some (strip c_ref06_Match) := ⟨_, rfl, by kernel_rfl⟩
  obtain ⟨c, hb, hc⟩ := hb
  exact meets_sound hΓ mixed (fn := Go.Proofs.Try.f58) (by kernel_rfl) (by kernel_rfl) hb hc (l := [.tmp 6]) (by kernel_rfl) (by kernel_rfl) (by decide) hS 3 (by decide) hargs h

/-! depository/depositoryref06.Body (1 parameters) -/
def c_ref06_Body_0 : PC := .region [
  ⟨some 2, none, .mv (.const (.string (ByteArray.mk (Array.mk []))))⟩]
def c_ref06_Body_1 : PC := .region [
  ⟨some 3, none, .nilR 5 1⟩]
def c_ref06_Body_2 : PC := .region [
  ⟨some 4, none, .mv (.const (.int .i64 0))⟩]
def c_ref06_Body_3 : PC := .region [
  ⟨some 5, none, .mv (.const (.int .i64 0))⟩]
def c_ref06_Body_4 : PC := .region [
  ⟨some 8, none, .mv (.tmp 5)⟩,
  ⟨some 9, none, .mv (.tmp 0)⟩,
  ⟨some 10, none, .lenR (.tmp 9)⟩,
  ⟨some 11, none, .bin .lss (.tmp 8) (.tmp 10)⟩]
def c_ref06_Body_5 : PC := .cond (.tmp 11) .skip (.exit 0)
def c_ref06_Body_6 : PC := .seq c_ref06_Body_4 c_ref06_Body_5
def c_ref06_Body_7 : PC := .region [
  ⟨some 14, none, .mv (.tmp 5)⟩,
  ⟨some 15, none, .bin .rem (.tmp 14) (.const (.int .i64 8))⟩,
  ⟨some 16, none, .bin .eql (.tmp 15) (.const (.int .i64 0))⟩]
def c_ref06_Body_8 : PC := .region [
  ⟨some 6, none, .mv (.const (.int .i64 0))⟩]
def c_ref06_Body_9 : PC := .region [
  ⟨some 7, none, .mv (.const (.int .i64 0))⟩]
def c_ref06_Body_10 : PC := .region [
  ⟨some 17, none, .mv (.tmp 7)⟩,
  ⟨some 18, none, .bin .lss (.tmp 17) (.const (.int .i64 8))⟩,
  ⟨some 19, none, .mv (.tmp 18)⟩,
  ⟨some 20, some (⟨19, true⟩), .mv (.tmp 5)⟩,
  ⟨some 21, some (⟨19, true⟩), .mv (.tmp 7)⟩,
  ⟨some 22, some (⟨19, true⟩), .bin .add (.tmp 20) (.tmp 21)⟩,
  ⟨some 23, some (⟨19, true⟩), .mv (.tmp 0)⟩,
  ⟨some 24, some (⟨19, true⟩), .lenR (.tmp 23)⟩,
  ⟨some 25, some (⟨19, true⟩), .bin .lss (.tmp 22) (.tmp 24)⟩,
  ⟨some 26, none, .pick (.tmp 19) (.tmp 25) (.const (.bool false))⟩]
def c_ref06_Body_11 : PC := .cond (.tmp 26) .skip (.exit 2)
def c_ref06_Body_12 : PC := .seq c_ref06_Body_10 c_ref06_Body_11
def c_ref06_Body_13 : PC := .region [
  ⟨some 29, none, .mv (.tmp 0)⟩,
  ⟨some 30, none, .mv (.tmp 5)⟩,
  ⟨some 31, none, .mv (.tmp 7)⟩,
  ⟨some 32, none, .bin .add (.tmp 30) (.tmp 31)⟩,
  ⟨some 33, none, .idxA 3 (.tmp 29) (.tmp 32)⟩,
  ⟨some 34, none, .load true 3 (.tmp 33)⟩,
  ⟨some 35, none, .call 69 [.tmp 34]⟩]
def c_ref06_Body_14 : PC := .region [
  ⟨some 36, none, .mv (.tmp 6)⟩,
  ⟨some 37, none, .mv (.tmp 7)⟩,
  ⟨some 38, none, .call 63 [.tmp 37]⟩,
  ⟨some 39, none, .bin .add (.tmp 36) (.tmp 38)⟩,
  ⟨some 6, none, .mv (.tmp 39)⟩]
def c_ref06_Body_15 : PC := .cond (.tmp 35) c_ref06_Body_14 .skip
def c_ref06_Body_16 : PC := .seq c_ref06_Body_13 c_ref06_Body_15
def c_ref06_Body_17 : PC := .block 3 c_ref06_Body_16
def c_ref06_Body_18 : PC := .region [
  ⟨some 27, none, .mv (.tmp 7)⟩,
  ⟨some 28, none, .bin .add (.tmp 27) (.const (.int .i64 1))⟩,
  ⟨some 7, none, .mv (.tmp 28)⟩]
def c_ref06_Body_19 : PC := .seq c_ref06_Body_17 c_ref06_Body_18
def c_ref06_Body_20 : PC := .seq c_ref06_Body_12 c_ref06_Body_19
def c_ref06_Body_21 : PC := .loop [0, 3, 4, 5, 6, 7] c_ref06_Body_20
def c_ref06_Body_22 : PC := .block 2 c_ref06_Body_21
def c_ref06_Body_23 : PC := .seq c_ref06_Body_9 c_ref06_Body_22
def c_ref06_Body_24 : PC := .region [
  ⟨some 40, none, .mv (.tmp 3)⟩,
  ⟨some 41, none, .mv (.tmp 6)⟩,
  ⟨some 42, none, .conv (.toInt .u8) (.tmp 41)⟩,
  ⟨some 43, none, .bslice 5 1 [.tmp 42]⟩,
  ⟨some 44, none, .app 5 1 1 (.tmp 40) (.tmp 43)⟩,
  ⟨some 3, none, .mv (.tmp 44)⟩]
def c_ref06_Body_25 : PC := .seq c_ref06_Body_23 c_ref06_Body_24
def c_ref06_Body_26 : PC := .seq c_ref06_Body_8 c_ref06_Body_25
def c_ref06_Body_27 : PC := .cond (.tmp 16) c_ref06_Body_26 .skip
def c_ref06_Body_28 : PC := .seq c_ref06_Body_7 c_ref06_Body_27
def c_ref06_Body_29 : PC := .region [
  ⟨some 45, none, .mv (.tmp 0)⟩,
  ⟨some 46, none, .mv (.tmp 5)⟩,
  ⟨some 47, none, .idxA 3 (.tmp 45) (.tmp 46)⟩,
  ⟨some 48, none, .load true 3 (.tmp 47)⟩,
  ⟨some 49, none, .call 69 [.tmp 48]⟩]
def c_ref06_Body_30 : PC := .draw [
  ⟨some 50, none, .mv (.tmp 3)⟩,
  ⟨some 51, none, .mv (.tmp 0)⟩,
  ⟨some 52, none, .mv (.tmp 5)⟩,
  ⟨some 53, none, .idxA 3 (.tmp 51) (.tmp 52)⟩,
  ⟨some 54, none, .fldA 0 (.tmp 53)⟩,
  ⟨some 55, none, .load false 1 (.tmp 54)⟩,
  ⟨some 56, none, .bin .sub (.tmp 55) (.const (.int .i64 1))⟩,
  ⟨some 57, none, .mv (.tmp 4)⟩,
  ⟨some 58, none, .call 24 [.tmp 57]⟩,
  ⟨some 59, none, .bin .sub (.const (.int .i64 16)) (.tmp 58)⟩,
  ⟨some 60, none, .call 63 [.tmp 59]⟩,
  ⟨some 61, none, .bin .mul (.tmp 56) (.tmp 60)⟩,
  ⟨some 62, none, .mv (.tmp 0)⟩,
  ⟨some 63, none, .mv (.tmp 5)⟩,
  ⟨some 64, none, .idxA 3 (.tmp 62) (.tmp 63)⟩,
  ⟨some 65, none, .fldA 1 (.tmp 64)⟩,
  ⟨some 66, none, .load false 1 (.tmp 65)⟩,
  ⟨some 67, none, .bin .add (.tmp 61) (.tmp 66)⟩,
  ⟨some 68, none, .bin .sub (.tmp 67) (.const (.int .i64 3))⟩,
  ⟨some 69, none, .call 95 [.tmp 68, .const (.int .i64 2)]⟩,
  ⟨some 70, none, .appS 5 1 (.tmp 50) (.tmp 69)⟩,
  ⟨some 3, none, .mv (.tmp 70)⟩]
  [[], [], [], [1, 2], [3], [4], [5], [], [7], [8], [9, 8], [6, 10], [], [], [12, 13], [14], [15], [11, 16], [17], [18, 10], [0, 19, 19], [20, 20, 0, 1, 2, 3, 4, 5, 6, 7, 8, 9, 10, 11, 12, 13, 14, 15, 16, 17, 18, 19, 20]]
def c_ref06_Body_31 : PC := .region [
  ⟨some 71, none, .mv (.tmp 3)⟩,
  ⟨some 72, none, .mv (.tmp 0)⟩,
  ⟨some 73, none, .mv (.tmp 5)⟩,
  ⟨some 74, none, .idxA 3 (.tmp 72) (.tmp 73)⟩,
  ⟨some 75, none, .fldA 2 (.tmp 74)⟩,
  ⟨some 76, none, .load false 1 (.tmp 75)⟩,
  ⟨some 77, none, .conv (.toInt .u8) (.tmp 76)⟩,
  ⟨some 78, none, .bslice 5 1 [.tmp 77]⟩,
  ⟨some 79, none, .app 5 1 1 (.tmp 71) (.tmp 78)⟩,
  ⟨some 3, none, .mv (.tmp 79)⟩]
def c_ref06_Body_32 : PC := .cond (.tmp 49) c_ref06_Body_30 c_ref06_Body_31
def c_ref06_Body_33 : PC := .seq c_ref06_Body_29 c_ref06_Body_32
def c_ref06_Body_34 : PC := .region [
  ⟨some 80, none, .mv (.tmp 4)⟩,
  ⟨some 81, none, .mv (.tmp 0)⟩,
  ⟨some 82, none, .mv (.tmp 5)⟩,
  ⟨some 83, none, .idxA 3 (.tmp 81) (.tmp 82)⟩,
  ⟨some 84, none, .load true 3 (.tmp 83)⟩,
  ⟨some 85, none, .call 54 [.tmp 84]⟩,
  ⟨some 86, none, .bin .add (.tmp 80) (.tmp 85)⟩,
  ⟨some 4, none, .mv (.tmp 86)⟩]
def c_ref06_Body_35 : PC := .seq c_ref06_Body_33 c_ref06_Body_34
def c_ref06_Body_36 : PC := .seq c_ref06_Body_28 c_ref06_Body_35
def c_ref06_Body_37 : PC := .block 1 c_ref06_Body_36
def c_ref06_Body_38 : PC := .region [
  ⟨some 12, none, .mv (.tmp 5)⟩,
  ⟨some 13, none, .bin .add (.tmp 12) (.const (.int .i64 1))⟩,
  ⟨some 5, none, .mv (.tmp 13)⟩]
def c_ref06_Body_39 : PC := .seq c_ref06_Body_37 c_ref06_Body_38
def c_ref06_Body_40 : PC := .seq c_ref06_Body_6 c_ref06_Body_39
def c_ref06_Body_41 : PC := .loop [0, 3, 4, 5] c_ref06_Body_40
def c_ref06_Body_42 : PC := .block 0 c_ref06_Body_41
def c_ref06_Body_43 : PC := .seq c_ref06_Body_3 c_ref06_Body_42
def c_ref06_Body_44 : PC := .region [
  ⟨some 87, none, .mv (.tmp 3)⟩,
  ⟨some 88, none, .conv .bts (.tmp 87)⟩,
  ⟨some 2, none, .mv (.tmp 88)⟩]
def c_ref06_Body_45 : PC := .seq c_ref06_Body_44 .ret
def c_ref06_Body_46 : PC := .seq c_ref06_Body_43 c_ref06_Body_45
def c_ref06_Body_47 : PC := .seq c_ref06_Body_2 c_ref06_Body_46
def c_ref06_Body_48 : PC := .seq c_ref06_Body_1 c_ref06_Body_47
def c_ref06_Body_49 : PC := .seq c_ref06_Body_0 c_ref06_Body_48
def c_ref06_Body : PC := c_ref06_Body_49
def s_ref06_Body : List Nat := [0, 2, 3, 4, 5, 6, 7]
def r_ref06_Body : List (Nat × Option (Bool × Nat)) := [⟨2, none⟩]
theorem sound_ref06_Body {Γ : Ctx} {S : Spec} (hΓ : Sound Go.Proofs.Try.prog Γ) (hS : FnOk S) (hargs : ∀ args K, S.run args K → args.length = 1) (h : Meets Γ s_ref06_Body c_ref06_Body r_ref06_Body S) : SoundAt Go.Proofs.Try.prog n_ref06_Body S := by
  have hb : ∃ c, Go.Proofs.Try.f59.body = some c ∧ compC Go.Proofs.Try.prog Go.Proofs.Try.f59.ntmps c = some (strip c_ref06_Body) := ⟨_, rfl, by kernel_rfl⟩
  obtain ⟨c, hb, hc⟩ := hb
  exact meets_sound hΓ mixed (fn := Go.Proofs.Try.f59) (by kernel_rfl) (by kernel_rfl) hb hc (l := [.tmp 2]) (by kernel_rfl) (by kernel_rfl) (by decide) hS 1 (by decide) hargs h

/-! depository/depositoryref06.Head (2 parameters) -/
def c_ref06_Head_0 : PC := .region [
  ⟨some 4, none, .mv (.const (.string (ByteArray.mk (Array.mk []))))⟩]
def c_ref06_Head_1 : PC := .region [
  ⟨some 5, none, .mv (.tmp 1)⟩,
  ⟨some 6, none, .call 96 [.tmp 5]⟩,
  ⟨some 7, none, .bin .mul (.tmp 6) (.const (.int .i64 32768))⟩,
  ⟨some 8, none, .bin .add (.tmp 7) (.const (.int .i64 12288))⟩,
  ⟨some 9, none, .mv (.tmp 0)⟩,
  ⟨some 10, none, .bin .add (.tmp 8) (.tmp 9)⟩,
  ⟨some 11, none, .bin .sub (.tmp 10) (.const (.int .i64 1))⟩,
  ⟨some 12, none, .call 95 [.tmp 11, .const (.int .i64 2)]⟩,
  ⟨some 4, none, .mv (.tmp 12)⟩]
def c_ref06_Head_2 : PC := .seq c_ref06_Head_1 .ret
def c_ref06_Head_3 : PC := .seq c_ref06_Head_0 c_ref06_Head_2
def c_ref06_Head : PC := c_ref06_Head_3
def s_ref06_Head : List Nat := [0, 1, 4]
def r_ref06_Head : List (Nat × Option (Bool × Nat)) := [⟨4, none⟩]
theorem sound_ref06_Head {Γ : Ctx} {S : Spec} (hΓ : Sound Go.Proofs.Try.prog Γ) (hS : FnOk S) (hargs : ∀ args K, S.run args K → args.length = 2) (h : Meets Γ s_ref06_Head c_ref06_Head r_ref06_Head S) : SoundAt Go.Proofs.Try.prog n_ref06_Head S := by
  have hb : ∃ c, Go.Proofs.Try.f60.body = some c ∧ compC Go.Proofs.Try.prog Go.Proofs.Try.f60.ntmps c = some (strip c_ref06_Head) := ⟨_, rfl, by kernel_rfl⟩
  obtain ⟨c, hb, hc⟩ := hb
  exact meets_sound hΓ mixed (fn := Go.Proofs.Try.f60) (by kernel_rfl) (by kernel_rfl) hb hc (l := [.tmp 4]) (by kernel_rfl) (by kernel_rfl) (by decide) hS 2 (by decide) hargs h

/-! depository/compress.within (3 parameters) -/
def c_compress_within_0 : PC := .region [
  ⟨some 6, none, .mv (.const (.bool false))⟩]
def c_compress_within_1 : PC := .region [
  ⟨some 7, none, .mv (.tmp 1)⟩,
  ⟨some 8, none, .mv (.tmp 0)⟩,
  ⟨some 9, none, .bin .leq (.tmp 7) (.tmp 8)⟩,
  ⟨some 10, none, .mv (.tmp 9)⟩,
  ⟨some 11, some (⟨10, true⟩), .mv (.tmp 0)⟩,
  ⟨some 12, some (⟨10, true⟩), .mv (.tmp 2)⟩,
  ⟨some 13, some (⟨10, true⟩), .bin .leq (.tmp 11) (.tmp 12)⟩,
  ⟨some 14, none, .pick (.tmp 10) (.tmp 13) (.const (.bool false))⟩,
  ⟨some 6, none, .mv (.tmp 14)⟩]
def c_compress_within_2 : PC := .seq c_compress_within_1 .ret
def c_compress_within_3 : PC := .seq c_compress_within_0 c_compress_within_2
def c_compress_within : PC := c_compress_within_3
def s_compress_within : List Nat := [0, 1, 2, 6]
def r_compress_within : List (Nat × Option (Bool × Nat)) := [⟨6, none⟩]
theorem sound_compress_within {Γ : Ctx} {S : Spec} (hΓ : Sound Go.Proofs.Try.prog Γ) (hS : FnOk S) (hargs : ∀ args K, S.run args K → args.length = 3) (h : Meets Γ s_compress_within c_compress_within r_compress_within S) : SoundAt Go.Proofs.Try.prog n_compress_within S := by
  have hb : ∃ c, Go.Proofs.Try.f61.body = some c ∧ compC Go.Proofs.Try.prog Go.Proofs.Try.f61.ntmps c = some (strip c_compress_within) := ⟨_, rfl, by kernel_rfl⟩
  obtain ⟨c, hb, hc⟩ := hb
  exact meets_sound hΓ mixed (fn := Go.Proofs.Try.f61) (by kernel_rfl) (by kernel_rfl) hb hc (l := [.tmp 6]) (by kernel_rfl) (by kernel_rfl) (by decide) hS 3 (by decide) hargs h

/-! depository/compress.shift (1 parameters) -/
def c_compress_shift_0 : PC := .region [
  ⟨some 2, none, .mv (.const (.int .i64 0))⟩]
def c_compress_shift_1 : PC := .region [
  ⟨some 3, none, .mv (.tmp 0)⟩,
  ⟨some 4, none, .bin .sub (.tmp 3) (.const (.int .i64 1))⟩,
  ⟨some 5, none, .mm true (.tmp 4) (.const (.int .i64 0))⟩,
  ⟨some 6, none, .conv (.toInt .u64) (.tmp 5)⟩,
  ⟨some 7, none, .call 97 [.tmp 6]⟩,
  ⟨some 8, none, .mm true (.const (.int .i64 4)) (.tmp 7)⟩,
  ⟨some 2, none, .mv (.tmp 8)⟩]
def c_compress_shift_2 : PC := .seq c_compress_shift_1 .ret
def c_compress_shift_3 : PC := .seq c_compress_shift_0 c_compress_shift_2
def c_compress_shift : PC := c_compress_shift_3
def s_compress_shift : List Nat := [0, 2]
def r_compress_shift : List (Nat × Option (Bool × Nat)) := [⟨2, none⟩]
theorem sound_compress_shift {Γ : Ctx} {S : Spec} (hΓ : Sound Go.Proofs.Try.prog Γ) (hS : FnOk S) (hargs : ∀ args K, S.run args K → args.length = 1) (h : Meets Γ s_compress_shift c_compress_shift r_compress_shift S) : SoundAt Go.Proofs.Try.prog n_compress_shift S := by
  have hb : ∃ c, Go.Proofs.Try.f62.body = some c ∧ compC Go.Proofs.Try.prog Go.Proofs.Try.f62.ntmps c = some (strip c_compress_shift) := ⟨_, rfl, by kernel_rfl⟩
  obtain ⟨c, hb, hc⟩ := hb
  exact meets_sound hΓ mixed (fn := Go.Proofs.Try.f62) (by kernel_rfl) (by kernel_rfl) hb hc (l := [.tmp 2]) (by kernel_rfl) (by kernel_rfl) (by decide) hS 1 (by decide) hargs h

/-! depository/depositorybase.Power (1 parameters) -/
def c_base_Power_0 : PC := .region [
  ⟨some 2, none, .mv (.const (.int .i64 0))⟩]
def c_base_Power_1 : PC := .region [
  ⟨some 3, none, .mv (.tmp 0)⟩,
  ⟨some 4, none, .bin .shl (.const (.int .i64 1)) (.tmp 3)⟩,
  ⟨some 2, none, .mv (.tmp 4)⟩]
def c_base_Power_2 : PC := .seq c_base_Power_1 .ret
def c_base_Power_3 : PC := .seq c_base_Power_0 c_base_Power_2
def c_base_Power : PC := c_base_Power_3
def s_base_Power : List Nat := [0, 2]
def r_base_Power : List (Nat × Option (Bool × Nat)) := [⟨2, none⟩]
theorem sound_base_Power {Γ : Ctx} {S : Spec} (hΓ : Sound Go.Proofs.Try.prog Γ) (hS : FnOk S) (hargs : ∀ args K, S.run args K → args.length = 1) (h : Meets Γ s_base_Power c_base_Power r_base_Power S) : SoundAt Go.Proofs.Try.prog n_base_Power S := by
  have hb : ∃ c, Go.Proofs.Try.f63.body = some c ∧ compC Go.Proofs.Try.prog Go.Proofs.Try.f63.ntmps c = some (strip c_base_Power) := ⟨_, rfl, by kernel_rfl⟩
  obtain ⟨c, hb, hc⟩ := hb
  exact meets_sound hΓ mixed (fn := Go.Proofs.Try.f63) (by kernel_rfl) (by kernel_rfl) hb hc (l := [.tmp 2]) (by kernel_rfl) (by kernel_rfl) (by decide) hS 1 (by decide) hargs h

/-! (depository/compress.data).costs (1 parameters) -/
def c_compress_data_costs_0 : PC := .region [
  ⟨some 2, none, .nilR 3 1⟩]
def c_compress_data_costs_1 : PC := .region [
  ⟨some 5, none, .mv (.tmp 0)⟩,
  ⟨some 6, none, .lenS (.tmp 5)⟩,
  ⟨some 7, none, .bin .add (.tmp 6) (.const (.int .i64 1))⟩,
  ⟨some 8, none, .mksl 3 1 8 (.int .i64 0) (.tmp 7) (.tmp 7)⟩,
  ⟨some 3, none, .mv (.tmp 8)⟩]
def c_compress_data_costs_2 : PC := .region [
  ⟨some 9, none, .mv (.tmp 0)⟩,
  ⟨some 10, none, .lenS (.tmp 9)⟩,
  ⟨some 11, none, .bin .sub (.tmp 10) (.const (.int .i64 1))⟩,
  ⟨some 4, none, .mv (.tmp 11)⟩]
def c_compress_data_costs_3 : PC := .region [
  ⟨some 12, none, .mv (.tmp 4)⟩,
  ⟨some 13, none, .bin .geq (.tmp 12) (.const (.int .i64 0))⟩]
def c_compress_data_costs_4 : PC := .cond (.tmp 13) .skip (.exit 0)
def c_compress_data_costs_5 : PC := .seq c_compress_data_costs_3 c_compress_data_costs_4
def c_compress_data_costs_6 : PC := .region [
  ⟨some 16, none, .mv (.tmp 3)⟩,
  ⟨some 17, none, .mv (.tmp 4)⟩,
  ⟨some 18, none, .mv (.tmp 0)⟩,
  ⟨some 19, none, .mv (.tmp 3)⟩,
  ⟨some 20, none, .mv (.tmp 4)⟩,
  ⟨some 21, none, .call 67 [.tmp 18, .tmp 19, .tmp 20]⟩,
  ⟨some 22, none, .idxA 1 (.tmp 16) (.tmp 17)⟩,
  ⟨none, none, .store 1 (.tmp 22) (.tmp 21)⟩]
def c_compress_data_costs_7 : PC := .block 1 c_compress_data_costs_6
def c_compress_data_costs_8 : PC := .region [
  ⟨some 14, none, .mv (.tmp 4)⟩,
  ⟨some 15, none, .bin .sub (.tmp 14) (.const (.int .i64 1))⟩,
  ⟨some 4, none, .mv (.tmp 15)⟩]
def c_compress_data_costs_9 : PC := .seq c_compress_data_costs_7 c_compress_data_costs_8
def c_compress_data_costs_10 : PC := .seq c_compress_data_costs_5 c_compress_data_costs_9
def c_compress_data_costs_11 : PC := .loop [0, 3, 4] c_compress_data_costs_10
def c_compress_data_costs_12 : PC := .block 0 c_compress_data_costs_11
def c_compress_data_costs_13 : PC := .seq c_compress_data_costs_2 c_compress_data_costs_12
def c_compress_data_costs_14 : PC := .region [
  ⟨some 23, none, .mv (.tmp 3)⟩,
  ⟨some 2, none, .mv (.tmp 23)⟩]
def c_compress_data_costs_15 : PC := .seq c_compress_data_costs_14 .ret
def c_compress_data_costs_16 : PC := .seq c_compress_data_costs_13 c_compress_data_costs_15
def c_compress_data_costs_17 : PC := .seq c_compress_data_costs_1 c_compress_data_costs_16
def c_compress_data_costs_18 : PC := .seq c_compress_data_costs_0 c_compress_data_costs_17
def c_compress_data_costs : PC := c_compress_data_costs_18
def s_compress_data_costs : List Nat := [0, 2, 3, 4]
def r_compress_data_costs : List (Nat × Option (Bool × Nat)) := [⟨2, none⟩]
theorem sound_compress_data_costs {Γ : Ctx} {S : Spec} (hΓ : Sound Go.Proofs.Try.prog Γ) (hS : FnOk S) (hargs : ∀ args K, S.run args K → args.length = 1) (h : Meets Γ s_compress_data_costs c_compress_data_costs r_compress_data_costs S) : SoundAt Go.Proofs.Try.prog n_compress_data_costs S := by
  have hb : ∃ c, Go.Proofs.Try.f64.body = some c ∧ compC Go.Proofs.Try.prog Go.Proofs.Try.f64.ntmps c = some (strip c_compress_data_costs) := ⟨_, rfl, by kernel_rfl⟩
  obtain ⟨c, hb, hc⟩ := hb
  exact meets_sound hΓ mixed (fn := Go.Proofs.Try.f64) (by kernel_rfl) (by kernel_rfl) hb hc (l := [.tmp 2]) (by kernel_rfl) (by kernel_rfl) (by decide) hS 1 (by decide) hargs h

/-! depository/compress.first (1 parameters) -/
def c_compress_first_0 : PC := .region [
  ⟨some 2, none, .mv (.const (.int .i64 0))⟩]
def c_compress_first_1 : PC := .region [
  ⟨some 5, none, .mv (.tmp 0)⟩,
  ⟨some 6, none, .lenR (.tmp 5)⟩,
  ⟨some 7, none, .mv (.const (.int .i64 0))⟩]
def c_compress_first_2 : PC := .region [
  ⟨some 8, none, .bin .lss (.tmp 7) (.tmp 6)⟩]
def c_compress_first_3 : PC := .cond (.tmp 8) .skip (.exit 0)
def c_compress_first_4 : PC := .region [
  ⟨some 9, none, .idxA 1 (.tmp 5) (.tmp 7)⟩,
  ⟨some 10, none, .load false 1 (.tmp 9)⟩,
  ⟨some 4, none, .mv (.tmp 10)⟩]
def c_compress_first_5 : PC := .region [
  ⟨some 11, none, .mv (.tmp 4)⟩,
  ⟨some 12, none, .bin .neq (.tmp 11) (.const (.int .i64 0))⟩]
def c_compress_first_6 : PC := .region [
  ⟨some 13, none, .mv (.tmp 4)⟩,
  ⟨some 2, none, .mv (.tmp 13)⟩]
def c_compress_first_7 : PC := .seq c_compress_first_6 .ret
def c_compress_first_8 : PC := .cond (.tmp 12) c_compress_first_7 .skip
def c_compress_first_9 : PC := .seq c_compress_first_5 c_compress_first_8
def c_compress_first_10 : PC := .seq c_compress_first_4 c_compress_first_9
def c_compress_first_11 : PC := .block 1 c_compress_first_10
def c_compress_first_12 : PC := .region [
  ⟨some 14, none, .bin .add (.tmp 7) (.const (.int .i64 1))⟩,
  ⟨some 7, none, .mv (.tmp 14)⟩]
def c_compress_first_13 : PC := .seq c_compress_first_11 c_compress_first_12
def c_compress_first_14 : PC := .seq c_compress_first_3 c_compress_first_13
def c_compress_first_15 : PC := .seq c_compress_first_2 c_compress_first_14
def c_compress_first_16 : PC := .loop [5, 6, 7] c_compress_first_15
def c_compress_first_17 : PC := .block 0 c_compress_first_16
def c_compress_first_18 : PC := .seq c_compress_first_1 c_compress_first_17
def c_compress_first_19 : PC := .region [
  ⟨some 2, none, .mv (.const (.int .i64 0))⟩]
def c_compress_first_20 : PC := .seq c_compress_first_19 .ret
def c_compress_first_21 : PC := .seq c_compress_first_18 c_compress_first_20
def c_compress_first_22 : PC := .seq c_compress_first_0 c_compress_first_21
def c_compress_first : PC := c_compress_first_22
def s_compress_first : List Nat := [0, 2, 4, 5, 6, 7]
def r_compress_first : List (Nat × Option (Bool × Nat)) := [⟨2, none⟩]
theorem sound_compress_first {Γ : Ctx} {S : Spec} (hΓ : Sound Go.Proofs.Try.prog Γ) (hS : FnOk S) (hargs : ∀ args K, S.run args K → args.length = 1) (h : Meets Γ s_compress_first c_compress_first r_compress_first S) : SoundAt Go.Proofs.Try.prog n_compress_first S := by
  have hb : ∃ c, Go.Proofs.Try.f65.body = some c ∧ compC Go.Proofs.Try.prog Go.Proofs.Try.f65.ntmps c = some (strip c_compress_first) := ⟨_, rfl, by kernel_rfl⟩
  obtain ⟨c, hb, hc⟩ := hb
  exact meets_sound hΓ mixed (fn := Go.Proofs.Try.f65) (by kernel_rfl) (by kernel_rfl) hb hc (l := [.tmp 2]) (by kernel_rfl) (by kernel_rfl) (by decide) hS 1 (by decide) hargs h

/-! depository/compress.unless (2 parameters) -/
def c_compress_unless_0 : PC := .region [
  ⟨some 4, none, .mv (.const (.int .i64 0))⟩]
def c_compress_unless_1 : PC := .region [
  ⟨some 5, none, .mv (.tmp 0)⟩]
def c_compress_unless_2 : PC := .region [
  ⟨some 4, none, .mv (.const (.int .i64 0))⟩]
def c_compress_unless_3 : PC := .seq c_compress_unless_2 .ret
def c_compress_unless_4 : PC := .cond (.tmp 5) c_compress_unless_3 .skip
def c_compress_unless_5 : PC := .seq c_compress_unless_1 c_compress_unless_4
def c_compress_unless_6 : PC := .region [
  ⟨some 6, none, .mv (.tmp 1)⟩,
  ⟨some 4, none, .mv (.tmp 6)⟩]
def c_compress_unless_7 : PC := .seq c_compress_unless_6 .ret
def c_compress_unless_8 : PC := .seq c_compress_unless_5 c_compress_unless_7
def c_compress_unless_9 : PC := .seq c_compress_unless_0 c_compress_unless_8
def c_compress_unless : PC := c_compress_unless_9
def s_compress_unless : List Nat := [0, 1, 4]
def r_compress_unless : List (Nat × Option (Bool × Nat)) := [⟨4, none⟩]
theorem sound_compress_unless {Γ : Ctx} {S : Spec} (hΓ : Sound Go.Proofs.Try.prog Γ) (hS : FnOk S) (hargs : ∀ args K, S.run args K → args.length = 2) (h : Meets Γ s_compress_unless c_compress_unless r_compress_unless S) : SoundAt Go.Proofs.Try.prog n_compress_unless S := by
  have hb : ∃ c, Go.Proofs.Try.f66.body = some c ∧ compC Go.Proofs.Try.prog Go.Proofs.Try.f66.ntmps c = some (strip c_compress_unless) := ⟨_, rfl, by kernel_rfl⟩
  obtain ⟨c, hb, hc⟩ := hb
  exact meets_sound hΓ mixed (fn := Go.Proofs.Try.f66) (by kernel_rfl) (by kernel_rfl) hb hc (l := [.tmp 4]) (by kernel_rfl) (by kernel_rfl) (by decide) hS 2 (by decide) hargs h

/-! (depository/compress.data).cost (3 parameters) -/
def c_compress_data_cost_0 : PC := .region [
  ⟨some 6, none, .mv (.const (.int .i64 0))⟩]
def c_compress_data_cost_1 : PC := .region [
  ⟨some 10, none, .mv (.tmp 1)⟩,
  ⟨some 11, none, .mv (.tmp 2)⟩,
  ⟨some 12, none, .bin .add (.tmp 11) (.const (.int .i64 1))⟩,
  ⟨some 13, none, .idxA 1 (.tmp 10) (.tmp 12)⟩,
  ⟨some 14, none, .load false 1 (.tmp 13)⟩,
  ⟨some 15, none, .bin .add (.const (.int .i64 9)) (.tmp 14)⟩,
  ⟨some 7, none, .mv (.tmp 15)⟩]
def c_compress_data_cost_2 : PC := .region [
  ⟨some 16, none, .mv (.tmp 0)⟩,
  ⟨some 17, none, .mv (.tmp 2)⟩,
  ⟨some 18, none, .call 98 [.tmp 16, .tmp 17]⟩,
  ⟨some 8, none, .mv (.const (.int .i64 3))⟩,
  ⟨some 9, none, .mv (.tmp 18)⟩]
def c_compress_data_cost_3 : PC := .region [
  ⟨some 19, none, .mv (.tmp 8)⟩,
  ⟨some 20, none, .mv (.tmp 9)⟩,
  ⟨some 21, none, .bin .leq (.tmp 19) (.tmp 20)⟩]
def c_compress_data_cost_4 : PC := .cond (.tmp 21) .skip (.exit 0)
def c_compress_data_cost_5 : PC := .seq c_compress_data_cost_3 c_compress_data_cost_4
def c_compress_data_cost_6 : PC := .region [
  ⟨some 24, none, .mv (.tmp 7)⟩,
  ⟨some 25, none, .mv (.tmp 1)⟩,
  ⟨some 26, none, .mv (.tmp 2)⟩,
  ⟨some 27, none, .mv (.tmp 8)⟩,
  ⟨some 28, none, .bin .add (.tmp 26) (.tmp 27)⟩,
  ⟨some 29, none, .idxA 1 (.tmp 25) (.tmp 28)⟩,
  ⟨some 30, none, .load false 1 (.tmp 29)⟩,
  ⟨some 31, none, .bin .add (.const (.int .i64 17)) (.tmp 30)⟩,
  ⟨some 32, none, .mm false (.tmp 24) (.tmp 31)⟩,
  ⟨some 7, none, .mv (.tmp 32)⟩]
def c_compress_data_cost_7 : PC := .block 1 c_compress_data_cost_6
def c_compress_data_cost_8 : PC := .region [
  ⟨some 22, none, .mv (.tmp 8)⟩,
  ⟨some 23, none, .bin .add (.tmp 22) (.const (.int .i64 1))⟩,
  ⟨some 8, none, .mv (.tmp 23)⟩]
def c_compress_data_cost_9 : PC := .seq c_compress_data_cost_7 c_compress_data_cost_8
def c_compress_data_cost_10 : PC := .seq c_compress_data_cost_5 c_compress_data_cost_9
def c_compress_data_cost_11 : PC := .loop [1, 2, 7, 8, 9] c_compress_data_cost_10
def c_compress_data_cost_12 : PC := .block 0 c_compress_data_cost_11
def c_compress_data_cost_13 : PC := .seq c_compress_data_cost_2 c_compress_data_cost_12
def c_compress_data_cost_14 : PC := .region [
  ⟨some 33, none, .mv (.tmp 7)⟩,
  ⟨some 6, none, .mv (.tmp 33)⟩]
def c_compress_data_cost_15 : PC := .seq c_compress_data_cost_14 .ret
def c_compress_data_cost_16 : PC := .seq c_compress_data_cost_13 c_compress_data_cost_15
def c_compress_data_cost_17 : PC := .seq c_compress_data_cost_1 c_compress_data_cost_16
def c_compress_data_cost_18 : PC := .seq c_compress_data_cost_0 c_compress_data_cost_17
def c_compress_data_cost : PC := c_compress_data_cost_18
def s_compress_data_cost : List Nat := [0, 1, 2, 6, 7, 8, 9]
def r_compress_data_cost : List (Nat × Option (Bool × Nat)) := [⟨6, none⟩]
theorem sound_compress_data_cost {Γ : Ctx} {S : Spec} (hΓ : Sound Go.Proofs.Try.prog Γ) (hS : FnOk S) (hargs : ∀ args K, S.run args K → args.length = 3) (h : Meets Γ s_compress_data_cost c_compress_data_cost r_compress_data_cost S) : SoundAt Go.Proofs.Try.prog n_compress_data_cost S := by
  have hb : ∃ c, Go.Proofs.Try.f67.body = some c ∧ compC Go.Proofs.Try.prog Go.Proofs.Try.f67.ntmps c = some (strip c_compress_data_cost) := ⟨_, rfl, by kernel_rfl⟩
  obtain ⟨c, hb, hc⟩ := hb
  exact meets_sound hΓ mixed (fn := Go.Proofs.Try.f67) (by kernel_rfl) (by kernel_rfl) hb hc (l := [.tmp 6]) (by kernel_rfl) (by kernel_rfl) (by decide) hS 3 (by decide) hargs h

/-! depository/depositoryref06.Cost (3 parameters) -/
def c_ref06_Cost_0 : PC := .region [
  ⟨some 6, none, .mv (.const (.int .i64 0))⟩]
def c_ref06_Cost_1 : PC := .region [
  ⟨some 11, none, .mv (.tmp 2)⟩,
  ⟨some 12, none, .mv (.tmp 0)⟩,
  ⟨some 13, none, .lenS (.tmp 12)⟩,
  ⟨some 14, none, .bin .eql (.tmp 11) (.tmp 13)⟩]
def c_ref06_Cost_2 : PC := .region [
  ⟨some 6, none, .mv (.const (.int .i64 0))⟩]
def c_ref06_Cost_3 : PC := .seq c_ref06_Cost_2 .ret
def c_ref06_Cost_4 : PC := .cond (.tmp 14) c_ref06_Cost_3 .skip
def c_ref06_Cost_5 : PC := .seq c_ref06_Cost_1 c_ref06_Cost_4
def c_ref06_Cost_6 : PC := .region [
  ⟨some 15, none, .mv (.tmp 1)⟩,
  ⟨some 16, none, .mv (.tmp 2)⟩,
  ⟨some 17, none, .bin .add (.tmp 16) (.const (.int .i64 1))⟩,
  ⟨some 18, none, .idxA 1 (.tmp 15) (.tmp 17)⟩,
  ⟨some 19, none, .load false 1 (.tmp 18)⟩,
  ⟨some 20, none, .bin .add (.const (.int .i64 9)) (.tmp 19)⟩,
  ⟨some 7, none, .mv (.tmp 20)⟩]
def c_ref06_Cost_7 : PC := .region [
  ⟨some 22, none, .mv (.tmp 0)⟩,
  ⟨some 23, none, .mv (.tmp 2)⟩,
  ⟨some 24, none, .call 53 [.tmp 22, .tmp 23]⟩,
  ⟨some 21, none, .mv (.tmp 24)⟩,
  ⟨some 25, none, .ext (.tmp 21) 0⟩,
  ⟨some 26, none, .ext (.tmp 21) 1⟩,
  ⟨some 8, none, .mv (.tmp 25)⟩,
  ⟨some 9, none, .mv (.tmp 26)⟩]
def c_ref06_Cost_8 : PC := .region [
  ⟨some 10, none, .mv (.const (.int .i64 3))⟩]
def c_ref06_Cost_9 : PC := .region [
  ⟨some 27, none, .mv (.tmp 10)⟩,
  ⟨some 28, none, .mv (.tmp 9)⟩,
  ⟨some 29, none, .bin .leq (.tmp 27) (.tmp 28)⟩]
def c_ref06_Cost_10 : PC := .cond (.tmp 29) .skip (.exit 0)
def c_ref06_Cost_11 : PC := .seq c_ref06_Cost_9 c_ref06_Cost_10
def c_ref06_Cost_12 : PC := .region [
  ⟨some 32, none, .mv (.tmp 7)⟩,
  ⟨some 33, none, .mv (.tmp 1)⟩,
  ⟨some 34, none, .mv (.tmp 2)⟩,
  ⟨some 35, none, .mv (.tmp 10)⟩,
  ⟨some 36, none, .bin .add (.tmp 34) (.tmp 35)⟩,
  ⟨some 37, none, .idxA 1 (.tmp 33) (.tmp 36)⟩,
  ⟨some 38, none, .load false 1 (.tmp 37)⟩,
  ⟨some 39, none, .bin .add (.const (.int .i64 17)) (.tmp 38)⟩,
  ⟨some 40, none, .mm false (.tmp 32) (.tmp 39)⟩,
  ⟨some 7, none, .mv (.tmp 40)⟩]
def c_ref06_Cost_13 : PC := .block 1 c_ref06_Cost_12
def c_ref06_Cost_14 : PC := .region [
  ⟨some 30, none, .mv (.tmp 10)⟩,
  ⟨some 31, none, .bin .add (.tmp 30) (.const (.int .i64 1))⟩,
  ⟨some 10, none, .mv (.tmp 31)⟩]
def c_ref06_Cost_15 : PC := .seq c_ref06_Cost_13 c_ref06_Cost_14
def c_ref06_Cost_16 : PC := .seq c_ref06_Cost_11 c_ref06_Cost_15
def c_ref06_Cost_17 : PC := .loop [1, 2, 7, 9, 10] c_ref06_Cost_16
def c_ref06_Cost_18 : PC := .block 0 c_ref06_Cost_17
def c_ref06_Cost_19 : PC := .seq c_ref06_Cost_8 c_ref06_Cost_18
def c_ref06_Cost_20 : PC := .region [
  ⟨some 41, none, .mv (.tmp 7)⟩,
  ⟨some 6, none, .mv (.tmp 41)⟩]
def c_ref06_Cost_21 : PC := .seq c_ref06_Cost_20 .ret
def c_ref06_Cost_22 : PC := .seq c_ref06_Cost_19 c_ref06_Cost_21
def c_ref06_Cost_23 : PC := .seq c_ref06_Cost_7 c_ref06_Cost_22
def c_ref06_Cost_24 : PC := .seq c_ref06_Cost_6 c_ref06_Cost_23
def c_ref06_Cost_25 : PC := .seq c_ref06_Cost_5 c_ref06_Cost_24
def c_ref06_Cost_26 : PC := .seq c_ref06_Cost_0 c_ref06_Cost_25
def c_ref06_Cost : PC := c_ref06_Cost_26
def s_ref06_Cost : List Nat := [0, 1, 2, 6, 7, 9, 10]
def r_ref06_Cost : List (Nat × Option (Bool × Nat)) := [⟨6, none⟩]
theorem sound_ref06_Cost {Γ : Ctx} {S : Spec} (hΓ : Sound Go.Proofs.Try.prog Γ) (hS : FnOk S) (hargs : ∀ args K, S.run args K → args.length = 3) (h : Meets Γ s_ref06_Cost c_ref06_Cost r_ref06_Cost S) : SoundAt Go.Proofs.Try.prog n_ref06_Cost S := by
  have hb : ∃ c, Go.Proofs.Try.f68.body = some c ∧ compC Go.Proofs.Try.prog Go.Proofs.Try.f68.ntmps c = some (strip c_ref06_Cost) := ⟨_, rfl, by kernel_rfl⟩
  obtain ⟨c, hb, hc⟩ := hb
  exact meets_sound hΓ mixed (fn := Go.Proofs.Try.f68) (by kernel_rfl) (by kernel_rfl) hb hc (l := [.tmp 6]) (by kernel_rfl) (by kernel_rfl) (by decide) hS 3 (by decide) hargs h

/-! depository/depositoryref06.Copy (1 parameters) -/
def c_ref06_Copy_0 : PC := .region [
  ⟨some 1, none, .box 68 (.tmp 0)⟩,
  ⟨some 2, none, .mv (.const (.bool false))⟩]
def c_ref06_Copy_1 : PC := .region [
  ⟨some 3, none, .fldA 0 (.tmp 1)⟩,
  ⟨some 4, none, .load false 1 (.tmp 3)⟩,
  ⟨some 5, none, .bin .neq (.tmp 4) (.const (.int .i64 0))⟩,
  ⟨some 2, none, .mv (.tmp 5)⟩]
def c_ref06_Copy_2 : PC := .seq c_ref06_Copy_1 .ret
def c_ref06_Copy_3 : PC := .seq c_ref06_Copy_0 c_ref06_Copy_2
def c_ref06_Copy : PC := c_ref06_Copy_3
def s_ref06_Copy : List Nat := [0, 1, 2]
def r_ref06_Copy : List (Nat × Option (Bool × Nat)) := [⟨2, none⟩]
theorem sound_ref06_Copy {Γ : Ctx} {S : Spec} (hΓ : Sound Go.Proofs.Try.prog Γ) (hS : FnOk S) (hargs : ∀ args K, S.run args K → args.length = 1) (h : Meets Γ s_ref06_Copy c_ref06_Copy r_ref06_Copy S) : SoundAt Go.Proofs.Try.prog n_ref06_Copy S := by
  have hb : ∃ c, Go.Proofs.Try.f69.body = some c ∧ compC Go.Proofs.Try.prog Go.Proofs.Try.f69.ntmps c = some (strip c_ref06_Copy) := ⟨_, rfl, by kernel_rfl⟩
  obtain ⟨c, hb, hc⟩ := hb
  exact meets_sound hΓ mixed (fn := Go.Proofs.Try.f69) (by kernel_rfl) (by kernel_rfl) hb hc (l := [.tmp 2]) (by kernel_rfl) (by kernel_rfl) (by decide) hS 1 (by decide) hargs h

/-! depository/compress.tokenErr (2 parameters) -/
def c_compress_tokenErr_0 : PC := .region [
  ⟨some 2, none, .box 68 (.tmp 0)⟩,
  ⟨some 4, none, .mv (.const (.int .i64 0))⟩]
def c_compress_tokenErr_1 : PC := .draw [
  ⟨some 7, none, .mv (.tmp 1)⟩,
  ⟨some 8, none, .bin .lss (.tmp 7) (.const (.int .i64 4096))⟩,
  ⟨some 9, none, .call 66 [.tmp 8, .const (.int .i64 8)]⟩,
  ⟨some 10, none, .load true 3 (.tmp 2)⟩,
  ⟨some 11, none, .call 86 [.tmp 10]⟩,
  ⟨some 12, none, .mv (.tmp 11)⟩,
  ⟨some 13, some (⟨12, true⟩), .fldA 2 (.tmp 2)⟩,
  ⟨some 14, some (⟨12, true⟩), .load false 1 (.tmp 13)⟩,
  ⟨some 15, some (⟨12, true⟩), .bin .eql (.tmp 14) (.const (.int .i64 0))⟩,
  ⟨some 16, none, .pick (.tmp 12) (.tmp 15) (.const (.bool false))⟩,
  ⟨some 17, none, .mv (.tmp 16)⟩,
  ⟨some 18, some (⟨17, false⟩), .load true 3 (.tmp 2)⟩,
  ⟨some 19, some (⟨17, false⟩), .call 86 [.tmp 18]⟩,
  ⟨some 20, some (⟨17, false⟩), .un .not (.tmp 19)⟩,
  ⟨some 21, some (⟨17, false⟩), .mv (.tmp 20)⟩,
  ⟨some 22, some (⟨21, true⟩), .fldA 1 (.tmp 2)⟩,
  ⟨some 23, some (⟨21, true⟩), .load false 1 (.tmp 22)⟩,
  ⟨some 24, some (⟨21, true⟩), .bin .eql (.tmp 23) (.const (.int .i64 0))⟩,
  ⟨some 25, some (⟨17, false⟩), .pick (.tmp 21) (.tmp 24) (.const (.bool false))⟩,
  ⟨some 26, none, .pick (.tmp 17) (.const (.bool true)) (.tmp 25)⟩,
  ⟨some 27, none, .call 66 [.tmp 26, .const (.int .i64 3)]⟩,
  ⟨some 28, none, .bslice 25 1 [.tmp 9, .tmp 27]⟩,
  ⟨some 29, none, .call 65 [.tmp 28]⟩,
  ⟨some 5, none, .mv (.tmp 29)⟩]
  [[], [0], [1], [], [3, 2], [4, 4], [5], [6, 5], [7, 5], [5, 8], [9, 5], [10], [11, 10, 10], [12, 10], [13, 12, 10], [14], [15, 14], [16, 14], [14, 17, 10], [10, 18], [19, 14], [2, 20], [21, 20], [22, 22, 0, 1, 2, 3, 4, 5, 6, 7, 8, 9, 10, 11, 12, 13, 14, 15, 16, 17, 18, 19, 20, 21, 22]]
def c_compress_tokenErr_2 : PC := .region [
  ⟨some 30, none, .mv (.tmp 5)⟩,
  ⟨some 31, none, .bin .neq (.tmp 30) (.const (.int .i64 0))⟩]
def c_compress_tokenErr_3 : PC := .region [
  ⟨some 32, none, .mv (.tmp 5)⟩,
  ⟨some 4, none, .mv (.tmp 32)⟩]
def c_compress_tokenErr_4 : PC := .seq c_compress_tokenErr_3 .ret
def c_compress_tokenErr_5 : PC := .cond (.tmp 31) c_compress_tokenErr_4 .skip
def c_compress_tokenErr_6 : PC := .seq c_compress_tokenErr_2 c_compress_tokenErr_5
def c_compress_tokenErr_7 : PC := .region [
  ⟨some 33, none, .fldA 2 (.tmp 2)⟩,
  ⟨some 34, none, .load false 1 (.tmp 33)⟩,
  ⟨some 35, none, .call 61 [.tmp 34, .const (.int .i64 0), .const (.int .i64 255)]⟩,
  ⟨some 6, none, .mv (.tmp 35)⟩]
def c_compress_tokenErr_8 : PC := .region [
  ⟨some 36, none, .load true 3 (.tmp 2)⟩,
  ⟨some 37, none, .call 86 [.tmp 36]⟩]
def c_compress_tokenErr_9 : PC := .draw [
  ⟨some 38, none, .fldA 0 (.tmp 2)⟩,
  ⟨some 39, none, .load false 1 (.tmp 38)⟩,
  ⟨some 40, none, .mv (.tmp 1)⟩,
  ⟨some 41, none, .call 61 [.tmp 39, .const (.int .i64 1), .tmp 40]⟩,
  ⟨some 42, none, .mv (.tmp 41)⟩,
  ⟨some 43, some (⟨42, true⟩), .fldA 1 (.tmp 2)⟩,
  ⟨some 44, some (⟨42, true⟩), .load false 1 (.tmp 43)⟩,
  ⟨some 45, some (⟨42, true⟩), .mv (.tmp 1)⟩,
  ⟨some 46, some (⟨42, true⟩), .call 99 [.tmp 45]⟩,
  ⟨some 47, some (⟨42, true⟩), .call 61 [.tmp 44, .const (.int .i64 3), .tmp 46]⟩,
  ⟨some 48, none, .pick (.tmp 42) (.tmp 47) (.const (.bool false))⟩,
  ⟨some 6, none, .mv (.tmp 48)⟩]
  [[], [0], [], [1, 2], [3, 3], [4], [5, 4], [4], [7, 4, 4], [6, 8, 8, 4], [4, 9], [10, 9, 0, 1, 2, 3, 4, 5, 6, 7, 8, 9, 10]]
def c_compress_tokenErr_10 : PC := .cond (.tmp 37) c_compress_tokenErr_9 .skip
def c_compress_tokenErr_11 : PC := .seq c_compress_tokenErr_8 c_compress_tokenErr_10
def c_compress_tokenErr_12 : PC := .draw [
  ⟨some 49, none, .mv (.tmp 6)⟩,
  ⟨some 50, none, .call 66 [.tmp 49, .const (.int .i64 2)]⟩,
  ⟨some 51, none, .load true 3 (.tmp 2)⟩,
  ⟨some 52, none, .call 51 [.tmp 51]⟩,
  ⟨some 53, none, .mv (.tmp 1)⟩,
  ⟨some 54, none, .bin .sub (.const (.int .i64 4096)) (.tmp 53)⟩,
  ⟨some 55, none, .bin .leq (.tmp 52) (.tmp 54)⟩,
  ⟨some 56, none, .call 66 [.tmp 55, .const (.int .i64 8)]⟩,
  ⟨some 57, none, .bslice 25 1 [.tmp 50, .tmp 56]⟩,
  ⟨some 58, none, .call 65 [.tmp 57]⟩,
  ⟨some 4, none, .mv (.tmp 58)⟩]
  [[], [0], [], [2, 1], [], [4], [3, 5], [6, 3], [1, 7], [8, 7], [9, 9, 0, 1, 2, 3, 4, 5, 6, 7, 8, 9]]
def c_compress_tokenErr_13 : PC := .seq c_compress_tokenErr_12 .ret
def c_compress_tokenErr_14 : PC := .seq c_compress_tokenErr_11 c_compress_tokenErr_13
def c_compress_tokenErr_15 : PC := .seq c_compress_tokenErr_7 c_compress_tokenErr_14
def c_compress_tokenErr_16 : PC := .seq c_compress_tokenErr_6 c_compress_tokenErr_15
def c_compress_tokenErr_17 : PC := .seq c_compress_tokenErr_1 c_compress_tokenErr_16
def c_compress_tokenErr_18 : PC := .seq c_compress_tokenErr_0 c_compress_tokenErr_17
def c_compress_tokenErr : PC := c_compress_tokenErr_18
def s_compress_tokenErr : List Nat := [0, 1, 2, 4, 5, 6]
def r_compress_tokenErr : List (Nat × Option (Bool × Nat)) := [⟨4, none⟩]
theorem sound_compress_tokenErr {Γ : Ctx} {S : Spec} (hΓ : Sound Go.Proofs.Try.prog Γ) (hS : FnOk S) (hargs : ∀ args K, S.run args K → args.length = 2) (h : Meets Γ s_compress_tokenErr c_compress_tokenErr r_compress_tokenErr S) : SoundAt Go.Proofs.Try.prog n_compress_tokenErr S := by
  have hb : ∃ c, Go.Proofs.Try.f70.body = some c ∧ compC Go.Proofs.Try.prog Go.Proofs.Try.f70.ntmps c = some (strip c_compress_tokenErr) := ⟨_, rfl, by kernel_rfl⟩
  obtain ⟨c, hb, hc⟩ := hb
  exact meets_sound hΓ mixed (fn := Go.Proofs.Try.f70) (by kernel_rfl) (by kernel_rfl) hb hc (l := [.tmp 4]) (by kernel_rfl) (by kernel_rfl) (by decide) hS 2 (by decide) hargs h

/-! depository/compress.expanded (1 parameters) -/
def c_compress_expanded_0 : PC := .region [
  ⟨some 2, none, .mv (.const (.string (ByteArray.mk (Array.mk []))))⟩]
def c_compress_expanded_1 : PC := .region [
  ⟨some 3, none, .nilR 5 1⟩]
def c_compress_expanded_2 : PC := .region [
  ⟨some 6, none, .mv (.tmp 0)⟩,
  ⟨some 7, none, .lenR (.tmp 6)⟩,
  ⟨some 8, none, .mv (.const (.int .i64 0))⟩]
def c_compress_expanded_3 : PC := .region [
  ⟨some 9, none, .bin .lss (.tmp 8) (.tmp 7)⟩]
def c_compress_expanded_4 : PC := .cond (.tmp 9) .skip (.exit 0)
def c_compress_expanded_5 : PC := .region [
  ⟨some 10, none, .idxA 3 (.tmp 6) (.tmp 8)⟩,
  ⟨some 11, none, .load true 3 (.tmp 10)⟩,
  ⟨some 5, none, .alloc 68 (.agg [.int .i64 0, .int .i64 0, .int .i64 0])⟩,
  ⟨none, none, .store 3 (.tmp 5) (.tmp 11)⟩]
def c_compress_expanded_6 : PC := .region [
  ⟨some 12, none, .load true 3 (.tmp 5)⟩,
  ⟨some 13, none, .call 86 [.tmp 12]⟩,
  ⟨some 14, none, .un .not (.tmp 13)⟩]
def c_compress_expanded_7 : PC := .region [
  ⟨some 15, none, .mv (.tmp 3)⟩,
  ⟨some 16, none, .fldA 2 (.tmp 5)⟩,
  ⟨some 17, none, .load false 1 (.tmp 16)⟩,
  ⟨some 18, none, .conv (.toInt .u8) (.tmp 17)⟩,
  ⟨some 19, none, .bslice 5 1 [.tmp 18]⟩,
  ⟨some 20, none, .app 5 1 1 (.tmp 15) (.tmp 19)⟩,
  ⟨some 3, none, .mv (.tmp 20)⟩]
def c_compress_expanded_8 : PC := .seq c_compress_expanded_7 (.exit 1)
def c_compress_expanded_9 : PC := .cond (.tmp 14) c_compress_expanded_8 .skip
def c_compress_expanded_10 : PC := .seq c_compress_expanded_6 c_compress_expanded_9
def c_compress_expanded_11 : PC := .region [
  ⟨some 21, none, .fldA 1 (.tmp 5)⟩,
  ⟨some 22, none, .load false 1 (.tmp 21)⟩,
  ⟨some 23, none, .mv (.const (.int .i64 0))⟩]
def c_compress_expanded_12 : PC := .region [
  ⟨some 24, none, .bin .lss (.tmp 23) (.tmp 22)⟩]
def c_compress_expanded_13 : PC := .cond (.tmp 24) .skip (.exit 2)
def c_compress_expanded_14 : PC := .region [
  ⟨some 25, none, .mv (.tmp 3)⟩,
  ⟨some 26, none, .mv (.tmp 3)⟩,
  ⟨some 27, none, .mv (.tmp 3)⟩,
  ⟨some 28, none, .lenR (.tmp 27)⟩,
  ⟨some 29, none, .fldA 0 (.tmp 5)⟩,
  ⟨some 30, none, .load false 1 (.tmp 29)⟩,
  ⟨some 31, none, .bin .sub (.tmp 28) (.tmp 30)⟩,
  ⟨some 32, none, .idxA 1 (.tmp 26) (.tmp 31)⟩,
  ⟨some 33, none, .load false 1 (.tmp 32)⟩,
  ⟨some 34, none, .bslice 5 1 [.tmp 33]⟩,
  ⟨some 35, none, .app 5 1 1 (.tmp 25) (.tmp 34)⟩,
  ⟨some 3, none, .mv (.tmp 35)⟩]
def c_compress_expanded_15 : PC := .block 3 c_compress_expanded_14
def c_compress_expanded_16 : PC := .region [
  ⟨some 36, none, .bin .add (.tmp 23) (.const (.int .i64 1))⟩,
  ⟨some 23, none, .mv (.tmp 36)⟩]
def c_compress_expanded_17 : PC := .seq c_compress_expanded_15 c_compress_expanded_16
def c_compress_expanded_18 : PC := .seq c_compress_expanded_13 c_compress_expanded_17
def c_compress_expanded_19 : PC := .seq c_compress_expanded_12 c_compress_expanded_18
def c_compress_expanded_20 : PC := .loop [3, 5, 6, 7, 8, 22, 23] c_compress_expanded_19
def c_compress_expanded_21 : PC := .block 2 c_compress_expanded_20
def c_compress_expanded_22 : PC := .seq c_compress_expanded_11 c_compress_expanded_21
def c_compress_expanded_23 : PC := .seq c_compress_expanded_10 c_compress_expanded_22
def c_compress_expanded_24 : PC := .seq c_compress_expanded_5 c_compress_expanded_23
def c_compress_expanded_25 : PC := .block 1 c_compress_expanded_24
def c_compress_expanded_26 : PC := .region [
  ⟨some 37, none, .bin .add (.tmp 8) (.const (.int .i64 1))⟩,
  ⟨some 8, none, .mv (.tmp 37)⟩]
def c_compress_expanded_27 : PC := .seq c_compress_expanded_25 c_compress_expanded_26
def c_compress_expanded_28 : PC := .seq c_compress_expanded_4 c_compress_expanded_27
def c_compress_expanded_29 : PC := .seq c_compress_expanded_3 c_compress_expanded_28
def c_compress_expanded_30 : PC := .loop [3, 6, 7, 8] c_compress_expanded_29
def c_compress_expanded_31 : PC := .block 0 c_compress_expanded_30
def c_compress_expanded_32 : PC := .seq c_compress_expanded_2 c_compress_expanded_31
def c_compress_expanded_33 : PC := .region [
  ⟨some 38, none, .mv (.tmp 3)⟩,
  ⟨some 39, none, .conv .bts (.tmp 38)⟩,
  ⟨some 2, none, .mv (.tmp 39)⟩]
def c_compress_expanded_34 : PC := .seq c_compress_expanded_33 .ret
def c_compress_expanded_35 : PC := .seq c_compress_expanded_32 c_compress_expanded_34
def c_compress_expanded_36 : PC := .seq c_compress_expanded_1 c_compress_expanded_35
def c_compress_expanded_37 : PC := .seq c_compress_expanded_0 c_compress_expanded_36
def c_compress_expanded : PC := c_compress_expanded_37
def s_compress_expanded : List Nat := [0, 2, 3, 5, 6, 7, 8, 22, 23]
def r_compress_expanded : List (Nat × Option (Bool × Nat)) := [⟨2, none⟩]
theorem sound_compress_expanded {Γ : Ctx} {S : Spec} (hΓ : Sound Go.Proofs.Try.prog Γ) (hS : FnOk S) (hargs : ∀ args K, S.run args K → args.length = 1) (h : Meets Γ s_compress_expanded c_compress_expanded r_compress_expanded S) : SoundAt Go.Proofs.Try.prog n_compress_expanded S := by
  have hb : ∃ c, Go.Proofs.Try.f71.body = some c ∧ compC Go.Proofs.Try.prog Go.Proofs.Try.f71.ntmps c = some (strip c_compress_expanded) := ⟨_, rfl, by kernel_rfl⟩
  obtain ⟨c, hb, hc⟩ := hb
  exact meets_sound hΓ mixed (fn := Go.Proofs.Try.f71) (by kernel_rfl) (by kernel_rfl) hb hc (l := [.tmp 2]) (by kernel_rfl) (by kernel_rfl) (by decide) hS 1 (by decide) hargs h

/-! depository/depositoryref06.TokenErr (2 parameters) -/
def c_ref06_TokenErr_0 : PC := .region [
  ⟨some 2, none, .box 68 (.tmp 0)⟩,
  ⟨some 4, none, .mv (.const (.int .i64 0))⟩]
def c_ref06_TokenErr_1 : PC := .region [
  ⟨some 5, none, .mv (.tmp 1)⟩,
  ⟨some 6, none, .bin .geq (.tmp 5) (.const (.int .i64 4096))⟩]
def c_ref06_TokenErr_2 : PC := .region [
  ⟨some 4, none, .mv (.const (.int .i64 8))⟩]
def c_ref06_TokenErr_3 : PC := .seq c_ref06_TokenErr_2 .ret
def c_ref06_TokenErr_4 : PC := .cond (.tmp 6) c_ref06_TokenErr_3 .skip
def c_ref06_TokenErr_5 : PC := .seq c_ref06_TokenErr_1 c_ref06_TokenErr_4
def c_ref06_TokenErr_6 : PC := .region [
  ⟨some 7, none, .load true 3 (.tmp 2)⟩,
  ⟨some 8, none, .call 69 [.tmp 7]⟩,
  ⟨some 9, none, .un .not (.tmp 8)⟩,
  ⟨some 10, none, .mv (.tmp 9)⟩,
  ⟨some 11, some (⟨10, true⟩), .fldA 1 (.tmp 2)⟩,
  ⟨some 12, some (⟨10, true⟩), .load false 1 (.tmp 11)⟩,
  ⟨some 13, some (⟨10, true⟩), .bin .neq (.tmp 12) (.const (.int .i64 0))⟩,
  ⟨some 14, none, .pick (.tmp 10) (.tmp 13) (.const (.bool false))⟩,
  ⟨some 15, none, .mv (.tmp 14)⟩,
  ⟨some 16, some (⟨15, false⟩), .load true 3 (.tmp 2)⟩,
  ⟨some 17, some (⟨15, false⟩), .call 69 [.tmp 16]⟩,
  ⟨some 18, some (⟨15, false⟩), .mv (.tmp 17)⟩,
  ⟨some 19, some (⟨18, true⟩), .fldA 2 (.tmp 2)⟩,
  ⟨some 20, some (⟨18, true⟩), .load false 1 (.tmp 19)⟩,
  ⟨some 21, some (⟨18, true⟩), .bin .neq (.tmp 20) (.const (.int .i64 0))⟩,
  ⟨some 22, some (⟨15, false⟩), .pick (.tmp 18) (.tmp 21) (.const (.bool false))⟩,
  ⟨some 23, none, .pick (.tmp 15) (.const (.bool true)) (.tmp 22)⟩]
def c_ref06_TokenErr_7 : PC := .region [
  ⟨some 4, none, .mv (.const (.int .i64 3))⟩]
def c_ref06_TokenErr_8 : PC := .seq c_ref06_TokenErr_7 .ret
def c_ref06_TokenErr_9 : PC := .cond (.tmp 23) c_ref06_TokenErr_8 .skip
def c_ref06_TokenErr_10 : PC := .seq c_ref06_TokenErr_6 c_ref06_TokenErr_9
def c_ref06_TokenErr_11 : PC := .region [
  ⟨some 24, none, .load true 3 (.tmp 2)⟩,
  ⟨some 25, none, .call 69 [.tmp 24]⟩,
  ⟨some 26, none, .un .not (.tmp 25)⟩,
  ⟨some 27, none, .mv (.tmp 26)⟩,
  ⟨some 28, some (⟨27, true⟩), .fldA 2 (.tmp 2)⟩,
  ⟨some 29, some (⟨27, true⟩), .load false 1 (.tmp 28)⟩,
  ⟨some 30, some (⟨27, true⟩), .call 23 [.tmp 29, .const (.int .i64 0), .const (.int .i64 255)]⟩,
  ⟨some 31, some (⟨27, true⟩), .un .not (.tmp 30)⟩,
  ⟨some 32, none, .pick (.tmp 27) (.tmp 31) (.const (.bool false))⟩]
def c_ref06_TokenErr_12 : PC := .region [
  ⟨some 4, none, .mv (.const (.int .i64 2))⟩]
def c_ref06_TokenErr_13 : PC := .seq c_ref06_TokenErr_12 .ret
def c_ref06_TokenErr_14 : PC := .cond (.tmp 32) c_ref06_TokenErr_13 .skip
def c_ref06_TokenErr_15 : PC := .seq c_ref06_TokenErr_11 c_ref06_TokenErr_14
def c_ref06_TokenErr_16 : PC := .draw [
  ⟨some 33, none, .load true 3 (.tmp 2)⟩,
  ⟨some 34, none, .call 69 [.tmp 33]⟩,
  ⟨some 35, none, .mv (.tmp 34)⟩,
  ⟨some 36, some (⟨35, true⟩), .fldA 0 (.tmp 2)⟩,
  ⟨some 37, some (⟨35, true⟩), .load false 1 (.tmp 36)⟩,
  ⟨some 38, some (⟨35, true⟩), .mv (.tmp 1)⟩,
  ⟨some 39, some (⟨35, true⟩), .call 23 [.tmp 37, .const (.int .i64 1), .tmp 38]⟩,
  ⟨some 40, some (⟨35, true⟩), .un .not (.tmp 39)⟩,
  ⟨some 41, some (⟨35, true⟩), .mv (.tmp 40)⟩,
  ⟨some 42, some (⟨41, false⟩), .fldA 1 (.tmp 2)⟩,
  ⟨some 43, some (⟨41, false⟩), .load false 1 (.tmp 42)⟩,
  ⟨some 44, some (⟨41, false⟩), .mv (.tmp 1)⟩,
  ⟨some 45, some (⟨41, false⟩), .call 87 [.tmp 44]⟩,
  ⟨some 46, some (⟨41, false⟩), .call 23 [.tmp 43, .const (.int .i64 3), .tmp 45]⟩,
  ⟨some 47, some (⟨41, false⟩), .un .not (.tmp 46)⟩,
  ⟨some 48, some (⟨35, true⟩), .pick (.tmp 41) (.const (.bool true)) (.tmp 47)⟩,
  ⟨some 49, none, .pick (.tmp 35) (.tmp 48) (.const (.bool false))⟩]
  [[], [0], [1, 1], [2], [3, 2], [2], [4, 5, 2, 2], [6, 2], [7, 6, 2], [8], [9, 8], [8], [11, 8, 8], [10, 12, 12, 8], [13, 8], [8, 14, 2], [2, 15]]
def c_ref06_TokenErr_17 : PC := .region [
  ⟨some 4, none, .mv (.const (.int .i64 2))⟩]
def c_ref06_TokenErr_18 : PC := .seq c_ref06_TokenErr_17 .ret
def c_ref06_TokenErr_19 : PC := .cond (.tmp 49) c_ref06_TokenErr_18 .skip
def c_ref06_TokenErr_20 : PC := .seq c_ref06_TokenErr_16 c_ref06_TokenErr_19
def c_ref06_TokenErr_21 : PC := .region [
  ⟨some 50, none, .load true 3 (.tmp 2)⟩,
  ⟨some 51, none, .call 69 [.tmp 50]⟩,
  ⟨some 52, none, .mv (.tmp 51)⟩,
  ⟨some 53, some (⟨52, true⟩), .fldA 1 (.tmp 2)⟩,
  ⟨some 54, some (⟨52, true⟩), .load false 1 (.tmp 53)⟩,
  ⟨some 55, some (⟨52, true⟩), .mv (.tmp 1)⟩,
  ⟨some 56, some (⟨52, true⟩), .bin .sub (.const (.int .i64 4096)) (.tmp 55)⟩,
  ⟨some 57, some (⟨52, true⟩), .bin .gtr (.tmp 54) (.tmp 56)⟩,
  ⟨some 58, none, .pick (.tmp 52) (.tmp 57) (.const (.bool false))⟩]
def c_ref06_TokenErr_22 : PC := .region [
  ⟨some 4, none, .mv (.const (.int .i64 8))⟩]
def c_ref06_TokenErr_23 : PC := .seq c_ref06_TokenErr_22 .ret
def c_ref06_TokenErr_24 : PC := .cond (.tmp 58) c_ref06_TokenErr_23 .skip
def c_ref06_TokenErr_25 : PC := .seq c_ref06_TokenErr_21 c_ref06_TokenErr_24
def c_ref06_TokenErr_26 : PC := .region [
  ⟨some 4, none, .mv (.const (.int .i64 0))⟩]
def c_ref06_TokenErr_27 : PC := .seq c_ref06_TokenErr_26 .ret
def c_ref06_TokenErr_28 : PC := .seq c_ref06_TokenErr_25 c_ref06_TokenErr_27
def c_ref06_TokenErr_29 : PC := .seq c_ref06_TokenErr_20 c_ref06_TokenErr_28
def c_ref06_TokenErr_30 : PC := .seq c_ref06_TokenErr_15 c_ref06_TokenErr_29
def c_ref06_TokenErr_31 : PC := .seq c_ref06_TokenErr_10 c_ref06_TokenErr_30
def c_ref06_TokenErr_32 : PC := .seq c_ref06_TokenErr_5 c_ref06_TokenErr_31
def c_ref06_TokenErr_33 : PC := .seq c_ref06_TokenErr_0 c_ref06_TokenErr_32
def c_ref06_TokenErr : PC := c_ref06_TokenErr_33
def s_ref06_TokenErr : List Nat := [0, 1, 2, 4]
def r_ref06_TokenErr : List (Nat × Option (Bool × Nat)) := [⟨4, none⟩]
theorem sound_ref06_TokenErr {Γ : Ctx} {S : Spec} (hΓ : Sound Go.Proofs.Try.prog Γ) (hS : FnOk S) (hargs : ∀ args K, S.run args K → args.length = 2) (h : Meets Γ s_ref06_TokenErr c_ref06_TokenErr r_ref06_TokenErr S) : SoundAt Go.Proofs.Try.prog n_ref06_TokenErr S := by
  have hb : ∃ c, Go.Proofs.Try.f72.body = some c ∧ compC Go.Proofs.Try.prog Go.Proofs.Try.f72.ntmps c = some (strip c_ref06_TokenErr) := ⟨_, rfl, by kernel_rfl⟩
  obtain ⟨c, hb, hc⟩ := hb
  exact meets_sound hΓ mixed (fn := Go.Proofs.Try.f72) (by kernel_rfl) (by kernel_rfl) hb hc (l := [.tmp 4]) (by kernel_rfl) (by kernel_rfl) (by decide) hS 2 (by decide) hargs h

/-! depository/compress.opened (2 parameters) -/
def c_compress_opened_0 : PC := .region [
  ⟨some 4, none, .mv (.const (.string (ByteArray.mk (Array.mk []))))⟩,
  ⟨some 5, none, .mv (.const (.bool false))⟩,
  ⟨some 6, none, .mv (.const (.int .i64 0))⟩]
def c_compress_opened_1 : PC := .region [
  ⟨some 12, none, .mv (.tmp 0)⟩,
  ⟨some 13, none, .lenS (.tmp 12)⟩,
  ⟨some 14, none, .bin .lss (.tmp 13) (.const (.int .i64 2))⟩]
def c_compress_opened_2 : PC := .region [
  ⟨some 4, none, .mv (.const (.string (ByteArray.mk (Array.mk []))))⟩,
  ⟨some 5, none, .mv (.const (.bool false))⟩,
  ⟨some 6, none, .mv (.const (.int .i64 14))⟩]
def c_compress_opened_3 : PC := .seq c_compress_opened_2 .ret
def c_compress_opened_4 : PC := .cond (.tmp 14) c_compress_opened_3 .skip
def c_compress_opened_5 : PC := .seq c_compress_opened_1 c_compress_opened_4
def c_compress_opened_6 : PC := .region [
  ⟨some 15, none, .mv (.tmp 0)⟩,
  ⟨some 16, none, .call 100 [.tmp 15]⟩,
  ⟨some 7, none, .mv (.tmp 16)⟩]
def c_compress_opened_7 : PC := .region [
  ⟨some 17, none, .mv (.tmp 7)⟩,
  ⟨some 18, none, .bin .and (.tmp 17) (.const (.int .i64 4095))⟩,
  ⟨some 19, none, .bin .add (.tmp 18) (.const (.int .i64 1))⟩,
  ⟨some 8, none, .mv (.tmp 19)⟩]
def c_compress_opened_8 : PC := .region [
  ⟨some 20, none, .mv (.tmp 0)⟩,
  ⟨some 21, none, .slcS (.tmp 20) (some (.const (.int .i64 2))) none⟩,
  ⟨some 9, none, .mv (.tmp 21)⟩]
def c_compress_opened_9 : PC := .region [
  ⟨some 22, none, .mv (.tmp 7)⟩,
  ⟨some 23, none, .bin .shr (.tmp 22) (.const (.int .u64 12))⟩,
  ⟨some 24, none, .bin .and (.tmp 23) (.const (.int .i64 7))⟩,
  ⟨some 25, none, .bin .eql (.tmp 24) (.const (.int .i64 3))⟩,
  ⟨some 26, none, .call 66 [.tmp 25, .const (.int .i64 3)]⟩,
  ⟨some 10, none, .mv (.tmp 26)⟩]
def c_compress_opened_10 : PC := .region [
  ⟨some 27, none, .mv (.tmp 7)⟩,
  ⟨some 28, none, .bin .and (.tmp 27) (.const (.int .i64 32768))⟩,
  ⟨some 29, none, .bin .neq (.tmp 28) (.const (.int .i64 0))⟩,
  ⟨some 11, none, .mv (.tmp 29)⟩]
def c_compress_opened_11 : PC := .region [
  ⟨some 30, none, .mv (.tmp 10)⟩,
  ⟨some 31, none, .bin .neq (.tmp 30) (.const (.int .i64 0))⟩]
def c_compress_opened_12 : PC := .region [
  ⟨some 32, none, .mv (.tmp 11)⟩,
  ⟨some 33, none, .mv (.tmp 10)⟩,
  ⟨some 4, none, .mv (.const (.string (ByteArray.mk (Array.mk []))))⟩,
  ⟨some 5, none, .mv (.tmp 32)⟩,
  ⟨some 6, none, .mv (.tmp 33)⟩]
def c_compress_opened_13 : PC := .seq c_compress_opened_12 .ret
def c_compress_opened_14 : PC := .cond (.tmp 31) c_compress_opened_13 .skip
def c_compress_opened_15 : PC := .seq c_compress_opened_11 c_compress_opened_14
def c_compress_opened_16 : PC := .region [
  ⟨some 34, none, .mv (.tmp 9)⟩,
  ⟨some 35, none, .lenS (.tmp 34)⟩,
  ⟨some 36, none, .mv (.tmp 8)⟩,
  ⟨some 37, none, .bin .lss (.tmp 35) (.tmp 36)⟩,
  ⟨some 38, none, .mv (.tmp 37)⟩,
  ⟨some 39, some (⟨38, false⟩), .mv (.tmp 1)⟩,
  ⟨some 40, some (⟨38, false⟩), .mv (.tmp 39)⟩,
  ⟨some 41, some (⟨40, true⟩), .mv (.tmp 9)⟩,
  ⟨some 42, some (⟨40, true⟩), .lenS (.tmp 41)⟩,
  ⟨some 43, some (⟨40, true⟩), .mv (.tmp 8)⟩,
  ⟨some 44, some (⟨40, true⟩), .bin .gtr (.tmp 42) (.tmp 43)⟩,
  ⟨some 45, some (⟨38, false⟩), .pick (.tmp 40) (.tmp 44) (.const (.bool false))⟩,
  ⟨some 46, none, .pick (.tmp 38) (.const (.bool true)) (.tmp 45)⟩]
def c_compress_opened_17 : PC := .region [
  ⟨some 47, none, .mv (.tmp 11)⟩,
  ⟨some 4, none, .mv (.const (.string (ByteArray.mk (Array.mk []))))⟩,
  ⟨some 5, none, .mv (.tmp 47)⟩,
  ⟨some 6, none, .mv (.const (.int .i64 10))⟩]
def c_compress_opened_18 : PC := .seq c_compress_opened_17 .ret
def c_compress_opened_19 : PC := .cond (.tmp 46) c_compress_opened_18 .skip
def c_compress_opened_20 : PC := .seq c_compress_opened_16 c_compress_opened_19
def c_compress_opened_21 : PC := .region [
  ⟨some 48, none, .mv (.tmp 9)⟩,
  ⟨some 49, none, .mv (.tmp 8)⟩,
  ⟨some 50, none, .slcS (.tmp 48) none (some (.tmp 49))⟩,
  ⟨some 51, none, .mv (.tmp 11)⟩,
  ⟨some 4, none, .mv (.tmp 50)⟩,
  ⟨some 5, none, .mv (.tmp 51)⟩,
  ⟨some 6, none, .mv (.const (.int .i64 0))⟩]
def c_compress_opened_22 : PC := .seq c_compress_opened_21 .ret
def c_compress_opened_23 : PC := .seq c_compress_opened_20 c_compress_opened_22
def c_compress_opened_24 : PC := .seq c_compress_opened_15 c_compress_opened_23
def c_compress_opened_25 : PC := .seq c_compress_opened_10 c_compress_opened_24
def c_compress_opened_26 : PC := .seq c_compress_opened_9 c_compress_opened_25
def c_compress_opened_27 : PC := .seq c_compress_opened_8 c_compress_opened_26
def c_compress_opened_28 : PC := .seq c_compress_opened_7 c_compress_opened_27
def c_compress_opened_29 : PC := .seq c_compress_opened_6 c_compress_opened_28
def c_compress_opened_30 : PC := .seq c_compress_opened_5 c_compress_opened_29
def c_compress_opened_31 : PC := .seq c_compress_opened_0 c_compress_opened_30
def c_compress_opened : PC := c_compress_opened_31
def s_compress_opened : List Nat := [0, 1, 4, 5, 6, 7, 8, 9, 10, 11]
def r_compress_opened : List (Nat × Option (Bool × Nat)) := [⟨4, none⟩, ⟨5, none⟩, ⟨6, none⟩]
theorem sound_compress_opened {Γ : Ctx} {S : Spec} (hΓ : Sound Go.Proofs.Try.prog Γ) (hS : FnOk S) (hargs : ∀ args K, S.run args K → args.length = 2) (h : Meets Γ s_compress_opened c_compress_opened r_compress_opened S) : SoundAt Go.Proofs.Try.prog n_compress_opened S := by
  have hb : ∃ c, Go.Proofs.Try.f73.body = some c ∧ compC Go.Proofs.Try.prog Go.Proofs.Try.f73.ntmps c = some (strip c_compress_opened) := ⟨_, rfl, by kernel_rfl⟩
  obtain ⟨c, hb, hc⟩ := hb
  exact meets_sound hΓ mixed (fn := Go.Proofs.Try.f73) (by kernel_rfl) (by kernel_rfl) hb hc (l := [.tmp 4, .tmp 5, .tmp 6]) (by kernel_rfl) (by kernel_rfl) (by decide) hS 2 (by decide) hargs h

/-! depository/compress.tokens (1 parameters) -/
def c_compress_tokens_0 : PC := .region [
  ⟨some 2, none, .nilR 68 3⟩,
  ⟨some 3, none, .mv (.const (.int .i64 0))⟩]
def c_compress_tokens_1 : PC := .region [
  ⟨some 4, none, .nilR 68 3⟩]
def c_compress_tokens_2 : PC := .region [
  ⟨some 5, none, .mv (.const (.int .i64 0))⟩]
def c_compress_tokens_3 : PC := .region [
  ⟨some 14, none, .mv (.tmp 0)⟩,
  ⟨some 15, none, .bin .neq (.tmp 14) (.const (.string (ByteArray.mk (Array.mk []))))⟩]
def c_compress_tokens_4 : PC := .cond (.tmp 15) .skip (.exit 0)
def c_compress_tokens_5 : PC := .seq c_compress_tokens_3 c_compress_tokens_4
def c_compress_tokens_6 : PC := .region [
  ⟨some 16, none, .mv (.tmp 0)⟩,
  ⟨some 17, none, .idx (.tmp 16) (.const (.int .i64 0))⟩,
  ⟨some 6, none, .mv (.tmp 17)⟩]
def c_compress_tokens_7 : PC := .region [
  ⟨some 18, none, .mv (.tmp 0)⟩,
  ⟨some 19, none, .slcS (.tmp 18) (some (.const (.int .i64 1))) none⟩,
  ⟨some 0, none, .mv (.tmp 19)⟩]
def c_compress_tokens_8 : PC := .region [
  ⟨some 20, none, .mv (.tmp 0)⟩,
  ⟨some 21, none, .bin .eql (.tmp 20) (.const (.string (ByteArray.mk (Array.mk []))))⟩]
def c_compress_tokens_9 : PC := .region [
  ⟨some 2, none, .nilR 68 3⟩,
  ⟨some 3, none, .mv (.const (.int .i64 14))⟩]
def c_compress_tokens_10 : PC := .seq c_compress_tokens_9 .ret
def c_compress_tokens_11 : PC := .cond (.tmp 21) c_compress_tokens_10 .skip
def c_compress_tokens_12 : PC := .seq c_compress_tokens_8 c_compress_tokens_11
def c_compress_tokens_13 : PC := .region [
  ⟨some 22, none, .mv (.const (.int .i64 0))⟩]
def c_compress_tokens_14 : PC := .region [
  ⟨some 23, none, .bin .lss (.tmp 22) (.const (.int .i64 8))⟩]
def c_compress_tokens_15 : PC := .cond (.tmp 23) .skip (.exit 2)
def c_compress_tokens_16 : PC := .region [
  ⟨some 24, none, .mv (.tmp 22)⟩,
  ⟨some 7, none, .mv (.tmp 24)⟩]
def c_compress_tokens_17 : PC := .region [
  ⟨some 25, none, .mv (.tmp 6)⟩,
  ⟨some 26, none, .mv (.tmp 7)⟩,
  ⟨some 27, none, .bin .shr (.tmp 25) (.tmp 26)⟩,
  ⟨some 28, none, .bin .and (.tmp 27) (.const (.int .u8 1))⟩,
  ⟨some 8, none, .mv (.tmp 28)⟩]
def c_compress_tokens_18 : PC := .region [
  ⟨some 29, none, .mv (.tmp 0)⟩,
  ⟨some 30, none, .bin .eql (.tmp 29) (.const (.string (ByteArray.mk (Array.mk []))))⟩]
def c_compress_tokens_19 : PC := .region [
  ⟨some 31, none, .mv (.tmp 8)⟩,
  ⟨some 32, none, .bin .eql (.tmp 31) (.const (.int .u8 1))⟩]
def c_compress_tokens_20 : PC := .region [
  ⟨some 2, none, .nilR 68 3⟩,
  ⟨some 3, none, .mv (.const (.int .i64 3))⟩]
def c_compress_tokens_21 : PC := .seq c_compress_tokens_20 .ret
def c_compress_tokens_22 : PC := .cond (.tmp 32) c_compress_tokens_21 .skip
def c_compress_tokens_23 : PC := .seq c_compress_tokens_19 c_compress_tokens_22
def c_compress_tokens_24 : PC := .seq c_compress_tokens_23 (.exit 3)
def c_compress_tokens_25 : PC := .cond (.tmp 30) c_compress_tokens_24 .skip
def c_compress_tokens_26 : PC := .seq c_compress_tokens_18 c_compress_tokens_25
def c_compress_tokens_27 : PC := .region [
  ⟨some 33, none, .mv (.tmp 0)⟩,
  ⟨some 34, none, .idx (.tmp 33) (.const (.int .i64 0))⟩,
  ⟨some 35, none, .conv (.toInt .i64) (.tmp 34)⟩,
  ⟨some 36, none, .build [.int .i64 0, .int .i64 0, .int .i64 0] [⟨2, ⟨1, .tmp 35⟩⟩]⟩,
  ⟨some 9, none, .alloc 68 (.agg [.int .i64 0, .int .i64 0, .int .i64 0])⟩,
  ⟨none, none, .store 3 (.tmp 9) (.tmp 36)⟩]
def c_compress_tokens_28 : PC := .region [
  ⟨some 37, none, .mv (.tmp 8)⟩,
  ⟨some 38, none, .bin .eql (.tmp 37) (.const (.int .u8 1))⟩]
def c_compress_tokens_29 : PC := .region [
  ⟨some 39, none, .mv (.tmp 0)⟩,
  ⟨some 40, none, .lenS (.tmp 39)⟩,
  ⟨some 41, none, .bin .lss (.tmp 40) (.const (.int .i64 2))⟩]
def c_compress_tokens_30 : PC := .region [
  ⟨some 2, none, .nilR 68 3⟩,
  ⟨some 3, none, .mv (.const (.int .i64 14))⟩]
def c_compress_tokens_31 : PC := .seq c_compress_tokens_30 .ret
def c_compress_tokens_32 : PC := .cond (.tmp 41) c_compress_tokens_31 .skip
def c_compress_tokens_33 : PC := .seq c_compress_tokens_29 c_compress_tokens_32
def c_compress_tokens_34 : PC := .region [
  ⟨some 42, none, .mv (.tmp 5)⟩,
  ⟨some 43, none, .mm false (.tmp 42) (.const (.int .i64 4095))⟩,
  ⟨some 44, none, .call 62 [.tmp 43]⟩,
  ⟨some 45, none, .bin .sub (.const (.int .i64 16)) (.tmp 44)⟩,
  ⟨some 10, none, .mv (.tmp 45)⟩]
def c_compress_tokens_35 : PC := .region [
  ⟨some 46, none, .mv (.tmp 0)⟩,
  ⟨some 47, none, .call 100 [.tmp 46]⟩,
  ⟨some 11, none, .mv (.tmp 47)⟩]
def c_compress_tokens_36 : PC := .draw [
  ⟨some 48, none, .mv (.tmp 11)⟩,
  ⟨some 49, none, .mv (.tmp 10)⟩,
  ⟨some 50, none, .bin .shr (.tmp 48) (.tmp 49)⟩,
  ⟨some 51, none, .bin .add (.tmp 50) (.const (.int .i64 1))⟩,
  ⟨some 52, none, .mv (.tmp 11)⟩,
  ⟨some 53, none, .mv (.tmp 10)⟩,
  ⟨some 54, none, .bin .shl (.const (.int .i64 1)) (.tmp 53)⟩,
  ⟨some 55, none, .bin .sub (.tmp 54) (.const (.int .i64 1))⟩,
  ⟨some 56, none, .bin .and (.tmp 52) (.tmp 55)⟩,
  ⟨some 57, none, .bin .add (.tmp 56) (.const (.int .i64 3))⟩,
  ⟨some 58, none, .build [.int .i64 0, .int .i64 0, .int .i64 0] [⟨0, ⟨1, .tmp 51⟩⟩, ⟨1, ⟨1, .tmp 57⟩⟩]⟩,
  ⟨none, none, .store 3 (.tmp 9) (.tmp 58)⟩]
  [[], [], [0, 1], [2], [], [], [5], [6], [4, 7], [8], [3, 9], [10, 0, 1, 2, 3, 4, 5, 6, 7, 8, 9, 10]]
def c_compress_tokens_37 : PC := .region [
  ⟨some 59, none, .mv (.tmp 0)⟩,
  ⟨some 60, none, .slcS (.tmp 59) (some (.const (.int .i64 1))) none⟩,
  ⟨some 0, none, .mv (.tmp 60)⟩]
def c_compress_tokens_38 : PC := .seq c_compress_tokens_36 c_compress_tokens_37
def c_compress_tokens_39 : PC := .seq c_compress_tokens_35 c_compress_tokens_38
def c_compress_tokens_40 : PC := .seq c_compress_tokens_34 c_compress_tokens_39
def c_compress_tokens_41 : PC := .seq c_compress_tokens_33 c_compress_tokens_40
def c_compress_tokens_42 : PC := .cond (.tmp 38) c_compress_tokens_41 .skip
def c_compress_tokens_43 : PC := .seq c_compress_tokens_28 c_compress_tokens_42
def c_compress_tokens_44 : PC := .region [
  ⟨some 61, none, .mv (.tmp 0)⟩,
  ⟨some 62, none, .slcS (.tmp 61) (some (.const (.int .i64 1))) none⟩,
  ⟨some 0, none, .mv (.tmp 62)⟩]
def c_compress_tokens_45 : PC := .region [
  ⟨some 63, none, .mv (.tmp 4)⟩,
  ⟨some 64, none, .load true 3 (.tmp 9)⟩,
  ⟨some 65, none, .bslice 68 3 [.tmp 64]⟩,
  ⟨some 66, none, .app 68 3 24 (.tmp 63) (.tmp 65)⟩,
  ⟨some 4, none, .mv (.tmp 66)⟩]
def c_compress_tokens_46 : PC := .region [
  ⟨some 67, none, .mv (.tmp 5)⟩,
  ⟨some 68, none, .load true 3 (.tmp 9)⟩,
  ⟨some 69, none, .call 51 [.tmp 68]⟩,
  ⟨some 70, none, .bin .add (.tmp 67) (.tmp 69)⟩,
  ⟨some 5, none, .mv (.tmp 70)⟩]
def c_compress_tokens_47 : PC := .seq c_compress_tokens_45 c_compress_tokens_46
def c_compress_tokens_48 : PC := .seq c_compress_tokens_44 c_compress_tokens_47
def c_compress_tokens_49 : PC := .seq c_compress_tokens_43 c_compress_tokens_48
def c_compress_tokens_50 : PC := .seq c_compress_tokens_27 c_compress_tokens_49
def c_compress_tokens_51 : PC := .seq c_compress_tokens_26 c_compress_tokens_50
def c_compress_tokens_52 : PC := .seq c_compress_tokens_17 c_compress_tokens_51
def c_compress_tokens_53 : PC := .seq c_compress_tokens_16 c_compress_tokens_52
def c_compress_tokens_54 : PC := .block 3 c_compress_tokens_53
def c_compress_tokens_55 : PC := .region [
  ⟨some 71, none, .bin .add (.tmp 22) (.const (.int .i64 1))⟩,
  ⟨some 22, none, .mv (.tmp 71)⟩]
def c_compress_tokens_56 : PC := .seq c_compress_tokens_54 c_compress_tokens_55
def c_compress_tokens_57 : PC := .seq c_compress_tokens_15 c_compress_tokens_56
def c_compress_tokens_58 : PC := .seq c_compress_tokens_14 c_compress_tokens_57
def c_compress_tokens_59 : PC := .loop [0, 4, 5, 6, 22] c_compress_tokens_58
def c_compress_tokens_60 : PC := .block 2 c_compress_tokens_59
def c_compress_tokens_61 : PC := .seq c_compress_tokens_13 c_compress_tokens_60
def c_compress_tokens_62 : PC := .seq c_compress_tokens_12 c_compress_tokens_61
def c_compress_tokens_63 : PC := .seq c_compress_tokens_7 c_compress_tokens_62
def c_compress_tokens_64 : PC := .seq c_compress_tokens_6 c_compress_tokens_63
def c_compress_tokens_65 : PC := .block 1 c_compress_tokens_64
def c_compress_tokens_66 : PC := .seq c_compress_tokens_5 c_compress_tokens_65
def c_compress_tokens_67 : PC := .loop [0, 4, 5] c_compress_tokens_66
def c_compress_tokens_68 : PC := .block 0 c_compress_tokens_67
def c_compress_tokens_69 : PC := .region [
  ⟨some 73, none, .mv (.tmp 4)⟩,
  ⟨some 74, none, .call 33 [.tmp 73]⟩,
  ⟨some 72, none, .mv (.tmp 74)⟩,
  ⟨some 75, none, .ext (.tmp 72) 0⟩,
  ⟨some 76, none, .ext (.tmp 72) 1⟩,
  ⟨some 12, none, .mv (.tmp 75)⟩,
  ⟨some 13, none, .mv (.tmp 76)⟩]
def c_compress_tokens_70 : PC := .region [
  ⟨some 77, none, .mv (.tmp 13)⟩,
  ⟨some 78, none, .bin .neq (.tmp 77) (.const (.int .i64 0))⟩]
def c_compress_tokens_71 : PC := .region [
  ⟨some 79, none, .mv (.tmp 13)⟩,
  ⟨some 2, none, .nilR 68 3⟩,
  ⟨some 3, none, .mv (.tmp 79)⟩]
def c_compress_tokens_72 : PC := .seq c_compress_tokens_71 .ret
def c_compress_tokens_73 : PC := .cond (.tmp 78) c_compress_tokens_72 .skip
def c_compress_tokens_74 : PC := .seq c_compress_tokens_70 c_compress_tokens_73
def c_compress_tokens_75 : PC := .seq c_compress_tokens_69 c_compress_tokens_74
def c_compress_tokens_76 : PC := .region [
  ⟨some 80, none, .mv (.tmp 4)⟩,
  ⟨some 2, none, .mv (.tmp 80)⟩,
  ⟨some 3, none, .mv (.const (.int .i64 0))⟩]
def c_compress_tokens_77 : PC := .seq c_compress_tokens_76 .ret
def c_compress_tokens_78 : PC := .seq c_compress_tokens_75 c_compress_tokens_77
def c_compress_tokens_79 : PC := .seq c_compress_tokens_68 c_compress_tokens_78
def c_compress_tokens_80 : PC := .seq c_compress_tokens_2 c_compress_tokens_79
def c_compress_tokens_81 : PC := .seq c_compress_tokens_1 c_compress_tokens_80
def c_compress_tokens_82 : PC := .seq c_compress_tokens_0 c_compress_tokens_81
def c_compress_tokens : PC := c_compress_tokens_82
def s_compress_tokens : List Nat := [0, 2, 3, 4, 5, 6, 7, 8, 9, 10, 11, 13, 22]
def r_compress_tokens : List (Nat × Option (Bool × Nat)) := [⟨2, none⟩, ⟨3, none⟩]
theorem sound_compress_tokens {Γ : Ctx} {S : Spec} (hΓ : Sound Go.Proofs.Try.prog Γ) (hS : FnOk S) (hargs : ∀ args K, S.run args K → args.length = 1) (h : Meets Γ s_compress_tokens c_compress_tokens r_compress_tokens S) : SoundAt Go.Proofs.Try.prog n_compress_tokens S := by
  have hb : ∃ c, Go.Proofs.Try.f74.body = some c ∧ compC Go.Proofs.Try.prog Go.Proofs.Try.f74.ntmps c = some (strip c_compress_tokens) := ⟨_, rfl, by kernel_rfl⟩
  obtain ⟨c, hb, hc⟩ := hb
  exact meets_sound hΓ mixed (fn := Go.Proofs.Try.f74) (by kernel_rfl) (by kernel_rfl) hb hc (l := [.tmp 2, .tmp 3]) (by kernel_rfl) (by kernel_rfl) (by decide) hS 1 (by decide) hargs h

/-! depository/depositoryref06.Parts (1 parameters) -/
def c_ref06_Parts_0 : PC := .region [
  ⟨some 2, none, .mv (.const (.bool false))⟩,
  ⟨some 3, none, .mv (.const (.string (ByteArray.mk (Array.mk []))))⟩,
  ⟨some 4, none, .mv (.const (.int .i64 0))⟩]
def c_ref06_Parts_1 : PC := .region [
  ⟨some 6, none, .mv (.tmp 0)⟩,
  ⟨some 7, none, .lenS (.tmp 6)⟩,
  ⟨some 8, none, .bin .lss (.tmp 7) (.const (.int .i64 2))⟩]
def c_ref06_Parts_2 : PC := .region [
  ⟨some 2, none, .mv (.const (.bool false))⟩,
  ⟨some 3, none, .mv (.const (.string (ByteArray.mk (Array.mk []))))⟩,
  ⟨some 4, none, .mv (.const (.int .i64 14))⟩]
def c_ref06_Parts_3 : PC := .seq c_ref06_Parts_2 .ret
def c_ref06_Parts_4 : PC := .cond (.tmp 8) c_ref06_Parts_3 .skip
def c_ref06_Parts_5 : PC := .seq c_ref06_Parts_1 c_ref06_Parts_4
def c_ref06_Parts_6 : PC := .region [
  ⟨some 9, none, .mv (.tmp 0)⟩,
  ⟨some 10, none, .call 76 [.tmp 9, .const (.int .i64 0), .const (.int .i64 2)]⟩,
  ⟨some 5, none, .mv (.tmp 10)⟩]
def c_ref06_Parts_7 : PC := .region [
  ⟨some 11, none, .mv (.tmp 5)⟩,
  ⟨some 12, none, .bin .quo (.tmp 11) (.const (.int .i64 4096))⟩,
  ⟨some 13, none, .bin .rem (.tmp 12) (.const (.int .i64 8))⟩,
  ⟨some 14, none, .bin .neq (.tmp 13) (.const (.int .i64 3))⟩]
def c_ref06_Parts_8 : PC := .region [
  ⟨some 2, none, .mv (.const (.bool false))⟩,
  ⟨some 3, none, .mv (.const (.string (ByteArray.mk (Array.mk []))))⟩,
  ⟨some 4, none, .mv (.const (.int .i64 3))⟩]
def c_ref06_Parts_9 : PC := .seq c_ref06_Parts_8 .ret
def c_ref06_Parts_10 : PC := .cond (.tmp 14) c_ref06_Parts_9 .skip
def c_ref06_Parts_11 : PC := .seq c_ref06_Parts_7 c_ref06_Parts_10
def c_ref06_Parts_12 : PC := .draw [
  ⟨some 15, none, .mv (.tmp 5)⟩,
  ⟨some 16, none, .bin .geq (.tmp 15) (.const (.int .i64 32768))⟩,
  ⟨some 17, none, .mv (.tmp 0)⟩,
  ⟨some 18, none, .slcS (.tmp 17) (some (.const (.int .i64 2))) none⟩,
  ⟨some 2, none, .mv (.tmp 16)⟩,
  ⟨some 3, none, .mv (.tmp 18)⟩,
  ⟨some 4, none, .mv (.const (.int .i64 0))⟩]
  [[], [0], [], [2], [1, 0, 1], [3, 4, 0, 1, 2, 3, 4], [5, 0, 1, 2, 3, 4, 5]]
def c_ref06_Parts_13 : PC := .seq c_ref06_Parts_12 .ret
def c_ref06_Parts_14 : PC := .seq c_ref06_Parts_11 c_ref06_Parts_13
def c_ref06_Parts_15 : PC := .seq c_ref06_Parts_6 c_ref06_Parts_14
def c_ref06_Parts_16 : PC := .seq c_ref06_Parts_5 c_ref06_Parts_15
def c_ref06_Parts_17 : PC := .seq c_ref06_Parts_0 c_ref06_Parts_16
def c_ref06_Parts : PC := c_ref06_Parts_17
def s_ref06_Parts : List Nat := [0, 2, 3, 4, 5]
def r_ref06_Parts : List (Nat × Option (Bool × Nat)) := [⟨2, none⟩, ⟨3, none⟩, ⟨4, none⟩]
theorem sound_ref06_Parts {Γ : Ctx} {S : Spec} (hΓ : Sound Go.Proofs.Try.prog Γ) (hS : FnOk S) (hargs : ∀ args K, S.run args K → args.length = 1) (h : Meets Γ s_ref06_Parts c_ref06_Parts r_ref06_Parts S) : SoundAt Go.Proofs.Try.prog n_ref06_Parts S := by
  have hb : ∃ c, Go.Proofs.Try.f75.body = some c ∧ compC Go.Proofs.Try.prog Go.Proofs.Try.f75.ntmps c = some (strip c_ref06_Parts) := ⟨_, rfl, by kernel_rfl⟩
  obtain ⟨c, hb, hc⟩ := hb
  exact meets_sound hΓ mixed (fn := Go.Proofs.Try.f75) (by kernel_rfl) (by kernel_rfl) hb hc (l := [.tmp 2, .tmp 3, .tmp 4]) (by kernel_rfl) (by kernel_rfl) (by decide) hS 1 (by decide) hargs h

/-! depository/depositorybase.LittleAt (3 parameters) -/
def c_base_LittleAt_0 : PC := .region [
  ⟨some 6, none, .mv (.const (.int .i64 0))⟩]
def c_base_LittleAt_1 : PC := .region [
  ⟨some 7, none, .mv (.const (.int .i64 0))⟩]
def c_base_LittleAt_2 : PC := .region [
  ⟨some 9, none, .mv (.tmp 2)⟩,
  ⟨some 10, none, .bin .sub (.tmp 9) (.const (.int .i64 1))⟩,
  ⟨some 8, none, .mv (.tmp 10)⟩]
def c_base_LittleAt_3 : PC := .region [
  ⟨some 11, none, .mv (.tmp 8)⟩,
  ⟨some 12, none, .bin .geq (.tmp 11) (.const (.int .i64 0))⟩]
def c_base_LittleAt_4 : PC := .cond (.tmp 12) .skip (.exit 0)
def c_base_LittleAt_5 : PC := .seq c_base_LittleAt_3 c_base_LittleAt_4
def c_base_LittleAt_6 : PC := .region [
  ⟨some 15, none, .mv (.tmp 7)⟩,
  ⟨some 16, none, .bin .mul (.tmp 15) (.const (.int .i64 256))⟩,
  ⟨some 17, none, .mv (.tmp 0)⟩,
  ⟨some 18, none, .mv (.tmp 1)⟩,
  ⟨some 19, none, .mv (.tmp 8)⟩,
  ⟨some 20, none, .bin .add (.tmp 18) (.tmp 19)⟩,
  ⟨some 21, none, .idx (.tmp 17) (.tmp 20)⟩,
  ⟨some 22, none, .conv (.toInt .i64) (.tmp 21)⟩,
  ⟨some 23, none, .bin .add (.tmp 16) (.tmp 22)⟩,
  ⟨some 7, none, .mv (.tmp 23)⟩]
def c_base_LittleAt_7 : PC := .block 1 c_base_LittleAt_6
def c_base_LittleAt_8 : PC := .region [
  ⟨some 13, none, .mv (.tmp 8)⟩,
  ⟨some 14, none, .bin .sub (.tmp 13) (.const (.int .i64 1))⟩,
  ⟨some 8, none, .mv (.tmp 14)⟩]
def c_base_LittleAt_9 : PC := .seq c_base_LittleAt_7 c_base_LittleAt_8
def c_base_LittleAt_10 : PC := .seq c_base_LittleAt_5 c_base_LittleAt_9
def c_base_LittleAt_11 : PC := .loop [0, 1, 7, 8] c_base_LittleAt_10
def c_base_LittleAt_12 : PC := .block 0 c_base_LittleAt_11
def c_base_LittleAt_13 : PC := .seq c_base_LittleAt_2 c_base_LittleAt_12
def c_base_LittleAt_14 : PC := .region [
  ⟨some 24, none, .mv (.tmp 7)⟩,
  ⟨some 6, none, .mv (.tmp 24)⟩]
def c_base_LittleAt_15 : PC := .seq c_base_LittleAt_14 .ret
def c_base_LittleAt_16 : PC := .seq c_base_LittleAt_13 c_base_LittleAt_15
def c_base_LittleAt_17 : PC := .seq c_base_LittleAt_1 c_base_LittleAt_16
def c_base_LittleAt_18 : PC := .seq c_base_LittleAt_0 c_base_LittleAt_17
def c_base_LittleAt : PC := c_base_LittleAt_18
def s_base_LittleAt : List Nat := [0, 1, 2, 6, 7, 8]
def r_base_LittleAt : List (Nat × Option (Bool × Nat)) := [⟨6, none⟩]
theorem sound_base_LittleAt {Γ : Ctx} {S : Spec} (hΓ : Sound Go.Proofs.Try.prog Γ) (hS : FnOk S) (hargs : ∀ args K, S.run args K → args.length = 3) (h : Meets Γ s_base_LittleAt c_base_LittleAt r_base_LittleAt S) : SoundAt Go.Proofs.Try.prog n_base_LittleAt S := by
  have hb : ∃ c, Go.Proofs.Try.f76.body = some c ∧ compC Go.Proofs.Try.prog Go.Proofs.Try.f76.ntmps c = some (strip c_base_LittleAt) := ⟨_, rfl, by kernel_rfl⟩
  obtain ⟨c, hb, hc⟩ := hb
  exact meets_sound hΓ mixed (fn := Go.Proofs.Try.f76) (by kernel_rfl) (by kernel_rfl) hb hc (l := [.tmp 6]) (by kernel_rfl) (by kernel_rfl) (by decide) hS 3 (by decide) hargs h

/-! depository/depositoryref06.Tokens (1 parameters) -/
def c_ref06_Tokens_0 : PC := .region [
  ⟨some 2, none, .nilR 68 3⟩,
  ⟨some 3, none, .mv (.const (.int .i64 0))⟩]
def c_ref06_Tokens_1 : PC := .region [
  ⟨some 4, none, .nilR 68 3⟩]
def c_ref06_Tokens_2 : PC := .region [
  ⟨some 5, none, .mv (.const (.int .i64 0))⟩,
  ⟨some 6, none, .mv (.const (.int .i64 0))⟩,
  ⟨some 7, none, .mv (.const (.int .i64 0))⟩]
def c_ref06_Tokens_3 : PC := .region [
  ⟨some 8, none, .mv (.const (.int .i64 0))⟩]
def c_ref06_Tokens_4 : PC := .region [
  ⟨some 14, none, .mv (.tmp 6)⟩,
  ⟨some 15, none, .mv (.tmp 0)⟩,
  ⟨some 16, none, .lenS (.tmp 15)⟩,
  ⟨some 17, none, .bin .lss (.tmp 14) (.tmp 16)⟩]
def c_ref06_Tokens_5 : PC := .cond (.tmp 17) .skip (.exit 0)
def c_ref06_Tokens_6 : PC := .seq c_ref06_Tokens_4 c_ref06_Tokens_5
def c_ref06_Tokens_7 : PC := .region [
  ⟨some 20, none, .mv (.tmp 8)⟩,
  ⟨some 21, none, .bin .rem (.tmp 20) (.const (.int .i64 8))⟩,
  ⟨some 22, none, .bin .eql (.tmp 21) (.const (.int .i64 0))⟩]
def c_ref06_Tokens_8 : PC := .region [
  ⟨some 23, none, .mv (.tmp 0)⟩,
  ⟨some 24, none, .mv (.tmp 6)⟩,
  ⟨some 25, none, .idx (.tmp 23) (.tmp 24)⟩,
  ⟨some 26, none, .conv (.toInt .i64) (.tmp 25)⟩,
  ⟨some 7, none, .mv (.tmp 26)⟩]
def c_ref06_Tokens_9 : PC := .region [
  ⟨some 27, none, .mv (.tmp 6)⟩,
  ⟨some 28, none, .bin .add (.tmp 27) (.const (.int .i64 1))⟩,
  ⟨some 6, none, .mv (.tmp 28)⟩]
def c_ref06_Tokens_10 : PC := .region [
  ⟨some 29, none, .mv (.tmp 6)⟩,
  ⟨some 30, none, .mv (.tmp 0)⟩,
  ⟨some 31, none, .lenS (.tmp 30)⟩,
  ⟨some 32, none, .bin .eql (.tmp 29) (.tmp 31)⟩]
def c_ref06_Tokens_11 : PC := .region [
  ⟨some 2, none, .nilR 68 3⟩,
  ⟨some 3, none, .mv (.const (.int .i64 14))⟩]
def c_ref06_Tokens_12 : PC := .seq c_ref06_Tokens_11 .ret
def c_ref06_Tokens_13 : PC := .cond (.tmp 32) c_ref06_Tokens_12 .skip
def c_ref06_Tokens_14 : PC := .seq c_ref06_Tokens_10 c_ref06_Tokens_13
def c_ref06_Tokens_15 : PC := .seq c_ref06_Tokens_9 c_ref06_Tokens_14
def c_ref06_Tokens_16 : PC := .seq c_ref06_Tokens_8 c_ref06_Tokens_15
def c_ref06_Tokens_17 : PC := .cond (.tmp 22) c_ref06_Tokens_16 .skip
def c_ref06_Tokens_18 : PC := .seq c_ref06_Tokens_7 c_ref06_Tokens_17
def c_ref06_Tokens_19 : PC := .region [
  ⟨some 33, none, .mv (.tmp 7)⟩,
  ⟨some 34, none, .bin .rem (.tmp 33) (.const (.int .i64 2))⟩,
  ⟨some 35, none, .bin .eql (.tmp 34) (.const (.int .i64 1))⟩,
  ⟨some 9, none, .mv (.tmp 35)⟩]
def c_ref06_Tokens_20 : PC := .region [
  ⟨some 36, none, .mv (.tmp 7)⟩,
  ⟨some 37, none, .bin .quo (.tmp 36) (.const (.int .i64 2))⟩,
  ⟨some 7, none, .mv (.tmp 37)⟩]
def c_ref06_Tokens_21 : PC := .region [
  ⟨some 38, none, .mv (.tmp 0)⟩,
  ⟨some 39, none, .mv (.tmp 6)⟩,
  ⟨some 40, none, .idx (.tmp 38) (.tmp 39)⟩,
  ⟨some 41, none, .conv (.toInt .i64) (.tmp 40)⟩,
  ⟨some 42, none, .build [.int .i64 0, .int .i64 0, .int .i64 0] [⟨2, ⟨1, .tmp 41⟩⟩]⟩,
  ⟨some 10, none, .alloc 68 (.agg [.int .i64 0, .int .i64 0, .int .i64 0])⟩,
  ⟨none, none, .store 3 (.tmp 10) (.tmp 42)⟩]
def c_ref06_Tokens_22 : PC := .region [
  ⟨some 43, none, .mv (.tmp 9)⟩]
def c_ref06_Tokens_23 : PC := .region [
  ⟨some 44, none, .mv (.tmp 6)⟩,
  ⟨some 45, none, .bin .add (.tmp 44) (.const (.int .i64 2))⟩,
  ⟨some 46, none, .mv (.tmp 0)⟩,
  ⟨some 47, none, .lenS (.tmp 46)⟩,
  ⟨some 48, none, .bin .gtr (.tmp 45) (.tmp 47)⟩]
def c_ref06_Tokens_24 : PC := .region [
  ⟨some 2, none, .nilR 68 3⟩,
  ⟨some 3, none, .mv (.const (.int .i64 14))⟩]
def c_ref06_Tokens_25 : PC := .seq c_ref06_Tokens_24 .ret
def c_ref06_Tokens_26 : PC := .cond (.tmp 48) c_ref06_Tokens_25 .skip
def c_ref06_Tokens_27 : PC := .seq c_ref06_Tokens_23 c_ref06_Tokens_26
def c_ref06_Tokens_28 : PC := .region [
  ⟨some 49, none, .mv (.tmp 0)⟩,
  ⟨some 50, none, .mv (.tmp 6)⟩,
  ⟨some 51, none, .call 76 [.tmp 49, .tmp 50, .const (.int .i64 2)]⟩,
  ⟨some 11, none, .mv (.tmp 51)⟩]
def c_ref06_Tokens_29 : PC := .region [
  ⟨some 52, none, .call 63 [.const (.int .i64 16)]⟩,
  ⟨some 12, none, .mv (.tmp 52)⟩]
def c_ref06_Tokens_30 : PC := .region [
  ⟨some 53, none, .mv (.tmp 5)⟩,
  ⟨some 54, none, .bin .lss (.tmp 53) (.const (.int .i64 4096))⟩]
def c_ref06_Tokens_31 : PC := .region [
  ⟨some 55, none, .mv (.tmp 5)⟩,
  ⟨some 56, none, .call 24 [.tmp 55]⟩,
  ⟨some 57, none, .bin .sub (.const (.int .i64 16)) (.tmp 56)⟩,
  ⟨some 58, none, .call 63 [.tmp 57]⟩,
  ⟨some 12, none, .mv (.tmp 58)⟩]
def c_ref06_Tokens_32 : PC := .cond (.tmp 54) c_ref06_Tokens_31 .skip
def c_ref06_Tokens_33 : PC := .seq c_ref06_Tokens_30 c_ref06_Tokens_32
def c_ref06_Tokens_34 : PC := .draw [
  ⟨some 59, none, .mv (.tmp 11)⟩,
  ⟨some 60, none, .mv (.tmp 12)⟩,
  ⟨some 61, none, .bin .quo (.tmp 59) (.tmp 60)⟩,
  ⟨some 62, none, .bin .add (.tmp 61) (.const (.int .i64 1))⟩,
  ⟨some 63, none, .mv (.tmp 11)⟩,
  ⟨some 64, none, .mv (.tmp 12)⟩,
  ⟨some 65, none, .bin .rem (.tmp 63) (.tmp 64)⟩,
  ⟨some 66, none, .bin .add (.tmp 65) (.const (.int .i64 3))⟩,
  ⟨some 67, none, .build [.int .i64 0, .int .i64 0, .int .i64 0] [⟨0, ⟨1, .tmp 62⟩⟩, ⟨1, ⟨1, .tmp 66⟩⟩]⟩,
  ⟨none, none, .store 3 (.tmp 10) (.tmp 67)⟩]
  [[], [], [0, 1], [2], [], [], [4, 5], [6], [3, 7], [8, 0, 1, 2, 3, 4, 5, 6, 7, 8]]
def c_ref06_Tokens_35 : PC := .seq c_ref06_Tokens_33 c_ref06_Tokens_34
def c_ref06_Tokens_36 : PC := .seq c_ref06_Tokens_29 c_ref06_Tokens_35
def c_ref06_Tokens_37 : PC := .seq c_ref06_Tokens_28 c_ref06_Tokens_36
def c_ref06_Tokens_38 : PC := .seq c_ref06_Tokens_27 c_ref06_Tokens_37
def c_ref06_Tokens_39 : PC := .cond (.tmp 43) c_ref06_Tokens_38 .skip
def c_ref06_Tokens_40 : PC := .seq c_ref06_Tokens_22 c_ref06_Tokens_39
def c_ref06_Tokens_41 : PC := .region [
  ⟨some 68, none, .mv (.tmp 6)⟩,
  ⟨some 69, none, .bin .add (.tmp 68) (.const (.int .i64 1))⟩,
  ⟨some 70, none, .mv (.tmp 9)⟩,
  ⟨some 71, none, .call 96 [.tmp 70]⟩,
  ⟨some 72, none, .bin .add (.tmp 69) (.tmp 71)⟩,
  ⟨some 6, none, .mv (.tmp 72)⟩]
def c_ref06_Tokens_42 : PC := .region [
  ⟨some 73, none, .mv (.tmp 5)⟩,
  ⟨some 74, none, .load true 3 (.tmp 10)⟩,
  ⟨some 75, none, .call 54 [.tmp 74]⟩,
  ⟨some 76, none, .bin .add (.tmp 73) (.tmp 75)⟩,
  ⟨some 5, none, .mv (.tmp 76)⟩]
def c_ref06_Tokens_43 : PC := .region [
  ⟨some 77, none, .mv (.tmp 4)⟩,
  ⟨some 78, none, .load true 3 (.tmp 10)⟩,
  ⟨some 79, none, .bslice 68 3 [.tmp 78]⟩,
  ⟨some 80, none, .app 68 3 24 (.tmp 77) (.tmp 79)⟩,
  ⟨some 4, none, .mv (.tmp 80)⟩]
def c_ref06_Tokens_44 : PC := .seq c_ref06_Tokens_42 c_ref06_Tokens_43
def c_ref06_Tokens_45 : PC := .seq c_ref06_Tokens_41 c_ref06_Tokens_44
def c_ref06_Tokens_46 : PC := .seq c_ref06_Tokens_40 c_ref06_Tokens_45
def c_ref06_Tokens_47 : PC := .seq c_ref06_Tokens_21 c_ref06_Tokens_46
def c_ref06_Tokens_48 : PC := .seq c_ref06_Tokens_20 c_ref06_Tokens_47
def c_ref06_Tokens_49 : PC := .seq c_ref06_Tokens_19 c_ref06_Tokens_48
def c_ref06_Tokens_50 : PC := .seq c_ref06_Tokens_18 c_ref06_Tokens_49
def c_ref06_Tokens_51 : PC := .block 1 c_ref06_Tokens_50
def c_ref06_Tokens_52 : PC := .region [
  ⟨some 18, none, .mv (.tmp 8)⟩,
  ⟨some 19, none, .bin .add (.tmp 18) (.const (.int .i64 1))⟩,
  ⟨some 8, none, .mv (.tmp 19)⟩]
def c_ref06_Tokens_53 : PC := .seq c_ref06_Tokens_51 c_ref06_Tokens_52
def c_ref06_Tokens_54 : PC := .seq c_ref06_Tokens_6 c_ref06_Tokens_53
def c_ref06_Tokens_55 : PC := .loop [0, 4, 5, 6, 7, 8] c_ref06_Tokens_54
def c_ref06_Tokens_56 : PC := .block 0 c_ref06_Tokens_55
def c_ref06_Tokens_57 : PC := .seq c_ref06_Tokens_3 c_ref06_Tokens_56
def c_ref06_Tokens_58 : PC := .region [
  ⟨some 81, none, .mv (.tmp 7)⟩,
  ⟨some 82, none, .bin .neq (.tmp 81) (.const (.int .i64 0))⟩]
def c_ref06_Tokens_59 : PC := .region [
  ⟨some 2, none, .nilR 68 3⟩,
  ⟨some 3, none, .mv (.const (.int .i64 3))⟩]
def c_ref06_Tokens_60 : PC := .seq c_ref06_Tokens_59 .ret
def c_ref06_Tokens_61 : PC := .cond (.tmp 82) c_ref06_Tokens_60 .skip
def c_ref06_Tokens_62 : PC := .seq c_ref06_Tokens_58 c_ref06_Tokens_61
def c_ref06_Tokens_63 : PC := .region [
  ⟨some 83, none, .mv (.tmp 4)⟩,
  ⟨some 84, none, .call 30 [.tmp 83]⟩,
  ⟨some 13, none, .mv (.tmp 84)⟩]
def c_ref06_Tokens_64 : PC := .region [
  ⟨some 85, none, .mv (.tmp 13)⟩,
  ⟨some 86, none, .bin .neq (.tmp 85) (.const (.int .i64 0))⟩]
def c_ref06_Tokens_65 : PC := .region [
  ⟨some 87, none, .mv (.tmp 13)⟩,
  ⟨some 2, none, .nilR 68 3⟩,
  ⟨some 3, none, .mv (.tmp 87)⟩]
def c_ref06_Tokens_66 : PC := .seq c_ref06_Tokens_65 .ret
def c_ref06_Tokens_67 : PC := .cond (.tmp 86) c_ref06_Tokens_66 .skip
def c_ref06_Tokens_68 : PC := .seq c_ref06_Tokens_64 c_ref06_Tokens_67
def c_ref06_Tokens_69 : PC := .seq c_ref06_Tokens_63 c_ref06_Tokens_68
def c_ref06_Tokens_70 : PC := .region [
  ⟨some 88, none, .mv (.tmp 4)⟩,
  ⟨some 2, none, .mv (.tmp 88)⟩,
  ⟨some 3, none, .mv (.const (.int .i64 0))⟩]
def c_ref06_Tokens_71 : PC := .seq c_ref06_Tokens_70 .ret
def c_ref06_Tokens_72 : PC := .seq c_ref06_Tokens_69 c_ref06_Tokens_71
def c_ref06_Tokens_73 : PC := .seq c_ref06_Tokens_62 c_ref06_Tokens_72
def c_ref06_Tokens_74 : PC := .seq c_ref06_Tokens_57 c_ref06_Tokens_73
def c_ref06_Tokens_75 : PC := .seq c_ref06_Tokens_2 c_ref06_Tokens_74
def c_ref06_Tokens_76 : PC := .seq c_ref06_Tokens_1 c_ref06_Tokens_75
def c_ref06_Tokens_77 : PC := .seq c_ref06_Tokens_0 c_ref06_Tokens_76
def c_ref06_Tokens : PC := c_ref06_Tokens_77
def s_ref06_Tokens : List Nat := [0, 2, 3, 4, 5, 6, 7, 8, 9, 10, 11, 12, 13]
def r_ref06_Tokens : List (Nat × Option (Bool × Nat)) := [⟨2, none⟩, ⟨3, none⟩]
theorem sound_ref06_Tokens {Γ : Ctx} {S : Spec} (hΓ : Sound Go.Proofs.Try.prog Γ) (hS : FnOk S) (hargs : ∀ args K, S.run args K → args.length = 1) (h : Meets Γ s_ref06_Tokens c_ref06_Tokens r_ref06_Tokens S) : SoundAt Go.Proofs.Try.prog n_ref06_Tokens S := by
  have hb : ∃ c, Go.Proofs.Try.f77.body = some c ∧ compC Go.Proofs.Try.prog Go.Proofs.Try.f77.ntmps c = some (strip c_ref06_Tokens) := ⟨_, rfl, by kernel_rfl⟩
  obtain ⟨c, hb, hc⟩ := hb
  exact meets_sound hΓ mixed (fn := Go.Proofs.Try.f77) (by kernel_rfl) (by kernel_rfl) hb hc (l := [.tmp 2, .tmp 3]) (by kernel_rfl) (by kernel_rfl) (by decide) hS 1 (by decide) hargs h

/-! depository/depositorybase.Zeros (1 parameters) -/
def c_base_Zeros_0 : PC := .region [
  ⟨some 2, none, .mv (.const (.string (ByteArray.mk (Array.mk []))))⟩]
def c_base_Zeros_1 : PC := .region [
  ⟨some 3, none, .mv (.tmp 0)⟩,
  ⟨some 4, none, .mm false (.tmp 3) (.const (.int .i64 200000))⟩,
  ⟨some 5, none, .mm true (.const (.int .i64 0)) (.tmp 4)⟩,
  ⟨some 6, none, .mksl 5 1 1 (.int .u8 0) (.tmp 5) (.tmp 5)⟩,
  ⟨some 7, none, .conv .bts (.tmp 6)⟩,
  ⟨some 2, none, .mv (.tmp 7)⟩]
def c_base_Zeros_2 : PC := .seq c_base_Zeros_1 .ret
def c_base_Zeros_3 : PC := .seq c_base_Zeros_0 c_base_Zeros_2
def c_base_Zeros : PC := c_base_Zeros_3
def s_base_Zeros : List Nat := [0, 2]
def r_base_Zeros : List (Nat × Option (Bool × Nat)) := [⟨2, none⟩]
theorem sound_base_Zeros {Γ : Ctx} {S : Spec} (hΓ : Sound Go.Proofs.Try.prog Γ) (hS : FnOk S) (hargs : ∀ args K, S.run args K → args.length = 1) (h : Meets Γ s_base_Zeros c_base_Zeros r_base_Zeros S) : SoundAt Go.Proofs.Try.prog n_base_Zeros S := by
  have hb : ∃ c, Go.Proofs.Try.f78.body = some c ∧ compC Go.Proofs.Try.prog Go.Proofs.Try.f78.ntmps c = some (strip c_base_Zeros) := ⟨_, rfl, by kernel_rfl⟩
  obtain ⟨c, hb, hc⟩ := hb
  exact meets_sound hΓ mixed (fn := Go.Proofs.Try.f78) (by kernel_rfl) (by kernel_rfl) hb hc (l := [.tmp 2]) (by kernel_rfl) (by kernel_rfl) (by decide) hS 1 (by decide) hargs h

/-! depository/compress.zeros (1 parameters) -/
def c_compress_zeros_0 : PC := .region [
  ⟨some 2, none, .mv (.const (.string (ByteArray.mk (Array.mk []))))⟩]
def c_compress_zeros_1 : PC := .region [
  ⟨some 3, none, .mv (.tmp 0)⟩,
  ⟨some 4, none, .call 101 [.const (.string (ByteArray.mk (Array.mk [0]))), .tmp 3]⟩,
  ⟨some 2, none, .mv (.tmp 4)⟩]
def c_compress_zeros_2 : PC := .seq c_compress_zeros_1 .ret
def c_compress_zeros_3 : PC := .seq c_compress_zeros_0 c_compress_zeros_2
def c_compress_zeros : PC := c_compress_zeros_3
def s_compress_zeros : List Nat := [0, 2]
def r_compress_zeros : List (Nat × Option (Bool × Nat)) := [⟨2, none⟩]
theorem sound_compress_zeros {Γ : Ctx} {S : Spec} (hΓ : Sound Go.Proofs.Try.prog Γ) (hS : FnOk S) (hargs : ∀ args K, S.run args K → args.length = 1) (h : Meets Γ s_compress_zeros c_compress_zeros r_compress_zeros S) : SoundAt Go.Proofs.Try.prog n_compress_zeros S := by
  have hb : ∃ c, Go.Proofs.Try.f79.body = some c ∧ compC Go.Proofs.Try.prog Go.Proofs.Try.f79.ntmps c = some (strip c_compress_zeros) := ⟨_, rfl, by kernel_rfl⟩
  obtain ⟨c, hb, hc⟩ := hb
  exact meets_sound hΓ mixed (fn := Go.Proofs.Try.f79) (by kernel_rfl) (by kernel_rfl) hb hc (l := [.tmp 2]) (by kernel_rfl) (by kernel_rfl) (by decide) hS 1 (by decide) hargs h

/-! depository/compress.clusters (1 parameters) -/
def c_compress_clusters_0 : PC := .region [
  ⟨some 2, none, .mv (.const (.int .i64 0))⟩]
def c_compress_clusters_1 : PC := .region [
  ⟨some 3, none, .mv (.tmp 0)⟩,
  ⟨some 4, none, .bin .add (.tmp 3) (.const (.int .i64 256))⟩,
  ⟨some 5, none, .bin .sub (.tmp 4) (.const (.int .i64 1))⟩,
  ⟨some 6, none, .bin .quo (.tmp 5) (.const (.int .i64 256))⟩,
  ⟨some 2, none, .mv (.tmp 6)⟩]
def c_compress_clusters_2 : PC := .seq c_compress_clusters_1 .ret
def c_compress_clusters_3 : PC := .seq c_compress_clusters_0 c_compress_clusters_2
def c_compress_clusters : PC := c_compress_clusters_3
def s_compress_clusters : List Nat := [0, 2]
def r_compress_clusters : List (Nat × Option (Bool × Nat)) := [⟨2, none⟩]
theorem sound_compress_clusters {Γ : Ctx} {S : Spec} (hΓ : Sound Go.Proofs.Try.prog Γ) (hS : FnOk S) (hargs : ∀ args K, S.run args K → args.length = 1) (h : Meets Γ s_compress_clusters c_compress_clusters r_compress_clusters S) : SoundAt Go.Proofs.Try.prog n_compress_clusters S := by
  have hb : ∃ c, Go.Proofs.Try.f80.body = some c ∧ compC Go.Proofs.Try.prog Go.Proofs.Try.f80.ntmps c = some (strip c_compress_clusters) := ⟨_, rfl, by kernel_rfl⟩
  obtain ⟨c, hb, hc⟩ := hb
  exact meets_sound hΓ mixed (fn := Go.Proofs.Try.f80) (by kernel_rfl) (by kernel_rfl) hb hc (l := [.tmp 2]) (by kernel_rfl) (by kernel_rfl) (by decide) hS 1 (by decide) hargs h

/-! depository/depositorybase.IsZeros (1 parameters) -/
def c_base_IsZeros_0 : PC := .region [
  ⟨some 2, none, .mv (.const (.bool false))⟩]
def c_base_IsZeros_1 : PC := .region [
  ⟨some 3, none, .mv (.const (.int .i64 0))⟩]
def c_base_IsZeros_2 : PC := .region [
  ⟨some 4, none, .mv (.tmp 3)⟩,
  ⟨some 5, none, .mv (.tmp 0)⟩,
  ⟨some 6, none, .lenS (.tmp 5)⟩,
  ⟨some 7, none, .bin .lss (.tmp 4) (.tmp 6)⟩]
def c_base_IsZeros_3 : PC := .cond (.tmp 7) .skip (.exit 0)
def c_base_IsZeros_4 : PC := .seq c_base_IsZeros_2 c_base_IsZeros_3
def c_base_IsZeros_5 : PC := .region [
  ⟨some 10, none, .mv (.tmp 0)⟩,
  ⟨some 11, none, .mv (.tmp 3)⟩,
  ⟨some 12, none, .idx (.tmp 10) (.tmp 11)⟩,
  ⟨some 13, none, .bin .neq (.tmp 12) (.const (.int .u8 0))⟩]
def c_base_IsZeros_6 : PC := .region [
  ⟨some 2, none, .mv (.const (.bool false))⟩]
def c_base_IsZeros_7 : PC := .seq c_base_IsZeros_6 .ret
def c_base_IsZeros_8 : PC := .cond (.tmp 13) c_base_IsZeros_7 .skip
def c_base_IsZeros_9 : PC := .seq c_base_IsZeros_5 c_base_IsZeros_8
def c_base_IsZeros_10 : PC := .block 1 c_base_IsZeros_9
def c_base_IsZeros_11 : PC := .region [
  ⟨some 8, none, .mv (.tmp 3)⟩,
  ⟨some 9, none, .bin .add (.tmp 8) (.const (.int .i64 1))⟩,
  ⟨some 3, none, .mv (.tmp 9)⟩]
def c_base_IsZeros_12 : PC := .seq c_base_IsZeros_10 c_base_IsZeros_11
def c_base_IsZeros_13 : PC := .seq c_base_IsZeros_4 c_base_IsZeros_12
def c_base_IsZeros_14 : PC := .loop [0, 3] c_base_IsZeros_13
def c_base_IsZeros_15 : PC := .block 0 c_base_IsZeros_14
def c_base_IsZeros_16 : PC := .seq c_base_IsZeros_1 c_base_IsZeros_15
def c_base_IsZeros_17 : PC := .region [
  ⟨some 2, none, .mv (.const (.bool true))⟩]
def c_base_IsZeros_18 : PC := .seq c_base_IsZeros_17 .ret
def c_base_IsZeros_19 : PC := .seq c_base_IsZeros_16 c_base_IsZeros_18
def c_base_IsZeros_20 : PC := .seq c_base_IsZeros_0 c_base_IsZeros_19
def c_base_IsZeros : PC := c_base_IsZeros_20
def s_base_IsZeros : List Nat := [0, 2, 3]
def r_base_IsZeros : List (Nat × Option (Bool × Nat)) := [⟨2, none⟩]
theorem sound_base_IsZeros {Γ : Ctx} {S : Spec} (hΓ : Sound Go.Proofs.Try.prog Γ) (hS : FnOk S) (hargs : ∀ args K, S.run args K → args.length = 1) (h : Meets Γ s_base_IsZeros c_base_IsZeros r_base_IsZeros S) : SoundAt Go.Proofs.Try.prog n_base_IsZeros S := by
  have hb : ∃ c, Go.Proofs.Try.f81.body = some c ∧ compC Go.Proofs.Try.prog Go.Proofs.Try.f81.ntmps c = some (strip c_base_IsZeros) := ⟨_, rfl, by kernel_rfl⟩
  obtain ⟨c, hb, hc⟩ := hb
  exact meets_sound hΓ mixed (fn := Go.Proofs.Try.f81) (by kernel_rfl) (by kernel_rfl) hb hc (l := [.tmp 2]) (by kernel_rfl) (by kernel_rfl) (by decide) hS 1 (by decide) hargs h

/-! depository/depositoryref06.Clusters (1 parameters) -/
def c_ref06_Clusters_0 : PC := .region [
  ⟨some 2, none, .mv (.const (.string (ByteArray.mk (Array.mk []))))⟩]
def c_ref06_Clusters_1 : PC := .region [
  ⟨some 3, none, .mv (.tmp 0)⟩,
  ⟨some 4, none, .mv (.tmp 0)⟩,
  ⟨some 5, none, .lenS (.tmp 4)⟩,
  ⟨some 6, none, .un .neg (.tmp 5)⟩,
  ⟨some 7, none, .call 102 [.tmp 6, .const (.int .i64 256)]⟩,
  ⟨some 8, none, .call 78 [.tmp 7]⟩,
  ⟨some 9, none, .bin .add (.tmp 3) (.tmp 8)⟩,
  ⟨some 2, none, .mv (.tmp 9)⟩]
def c_ref06_Clusters_2 : PC := .seq c_ref06_Clusters_1 .ret
def c_ref06_Clusters_3 : PC := .seq c_ref06_Clusters_0 c_ref06_Clusters_2
def c_ref06_Clusters : PC := c_ref06_Clusters_3
def s_ref06_Clusters : List Nat := [0, 2]
def r_ref06_Clusters : List (Nat × Option (Bool × Nat)) := [⟨2, none⟩]
theorem sound_ref06_Clusters {Γ : Ctx} {S : Spec} (hΓ : Sound Go.Proofs.Try.prog Γ) (hS : FnOk S) (hargs : ∀ args K, S.run args K → args.length = 1) (h : Meets Γ s_ref06_Clusters c_ref06_Clusters r_ref06_Clusters S) : SoundAt Go.Proofs.Try.prog n_ref06_Clusters S := by
  have hb : ∃ c, Go.Proofs.Try.f82.body = some c ∧ compC Go.Proofs.Try.prog Go.Proofs.Try.f82.ntmps c = some (strip c_ref06_Clusters) := ⟨_, rfl, by kernel_rfl⟩
  obtain ⟨c, hb, hc⟩ := hb
  exact meets_sound hΓ mixed (fn := Go.Proofs.Try.f82) (by kernel_rfl) (by kernel_rfl) hb hc (l := [.tmp 2]) (by kernel_rfl) (by kernel_rfl) (by decide) hS 1 (by decide) hargs h

/-! (depository/compress.data).matches$1 (1 parameters) -/
def c_compress_data_matches_f1_0 : PC := .region [
  ⟨some 8, none, .load false 1 (.tmp 1)⟩,
  ⟨some 9, none, .load false 1 (.tmp 2)⟩,
  ⟨some 10, none, .call 84 [.tmp 8, .tmp 9]⟩,
  ⟨some 4, none, .mv (.const (.int .i64 0))⟩,
  ⟨some 5, none, .mv (.tmp 10)⟩]
def c_compress_data_matches_f1_1 : PC := .region [
  ⟨some 6, none, .mv (.const (.int .i64 1))⟩]
def c_compress_data_matches_f1_2 : PC := .region [
  ⟨some 11, none, .mv (.tmp 6)⟩,
  ⟨some 12, none, .load false 1 (.tmp 2)⟩,
  ⟨some 13, none, .bin .leq (.tmp 11) (.tmp 12)⟩,
  ⟨some 14, none, .mv (.tmp 13)⟩,
  ⟨some 15, some (⟨14, true⟩), .mv (.tmp 4)⟩,
  ⟨some 16, some (⟨14, true⟩), .mv (.tmp 5)⟩,
  ⟨some 17, some (⟨14, true⟩), .bin .lss (.tmp 15) (.tmp 16)⟩,
  ⟨some 18, none, .pick (.tmp 14) (.tmp 17) (.const (.bool false))⟩]
def c_compress_data_matches_f1_3 : PC := .cond (.tmp 18) .skip (.exit 0)
def c_compress_data_matches_f1_4 : PC := .seq c_compress_data_matches_f1_2 c_compress_data_matches_f1_3
def c_compress_data_matches_f1_5 : PC := .draw [
  ⟨some 21, none, .load false 1 (.tmp 1)⟩,
  ⟨some 22, none, .load false 1 (.tmp 2)⟩,
  ⟨some 23, none, .mv (.tmp 4)⟩,
  ⟨some 24, none, .bin .add (.tmp 22) (.tmp 23)⟩,
  ⟨some 25, none, .idx (.tmp 21) (.tmp 24)⟩,
  ⟨some 26, none, .load false 1 (.tmp 1)⟩,
  ⟨some 27, none, .load false 1 (.tmp 2)⟩,
  ⟨some 28, none, .mv (.tmp 4)⟩,
  ⟨some 29, none, .bin .add (.tmp 27) (.tmp 28)⟩,
  ⟨some 30, none, .mv (.tmp 6)⟩,
  ⟨some 31, none, .bin .sub (.tmp 29) (.tmp 30)⟩,
  ⟨some 32, none, .idx (.tmp 26) (.tmp 31)⟩,
  ⟨some 33, none, .bin .neq (.tmp 25) (.tmp 32)⟩]
  [[], [], [], [1, 2], [0, 3], [], [], [], [6, 7], [], [8, 9], [5, 10], [4, 11]]
def c_compress_data_matches_f1_6 : PC := .cond (.tmp 33) (.exit 1) .skip
def c_compress_data_matches_f1_7 : PC := .seq c_compress_data_matches_f1_5 c_compress_data_matches_f1_6
def c_compress_data_matches_f1_8 : PC := .region [
  ⟨some 34, none, .load false 1 (.tmp 1)⟩,
  ⟨some 35, none, .load false 1 (.tmp 2)⟩,
  ⟨some 36, none, .mv (.tmp 6)⟩,
  ⟨some 37, none, .call 85 [.tmp 34, .tmp 35, .tmp 36]⟩,
  ⟨some 7, none, .mv (.tmp 37)⟩]
def c_compress_data_matches_f1_9 : PC := .region [
  ⟨some 38, none, .mv (.tmp 7)⟩,
  ⟨some 39, none, .mv (.tmp 4)⟩,
  ⟨some 40, none, .bin .gtr (.tmp 38) (.tmp 39)⟩]
def c_compress_data_matches_f1_10 : PC := .region [
  ⟨some 41, none, .mv (.tmp 7)⟩,
  ⟨some 4, none, .mv (.tmp 41)⟩]
def c_compress_data_matches_f1_11 : PC := .region [
  ⟨some 42, none, .mv (.tmp 0)⟩,
  ⟨some 43, none, .mv (.tmp 6)⟩,
  ⟨some 44, none, .mv (.tmp 7)⟩,
  ⟨some 45, none, .callv (.tmp 42) [.tmp 43, .tmp 44]⟩,
  ⟨some 46, none, .un .not (.tmp 45)⟩]
def c_compress_data_matches_f1_12 : PC := .cond (.tmp 46) .ret .skip
def c_compress_data_matches_f1_13 : PC := .seq c_compress_data_matches_f1_11 c_compress_data_matches_f1_12
def c_compress_data_matches_f1_14 : PC := .seq c_compress_data_matches_f1_10 c_compress_data_matches_f1_13
def c_compress_data_matches_f1_15 : PC := .cond (.tmp 40) c_compress_data_matches_f1_14 .skip
def c_compress_data_matches_f1_16 : PC := .seq c_compress_data_matches_f1_9 c_compress_data_matches_f1_15
def c_compress_data_matches_f1_17 : PC := .seq c_compress_data_matches_f1_8 c_compress_data_matches_f1_16
def c_compress_data_matches_f1_18 : PC := .seq c_compress_data_matches_f1_7 c_compress_data_matches_f1_17
def c_compress_data_matches_f1_19 : PC := .block 1 c_compress_data_matches_f1_18
def c_compress_data_matches_f1_20 : PC := .region [
  ⟨some 19, none, .mv (.tmp 6)⟩,
  ⟨some 20, none, .bin .add (.tmp 19) (.const (.int .i64 1))⟩,
  ⟨some 6, none, .mv (.tmp 20)⟩]
def c_compress_data_matches_f1_21 : PC := .seq c_compress_data_matches_f1_19 c_compress_data_matches_f1_20
def c_compress_data_matches_f1_22 : PC := .seq c_compress_data_matches_f1_4 c_compress_data_matches_f1_21
def c_compress_data_matches_f1_23 : PC := .loop [0, 1, 2, 4, 5, 6] c_compress_data_matches_f1_22
def c_compress_data_matches_f1_24 : PC := .block 0 c_compress_data_matches_f1_23
def c_compress_data_matches_f1_25 : PC := .seq c_compress_data_matches_f1_1 c_compress_data_matches_f1_24
def c_compress_data_matches_f1_26 : PC := .seq c_compress_data_matches_f1_0 c_compress_data_matches_f1_25
def c_compress_data_matches_f1 : PC := c_compress_data_matches_f1_26
def s_compress_data_matches_f1 : List Nat := [0, 1, 2, 4, 5, 6, 7]
def r_compress_data_matches_f1 : List (Nat × Option (Bool × Nat)) := []
theorem sound_compress_data_matches_f1 {Γ : Ctx} {S : Spec} (hΓ : Sound Go.Proofs.Try.prog Γ) (hS : FnOk S) (hargs : ∀ args K, S.run args K → args.length = 1) (h : Meets Γ s_compress_data_matches_f1 c_compress_data_matches_f1 r_compress_data_matches_f1 S) : SoundAt Go.Proofs.Try.prog n_compress_data_matches_f1 S := by
  have hb : ∃ c, Go.Proofs.Try.f83.body = some c ∧ compC Go.Proofs.Try.prog Go.Proofs.Try.f83.ntmps c = some (strip c_compress_data_matches_f1) := ⟨_, rfl, by kernel_rfl⟩
  obtain ⟨c, hb, hc⟩ := hb
  exact meets_sound hΓ mixed (fn := Go.Proofs.Try.f83) (by kernel_rfl) (by kernel_rfl) hb hc (l := []) (by kernel_rfl) (by kernel_rfl) (by decide) hS 1 (by decide) hargs h

/-! (depository/compress.data).room (2 parameters) -/
def c_compress_data_room_0 : PC := .region [
  ⟨some 4, none, .mv (.const (.int .i64 0))⟩]
def c_compress_data_room_1 : PC := .region [
  ⟨some 5, none, .mv (.tmp 1)⟩,
  ⟨some 6, none, .call 99 [.tmp 5]⟩,
  ⟨some 7, none, .mv (.tmp 0)⟩,
  ⟨some 8, none, .lenS (.tmp 7)⟩,
  ⟨some 9, none, .mv (.tmp 1)⟩,
  ⟨some 10, none, .bin .sub (.tmp 8) (.tmp 9)⟩,
  ⟨some 11, none, .mm false (.tmp 6) (.tmp 10)⟩,
  ⟨some 4, none, .mv (.tmp 11)⟩]
def c_compress_data_room_2 : PC := .seq c_compress_data_room_1 .ret
def c_compress_data_room_3 : PC := .seq c_compress_data_room_0 c_compress_data_room_2
def c_compress_data_room : PC := c_compress_data_room_3
def s_compress_data_room : List Nat := [0, 1, 4]
def r_compress_data_room : List (Nat × Option (Bool × Nat)) := [⟨4, none⟩]
theorem sound_compress_data_room {Γ : Ctx} {S : Spec} (hΓ : Sound Go.Proofs.Try.prog Γ) (hS : FnOk S) (hargs : ∀ args K, S.run args K → args.length = 2) (h : Meets Γ s_compress_data_room c_compress_data_room r_compress_data_room S) : SoundAt Go.Proofs.Try.prog n_compress_data_room S := by
  have hb : ∃ c, Go.Proofs.Try.f84.body = some c ∧ compC Go.Proofs.Try.prog Go.Proofs.Try.f84.ntmps c = some (strip c_compress_data_room) := ⟨_, rfl, by kernel_rfl⟩
  obtain ⟨c, hb, hc⟩ := hb
  exact meets_sound hΓ mixed (fn := Go.Proofs.Try.f84) (by kernel_rfl) (by kernel_rfl) hb hc (l := [.tmp 4]) (by kernel_rfl) (by kernel_rfl) (by decide) hS 2 (by decide) hargs h

/-! (depository/compress.data).match (3 parameters) -/
def c_compress_data_match_0 : PC := .region [
  ⟨some 6, none, .mv (.const (.int .i64 0))⟩]
def c_compress_data_match_1 : PC := .region [
  ⟨some 9, none, .mv (.tmp 0)⟩,
  ⟨some 10, none, .mv (.tmp 1)⟩,
  ⟨some 11, none, .call 84 [.tmp 9, .tmp 10]⟩,
  ⟨some 7, none, .mv (.const (.int .i64 0))⟩,
  ⟨some 8, none, .mv (.tmp 11)⟩]
def c_compress_data_match_2 : PC := .draw [
  ⟨some 12, none, .mv (.tmp 7)⟩,
  ⟨some 13, none, .mv (.tmp 8)⟩,
  ⟨some 14, none, .bin .lss (.tmp 12) (.tmp 13)⟩,
  ⟨some 15, none, .mv (.tmp 14)⟩,
  ⟨some 16, some (⟨15, true⟩), .mv (.tmp 0)⟩,
  ⟨some 17, some (⟨15, true⟩), .mv (.tmp 1)⟩,
  ⟨some 18, some (⟨15, true⟩), .mv (.tmp 7)⟩,
  ⟨some 19, some (⟨15, true⟩), .bin .add (.tmp 17) (.tmp 18)⟩,
  ⟨some 20, some (⟨15, true⟩), .idx (.tmp 16) (.tmp 19)⟩,
  ⟨some 21, some (⟨15, true⟩), .mv (.tmp 0)⟩,
  ⟨some 22, some (⟨15, true⟩), .mv (.tmp 1)⟩,
  ⟨some 23, some (⟨15, true⟩), .mv (.tmp 7)⟩,
  ⟨some 24, some (⟨15, true⟩), .bin .add (.tmp 22) (.tmp 23)⟩,
  ⟨some 25, some (⟨15, true⟩), .mv (.tmp 2)⟩,
  ⟨some 26, some (⟨15, true⟩), .bin .sub (.tmp 24) (.tmp 25)⟩,
  ⟨some 27, some (⟨15, true⟩), .idx (.tmp 21) (.tmp 26)⟩,
  ⟨some 28, some (⟨15, true⟩), .bin .eql (.tmp 20) (.tmp 27)⟩,
  ⟨some 29, none, .pick (.tmp 15) (.tmp 28) (.const (.bool false))⟩]
  [[], [], [0, 1], [2], [3], [3], [3], [5, 6, 3], [4, 7, 3], [3], [3], [3], [10, 11, 3], [3], [12, 13, 3], [9, 14, 3], [8, 15, 3], [3, 16]]
def c_compress_data_match_3 : PC := .cond (.tmp 29) .skip (.exit 0)
def c_compress_data_match_4 : PC := .seq c_compress_data_match_2 c_compress_data_match_3
def c_compress_data_match_5 : PC := .region [
  ⟨some 30, none, .mv (.tmp 7)⟩,
  ⟨some 31, none, .bin .add (.tmp 30) (.const (.int .i64 1))⟩,
  ⟨some 7, none, .mv (.tmp 31)⟩]
def c_compress_data_match_6 : PC := .block 1 c_compress_data_match_5
def c_compress_data_match_7 : PC := .seq c_compress_data_match_4 c_compress_data_match_6
def c_compress_data_match_8 : PC := .loop [0, 1, 2, 7, 8] c_compress_data_match_7
def c_compress_data_match_9 : PC := .block 0 c_compress_data_match_8
def c_compress_data_match_10 : PC := .region [
  ⟨some 32, none, .mv (.tmp 7)⟩,
  ⟨some 6, none, .mv (.tmp 32)⟩]
def c_compress_data_match_11 : PC := .seq c_compress_data_match_10 .ret
def c_compress_data_match_12 : PC := .seq c_compress_data_match_9 c_compress_data_match_11
def c_compress_data_match_13 : PC := .seq c_compress_data_match_1 c_compress_data_match_12
def c_compress_data_match_14 : PC := .seq c_compress_data_match_0 c_compress_data_match_13
def c_compress_data_match : PC := c_compress_data_match_14
def s_compress_data_match : List Nat := [0, 1, 2, 6, 7, 8]
def r_compress_data_match : List (Nat × Option (Bool × Nat)) := [⟨6, none⟩]
theorem sound_compress_data_match {Γ : Ctx} {S : Spec} (hΓ : Sound Go.Proofs.Try.prog Γ) (hS : FnOk S) (hargs : ∀ args K, S.run args K → args.length = 3) (h : Meets Γ s_compress_data_match c_compress_data_match r_compress_data_match S) : SoundAt Go.Proofs.Try.prog n_compress_data_match S := by
  have hb : ∃ c, Go.Proofs.Try.f85.body = some c ∧ compC Go.Proofs.Try.prog Go.Proofs.Try.f85.ntmps c = some (strip c_compress_data_match) := ⟨_, rfl, by kernel_rfl⟩
  obtain ⟨c, hb, hc⟩ := hb
  exact meets_sound hΓ mixed (fn := Go.Proofs.Try.f85) (by kernel_rfl) (by kernel_rfl) hb hc (l := [.tmp 6]) (by kernel_rfl) (by kernel_rfl) (by decide) hS 3 (by decide) hargs h

/-! depository/compress.isCopy (1 parameters) -/
def c_compress_isCopy_0 : PC := .region [
  ⟨some 1, none, .box 68 (.tmp 0)⟩,
  ⟨some 2, none, .mv (.const (.bool false))⟩]
def c_compress_isCopy_1 : PC := .region [
  ⟨some 3, none, .fldA 0 (.tmp 1)⟩,
  ⟨some 4, none, .load false 1 (.tmp 3)⟩,
  ⟨some 5, none, .bin .neq (.tmp 4) (.const (.int .i64 0))⟩,
  ⟨some 2, none, .mv (.tmp 5)⟩]
def c_compress_isCopy_2 : PC := .seq c_compress_isCopy_1 .ret
def c_compress_isCopy_3 : PC := .seq c_compress_isCopy_0 c_compress_isCopy_2
def c_compress_isCopy : PC := c_compress_isCopy_3
def s_compress_isCopy : List Nat := [0, 1, 2]
def r_compress_isCopy : List (Nat × Option (Bool × Nat)) := [⟨2, none⟩]
theorem sound_compress_isCopy {Γ : Ctx} {S : Spec} (hΓ : Sound Go.Proofs.Try.prog Γ) (hS : FnOk S) (hargs : ∀ args K, S.run args K → args.length = 1) (h : Meets Γ s_compress_isCopy c_compress_isCopy r_compress_isCopy S) : SoundAt Go.Proofs.Try.prog n_compress_isCopy S := by
  have hb : ∃ c, Go.Proofs.Try.f86.body = some c ∧ compC Go.Proofs.Try.prog Go.Proofs.Try.f86.ntmps c = some (strip c_compress_isCopy) := ⟨_, rfl, by kernel_rfl⟩
  obtain ⟨c, hb, hc⟩ := hb
  exact meets_sound hΓ mixed (fn := Go.Proofs.Try.f86) (by kernel_rfl) (by kernel_rfl) hb hc (l := [.tmp 2]) (by kernel_rfl) (by kernel_rfl) (by decide) hS 1 (by decide) hargs h

/-! depository/depositoryref06.Longest (1 parameters) -/
def c_ref06_Longest_0 : PC := .region [
  ⟨some 2, none, .mv (.const (.int .i64 0))⟩]
def c_ref06_Longest_1 : PC := .region [
  ⟨some 3, none, .mv (.tmp 0)⟩,
  ⟨some 4, none, .call 24 [.tmp 3]⟩,
  ⟨some 5, none, .bin .sub (.const (.int .i64 16)) (.tmp 4)⟩,
  ⟨some 6, none, .call 63 [.tmp 5]⟩,
  ⟨some 7, none, .bin .add (.tmp 6) (.const (.int .i64 2))⟩,
  ⟨some 2, none, .mv (.tmp 7)⟩]
def c_ref06_Longest_2 : PC := .seq c_ref06_Longest_1 .ret
def c_ref06_Longest_3 : PC := .seq c_ref06_Longest_0 c_ref06_Longest_2
def c_ref06_Longest : PC := c_ref06_Longest_3
def s_ref06_Longest : List Nat := [0, 2]
def r_ref06_Longest : List (Nat × Option (Bool × Nat)) := [⟨2, none⟩]
theorem sound_ref06_Longest {Γ : Ctx} {S : Spec} (hΓ : Sound Go.Proofs.Try.prog Γ) (hS : FnOk S) (hargs : ∀ args K, S.run args K → args.length = 1) (h : Meets Γ s_ref06_Longest c_ref06_Longest r_ref06_Longest S) : SoundAt Go.Proofs.Try.prog n_ref06_Longest S := by
  have hb : ∃ c, Go.Proofs.Try.f87.body = some c ∧ compC Go.Proofs.Try.prog Go.Proofs.Try.f87.ntmps c = some (strip c_ref06_Longest) := ⟨_, rfl, by kernel_rfl⟩
  obtain ⟨c, hb, hc⟩ := hb
  exact meets_sound hΓ mixed (fn := Go.Proofs.Try.f87) (by kernel_rfl) (by kernel_rfl) hb hc (l := [.tmp 2]) (by kernel_rfl) (by kernel_rfl) (by decide) hS 1 (by decide) hargs h

/-! (depository/compress.data).nearest (3 parameters) -/
def c_compress_data_nearest_0 : PC := .region [
  ⟨some 5, none, .box 3 (.tmp 2)⟩,
  ⟨some 6, none, .alloc 3 (.int .i64 0)⟩]
def c_compress_data_nearest_1 : PC := .region [
  ⟨some 9, none, .mv (.tmp 0)⟩,
  ⟨some 10, none, .mv (.tmp 1)⟩,
  ⟨some 11, none, .call 50 [.tmp 9, .tmp 10]⟩]
def c_compress_data_nearest_2 : PC := .region [
  ⟨some 14, none, .mv (.tmp 8)⟩,
  ⟨some 15, none, .load false 1 (.tmp 5)⟩,
  ⟨some 16, none, .bin .geq (.tmp 14) (.tmp 15)⟩]
def c_compress_data_nearest_3 : PC := .region [
  ⟨some 17, none, .mv (.tmp 7)⟩,
  ⟨none, none, .store 1 (.tmp 6) (.tmp 17)⟩]
def c_compress_data_nearest_4 : PC := .seq c_compress_data_nearest_3 .ret
def c_compress_data_nearest_5 : PC := .cond (.tmp 16) c_compress_data_nearest_4 .skip
def c_compress_data_nearest_6 : PC := .seq c_compress_data_nearest_2 c_compress_data_nearest_5
def c_compress_data_nearest_7 : PC := .block 1 c_compress_data_nearest_6
def c_compress_data_nearest_8 : PC := .rangeF (.tmp 11) [12, 13] [⟨some 7, none, .mv (.tmp 12)⟩, ⟨some 8, none, .mv (.tmp 13)⟩] c_compress_data_nearest_7
def c_compress_data_nearest_9 : PC := .block 0 c_compress_data_nearest_8
def c_compress_data_nearest_10 : PC := .seq c_compress_data_nearest_1 c_compress_data_nearest_9
def c_compress_data_nearest_11 : PC := .region [
  ⟨none, none, .store 1 (.tmp 6) (.const (.int .i64 0))⟩]
def c_compress_data_nearest_12 : PC := .seq c_compress_data_nearest_11 .ret
def c_compress_data_nearest_13 : PC := .seq c_compress_data_nearest_10 c_compress_data_nearest_12
def c_compress_data_nearest_14 : PC := .seq c_compress_data_nearest_0 c_compress_data_nearest_13
def c_compress_data_nearest : PC := c_compress_data_nearest_14
def s_compress_data_nearest : List Nat := [0, 1, 2, 5, 6, 7, 8, 11]
def r_compress_data_nearest : List (Nat × Option (Bool × Nat)) := [⟨6, some (⟨false, 1⟩)⟩]
theorem sound_compress_data_nearest {Γ : Ctx} {S : Spec} (hΓ : Sound Go.Proofs.Try.prog Γ) (hS : FnOk S) (hargs : ∀ args K, S.run args K → args.length = 3) (h : Meets Γ s_compress_data_nearest c_compress_data_nearest r_compress_data_nearest S) : SoundAt Go.Proofs.Try.prog n_compress_data_nearest S := by
  have hb : ∃ c, Go.Proofs.Try.f88.body = some c ∧ compC Go.Proofs.Try.prog Go.Proofs.Try.f88.ntmps c = some (strip c_compress_data_nearest) := ⟨_, rfl, by kernel_rfl⟩
  obtain ⟨c, hb, hc⟩ := hb
  exact meets_sound hΓ mixed (fn := Go.Proofs.Try.f88) (by kernel_rfl) (by kernel_rfl) hb hc (l := [.cell 6 3]) (by kernel_rfl) (by kernel_rfl) (by decide) hS 3 (by decide) hargs h

/-! depository/compress.word (1 parameters) -/
def c_compress_word_0 : PC := .region [
  ⟨some 2, none, .mv (.const (.string (ByteArray.mk (Array.mk []))))⟩]
def c_compress_word_1 : PC := .region [
  ⟨some 3, none, .mv (.tmp 0)⟩,
  ⟨some 4, none, .conv (.toInt .u8) (.tmp 3)⟩,
  ⟨some 5, none, .mv (.tmp 0)⟩,
  ⟨some 6, none, .bin .shr (.tmp 5) (.const (.int .u64 8))⟩,
  ⟨some 7, none, .conv (.toInt .u8) (.tmp 6)⟩,
  ⟨some 8, none, .bslice 5 1 [.tmp 4, .tmp 7]⟩,
  ⟨some 9, none, .conv .bts (.tmp 8)⟩,
  ⟨some 2, none, .mv (.tmp 9)⟩]
def c_compress_word_2 : PC := .seq c_compress_word_1 .ret
def c_compress_word_3 : PC := .seq c_compress_word_0 c_compress_word_2
def c_compress_word : PC := c_compress_word_3
def s_compress_word : List Nat := [0, 2]
def r_compress_word : List (Nat × Option (Bool × Nat)) := [⟨2, none⟩]
theorem sound_compress_word {Γ : Ctx} {S : Spec} (hΓ : Sound Go.Proofs.Try.prog Γ) (hS : FnOk S) (hargs : ∀ args K, S.run args K → args.length = 1) (h : Meets Γ s_compress_word c_compress_word r_compress_word S) : SoundAt Go.Proofs.Try.prog n_compress_word S := by
  have hb : ∃ c, Go.Proofs.Try.f89.body = some c ∧ compC Go.Proofs.Try.prog Go.Proofs.Try.f89.ntmps c = some (strip c_compress_word) := ⟨_, rfl, by kernel_rfl⟩
  obtain ⟨c, hb, hc⟩ := hb
  exact meets_sound hΓ mixed (fn := Go.Proofs.Try.f89) (by kernel_rfl) (by kernel_rfl) hb hc (l := [.tmp 2]) (by kernel_rfl) (by kernel_rfl) (by decide) hS 1 (by decide) hargs h

/-! depository/compress.tokenBytes (2 parameters) -/
def c_compress_tokenBytes_0 : PC := .region [
  ⟨some 2, none, .box 68 (.tmp 0)⟩,
  ⟨some 4, none, .mv (.const (.string (ByteArray.mk (Array.mk []))))⟩]
def c_compress_tokenBytes_1 : PC := .region [
  ⟨some 5, none, .load true 3 (.tmp 2)⟩,
  ⟨some 6, none, .call 86 [.tmp 5]⟩,
  ⟨some 7, none, .un .not (.tmp 6)⟩]
def c_compress_tokenBytes_2 : PC := .region [
  ⟨some 8, none, .fldA 2 (.tmp 2)⟩,
  ⟨some 9, none, .load false 1 (.tmp 8)⟩,
  ⟨some 10, none, .conv (.toInt .u8) (.tmp 9)⟩,
  ⟨some 11, none, .bslice 5 1 [.tmp 10]⟩,
  ⟨some 12, none, .conv .bts (.tmp 11)⟩,
  ⟨some 4, none, .mv (.tmp 12)⟩]
def c_compress_tokenBytes_3 : PC := .seq c_compress_tokenBytes_2 .ret
def c_compress_tokenBytes_4 : PC := .cond (.tmp 7) c_compress_tokenBytes_3 .skip
def c_compress_tokenBytes_5 : PC := .seq c_compress_tokenBytes_1 c_compress_tokenBytes_4
def c_compress_tokenBytes_6 : PC := .draw [
  ⟨some 13, none, .fldA 0 (.tmp 2)⟩,
  ⟨some 14, none, .load false 1 (.tmp 13)⟩,
  ⟨some 15, none, .bin .sub (.tmp 14) (.const (.int .i64 1))⟩,
  ⟨some 16, none, .mv (.tmp 1)⟩,
  ⟨some 17, none, .call 62 [.tmp 16]⟩,
  ⟨some 18, none, .bin .sub (.const (.int .i64 16)) (.tmp 17)⟩,
  ⟨some 19, none, .bin .shl (.tmp 15) (.tmp 18)⟩,
  ⟨some 20, none, .fldA 1 (.tmp 2)⟩,
  ⟨some 21, none, .load false 1 (.tmp 20)⟩,
  ⟨some 22, none, .bin .add (.tmp 19) (.tmp 21)⟩,
  ⟨some 23, none, .bin .sub (.tmp 22) (.const (.int .i64 3))⟩,
  ⟨some 24, none, .call 89 [.tmp 23]⟩,
  ⟨some 4, none, .mv (.tmp 24)⟩]
  [[], [0], [1], [], [3], [4], [2, 5], [], [7], [6, 8], [9], [10, 4], [11, 11, 0, 1, 2, 3, 4, 5, 6, 7, 8, 9, 10, 11]]
def c_compress_tokenBytes_7 : PC := .seq c_compress_tokenBytes_6 .ret
def c_compress_tokenBytes_8 : PC := .seq c_compress_tokenBytes_5 c_compress_tokenBytes_7
def c_compress_tokenBytes_9 : PC := .seq c_compress_tokenBytes_0 c_compress_tokenBytes_8
def c_compress_tokenBytes : PC := c_compress_tokenBytes_9
def s_compress_tokenBytes : List Nat := [0, 1, 2, 4]
def r_compress_tokenBytes : List (Nat × Option (Bool × Nat)) := [⟨4, none⟩]
theorem sound_compress_tokenBytes {Γ : Ctx} {S : Spec} (hΓ : Sound Go.Proofs.Try.prog Γ) (hS : FnOk S) (hargs : ∀ args K, S.run args K → args.length = 2) (h : Meets Γ s_compress_tokenBytes c_compress_tokenBytes r_compress_tokenBytes S) : SoundAt Go.Proofs.Try.prog n_compress_tokenBytes S := by
  have hb : ∃ c, Go.Proofs.Try.f90.body = some c ∧ compC Go.Proofs.Try.prog Go.Proofs.Try.f90.ntmps c = some (strip c_compress_tokenBytes) := ⟨_, rfl, by kernel_rfl⟩
  obtain ⟨c, hb, hc⟩ := hb
  exact meets_sound hΓ mixed (fn := Go.Proofs.Try.f90) (by kernel_rfl) (by kernel_rfl) hb hc (l := [.tmp 4]) (by kernel_rfl) (by kernel_rfl) (by decide) hS 2 (by decide) hargs h

/-! (*strings.Builder).WriteByte (2 parameters) -/
def c_strings_Builder_WriteByte_0 : PC := .region [
  ⟨some 4, none, .mv (.const .nilIface)⟩]
def c_strings_Builder_WriteByte_1 : PC := .region [
  ⟨some 5, none, .mv (.tmp 0)⟩,
  ⟨some 6, none, .call 103 [.tmp 5]⟩]
def c_strings_Builder_WriteByte_2 : PC := .region [
  ⟨some 7, none, .mv (.tmp 0)⟩,
  ⟨some 8, none, .mv (.tmp 0)⟩,
  ⟨some 9, none, .nilck (.tmp 8)⟩,
  ⟨some 10, none, .fldA 1 (.tmp 9)⟩,
  ⟨some 11, none, .load false 1 (.tmp 10)⟩,
  ⟨some 12, none, .mv (.tmp 1)⟩,
  ⟨some 13, none, .bslice 5 1 [.tmp 12]⟩,
  ⟨some 14, none, .app 5 1 1 (.tmp 11) (.tmp 13)⟩,
  ⟨some 15, none, .nilck (.tmp 7)⟩,
  ⟨some 16, none, .fldA 1 (.tmp 15)⟩,
  ⟨none, none, .store 1 (.tmp 16) (.tmp 14)⟩]
def c_strings_Builder_WriteByte_3 : PC := .region [
  ⟨some 4, none, .mv (.const .nilIface)⟩]
def c_strings_Builder_WriteByte_4 : PC := .seq c_strings_Builder_WriteByte_3 .ret
def c_strings_Builder_WriteByte_5 : PC := .seq c_strings_Builder_WriteByte_2 c_strings_Builder_WriteByte_4
def c_strings_Builder_WriteByte_6 : PC := .seq c_strings_Builder_WriteByte_1 c_strings_Builder_WriteByte_5
def c_strings_Builder_WriteByte_7 : PC := .seq c_strings_Builder_WriteByte_0 c_strings_Builder_WriteByte_6
def c_strings_Builder_WriteByte : PC := c_strings_Builder_WriteByte_7
def s_strings_Builder_WriteByte : List Nat := [0, 1, 4]
def r_strings_Builder_WriteByte : List (Nat × Option (Bool × Nat)) := [⟨4, none⟩]
theorem sound_strings_Builder_WriteByte {Γ : Ctx} {S : Spec} (hΓ : Sound Go.Proofs.Try.prog Γ) (hS : FnOk S) (hargs : ∀ args K, S.run args K → args.length = 2) (h : Meets Γ s_strings_Builder_WriteByte c_strings_Builder_WriteByte r_strings_Builder_WriteByte S) : SoundAt Go.Proofs.Try.prog n_strings_Builder_WriteByte S := by
  have hb : ∃ c, Go.Proofs.Try.f91.body = some c ∧ compC Go.Proofs.Try.prog Go.Proofs.Try.f91.ntmps c = some (strip c_strings_Builder_WriteByte) := ⟨_, rfl, by kernel_rfl⟩
  obtain ⟨c, hb, hc⟩ := hb
  exact meets_sound hΓ mixed (fn := Go.Proofs.Try.f91) (by kernel_rfl) (by kernel_rfl) hb hc (l := [.tmp 4]) (by kernel_rfl) (by kernel_rfl) (by decide) hS 2 (by decide) hargs h
theorem soundM_strings_Builder_WriteByte {Γ : Ctx} {mrun : List AV → Sto → (AV → Sto → Prop) → Prop} (hΓ : Sound Go.Proofs.Try.prog Γ) (hargs : ∀ xs σ K, mrun xs σ K → xs.length = 2) (h : MeetsM Γ s_strings_Builder_WriteByte c_strings_Builder_WriteByte r_strings_Builder_WriteByte (mkM mrun)) : SoundAt Go.Proofs.Try.prog n_strings_Builder_WriteByte (mkM mrun) := by
  have hb : ∃ c, Go.Proofs.Try.f91.body = some c ∧ compC Go.Proofs.Try.prog Go.Proofs.Try.f91.ntmps c = some (strip c_strings_Builder_WriteByte) := ⟨_, rfl, by kernel_rfl⟩
  obtain ⟨c, hb, hc⟩ := hb
  exact meetsM_sound hΓ mixed (fn := Go.Proofs.Try.f91) (by kernel_rfl) (by kernel_rfl) hb hc (l := [.tmp 4]) (by kernel_rfl) (by kernel_rfl) (by decide) 2 (by decide) hargs h

/-! (*strings.Builder).WriteString (2 parameters) -/
def c_strings_Builder_WriteString_0 : PC := .region [
  ⟨some 4, none, .mv (.const (.int .i64 0))⟩,
  ⟨some 5, none, .mv (.const .nilIface)⟩]
def c_strings_Builder_WriteString_1 : PC := .region [
  ⟨some 6, none, .mv (.tmp 0)⟩,
  ⟨some 7, none, .call 103 [.tmp 6]⟩]
def c_strings_Builder_WriteString_2 : PC := .region [
  ⟨some 8, none, .mv (.tmp 0)⟩,
  ⟨some 9, none, .mv (.tmp 0)⟩,
  ⟨some 10, none, .nilck (.tmp 9)⟩,
  ⟨some 11, none, .fldA 1 (.tmp 10)⟩,
  ⟨some 12, none, .load false 1 (.tmp 11)⟩,
  ⟨some 13, none, .mv (.tmp 1)⟩,
  ⟨some 14, none, .appS 5 1 (.tmp 12) (.tmp 13)⟩,
  ⟨some 15, none, .nilck (.tmp 8)⟩,
  ⟨some 16, none, .fldA 1 (.tmp 15)⟩,
  ⟨none, none, .store 1 (.tmp 16) (.tmp 14)⟩]
def c_strings_Builder_WriteString_3 : PC := .region [
  ⟨some 17, none, .mv (.tmp 1)⟩,
  ⟨some 18, none, .lenS (.tmp 17)⟩,
  ⟨some 4, none, .mv (.tmp 18)⟩,
  ⟨some 5, none, .mv (.const .nilIface)⟩]
def c_strings_Builder_WriteString_4 : PC := .seq c_strings_Builder_WriteString_3 .ret
def c_strings_Builder_WriteString_5 : PC := .seq c_strings_Builder_WriteString_2 c_strings_Builder_WriteString_4
def c_strings_Builder_WriteString_6 : PC := .seq c_strings_Builder_WriteString_1 c_strings_Builder_WriteString_5
def c_strings_Builder_WriteString_7 : PC := .seq c_strings_Builder_WriteString_0 c_strings_Builder_WriteString_6
def c_strings_Builder_WriteString : PC := c_strings_Builder_WriteString_7
def s_strings_Builder_WriteString : List Nat := [0, 1, 4, 5]
def r_strings_Builder_WriteString : List (Nat × Option (Bool × Nat)) := [⟨4, none⟩, ⟨5, none⟩]
theorem sound_strings_Builder_WriteString {Γ : Ctx} {S : Spec} (hΓ : Sound Go.Proofs.Try.prog Γ) (hS : FnOk S) (hargs : ∀ args K, S.run args K → args.length = 2) (h : Meets Γ s_strings_Builder_WriteString c_strings_Builder_WriteString r_strings_Builder_WriteString S) : SoundAt Go.Proofs.Try.prog n_strings_Builder_WriteString S := by
  have hb : ∃ c, Go.Proofs.Try.f92.body = some c ∧ compC Go.Proofs.Try.prog Go.Proofs.Try.f92.ntmps c = some (strip c_strings_Builder_WriteString) := ⟨_, rfl, by kernel_rfl⟩
  obtain ⟨c, hb, hc⟩ := hb
  exact meets_sound hΓ mixed (fn := Go.Proofs.Try.f92) (by kernel_rfl) (by kernel_rfl) hb hc (l := [.tmp 4, .tmp 5]) (by kernel_rfl) (by kernel_rfl) (by decide) hS 2 (by decide) hargs h
theorem soundM_strings_Builder_WriteString {Γ : Ctx} {mrun : List AV → Sto → (AV → Sto → Prop) → Prop} (hΓ : Sound Go.Proofs.Try.prog Γ) (hargs : ∀ xs σ K, mrun xs σ K → xs.length = 2) (h : MeetsM Γ s_strings_Builder_WriteString c_strings_Builder_WriteString r_strings_Builder_WriteString (mkM mrun)) : SoundAt Go.Proofs.Try.prog n_strings_Builder_WriteString (mkM mrun) := by
  have hb : ∃ c, Go.Proofs.Try.f92.body = some c ∧ compC Go.Proofs.Try.prog Go.Proofs.Try.f92.ntmps c = some (strip c_strings_Builder_WriteString) := ⟨_, rfl, by kernel_rfl⟩
  obtain ⟨c, hb, hc⟩ := hb
  exact meetsM_sound hΓ mixed (fn := Go.Proofs.Try.f92) (by kernel_rfl) (by kernel_rfl) hb hc (l := [.tmp 4, .tmp 5]) (by kernel_rfl) (by kernel_rfl) (by decide) 2 (by decide) hargs h

/-! (*strings.Builder).Len (1 parameters) -/
def c_strings_Builder_Len_0 : PC := .region [
  ⟨some 2, none, .mv (.const (.int .i64 0))⟩]
def c_strings_Builder_Len_1 : PC := .region [
  ⟨some 3, none, .mv (.tmp 0)⟩,
  ⟨some 4, none, .nilck (.tmp 3)⟩,
  ⟨some 5, none, .fldA 1 (.tmp 4)⟩,
  ⟨some 6, none, .load false 1 (.tmp 5)⟩,
  ⟨some 7, none, .lenR (.tmp 6)⟩,
  ⟨some 2, none, .mv (.tmp 7)⟩]
def c_strings_Builder_Len_2 : PC := .seq c_strings_Builder_Len_1 .ret
def c_strings_Builder_Len_3 : PC := .seq c_strings_Builder_Len_0 c_strings_Builder_Len_2
def c_strings_Builder_Len : PC := c_strings_Builder_Len_3
def s_strings_Builder_Len : List Nat := [0, 2]
def r_strings_Builder_Len : List (Nat × Option (Bool × Nat)) := [⟨2, none⟩]
theorem sound_strings_Builder_Len {Γ : Ctx} {S : Spec} (hΓ : Sound Go.Proofs.Try.prog Γ) (hS : FnOk S) (hargs : ∀ args K, S.run args K → args.length = 1) (h : Meets Γ s_strings_Builder_Len c_strings_Builder_Len r_strings_Builder_Len S) : SoundAt Go.Proofs.Try.prog n_strings_Builder_Len S := by
  have hb : ∃ c, Go.Proofs.Try.f93.body = some c ∧ compC Go.Proofs.Try.prog Go.Proofs.Try.f93.ntmps c = some (strip c_strings_Builder_Len) := ⟨_, rfl, by kernel_rfl⟩
  obtain ⟨c, hb, hc⟩ := hb
  exact meets_sound hΓ mixed (fn := Go.Proofs.Try.f93) (by kernel_rfl) (by kernel_rfl) hb hc (l := [.tmp 2]) (by kernel_rfl) (by kernel_rfl) (by decide) hS 1 (by decide) hargs h
theorem soundM_strings_Builder_Len {Γ : Ctx} {mrun : List AV → Sto → (AV → Sto → Prop) → Prop} (hΓ : Sound Go.Proofs.Try.prog Γ) (hargs : ∀ xs σ K, mrun xs σ K → xs.length = 1) (h : MeetsM Γ s_strings_Builder_Len c_strings_Builder_Len r_strings_Builder_Len (mkM mrun)) : SoundAt Go.Proofs.Try.prog n_strings_Builder_Len (mkM mrun) := by
  have hb : ∃ c, Go.Proofs.Try.f93.body = some c ∧ compC Go.Proofs.Try.prog Go.Proofs.Try.f93.ntmps c = some (strip c_strings_Builder_Len) := ⟨_, rfl, by kernel_rfl⟩
  obtain ⟨c, hb, hc⟩ := hb
  exact meetsM_sound hΓ mixed (fn := Go.Proofs.Try.f93) (by kernel_rfl) (by kernel_rfl) hb hc (l := [.tmp 2]) (by kernel_rfl) (by kernel_rfl) (by decide) 1 (by decide) hargs h

/-! depository/depositorybase.Little (2 parameters) -/
def c_base_Little_0 : PC := .region [
  ⟨some 4, none, .mv (.const (.string (ByteArray.mk (Array.mk []))))⟩]
def c_base_Little_1 : PC := .region [
  ⟨some 5, none, .nilR 5 1⟩]
def c_base_Little_2 : PC := .region [
  ⟨some 6, none, .mv (.const (.int .i64 0))⟩]
def c_base_Little_3 : PC := .region [
  ⟨some 7, none, .mv (.tmp 6)⟩,
  ⟨some 8, none, .mv (.tmp 1)⟩,
  ⟨some 9, none, .bin .lss (.tmp 7) (.tmp 8)⟩]
def c_base_Little_4 : PC := .cond (.tmp 9) .skip (.exit 0)
def c_base_Little_5 : PC := .seq c_base_Little_3 c_base_Little_4
def c_base_Little_6 : PC := .region [
  ⟨some 12, none, .mv (.tmp 5)⟩,
  ⟨some 13, none, .mv (.tmp 0)⟩,
  ⟨some 14, none, .bin .rem (.tmp 13) (.const (.int .i64 256))⟩,
  ⟨some 15, none, .conv (.toInt .u8) (.tmp 14)⟩,
  ⟨some 16, none, .bslice 5 1 [.tmp 15]⟩,
  ⟨some 17, none, .app 5 1 1 (.tmp 12) (.tmp 16)⟩,
  ⟨some 5, none, .mv (.tmp 17)⟩]
def c_base_Little_7 : PC := .region [
  ⟨some 18, none, .mv (.tmp 0)⟩,
  ⟨some 19, none, .bin .quo (.tmp 18) (.const (.int .i64 256))⟩,
  ⟨some 0, none, .mv (.tmp 19)⟩]
def c_base_Little_8 : PC := .seq c_base_Little_6 c_base_Little_7
def c_base_Little_9 : PC := .block 1 c_base_Little_8
def c_base_Little_10 : PC := .region [
  ⟨some 10, none, .mv (.tmp 6)⟩,
  ⟨some 11, none, .bin .add (.tmp 10) (.const (.int .i64 1))⟩,
  ⟨some 6, none, .mv (.tmp 11)⟩]
def c_base_Little_11 : PC := .seq c_base_Little_9 c_base_Little_10
def c_base_Little_12 : PC := .seq c_base_Little_5 c_base_Little_11
def c_base_Little_13 : PC := .loop [0, 1, 5, 6] c_base_Little_12
def c_base_Little_14 : PC := .block 0 c_base_Little_13
def c_base_Little_15 : PC := .seq c_base_Little_2 c_base_Little_14
def c_base_Little_16 : PC := .region [
  ⟨some 20, none, .mv (.tmp 5)⟩,
  ⟨some 21, none, .conv .bts (.tmp 20)⟩,
  ⟨some 4, none, .mv (.tmp 21)⟩]
def c_base_Little_17 : PC := .seq c_base_Little_16 .ret
def c_base_Little_18 : PC := .seq c_base_Little_15 c_base_Little_17
def c_base_Little_19 : PC := .seq c_base_Little_1 c_base_Little_18
def c_base_Little_20 : PC := .seq c_base_Little_0 c_base_Little_19
def c_base_Little : PC := c_base_Little_20
def s_base_Little : List Nat := [0, 1, 4, 5, 6]
def r_base_Little : List (Nat × Option (Bool × Nat)) := [⟨4, none⟩]
theorem sound_base_Little {Γ : Ctx} {S : Spec} (hΓ : Sound Go.Proofs.Try.prog Γ) (hS : FnOk S) (hargs : ∀ args K, S.run args K → args.length = 2) (h : Meets Γ s_base_Little c_base_Little r_base_Little S) : SoundAt Go.Proofs.Try.prog n_base_Little S := by
  have hb : ∃ c, Go.Proofs.Try.f95.body = some c ∧ compC Go.Proofs.Try.prog Go.Proofs.Try.f95.ntmps c = some (strip c_base_Little) := ⟨_, rfl, by kernel_rfl⟩
  obtain ⟨c, hb, hc⟩ := hb
  exact meets_sound hΓ mixed (fn := Go.Proofs.Try.f95) (by kernel_rfl) (by kernel_rfl) hb hc (l := [.tmp 4]) (by kernel_rfl) (by kernel_rfl) (by decide) hS 2 (by decide) hargs h

/-! depository/depositorybase.Bit (1 parameters) -/
def c_base_Bit_0 : PC := .region [
  ⟨some 2, none, .mv (.const (.int .i64 0))⟩]
def c_base_Bit_1 : PC := .region [
  ⟨some 3, none, .mv (.tmp 0)⟩]
def c_base_Bit_2 : PC := .region [
  ⟨some 2, none, .mv (.const (.int .i64 1))⟩]
def c_base_Bit_3 : PC := .seq c_base_Bit_2 .ret
def c_base_Bit_4 : PC := .cond (.tmp 3) c_base_Bit_3 .skip
def c_base_Bit_5 : PC := .seq c_base_Bit_1 c_base_Bit_4
def c_base_Bit_6 : PC := .region [
  ⟨some 2, none, .mv (.const (.int .i64 0))⟩]
def c_base_Bit_7 : PC := .seq c_base_Bit_6 .ret
def c_base_Bit_8 : PC := .seq c_base_Bit_5 c_base_Bit_7
def c_base_Bit_9 : PC := .seq c_base_Bit_0 c_base_Bit_8
def c_base_Bit : PC := c_base_Bit_9
def s_base_Bit : List Nat := [0, 2]
def r_base_Bit : List (Nat × Option (Bool × Nat)) := [⟨2, none⟩]
theorem sound_base_Bit {Γ : Ctx} {S : Spec} (hΓ : Sound Go.Proofs.Try.prog Γ) (hS : FnOk S) (hargs : ∀ args K, S.run args K → args.length = 1) (h : Meets Γ s_base_Bit c_base_Bit r_base_Bit S) : SoundAt Go.Proofs.Try.prog n_base_Bit S := by
  have hb : ∃ c, Go.Proofs.Try.f96.body = some c ∧ compC Go.Proofs.Try.prog Go.Proofs.Try.f96.ntmps c = some (strip c_base_Bit) := ⟨_, rfl, by kernel_rfl⟩
  obtain ⟨c, hb, hc⟩ := hb
  exact meets_sound hΓ mixed (fn := Go.Proofs.Try.f96) (by kernel_rfl) (by kernel_rfl) hb hc (l := [.tmp 2]) (by kernel_rfl) (by kernel_rfl) (by decide) hS 1 (by decide) hargs h

/-! math/bits.Len (1 parameters) -/
def c_math_bits_Len_0 : PC := .region [
  ⟨some 2, none, .mv (.const (.int .i64 0))⟩]
def c_math_bits_Len_1 : PC := .region [
  ⟨some 3, none, .mv (.tmp 0)⟩,
  ⟨some 4, none, .conv (.toInt .u32) (.tmp 3)⟩,
  ⟨some 5, none, .call 104 [.tmp 4]⟩,
  ⟨some 2, none, .mv (.tmp 5)⟩]
def c_math_bits_Len_2 : PC := .seq c_math_bits_Len_1 .ret
def c_math_bits_Len_3 : PC := .cond (.const (.bool false)) c_math_bits_Len_2 .skip
def c_math_bits_Len_4 : PC := .region [
  ⟨some 6, none, .mv (.tmp 0)⟩,
  ⟨some 7, none, .call 105 [.tmp 6]⟩,
  ⟨some 2, none, .mv (.tmp 7)⟩]
def c_math_bits_Len_5 : PC := .seq c_math_bits_Len_4 .ret
def c_math_bits_Len_6 : PC := .seq c_math_bits_Len_3 c_math_bits_Len_5
def c_math_bits_Len_7 : PC := .seq c_math_bits_Len_0 c_math_bits_Len_6
def c_math_bits_Len : PC := c_math_bits_Len_7
def s_math_bits_Len : List Nat := [0, 2]
def r_math_bits_Len : List (Nat × Option (Bool × Nat)) := [⟨2, none⟩]
theorem sound_math_bits_Len {Γ : Ctx} {S : Spec} (hΓ : Sound Go.Proofs.Try.prog Γ) (hS : FnOk S) (hargs : ∀ args K, S.run args K → args.length = 1) (h : Meets Γ s_math_bits_Len c_math_bits_Len r_math_bits_Len S) : SoundAt Go.Proofs.Try.prog n_math_bits_Len S := by
  have hb : ∃ c, Go.Proofs.Try.f97.body = some c ∧ compC Go.Proofs.Try.prog Go.Proofs.Try.f97.ntmps c = some (strip c_math_bits_Len) := ⟨_, rfl, by kernel_rfl⟩
  obtain ⟨c, hb, hc⟩ := hb
  exact meets_sound hΓ mixed (fn := Go.Proofs.Try.f97) (by kernel_rfl) (by kernel_rfl) hb hc (l := [.tmp 2]) (by kernel_rfl) (by kernel_rfl) (by decide) hS 1 (by decide) hargs h

/-! (depository/compress.data).greatest (2 parameters) -/
def c_compress_data_greatest_0 : PC := .region [
  ⟨some 4, none, .mv (.const (.int .i64 0))⟩]
def c_compress_data_greatest_1 : PC := .region [
  ⟨some 5, none, .alloc 3 (.int .i64 0)⟩,
  ⟨none, none, .store 1 (.tmp 5) (.const (.int .i64 0))⟩]
def c_compress_data_greatest_2 : PC := .region [
  ⟨some 8, none, .mv (.tmp 0)⟩,
  ⟨some 9, none, .mv (.tmp 1)⟩,
  ⟨some 10, none, .call 50 [.tmp 8, .tmp 9]⟩]
def c_compress_data_greatest_3 : PC := .region [
  ⟨some 13, none, .mv (.tmp 7)⟩,
  ⟨none, none, .store 1 (.tmp 5) (.tmp 13)⟩]
def c_compress_data_greatest_4 : PC := .block 1 c_compress_data_greatest_3
def c_compress_data_greatest_5 : PC := .rangeF (.tmp 10) [11, 12] [⟨some 7, none, .mv (.tmp 12)⟩] c_compress_data_greatest_4
def c_compress_data_greatest_6 : PC := .block 0 c_compress_data_greatest_5
def c_compress_data_greatest_7 : PC := .seq c_compress_data_greatest_2 c_compress_data_greatest_6
def c_compress_data_greatest_8 : PC := .region [
  ⟨some 14, none, .load false 1 (.tmp 5)⟩,
  ⟨some 4, none, .mv (.tmp 14)⟩]
def c_compress_data_greatest_9 : PC := .seq c_compress_data_greatest_8 .ret
def c_compress_data_greatest_10 : PC := .seq c_compress_data_greatest_7 c_compress_data_greatest_9
def c_compress_data_greatest_11 : PC := .seq c_compress_data_greatest_1 c_compress_data_greatest_10
def c_compress_data_greatest_12 : PC := .seq c_compress_data_greatest_0 c_compress_data_greatest_11
def c_compress_data_greatest : PC := c_compress_data_greatest_12
def s_compress_data_greatest : List Nat := [0, 1, 4, 5, 7, 10]
def r_compress_data_greatest : List (Nat × Option (Bool × Nat)) := [⟨4, none⟩]
theorem sound_compress_data_greatest {Γ : Ctx} {S : Spec} (hΓ : Sound Go.Proofs.Try.prog Γ) (hS : FnOk S) (hargs : ∀ args K, S.run args K → args.length = 2) (h : Meets Γ s_compress_data_greatest c_compress_data_greatest r_compress_data_greatest S) : SoundAt Go.Proofs.Try.prog n_compress_data_greatest S := by
  have hb : ∃ c, Go.Proofs.Try.f98.body = some c ∧ compC Go.Proofs.Try.prog Go.Proofs.Try.f98.ntmps c = some (strip c_compress_data_greatest) := ⟨_, rfl, by kernel_rfl⟩
  obtain ⟨c, hb, hc⟩ := hb
  exact meets_sound hΓ mixed (fn := Go.Proofs.Try.f98) (by kernel_rfl) (by kernel_rfl) hb hc (l := [.tmp 4]) (by kernel_rfl) (by kernel_rfl) (by decide) hS 2 (by decide) hargs h

/-! depository/compress.longest (1 parameters) -/
def c_compress_longest_0 : PC := .region [
  ⟨some 2, none, .mv (.const (.int .i64 0))⟩]
def c_compress_longest_1 : PC := .region [
  ⟨some 3, none, .mv (.tmp 0)⟩,
  ⟨some 4, none, .call 62 [.tmp 3]⟩,
  ⟨some 5, none, .bin .sub (.const (.int .i64 16)) (.tmp 4)⟩,
  ⟨some 6, none, .bin .shl (.const (.int .i64 1)) (.tmp 5)⟩,
  ⟨some 7, none, .bin .add (.tmp 6) (.const (.int .i64 3))⟩,
  ⟨some 8, none, .bin .sub (.tmp 7) (.const (.int .i64 1))⟩,
  ⟨some 2, none, .mv (.tmp 8)⟩]
def c_compress_longest_2 : PC := .seq c_compress_longest_1 .ret
def c_compress_longest_3 : PC := .seq c_compress_longest_0 c_compress_longest_2
def c_compress_longest : PC := c_compress_longest_3
def s_compress_longest : List Nat := [0, 2]
def r_compress_longest : List (Nat × Option (Bool × Nat)) := [⟨2, none⟩]
theorem sound_compress_longest {Γ : Ctx} {S : Spec} (hΓ : Sound Go.Proofs.Try.prog Γ) (hS : FnOk S) (hargs : ∀ args K, S.run args K → args.length = 1) (h : Meets Γ s_compress_longest c_compress_longest r_compress_longest S) : SoundAt Go.Proofs.Try.prog n_compress_longest S := by
  have hb : ∃ c, Go.Proofs.Try.f99.body = some c ∧ compC Go.Proofs.Try.prog Go.Proofs.Try.f99.ntmps c = some (strip c_compress_longest) := ⟨_, rfl, by kernel_rfl⟩
  obtain ⟨c, hb, hc⟩ := hb
  exact meets_sound hΓ mixed (fn := Go.Proofs.Try.f99) (by kernel_rfl) (by kernel_rfl) hb hc (l := [.tmp 2]) (by kernel_rfl) (by kernel_rfl) (by decide) hS 1 (by decide) hargs h

/-! depository/compress.wordAt (1 parameters) -/
def c_compress_wordAt_0 : PC := .region [
  ⟨some 2, none, .mv (.const (.int .i64 0))⟩]
def c_compress_wordAt_1 : PC := .draw [
  ⟨some 3, none, .mv (.tmp 0)⟩,
  ⟨some 4, none, .idx (.tmp 3) (.const (.int .i64 0))⟩,
  ⟨some 5, none, .conv (.toInt .i64) (.tmp 4)⟩,
  ⟨some 6, none, .mv (.tmp 0)⟩,
  ⟨some 7, none, .idx (.tmp 6) (.const (.int .i64 1))⟩,
  ⟨some 8, none, .conv (.toInt .i64) (.tmp 7)⟩,
  ⟨some 9, none, .bin .shl (.tmp 8) (.const (.int .u64 8))⟩,
  ⟨some 10, none, .bin .or (.tmp 5) (.tmp 9)⟩,
  ⟨some 2, none, .mv (.tmp 10)⟩]
  [[], [0], [1], [], [3], [4], [5], [2, 6], [7, 0, 1, 2, 3, 4, 5, 6, 7]]
def c_compress_wordAt_2 : PC := .seq c_compress_wordAt_1 .ret
def c_compress_wordAt_3 : PC := .seq c_compress_wordAt_0 c_compress_wordAt_2
def c_compress_wordAt : PC := c_compress_wordAt_3
def s_compress_wordAt : List Nat := [0, 2]
def r_compress_wordAt : List (Nat × Option (Bool × Nat)) := [⟨2, none⟩]
theorem sound_compress_wordAt {Γ : Ctx} {S : Spec} (hΓ : Sound Go.Proofs.Try.prog Γ) (hS : FnOk S) (hargs : ∀ args K, S.run args K → args.length = 1) (h : Meets Γ s_compress_wordAt c_compress_wordAt r_compress_wordAt S) : SoundAt Go.Proofs.Try.prog n_compress_wordAt S := by
  have hb : ∃ c, Go.Proofs.Try.f100.body = some c ∧ compC Go.Proofs.Try.prog Go.Proofs.Try.f100.ntmps c = some (strip c_compress_wordAt) := ⟨_, rfl, by kernel_rfl⟩
  obtain ⟨c, hb, hc⟩ := hb
  exact meets_sound hΓ mixed (fn := Go.Proofs.Try.f100) (by kernel_rfl) (by kernel_rfl) hb hc (l := [.tmp 2]) (by kernel_rfl) (by kernel_rfl) (by decide) hS 1 (by decide) hargs h

/-! depository/depositorybase.Mod (2 parameters) -/
def c_base_Mod_0 : PC := .region [
  ⟨some 4, none, .mv (.const (.int .i64 0))⟩]
def c_base_Mod_1 : PC := .region [
  ⟨some 5, none, .mv (.tmp 0)⟩,
  ⟨some 6, none, .mv (.tmp 1)⟩,
  ⟨some 7, none, .bin .rem (.tmp 5) (.tmp 6)⟩,
  ⟨some 0, none, .mv (.tmp 7)⟩]
def c_base_Mod_2 : PC := .region [
  ⟨some 8, none, .mv (.tmp 0)⟩,
  ⟨some 9, none, .bin .lss (.tmp 8) (.const (.int .i64 0))⟩]
def c_base_Mod_3 : PC := .region [
  ⟨some 10, none, .mv (.tmp 0)⟩,
  ⟨some 11, none, .mv (.tmp 1)⟩,
  ⟨some 12, none, .bin .add (.tmp 10) (.tmp 11)⟩,
  ⟨some 0, none, .mv (.tmp 12)⟩]
def c_base_Mod_4 : PC := .cond (.tmp 9) c_base_Mod_3 .skip
def c_base_Mod_5 : PC := .seq c_base_Mod_2 c_base_Mod_4
def c_base_Mod_6 : PC := .region [
  ⟨some 13, none, .mv (.tmp 0)⟩,
  ⟨some 4, none, .mv (.tmp 13)⟩]
def c_base_Mod_7 : PC := .seq c_base_Mod_6 .ret
def c_base_Mod_8 : PC := .seq c_base_Mod_5 c_base_Mod_7
def c_base_Mod_9 : PC := .seq c_base_Mod_1 c_base_Mod_8
def c_base_Mod_10 : PC := .seq c_base_Mod_0 c_base_Mod_9
def c_base_Mod : PC := c_base_Mod_10
def s_base_Mod : List Nat := [0, 1, 4]
def r_base_Mod : List (Nat × Option (Bool × Nat)) := [⟨4, none⟩]
theorem sound_base_Mod {Γ : Ctx} {S : Spec} (hΓ : Sound Go.Proofs.Try.prog Γ) (hS : FnOk S) (hargs : ∀ args K, S.run args K → args.length = 2) (h : Meets Γ s_base_Mod c_base_Mod r_base_Mod S) : SoundAt Go.Proofs.Try.prog n_base_Mod S := by
  have hb : ∃ c, Go.Proofs.Try.f102.body = some c ∧ compC Go.Proofs.Try.prog Go.Proofs.Try.f102.ntmps c = some (strip c_base_Mod) := ⟨_, rfl, by kernel_rfl⟩
  obtain ⟨c, hb, hc⟩ := hb
  exact meets_sound hΓ mixed (fn := Go.Proofs.Try.f102) (by kernel_rfl) (by kernel_rfl) hb hc (l := [.tmp 4]) (by kernel_rfl) (by kernel_rfl) (by decide) hS 2 (by decide) hargs h

/-! math/bits.Len32 (1 parameters) -/
def c_math_bits_Len32_0 : PC := .region [
  ⟨some 2, none, .mv (.const (.int .i64 0))⟩]
def c_math_bits_Len32_1 : PC := .region [
  ⟨some 3, none, .mv (.tmp 0)⟩,
  ⟨some 4, none, .bin .geq (.tmp 3) (.const (.int .u32 65536))⟩]
def c_math_bits_Len32_2 : PC := .region [
  ⟨some 5, none, .mv (.tmp 0)⟩,
  ⟨some 6, none, .bin .shr (.tmp 5) (.const (.int .u64 16))⟩,
  ⟨some 0, none, .mv (.tmp 6)⟩]
def c_math_bits_Len32_3 : PC := .region [
  ⟨some 2, none, .mv (.const (.int .i64 16))⟩]
def c_math_bits_Len32_4 : PC := .seq c_math_bits_Len32_2 c_math_bits_Len32_3
def c_math_bits_Len32_5 : PC := .cond (.tmp 4) c_math_bits_Len32_4 .skip
def c_math_bits_Len32_6 : PC := .seq c_math_bits_Len32_1 c_math_bits_Len32_5
def c_math_bits_Len32_7 : PC := .region [
  ⟨some 7, none, .mv (.tmp 0)⟩,
  ⟨some 8, none, .bin .geq (.tmp 7) (.const (.int .u32 256))⟩]
def c_math_bits_Len32_8 : PC := .region [
  ⟨some 9, none, .mv (.tmp 0)⟩,
  ⟨some 10, none, .bin .shr (.tmp 9) (.const (.int .u64 8))⟩,
  ⟨some 0, none, .mv (.tmp 10)⟩]
def c_math_bits_Len32_9 : PC := .region [
  ⟨some 11, none, .mv (.tmp 2)⟩,
  ⟨some 12, none, .bin .add (.tmp 11) (.const (.int .i64 8))⟩,
  ⟨some 2, none, .mv (.tmp 12)⟩]
def c_math_bits_Len32_10 : PC := .seq c_math_bits_Len32_8 c_math_bits_Len32_9
def c_math_bits_Len32_11 : PC := .cond (.tmp 8) c_math_bits_Len32_10 .skip
def c_math_bits_Len32_12 : PC := .seq c_math_bits_Len32_7 c_math_bits_Len32_11
def c_math_bits_Len32_13 : PC := .region [
  ⟨some 13, none, .mv (.tmp 2)⟩,
  ⟨some 14, none, .mv (.tmp 0)⟩,
  ⟨some 15, none, .conv (.toInt .u8) (.tmp 14)⟩,
  ⟨some 16, none, .idx (.const (.string (ByteArray.mk (Array.mk [0, 1, 2, 2, 3, 3, 3, 3, 4, 4, 4, 4, 4, 4, 4, 4, 5, 5, 5, 5, 5, 5, 5, 5, 5, 5, 5, 5, 5, 5, 5, 5, 6, 6, 6, 6, 6, 6, 6, 6, 6, 6, 6, 6, 6, 6, 6, 6, 6, 6, 6, 6, 6, 6, 6, 6, 6, 6, 6, 6, 6, 6, 6, 6, 7, 7, 7, 7, 7, 7, 7, 7, 7, 7, 7, 7, 7, 7, 7, 7, 7, 7, 7, 7, 7, 7, 7, 7, 7, 7, 7, 7, 7, 7, 7, 7, 7, 7, 7, 7, 7, 7, 7, 7, 7, 7, 7, 7, 7, 7, 7, 7, 7, 7, 7, 7, 7, 7, 7, 7, 7, 7, 7, 7, 7, 7, 7, 7, 8, 8, 8, 8, 8, 8, 8, 8, 8, 8, 8, 8, 8, 8, 8, 8, 8, 8, 8, 8, 8, 8, 8, 8, 8, 8, 8, 8, 8, 8, 8, 8, 8, 8, 8, 8, 8, 8, 8, 8, 8, 8, 8, 8, 8, 8, 8, 8, 8, 8, 8, 8, 8, 8, 8, 8, 8, 8, 8, 8, 8, 8, 8, 8, 8, 8, 8, 8, 8, 8, 8, 8, 8, 8, 8, 8, 8, 8, 8, 8, 8, 8, 8, 8, 8, 8, 8, 8, 8, 8, 8, 8, 8, 8, 8, 8, 8, 8, 8, 8, 8, 8, 8, 8, 8, 8, 8, 8, 8, 8, 8, 8, 8, 8, 8, 8, 8, 8, 8, 8, 8, 8, 8, 8, 8, 8, 8, 8])))) (.tmp 15)⟩,
  ⟨some 17, none, .conv (.toInt .i64) (.tmp 16)⟩,
  ⟨some 18, none, .bin .add (.tmp 13) (.tmp 17)⟩,
  ⟨some 2, none, .mv (.tmp 18)⟩]
def c_math_bits_Len32_14 : PC := .seq c_math_bits_Len32_13 .ret
def c_math_bits_Len32_15 : PC := .seq c_math_bits_Len32_12 c_math_bits_Len32_14
def c_math_bits_Len32_16 : PC := .seq c_math_bits_Len32_6 c_math_bits_Len32_15
def c_math_bits_Len32_17 : PC := .seq c_math_bits_Len32_0 c_math_bits_Len32_16
def c_math_bits_Len32 : PC := c_math_bits_Len32_17
def s_math_bits_Len32 : List Nat := [0, 2]
def r_math_bits_Len32 : List (Nat × Option (Bool × Nat)) := [⟨2, none⟩]
theorem sound_math_bits_Len32 {Γ : Ctx} {S : Spec} (hΓ : Sound Go.Proofs.Try.prog Γ) (hS : FnOk S) (hargs : ∀ args K, S.run args K → args.length = 1) (h : Meets Γ s_math_bits_Len32 c_math_bits_Len32 r_math_bits_Len32 S) : SoundAt Go.Proofs.Try.prog n_math_bits_Len32 S := by
  have hb : ∃ c, Go.Proofs.Try.f104.body = some c ∧ compC Go.Proofs.Try.prog Go.Proofs.Try.f104.ntmps c = some (strip c_math_bits_Len32) := ⟨_, rfl, by kernel_rfl⟩
  obtain ⟨c, hb, hc⟩ := hb
  exact meets_sound hΓ mixed (fn := Go.Proofs.Try.f104) (by kernel_rfl) (by kernel_rfl) hb hc (l := [.tmp 2]) (by kernel_rfl) (by kernel_rfl) (by decide) hS 1 (by decide) hargs h

/-! math/bits.Len64 (1 parameters) -/
def c_math_bits_Len64_0 : PC := .region [
  ⟨some 2, none, .mv (.const (.int .i64 0))⟩]
def c_math_bits_Len64_1 : PC := .region [
  ⟨some 3, none, .mv (.tmp 0)⟩,
  ⟨some 4, none, .bin .geq (.tmp 3) (.const (.int .u64 4294967296))⟩]
def c_math_bits_Len64_2 : PC := .region [
  ⟨some 5, none, .mv (.tmp 0)⟩,
  ⟨some 6, none, .bin .shr (.tmp 5) (.const (.int .u64 32))⟩,
  ⟨some 0, none, .mv (.tmp 6)⟩]
def c_math_bits_Len64_3 : PC := .region [
  ⟨some 2, none, .mv (.const (.int .i64 32))⟩]
def c_math_bits_Len64_4 : PC := .seq c_math_bits_Len64_2 c_math_bits_Len64_3
def c_math_bits_Len64_5 : PC := .cond (.tmp 4) c_math_bits_Len64_4 .skip
def c_math_bits_Len64_6 : PC := .seq c_math_bits_Len64_1 c_math_bits_Len64_5
def c_math_bits_Len64_7 : PC := .region [
  ⟨some 7, none, .mv (.tmp 0)⟩,
  ⟨some 8, none, .bin .geq (.tmp 7) (.const (.int .u64 65536))⟩]
def c_math_bits_Len64_8 : PC := .region [
  ⟨some 9, none, .mv (.tmp 0)⟩,
  ⟨some 10, none, .bin .shr (.tmp 9) (.const (.int .u64 16))⟩,
  ⟨some 0, none, .mv (.tmp 10)⟩]
def c_math_bits_Len64_9 : PC := .region [
  ⟨some 11, none, .mv (.tmp 2)⟩,
  ⟨some 12, none, .bin .add (.tmp 11) (.const (.int .i64 16))⟩,
  ⟨some 2, none, .mv (.tmp 12)⟩]
def c_math_bits_Len64_10 : PC := .seq c_math_bits_Len64_8 c_math_bits_Len64_9
def c_math_bits_Len64_11 : PC := .cond (.tmp 8) c_math_bits_Len64_10 .skip
def c_math_bits_Len64_12 : PC := .seq c_math_bits_Len64_7 c_math_bits_Len64_11
def c_math_bits_Len64_13 : PC := .region [
  ⟨some 13, none, .mv (.tmp 0)⟩,
  ⟨some 14, none, .bin .geq (.tmp 13) (.const (.int .u64 256))⟩]
def c_math_bits_Len64_14 : PC := .region [
  ⟨some 15, none, .mv (.tmp 0)⟩,
  ⟨some 16, none, .bin .shr (.tmp 15) (.const (.int .u64 8))⟩,
  ⟨some 0, none, .mv (.tmp 16)⟩]
def c_math_bits_Len64_15 : PC := .region [
  ⟨some 17, none, .mv (.tmp 2)⟩,
  ⟨some 18, none, .bin .add (.tmp 17) (.const (.int .i64 8))⟩,
  ⟨some 2, none, .mv (.tmp 18)⟩]
def c_math_bits_Len64_16 : PC := .seq c_math_bits_Len64_14 c_math_bits_Len64_15
def c_math_bits_Len64_17 : PC := .cond (.tmp 14) c_math_bits_Len64_16 .skip
def c_math_bits_Len64_18 : PC := .seq c_math_bits_Len64_13 c_math_bits_Len64_17
def c_math_bits_Len64_19 : PC := .region [
  ⟨some 19, none, .mv (.tmp 2)⟩,
  ⟨some 20, none, .mv (.tmp 0)⟩,
  ⟨some 21, none, .conv (.toInt .u8) (.tmp 20)⟩,
  ⟨some 22, none, .idx (.const (.string (ByteArray.mk (Array.mk [0, 1, 2, 2, 3, 3, 3, 3, 4, 4, 4, 4, 4, 4, 4, 4, 5, 5, 5, 5, 5, 5, 5, 5, 5, 5, 5, 5, 5, 5, 5, 5, 6, 6, 6, 6, 6, 6, 6, 6, 6, 6, 6, 6, 6, 6, 6, 6, 6, 6, 6, 6, 6, 6, 6, 6, 6, 6, 6, 6, 6, 6, 6, 6, 7, 7, 7, 7, 7, 7, 7, 7, 7, 7, 7, 7, 7, 7, 7, 7, 7, 7, 7, 7, 7, 7, 7, 7, 7, 7, 7, 7, 7, 7, 7, 7, 7, 7, 7, 7, 7, 7, 7, 7, 7, 7, 7, 7, 7, 7, 7, 7, 7, 7, 7, 7, 7, 7, 7, 7, 7, 7, 7, 7, 7, 7, 7, 7, 8, 8, 8, 8, 8, 8, 8, 8, 8, 8, 8, 8, 8, 8, 8, 8, 8, 8, 8, 8, 8, 8, 8, 8, 8, 8, 8, 8, 8, 8, 8, 8, 8, 8, 8, 8, 8, 8, 8, 8, 8, 8, 8, 8, 8, 8, 8, 8, 8, 8, 8, 8, 8, 8, 8, 8, 8, 8, 8, 8, 8, 8, 8, 8, 8, 8, 8, 8, 8, 8, 8, 8, 8, 8, 8, 8, 8, 8, 8, 8, 8, 8, 8, 8, 8, 8, 8, 8, 8, 8, 8, 8, 8, 8, 8, 8, 8, 8, 8, 8, 8, 8, 8, 8, 8, 8, 8, 8, 8, 8, 8, 8, 8, 8, 8, 8, 8, 8, 8, 8, 8, 8, 8, 8, 8, 8, 8, 8])))) (.tmp 21)⟩,
  ⟨some 23, none, .conv (.toInt .i64) (.tmp 22)⟩,
  ⟨some 24, none, .bin .add (.tmp 19) (.tmp 23)⟩,
  ⟨some 2, none, .mv (.tmp 24)⟩]
def c_math_bits_Len64_20 : PC := .seq c_math_bits_Len64_19 .ret
def c_math_bits_Len64_21 : PC := .seq c_math_bits_Len64_18 c_math_bits_Len64_20
def c_math_bits_Len64_22 : PC := .seq c_math_bits_Len64_12 c_math_bits_Len64_21
def c_math_bits_Len64_23 : PC := .seq c_math_bits_Len64_6 c_math_bits_Len64_22
def c_math_bits_Len64_24 : PC := .seq c_math_bits_Len64_0 c_math_bits_Len64_23
def c_math_bits_Len64 : PC := c_math_bits_Len64_24
def s_math_bits_Len64 : List Nat := [0, 2]
def r_math_bits_Len64 : List (Nat × Option (Bool × Nat)) := [⟨2, none⟩]
theorem sound_math_bits_Len64 {Γ : Ctx} {S : Spec} (hΓ : Sound Go.Proofs.Try.prog Γ) (hS : FnOk S) (hargs : ∀ args K, S.run args K → args.length = 1) (h : Meets Γ s_math_bits_Len64 c_math_bits_Len64 r_math_bits_Len64 S) : SoundAt Go.Proofs.Try.prog n_math_bits_Len64 S := by
  have hb : ∃ c, Go.Proofs.Try.f105.body = some c ∧ compC Go.Proofs.Try.prog Go.Proofs.Try.f105.ntmps c = some (strip c_math_bits_Len64) := ⟨_, rfl, by kernel_rfl⟩
  obtain ⟨c, hb, hc⟩ := hb
  exact meets_sound hΓ mixed (fn := Go.Proofs.Try.f105) (by kernel_rfl) (by kernel_rfl) hb hc (l := [.tmp 2]) (by kernel_rfl) (by kernel_rfl) (by decide) hS 1 (by decide) hargs h
end Go.Dv.Try
end
