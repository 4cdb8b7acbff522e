/-
  A part of the proof: own texts, laid together by a tool of our own: F04y F04B F04C F04D.
-/
import Derived.Test.YteiglmkppgjcbaaWalks3
import Derived.Test.YteiglmkppgjcbaaDv4
import Derived.KernelRfl
section
/-
  The laws of chapter 4: marks.
-/
namespace Go.Dv.Try
open Go Go.Dv

/-- A string as it is to be, or an error. -/
def SameS (s : List UInt8) (e : Int) (w : List UInt8) (c : Int) : Prop := e = c ∧ (c ≠ 0 ∧ s = [] ∨ c = 0 ∧ s = w)
theorem bitN_out {s : List UInt8} {i : Nat} (h : 8 * s.length ≤ i) : bitN s i = 0 := by
  unfold bitN; rw [List.getElem?_eq_none (by omega)]; simp
theorem change_same {s : List UInt8} {n : Int} {l : List Rn} {v : Nat} (h : bmErr s n = 0) : changeE s n l v = markErr (bitN s) n l v ∧ (markErr (bitN s) n l v = 0 → changeR s n l v = bmOf (markF (bitN s) l v) n.toNat) ∧ (markErr (bitN s) n l v ≠ 0 → changeR s n l v = []) := by
  have e : changeE s n l v = markErr (bitN s) n l v := by unfold changeE; rw [if_neg (fun h' => h' h)]
  refine ⟨e, fun h' => ?_, fun h' => ?_⟩
  · unfold changeR; rw [e, if_pos h']
  · unfold changeR; rw [e, if_neg h']
theorem change_err {s : List UInt8} {n : Int} {l : List Rn} {v : Nat} (h : bmErr s n ≠ 0) : changeE s n l v = bmErr s n ∧ changeR s n l v = [] := by
  have e : changeE s n l v = bmErr s n := by unfold changeE; rw [if_pos h]
  exact ⟨e, by unfold changeR; rw [e, if_neg h]⟩
theorem mark_zero {n : Int} {l : List Rn} : markErr (fun _ => 0) n l 1 = runsErr l n := by
  unfold markErr
  by_cases h : runsErr l n = 0
  · rw [if_neg (fun h' => h' h), if_neg, h]
    intro h'
    obtain ⟨r, _, hr⟩ := List.any_eq_true.1 h'
    obtain ⟨j, _, _, hj⟩ := hits_iff.1 hr
    simp at hj
  · rw [if_pos h]
theorem of_same {n : Int} {l : List Rn} (hs : sizeErr n = 0) : ofE l n = runsErr l n ∧ (runsErr l n = 0 → ofR l n = bmOf (markF (fun _ => 0) l 1) n.toNat) ∧ (runsErr l n ≠ 0 → ofR l n = []) := by
  have e : ofE l n = runsErr l n := by unfold ofE; rw [if_neg (fun h' => h' hs), mark_zero]
  refine ⟨e, fun h' => ?_, fun h' => ?_⟩
  · unfold ofR; rw [e, if_pos h']
  · unfold ofR; rw [e, if_neg h']
def R_lawMarks (ps : List PV) (x : PV) : Prop := ∃ (s : List UInt8) (n : Int) (l : List Rn) (v a to : Int), ps = [.str s, pI n, .agg [.sl 2 (l.map Rn.pv), pI v, pI a, pI to]] ∧ x = pB true
set_option maxHeartbeats 8000000 in
theorem meets_lawMarks : Meets (ctxOf [(n_law04_awake, S_true0), (n_law04_short, fnB Q_short), (n_base_CopyRuns, S_CopyRuns), (n_bitmap_Marked, S_Marked 1), (n_bitmap_Cleared, S_Marked 0), (n_bitmap_BitmapOf, S_BitmapOf), (n_bitmap_Resized, S_Resized), (n_ref04_SizeErr, fnSpec R_SizeErr), (n_ref04_RunsErr, S_RunsErr), (n_law04_same, fnB Q_same), (n_ref04_Mark, S_Mark), (n_base_Zeros, fnSpec R_Zeros), (n_base_Ceil, fnSpec R_Ceil8), (n_ref04_Err, fnSpec R_Err04), (n_ref04_MarkErr, S_MarkErr), (n_ref04_Bits, S_Bits), (n_ref04_From, S_From)]) s_law04_BitmapMarks c_law04_BitmapMarks r_law04_BitmapMarks (fnSpec R_lawMarks) := by
  rintro _ K ⟨_, ⟨s, n, l, v, a, to, rfl, rfl⟩, hK⟩
  by_cases hs : s.length ≤ 600
  case neg =>
    (repeat' ((conv => whnf); (fail_if_success (refine ⟨(?_ : Nat), (?_ : _ < _), ?_⟩)); (fail_if_success (refine ⟨(?_ : RV), ?_⟩)); (fail_if_success (refine ⟨(?_ : List RV), ?_⟩)); first | refine NOT_t ?_ | refine NOT_f ?_ | refine CMP_f (by omega) ?_ | refine And.intro rfl ?_ | refine ⟨_, ⟨_, rfl, rfl⟩, ?_⟩ | fail)) <;> try (conv => whnf)
    (refine ⟨_, ?_, ?_, hK⟩ <;> repeat' (first | exact rfl | exact trivial | exact flat_runs _ | exact flat_pI _ | exact (fun _ h => by cases h) | refine ⟨?_, ?_⟩))
  by_cases hl : l.length ≤ 80
  case neg =>
    (repeat' ((conv => whnf); (fail_if_success (refine ⟨(?_ : Nat), (?_ : _ < _), ?_⟩)); (fail_if_success (refine ⟨(?_ : RV), ?_⟩)); (fail_if_success (refine ⟨(?_ : List RV), ?_⟩)); first | refine NOT_t ?_ | refine CMP_t (by omega) ?_ | (show _ ≤ (9223372036854775807 : Nat) → _; first | rw [List.length_map, tab_len] | rw [List.length_map] | rw [List.length_replicate] | skip; intro _) | refine And.intro rfl ?_ | refine ⟨_, ⟨_, rfl, rfl⟩, ?_⟩ | fail)) <;> try (conv => whnf)
    (refine ⟨_, ?_, ?_, hK⟩ <;> repeat' (first | exact rfl | exact trivial | exact flat_runs _ | exact flat_pI _ | exact (fun _ h => by cases h) | refine ⟨?_, ?_⟩))
  by_cases hz : sizeErr n = 0
  case neg =>
    have he : bmErr s n ≠ 0 := by unfold bmErr; rw [if_pos hz]; exact hz
    obtain ⟨a1, a2⟩ := @change_err s n l 1 he
    obtain ⟨a3, a4⟩ := @change_err s n l 0 he
    have b1 : resE s n to = bmErr s n := by unfold resE; rw [if_pos he]
    have b2 : resR s n to = [] := by unfold resR; rw [b1, if_neg he]
    have o1 : ofE l n = sizeErr n := by unfold ofE; rw [if_pos hz]
    have o2 : ofR l n = [] := by unfold ofR; rw [o1, if_neg hz]
    have f1 : SameS (ofR l n) (ofE l n) [] (sizeErr n) := ⟨o1, .inl ⟨hz, o2⟩⟩
    have f2 : SameS (changeR s n l 1) (changeE s n l 1) [] (bmErr s n) := ⟨a1, .inl ⟨he, a2⟩⟩
    have f3 : SameS (changeR s n l 0) (changeE s n l 0) [] (bmErr s n) := ⟨a3, .inl ⟨he, a4⟩⟩
    have f4 : SameS (resR s n to) (resE s n to) [] (bmErr s n) := ⟨b1, .inl ⟨he, b2⟩⟩
    (repeat' ((conv => whnf); (fail_if_success (refine ⟨(?_ : Nat), (?_ : _ < _), ?_⟩)); (fail_if_success (refine ⟨(?_ : RV), ?_⟩)); (fail_if_success (refine ⟨(?_ : List RV), ?_⟩)); first | refine NOT_t ?_ | refine CMP_t (by omega) ?_ | refine CMP_f (by omega) ?_ | refine CMP_t (by assumption) ?_ | (show _ ≤ (9223372036854775807 : Nat) → _; first | rw [List.length_map, tab_len] | rw [List.length_map] | rw [List.length_replicate] | skip; intro _) | refine And.intro rfl ?_ | refine ⟨_, ⟨_, rfl, rfl⟩, ?_⟩ | refine ⟨_, ⟨_, _, _, _, rfl, rfl⟩, ?_⟩ | refine ⟨_, ⟨_, _, rfl, (by (repeat' (first | omega | assumption | exact trivial | refine And.intro ?_ ?_)); first | done | fail), rfl⟩, ?_⟩ | refine ⟨_, rfl, (by (repeat' (first | omega | assumption | exact trivial | refine And.intro ?_ ?_)); first | done | fail), ?_⟩ | refine ⟨_, _, rfl, (by (repeat' (first | omega | assumption | exact trivial | refine And.intro ?_ ?_)); first | done | fail), ?_⟩ | refine ⟨_, _, _, rfl, (by (repeat' (first | omega | assumption | exact trivial | refine And.intro ?_ ?_)); first | done | fail), ?_⟩ | fail)) <;> try (conv => whnf)
    (refine ⟨_, ?_, ?_, hK⟩ <;> repeat' (first | exact rfl | exact trivial | exact flat_runs _ | exact flat_pI _ | exact (fun _ h => by cases h) | refine ⟨?_, ?_⟩))
  have hn := sizeErr0 hz
  have hc8 := ceil8_len8 hn.1
  have hl8 : len8 n.toNat ≤ 600 ∧ n.toNat ≤ 8 * len8 n.toNat := by unfold len8; omega
  have hzl : (zerosL (ceil8 n).toNat).length = len8 n.toNat := by rw [hc8, Int.toNat_natCast]; simp [zerosL]
  have hzb : bitN (zerosL (ceil8 n).toNat) = fun _ => 0 := by funext i; exact bitN_zeros _ i
  obtain ⟨o1, o2, o3⟩ := @of_same n l hz
  have f1 : runsErr l n = 0 → SameS (ofR l n) (ofE l n) (bmOf (markF (bitN (zerosL (ceil8 n).toNat)) l 1) n.toNat) 0 := fun h => by
    rw [hzb, o1]; exact ⟨h, .inr ⟨rfl, o2 h⟩⟩
  have f1' : runsErr l n ≠ 0 → SameS (ofR l n) (ofE l n) [] (runsErr l n) := fun h => ⟨o1, .inl ⟨h, o3 h⟩⟩
  by_cases he : bmErr s n = 0
  case neg =>
    obtain ⟨a1, a2⟩ := @change_err s n l 1 he
    obtain ⟨a3, a4⟩ := @change_err s n l 0 he
    have b1 : resE s n to = bmErr s n := by unfold resE; rw [if_pos he]
    have b2 : resR s n to = [] := by unfold resR; rw [b1, if_neg he]
    have f2 : SameS (changeR s n l 1) (changeE s n l 1) [] (bmErr s n) := ⟨a1, .inl ⟨he, a2⟩⟩
    have f3 : SameS (changeR s n l 0) (changeE s n l 0) [] (bmErr s n) := ⟨a3, .inl ⟨he, a4⟩⟩
    have f4 : SameS (resR s n to) (resE s n to) [] (bmErr s n) := ⟨b1, .inl ⟨he, b2⟩⟩
    (repeat' ((conv => whnf); (fail_if_success (refine ⟨(?_ : Nat), (?_ : _ < _), ?_⟩)); (fail_if_success (refine ⟨(?_ : RV), ?_⟩)); (fail_if_success (refine ⟨(?_ : List RV), ?_⟩)); first | refine CMP_t (f1 (by assumption)) ?_ | refine CMP_t (f1' (by assumption)) ?_ | refine NOT_t ?_ | refine CMP_t (by omega) ?_ | refine CMP_f (by omega) ?_ | refine CMP_t (by assumption) ?_ | refine CMP (fun _ => ?_) (fun _ => ?_) | (show _ ≤ (9223372036854775807 : Nat) → _; first | rw [List.length_map, tab_len] | rw [List.length_map] | rw [List.length_replicate] | skip; intro _) | refine And.intro rfl ?_ | refine ⟨_, ⟨_, rfl, rfl⟩, ?_⟩ | refine ⟨_, ⟨_, _, _, _, rfl, rfl⟩, ?_⟩ | refine ⟨_, ⟨_, rfl, (by (repeat' (first | omega | assumption | exact trivial | refine And.intro ?_ ?_)); first | done | fail), rfl⟩, ?_⟩ | refine ⟨_, ⟨_, _, rfl, (by (repeat' (first | omega | assumption | exact trivial | refine And.intro ?_ ?_)); first | done | fail), rfl⟩, ?_⟩ | refine ⟨_, rfl, (by (repeat' (first | omega | assumption | exact trivial | refine And.intro ?_ ?_)); first | done | fail), ?_⟩ | refine ⟨_, _, rfl, (by (repeat' (first | omega | assumption | exact trivial | refine And.intro ?_ ?_)); first | done | fail), ?_⟩ | refine ⟨_, _, _, rfl, (by (repeat' (first | omega | assumption | exact trivial | refine And.intro ?_ ?_)); first | done | fail), ?_⟩ | refine ⟨_, _, _, 1, rfl, (by (repeat' (first | omega | assumption | refine And.intro ?_ ?_)); first | done | fail), ?_⟩ | fail)) <;> try (conv => whnf)
    all_goals (refine ⟨_, ?_, ?_, hK⟩ <;> repeat' (first | exact rfl | exact trivial | exact flat_runs _ | exact flat_pI _ | exact (fun _ h => by cases h) | refine ⟨?_, ?_⟩))
  obtain ⟨g1, g2, g3, g4, g5⟩ := bmErr_ok he
  obtain ⟨a1, a2, a3⟩ := @change_same s n l 1 he
  obtain ⟨a4, a5, a6⟩ := @change_same s n l 0 he
  have f2 : markErr (bitN s) n l 1 = 0 → SameS (changeR s n l 1) (changeE s n l 1) (bmOf (markF (bitN s) l 1) n.toNat) 0 := fun h => ⟨a1.trans h, .inr ⟨rfl, a2 h⟩⟩
  have f2' : markErr (bitN s) n l 1 ≠ 0 → SameS (changeR s n l 1) (changeE s n l 1) [] (markErr (bitN s) n l 1) := fun h => ⟨a1, .inl ⟨h, a3 h⟩⟩
  have f3 : markErr (bitN s) n l 0 = 0 → SameS (changeR s n l 0) (changeE s n l 0) (bmOf (markF (bitN s) l 0) n.toNat) 0 := fun h => ⟨a4.trans h, .inr ⟨rfl, a5 h⟩⟩
  have f3' : markErr (bitN s) n l 0 ≠ 0 → SameS (changeR s n l 0) (changeE s n l 0) [] (markErr (bitN s) n l 0) := fun h => ⟨a4, .inl ⟨h, a6 h⟩⟩
  have hm : ∀ v, markErr (bitN s) n l v = 0 → runsErr l n = 0 := fun v h => by
    unfold markErr at h
    by_cases hr : runsErr l n = 0
    · exact hr
    · rw [if_pos hr] at h; exact absurd h hr
  by_cases ht : sizeErr to = 0
  case neg =>
    have b1 : resE s n to = sizeErr to := by unfold resE; rw [if_neg (fun h => h he), if_pos ht]
    have b2 : resR s n to = [] := by unfold resR; rw [b1, if_neg ht]
    have f4 : SameS (resR s n to) (resE s n to) [] (sizeErr to) := ⟨b1, .inl ⟨ht, b2⟩⟩
    (repeat' ((conv => whnf); (fail_if_success (refine ⟨(?_ : Nat), (?_ : _ < _), ?_⟩)); (fail_if_success (refine ⟨(?_ : RV), ?_⟩)); (fail_if_success (refine ⟨(?_ : List RV), ?_⟩)); first | refine CMP_t (f1 (by assumption)) ?_ | refine CMP_t (f2 (by assumption)) ?_ | refine CMP_t (f3 (by assumption)) ?_ | refine CMP_t (f3' (by assumption)) ?_ | refine CMP_t (f2' (by assumption)) ?_ | refine CMP_t (f1' (by assumption)) ?_ | refine NOT_t ?_ | refine CMP_t (by omega) ?_ | refine CMP_f (by omega) ?_ | refine CMP_t (by assumption) ?_ | refine CMP (fun _ => ?_) (fun _ => ?_) | (show _ ≤ (9223372036854775807 : Nat) → _; first | rw [List.length_map, tab_len] | rw [List.length_map] | rw [List.length_replicate] | skip; intro _) | refine And.intro rfl ?_ | refine ⟨_, ⟨_, rfl, rfl⟩, ?_⟩ | refine ⟨_, ⟨_, _, _, _, rfl, rfl⟩, ?_⟩ | refine ⟨_, ⟨_, rfl, (by (repeat' (first | omega | assumption | exact trivial | refine And.intro ?_ ?_)); first | done | fail), rfl⟩, ?_⟩ | refine ⟨_, ⟨_, _, rfl, (by (repeat' (first | omega | assumption | exact trivial | refine And.intro ?_ ?_)); first | done | fail), rfl⟩, ?_⟩ | refine ⟨_, rfl, (by (repeat' (first | omega | assumption | exact trivial | refine And.intro ?_ ?_)); first | done | fail), ?_⟩ | refine ⟨_, _, rfl, (by (repeat' (first | omega | assumption | exact trivial | refine And.intro ?_ ?_)); first | done | fail), ?_⟩ | refine ⟨_, _, _, rfl, (by (repeat' (first | omega | assumption | exact trivial | refine And.intro ?_ ?_)); first | done | fail), ?_⟩ | refine ⟨_, _, _, 1, rfl, (by (repeat' (first | omega | assumption | refine And.intro ?_ ?_)); first | done | fail), ?_⟩ | refine ⟨_, _, _, 0, rfl, (by (repeat' (first | omega | assumption | refine And.intro ?_ ?_)); first | done | fail), ?_⟩ | refine ⟨_, _, _, 1, rfl, ⟨by omega, by omega, by omega, by omega, by omega, hm _ (by assumption)⟩, ?_⟩ | refine ⟨_, _, _, 0, rfl, ⟨by omega, by omega, by omega, by omega, by omega, hm _ (by assumption)⟩, ?_⟩ | refine ⟨_, _, _, _, rfl, (by (repeat' (first | omega | assumption | exact trivial | refine And.intro ?_ ?_)); first | done | fail), ?_⟩ | fail)) <;> try (conv => whnf)
    all_goals (refine ⟨_, ?_, ?_, hK⟩ <;> repeat' (first | exact rfl | exact trivial | exact flat_runs _ | exact flat_pI _ | exact (fun _ h => by cases h) | refine ⟨?_, ?_⟩))
  have htr := sizeErr0 ht
  have hrE : resE s n to = if hits (fun i => decide (bitN s i = 1)) to.toNat (n.toNat - to.toNat) then 18 else 0 := by unfold resE; rw [if_neg (fun h => h he), if_neg (fun h => h ht)]
  have hb0 : ∀ i, n.toNat ≤ i → bitN s i = 0 := fun i hi => by
    by_cases h : i < 8 * s.length
    · exact g5 i h hi
    · exact bitN_out (by omega)
  have hend : (∀ j, to.toNat ≤ j → j < n.toNat → bitN s j = 0) → resE s n to = 0 ∧ resR s n to = bmOf (bitN s) to.toNat := fun h => by
    have : resE s n to = 0 := by
      rw [hrE, if_neg]
      intro hh
      obtain ⟨j, h1, h2, h3⟩ := hits_iff.1 hh
      rw [h j h1 (by omega)] at h3; cases h3
    exact ⟨this, by unfold resR; rw [if_pos this]⟩
  have hbad : ∀ j, to.toNat ≤ j → j < n.toNat → bitN s j = 1 → SameS (resR s n to) (resE s n to) [] 18 := fun j h1 h2 h3 => by
    have : resE s n to = 18 := by rw [hrE, if_pos (hits_iff.2 ⟨j, h1, by omega, by simpa using h3⟩)]
    exact ⟨this, .inl ⟨by decide, by unfold resR; rw [this, if_neg (by decide)]⟩⟩
  obtain ⟨k0, rfl⟩ : ∃ k : Nat, n = k := ⟨n.toNat, by omega⟩
  obtain ⟨t0, rfl⟩ : ∃ k : Nat, to = k := ⟨to.toNat, by omega⟩
  simp only [Int.toNat_natCast] at *
  (repeat' ((conv => whnf); (fail_if_success (refine ⟨(?_ : Nat), (?_ : _ < _), ?_⟩)); (fail_if_success (refine ⟨(?_ : RV), ?_⟩)); (fail_if_success (refine ⟨(?_ : List RV), ?_⟩)); first | refine CMP_t (f1 (by assumption)) ?_ | refine CMP_t (f2 (by assumption)) ?_ | refine CMP_t (f3 (by assumption)) ?_ | refine CMP_t (f3' (by assumption)) ?_ | refine CMP_t (f2' (by assumption)) ?_ | refine CMP_t (f1' (by assumption)) ?_ | refine NOT_t ?_ | refine CMP_t (by omega) ?_ | refine CMP_f (by omega) ?_ | refine CMP (fun _ => ?_) (fun _ => ?_) | (show _ ≤ (9223372036854775807 : Nat) → _; first | rw [List.length_map, tab_len] | rw [List.length_map] | rw [List.length_replicate] | skip; intro _) | refine And.intro rfl ?_ | refine ⟨_, ⟨_, rfl, rfl⟩, ?_⟩ | refine ⟨_, ⟨_, _, _, _, rfl, rfl⟩, ?_⟩ | refine ⟨_, ⟨_, rfl, (by (repeat' (first | omega | assumption | exact trivial | refine And.intro ?_ ?_)); first | done | fail), rfl⟩, ?_⟩ | refine ⟨_, ⟨_, _, rfl, (by (repeat' (first | omega | assumption | exact trivial | refine And.intro ?_ ?_)); first | done | fail), rfl⟩, ?_⟩ | refine ⟨_, rfl, (by (repeat' (first | omega | assumption | exact trivial | refine And.intro ?_ ?_)); first | done | fail), ?_⟩ | refine ⟨_, _, rfl, (by (repeat' (first | omega | assumption | exact trivial | refine And.intro ?_ ?_)); first | done | fail), ?_⟩ | refine ⟨_, _, _, rfl, (by (repeat' (first | omega | assumption | exact trivial | refine And.intro ?_ ?_)); first | done | fail), ?_⟩ | refine ⟨_, _, _, 1, rfl, (by (repeat' (first | omega | assumption | refine And.intro ?_ ?_)); first | done | fail), ?_⟩ | refine ⟨_, _, _, 0, rfl, (by (repeat' (first | omega | assumption | refine And.intro ?_ ?_)); first | done | fail), ?_⟩ | refine ⟨_, _, _, 1, rfl, ⟨by omega, by omega, by omega, by omega, by omega, hm _ (by assumption)⟩, ?_⟩ | refine ⟨_, _, _, 0, rfl, ⟨by omega, by omega, by omega, by omega, by omega, hm _ (by assumption)⟩, ?_⟩ | refine ⟨_, _, _, _, rfl, (by (repeat' (first | omega | assumption | exact trivial | refine And.intro ?_ ?_)); first | done | fail), ?_⟩ | fail)) <;> try (conv => whnf)
  all_goals (
    clear f1 f1' f2 f2' f3 f3' o1 o2 o3 a1 a2 a3 a4 a5 a6 hm hzl hzb hc8 hrE
    have hlen := bitsL_len s k0
    have hbl : ∀ x ∈ bitsL s k0, 0 ≤ x ∧ x ≤ 1 := fun x hx => by
      obtain ⟨j, hj⟩ := mem_get.1 hx
      have hj2 := lt_of_get hj
      rw [hlen] at hj2
      rw [bitsL_get hj2] at hj
      have := bitN_le s j
      have := Option.some.inj hj
      omega
    by_cases hnt : k0 ≤ t0
    · obtain ⟨q1, q2⟩ := hend fun j h1 h2 => by omega
      refine ⟨fun m env σ => σ = [.box 66 [.pv (.sl 2 (l.map Rn.pv)), .pv (pI v), .pv (pI a), .pv (pI t0)], .row T_int 1 true ((bitsL s k0).map pI)] ∧ env = [(5, .ref 0 0 0), (13, .pv (.str (resR s k0 t0))), (14, .pv (pI (resE s k0 t0))), (20, .own 1)], 0, ⟨rfl, rfl⟩, ?_⟩
      rintro m env σ ⟨rfl, rfl⟩
      (repeat' ((conv => whnf); (fail_if_success (refine ⟨(?_ : Nat), (?_ : _ < _), ?_⟩)); (fail_if_success (refine ⟨(?_ : RV), ?_⟩)); (fail_if_success (refine ⟨(?_ : List RV), ?_⟩)); first | refine CMP_f (by omega) ?_ | (show _ ≤ (9223372036854775807 : Nat) → _; first | rw [List.length_map, tab_len] | rw [List.length_map] | rw [List.length_replicate] | skip; intro _) | fail)) <;> try (conv => whnf)
      refine ⟨fun m env σ => ∃ k : Nat, (k + m = t0 - k0) ∧ σ = [.box 66 [.pv (.sl 2 (l.map Rn.pv)), .pv (pI v), .pv (pI a), .pv (pI t0)], .row T_int 1 true ((bitsL s k0 ++ List.replicate k 0).map pI)] ∧ env = [(5, .ref 0 0 0), (13, .pv (.str (resR s k0 t0))), (14, .pv (pI (resE s k0 t0))), (20, .own 1)], t0 - k0, ⟨0, by omega, by simp, rfl⟩, ?_⟩
      rintro m env σ ⟨k, hk, rfl, rfl⟩
      have hlen2 : (bitsL s k0 ++ List.replicate k 0).length = k0 + k := by simp
      (repeat' ((conv => whnf); (fail_if_success (refine ⟨(?_ : Nat), (?_ : _ < _), ?_⟩)); (fail_if_success (refine ⟨(?_ : RV), ?_⟩)); (fail_if_success (refine ⟨(?_ : List RV), ?_⟩)); first | refine CMP (fun _ => ?_) (fun _ => ?_) | (show _ ≤ (9223372036854775807 : Nat) → _; first | rw [List.length_map, tab_len] | rw [List.length_map] | rw [List.length_replicate] | skip; intro _) | refine And.intro rfl ?_ | refine And.intro (by (simp; omega)) ?_ | refine ⟨_, rfl, ?_⟩ | fail)) <;> try (conv => whnf)
      · refine ⟨m - 1, by omega, k + 1, by omega, ?_, rfl⟩
        rw [List.replicate_succ', ← List.append_assoc, List.map_append (l₂ := [0])]
        rfl
      · have hkt : k0 + k = t0 := by omega
        refine ⟨⟨by omega, fun x hx => ?_⟩, ?_⟩
        · rcases List.mem_append.1 hx with hx | hx
          · exact hbl x hx
          · rw [List.eq_of_mem_replicate hx]; omega
        rw [hlen2, hkt]
        have e : bmOf (fun i => ((bitsL s k0 ++ List.replicate k 0)[i]?.getD 0).toNat) t0 = bmOf (bitN s) t0 := by
          have hget : ∀ i, i < t0 → ((bitsL s k0 ++ List.replicate k 0)[i]?.getD 0).toNat = bitN s i := by
            intro i hi
            by_cases hik : i < k0
            · rw [List.getElem?_append_left (by omega), bitsL_get hik]; simp
            · rw [List.getElem?_append_right (by omega), List.getElem?_replicate, if_pos (by omega), hb0 i (by omega)]; rfl
          refine bmOf_congr (fun i => ?_) (bitN_le s) hget
          by_cases hi : i < t0
          · rw [hget i hi]; exact bitN_le s i
          · rw [List.getElem?_eq_none (by omega)]; simp
        rw [e]
        have f5 : SameS (resR s k0 t0) (resE s k0 t0) (bmOf (bitN s) t0) 0 := ⟨q1, .inr ⟨rfl, q2⟩⟩
        (repeat' ((conv => whnf); (fail_if_success (refine ⟨(?_ : Nat), (?_ : _ < _), ?_⟩)); (fail_if_success (refine ⟨(?_ : RV), ?_⟩)); (fail_if_success (refine ⟨(?_ : List RV), ?_⟩)); first | refine CMP_t (by assumption) ?_ | refine ⟨_, ⟨_, _, _, _, rfl, rfl⟩, ?_⟩ | fail)) <;> try (conv => whnf)
        (refine ⟨_, ?_, ?_, hK⟩ <;> repeat' (first | exact rfl | exact trivial | exact flat_runs _ | exact flat_pI _ | exact (fun _ h => by cases h) | refine ⟨?_, ?_⟩))
    · refine ⟨fun m env σ => ∃ (k : Nat) (A : AV), (k = m + t0 ∧ k ≤ k0 ∧ (∀ j, k ≤ j → j < k0 → bitN s j = 0) ∧ (A = .own 1 ∧ k = k0 ∨ A = .sub 1 1 0 k)) ∧ σ = [.box 66 [.pv (.sl 2 (l.map Rn.pv)), .pv (pI v), .pv (pI a), .pv (pI t0)], .row T_int 1 true ((bitsL s k0).map pI)] ∧ env = [(5, .ref 0 0 0), (13, .pv (.str (resR s k0 t0))), (14, .pv (pI (resE s k0 t0))), (20, A)], k0 - t0, ⟨k0, .own 1, ⟨by omega, by omega, fun j h1 h2 => by omega, .inl ⟨rfl, rfl⟩⟩, rfl, rfl⟩, ?_⟩
      rintro m env σ ⟨k, A, ⟨hk, hkk, hz0, hA⟩, rfl, rfl⟩
      rcases hA with ⟨rfl, rfl⟩ | rfl
      · have f6 : ((bitN s (((bitsL s k).length : Int) - 1).toNat : Nat) : Int) = 1 → SameS (resR s k t0) (resE s k t0) [] 18 := fun h => by
          rw [hlen] at h
          exact hbad (k - 1) (by omega) (by omega) (by rw [show ((k : Int) - 1).toNat = k - 1 by omega] at h; omega)
        (repeat' ((conv => whnf); (fail_if_success (refine ⟨(?_ : Nat), (?_ : _ < _), ?_⟩)); (fail_if_success (refine ⟨(?_ : RV), ?_⟩)); (fail_if_success (refine ⟨(?_ : List RV), ?_⟩)); first | refine CMP_t (f6 (by assumption)) ?_ | refine N64 (by omega) ?_ | refine CMP_t (by omega) ?_ | refine CMP (fun _ => ?_) (fun _ => ?_) | (show _ ≤ (9223372036854775807 : Nat) → _; first | rw [List.length_map, tab_len] | rw [List.length_map] | rw [List.length_replicate] | skip; intro _) | refine GETt (by omega) ?_ | refine OWNt (by omega) ?_ | refine ⟨_, ⟨_, _, _, _, rfl, rfl⟩, ?_⟩ | refine .inr (And.intro (by rw [List.length_map, hlen]; omega) ?_) | fail)) <;> try (conv => whnf)
        · (refine ⟨_, ?_, ?_, hK⟩ <;> repeat' (first | exact rfl | exact trivial | exact flat_runs _ | exact flat_pI _ | exact (fun _ h => by cases h) | refine ⟨?_, ?_⟩))
        · rename_i hb1 _
          rw [hlen] at hb1
          refine ⟨m - 1, by omega, k - 1, .sub 1 1 0 (k - 1), ⟨by omega, by omega, fun j h1 h2 => ?_, .inr rfl⟩, rfl, ?_⟩
          · have := bitN_le s (k - 1)
            rw [show j = k - 1 by omega]
            rw [show ((k : Int) - 1).toNat = k - 1 by omega] at hb1
            omega
          · rw [show k - 1 = (((bitsL s k).length : Int) - 1).toNat - 0 by rw [hlen]; omega]
      · have hcl : (cut 0 (0 + k) ((bitsL s k0).map pI)).length = k := by rw [cut_len (by rw [List.length_map]; omega)]; omega
        by_cases hkt : t0 < k
        · have hf6 : ((bitN s (0 + (((cut 0 (0 + k) ((bitsL s k0).map pI)).length : Int) - 1).toNat) : Nat) : Int) = 1 → SameS (resR s k0 t0) (resE s k0 t0) [] 18 := fun h => by
            rw [hcl] at h
            exact hbad (k - 1) (by omega) (by omega) (by rw [show 0 + ((k : Int) - 1).toNat = k - 1 by omega] at h; omega)
          (repeat' ((conv => whnf); (fail_if_success (refine ⟨(?_ : Nat), (?_ : _ < _), ?_⟩)); (fail_if_success (refine ⟨(?_ : RV), ?_⟩)); (fail_if_success (refine ⟨(?_ : List RV), ?_⟩)); first | refine CMP_t (hf6 (by assumption)) ?_ | refine N64 (by omega) ?_ | refine CMP_t (by omega) ?_ | refine CMP (fun _ => ?_) (fun _ => ?_) | (show _ ≤ (9223372036854775807 : Nat) → _; first | rw [List.length_map, tab_len] | rw [List.length_map] | rw [List.length_replicate] | skip; intro _) | refine GETt (by omega) ?_ | refine ⟨_, ⟨_, _, _, _, rfl, rfl⟩, ?_⟩ | refine And.intro (by omega) ?_ | refine And.intro (by (simp; omega)) ?_ | refine And.intro (by rw [hcl, List.length_map]; omega) ?_ | fail)) <;> try (conv => whnf)
          · (refine ⟨_, ?_, ?_, hK⟩ <;> repeat' (first | exact rfl | exact trivial | exact flat_runs _ | exact flat_pI _ | exact (fun _ h => by cases h) | refine ⟨?_, ?_⟩))
          · rename_i hb1 _
            rw [hcl] at hb1
            refine ⟨m - 1, by omega, k - 1, .sub 1 1 0 (k - 1), ⟨by omega, by omega, fun j h1 h2 => ?_, .inr rfl⟩, rfl, ?_⟩
            · by_cases hjk : j < k
              · have := bitN_le s (k - 1)
                rw [show j = k - 1 by omega]
                rw [show 0 + ((k : Int) - 1).toNat = k - 1 by omega] at hb1
                omega
              · exact hz0 j (by omega) h2
            · rw [show k - 1 = (((cut 0 (0 + k) ((bitsL s k0).map pI)).length : Int) - 1).toNat - 0 by rw [hcl]; omega]
        · have hkt : k = t0 := by omega
          subst hkt
          (repeat' ((conv => whnf); (fail_if_success (refine ⟨(?_ : Nat), (?_ : _ < _), ?_⟩)); (fail_if_success (refine ⟨(?_ : RV), ?_⟩)); (fail_if_success (refine ⟨(?_ : List RV), ?_⟩)); first | refine CMP_f (by omega) ?_ | (show _ ≤ (9223372036854775807 : Nat) → _; first | rw [List.length_map, tab_len] | rw [List.length_map] | rw [List.length_replicate] | skip; intro _) | refine And.intro (by (simp; omega)) ?_ | fail)) <;> try (conv => whnf)
          refine ⟨fun m env σ => σ = [.box 66 [.pv (.sl 2 (l.map Rn.pv)), .pv (pI v), .pv (pI a), .pv (pI k)], .row T_int 1 true ((bitsL s k0).map pI)] ∧ env = [(5, .ref 0 0 0), (13, .pv (.str (resR s k0 k))), (14, .pv (pI (resE s k0 k))), (20, .sub 1 1 0 k)], 0, ⟨rfl, rfl⟩, ?_⟩
          rintro m env σ ⟨rfl, rfl⟩
          (repeat' ((conv => whnf); (fail_if_success (refine ⟨(?_ : Nat), (?_ : _ < _), ?_⟩)); (fail_if_success (refine ⟨(?_ : RV), ?_⟩)); (fail_if_success (refine ⟨(?_ : List RV), ?_⟩)); first | refine CMP_f (by omega) ?_ | (show _ ≤ (9223372036854775807 : Nat) → _; first | rw [List.length_map, tab_len] | rw [List.length_map] | rw [List.length_replicate] | skip; intro _) | refine And.intro (by (simp; omega)) ?_ | fail)) <;> try (conv => whnf)
          have ecut : cut 0 (0 + k) ((bitsL s k0).map pI) = (bitsL s k).map pI := by
            rw [cut_map]
            refine congrArg (List.map pI) ?_
            show List.drop 0 (List.take (0 + k) (bitsL s k0)) = _
            rw [List.drop_zero, Nat.zero_add]
            unfold bitsL
            rw [← List.map_take, List.take_range, Nat.min_eq_left hkk]
          obtain ⟨q1, q2⟩ := hend fun j h1 h2 => hz0 j h1 h2
          refine ⟨bitsL s k, by rw [ecut], ⟨by rw [bitsL_len]; omega, fun x hx => ?_⟩, ?_⟩
          · obtain ⟨j, hj⟩ := mem_get.1 hx
            have hj2 := lt_of_get hj
            rw [bitsL_len] at hj2
            rw [bitsL_get hj2] at hj
            have := bitN_le s j
            have := Option.some.inj hj
            omega
          rw [bitsL_len]
          have e : bmOf (fun i => ((bitsL s k)[i]?.getD 0).toNat) k = bmOf (bitN s) k := by
            have hget : ∀ i, i < k → ((bitsL s k)[i]?.getD 0).toNat = bitN s i := by
              intro i hi
              rw [bitsL_get hi]; simp
            refine bmOf_congr (fun i => ?_) (bitN_le s) hget
            by_cases hi : i < k
            · rw [hget i hi]; exact bitN_le s i
            · rw [List.getElem?_eq_none (by rw [bitsL_len]; omega)]; simp
          rw [e]
          have f5 : SameS (resR s k0 k) (resE s k0 k) (bmOf (bitN s) k) 0 := ⟨q1, .inr ⟨rfl, q2⟩⟩
          (repeat' ((conv => whnf); (fail_if_success (refine ⟨(?_ : Nat), (?_ : _ < _), ?_⟩)); (fail_if_success (refine ⟨(?_ : RV), ?_⟩)); (fail_if_success (refine ⟨(?_ : List RV), ?_⟩)); first | refine CMP_t (by assumption) ?_ | refine ⟨_, ⟨_, _, _, _, rfl, rfl⟩, ?_⟩ | fail)) <;> try (conv => whnf)
          (refine ⟨_, ?_, ?_, hK⟩ <;> repeat' (first | exact rfl | exact trivial | exact flat_runs _ | exact flat_pI _ | exact (fun _ h => by cases h) | refine ⟨?_, ?_⟩)))
end Go.Dv.Try
end
section
/-
  What is found and gathered can be marked, and fewer extents have fewer bits.
-/
namespace Go.Dv.Try
open Go Go.Dv

/-- A part of one of the extents. -/
def PartOf (L : List Rn) (r : Rn) : Prop := ∃ e ∈ L, e.s ≤ r.s ∧ r.s + r.n ≤ e.s + e.n ∧ 1 ≤ r.n
theorem mark_parts {s : List UInt8} {n : Int} {l : List Rn} (he : bmErr s n = 0) (h64 : l.length ≤ 64) (hl : ∀ r ∈ l, PartOf (extL s n) r) (hp : l.Pairwise (fun a b => ∀ i, ¬ (inR a i = true ∧ inR b i = true))) : changeE s n l 1 = 0 := by
  obtain ⟨g1, g2, g3, g4, g5⟩ := bmErr_ok he
  unfold changeE
  rw [if_neg (fun h => h he)]
  have hok : ∀ r ∈ l, runOk n r := fun r hr => by
    obtain ⟨e, hel, h1, h2, h3⟩ := hl r hr
    have := (runsP_ok (extP s 0) n.toNat).1 e hel
    unfold runOk; omega
  refine markErr_mk (runsErr_apart h64 hok hp) fun i hi => ?_
  unfold inRs at hi
  obtain ⟨r, hrl, hri⟩ := List.any_eq_true.1 hi
  obtain ⟨e, hel, h1, h2, h3⟩ := hl r hrl
  simp only [inR, decide_eq_true_eq] at hri
  have hin : inRs (runsP (extP s 0) n.toNat) i = true := by
    unfold inRs
    exact List.any_eq_true.2 ⟨e, hel, by simp only [inR, decide_eq_true_eq]; omega⟩
  rw [inRs_runs, Bool.and_eq_true] at hin
  have h4 := hin.2
  unfold extP at h4
  have h5 := of_decide_eq_true h4
  omega
theorem gath_mem : ∀ {S : List Rn} {c : Int} {r : Rn}, 0 ≤ c → (∀ e ∈ S, 1 ≤ e.n) → r ∈ gathL c S → ∃ e ∈ S, r.s = e.s ∧ 1 ≤ r.n ∧ r.n ≤ e.n := by
  intro S
  induction S with
  | nil => intro c r _ _ h; simp [gathL] at h
  | cons e S ih =>
    intro c r hc hS h
    unfold gathL at h
    by_cases h0 : c = 0
    · rw [if_pos h0] at h; cases h
    · rw [if_neg h0] at h
      have he := hS e (by simp)
      rcases List.mem_cons.1 h with rfl | h
      · exact ⟨e, by simp, rfl, by show 1 ≤ min e.n c; omega, by show min e.n c ≤ e.n; omega⟩
      · obtain ⟨x, hx, h1⟩ := ih (by omega) (fun y hy => hS y (by simp [hy])) h
        exact ⟨x, by simp [hx], h1⟩
theorem gath_apart : ∀ {S : List Rn} {c : Int}, 0 ≤ c → (∀ e ∈ S, 1 ≤ e.n) → S.Pairwise (fun a b => ∀ i, ¬ (inR a i = true ∧ inR b i = true)) → (gathL c S).Pairwise (fun a b => ∀ i, ¬ (inR a i = true ∧ inR b i = true)) := by
  intro S
  induction S with
  | nil => intro c _ _ _; simp [gathL]
  | cons e S ih =>
    intro c hc hS hp
    unfold gathL
    by_cases h0 : c = 0
    · rw [if_pos h0]; exact .nil
    · rw [if_neg h0]
      obtain ⟨hp1, hp2⟩ := List.pairwise_cons.1 hp
      refine List.pairwise_cons.2 ⟨fun r hr i hi => ?_, ih (by omega) (fun y hy => hS y (by simp [hy])) hp2⟩
      obtain ⟨x, hx, h1, h2, h3⟩ := gath_mem (by omega) (fun y hy => hS y (by simp [hy])) hr
      simp only [inR, decide_eq_true_eq] at hi
      refine hp1 x hx i ?_
      simp only [inR, decide_eq_true_eq]
      omega
theorem gath_sum : ∀ {S : List Rn} {c : Int}, sumN (gathL c S) = c - gathN c S := by
  intro S
  induction S with
  | nil => intro c; simp [gathL, gathN, sumN]
  | cons e S ih =>
    intro c
    unfold gathL gathN
    by_cases h0 : c = 0
    · rw [if_pos h0, if_pos h0, h0]; rfl
    · rw [if_neg h0, if_neg h0, sumN_cons, ih]
      show min e.n c + _ = _
      omega
theorem gath_two {S : List Rn} {c : Int} (hc : 1 ≤ c) (h : gathN c S = 0) (hS : ∀ e ∈ S, e.n < c) : 2 ≤ (gathL c S).length := by
  cases S with
  | nil => unfold gathN at h; omega
  | cons e S =>
    have he := hS e (by simp)
    unfold gathN at h
    unfold gathL
    rw [if_neg (by omega)] at h
    rw [if_neg (by omega)]
    cases S with
    | nil => unfold gathN at h; omega
    | cons x S => unfold gathL; rw [if_neg (by omega)]; simp
/-- All but the last run that is gathered are whole, and have fewer bits. -/
theorem gath_most : ∀ {S : List Rn} {c : Int}, 0 < c → S ≠ [] → sumN (S.take ((gathL c S).length - 1)) < c := by
  intro S
  induction S with
  | nil => intro c _ h; exact absurd rfl h
  | cons e S ih =>
    intro c hc _
    unfold gathL
    rw [if_neg (by omega)]
    rw [List.length_cons, Nat.add_sub_cancel]
    cases hk : (gathL (c - min e.n c) S).length with
    | zero => simpa [sumN] using hc
    | succ k =>
      have h1 : S ≠ [] := by rintro rfl; simp [gathL] at hk
      have h2 : c - min e.n c ≠ 0 := fun h => by rw [h] at hk; cases S <;> simp [gathL] at hk
      have h3 := ih (c := c - min e.n c) (by omega) h1
      rw [hk, Nat.add_sub_cancel] at h3
      rw [List.take_succ_cons, sumN_cons]
      omega
/-- The longest of numbers, set to 0. -/
theorem perm_max {F R : List Int} {a m : Int} {b : Nat} (h : F.Perm (a :: R)) (hR : ∀ x ∈ R, x ≤ a) (hb : F[b]? = some m) (hm : ∀ x ∈ F, x ≤ m) : m = a ∧ (F.set b 0).Perm (0 :: R) := by
  obtain ⟨hlt, rfl⟩ := List.getElem?_eq_some_iff.1 hb
  have h1 : F[b] ≤ a := by
    rcases List.mem_cons.1 (h.mem_iff.1 (List.getElem_mem hlt)) with h | h
    · omega
    · exact hR _ h
  have h2 : a ≤ F[b] := hm a (h.mem_iff.2 (by simp))
  have h3 : F[b] = a := by omega
  have h5 : ∀ x, (F.set b x).Perm (x :: F.eraseIdx b) := fun x => by
    rw [List.set_eq_take_append_cons_drop, if_pos hlt, List.eraseIdx_eq_take_drop_succ]
    exact List.perm_middle
  refine ⟨h3, (h5 0).trans (List.Perm.cons _ ?_)⟩
  have h4 := h5 F[b]
  rw [List.set_getElem_self] at h4
  have h4 := h4.symm.trans h
  rw [h3] at h4
  exact List.Perm.cons_inv h4
end Go.Dv.Try
end
section
/-
  The three fits: they lie in extents, and the first one begins nowhere after the others.
-/
namespace Go.Dv.Try
open Go Go.Dv

theorem near_in {near c : Int} : ∀ (l : List Rn) (o : Option Int) (x : Int), l.foldl (nearStep near c) o = some x → o = some x ∨ ∃ r ∈ l, x = clampI near c r := by
  intro l
  induction l with
  | nil => intro o x h; exact .inl h
  | cons r l ih =>
    intro o x h
    rcases ih _ x h with h | ⟨y, hy, e⟩
    · unfold nearStep at h
      split at h
      · injection h with h; exact .inr ⟨r, by simp, h.symm⟩
      · split at h
        · injection h with h; exact .inr ⟨r, by simp, h.symm⟩
        · exact .inl h
    · exact .inr ⟨y, by simp [hy], e⟩
theorem near_some {near c : Int} : ∀ (l : List Rn) (o : Option Int), o.isSome ∨ l ≠ [] → (l.foldl (nearStep near c) o).isSome := by
  intro l
  induction l with
  | nil => intro o h; rcases h with h | h <;> first | exact h | exact absurd rfl h
  | cons r l ih =>
    intro o _
    refine ih _ (.inl ?_)
    unfold nearStep
    split
    · rfl
    · split <;> rfl
theorem min_mem : ∀ (l : List Rn) (b : Rn), minF b l ∈ b :: l := by
  intro l
  induction l with
  | nil => intro b; simp [minF]
  | cons x l ih =>
    intro b
    unfold minF
    split
    · exact List.mem_cons_of_mem _ (ih x)
    · rcases List.mem_cons.1 (ih b) with h | h
      · rw [h]; simp
      · simp [h]
theorem fits {s : List UInt8} {n c near : Int} (hc : 1 ≤ c) (hne : roomL c (extL s n) ≠ []) : ∃ x, nearO s n c near = some x ∧ headS (roomL c (extL s n)) ≤ x ∧ headS (roomL c (extL s n)) ≤ minS (roomL c (extL s n)) ∧
    PartOf (extL s n) ⟨headS (roomL c (extL s n)), c⟩ ∧ PartOf (extL s n) ⟨minS (roomL c (extL s n)), c⟩ ∧ PartOf (extL s n) ⟨x, c⟩ := by
  have hin : ∀ r ∈ roomL c (extL s n), r ∈ extL s n ∧ c ≤ r.n := fun r hr => by
    obtain ⟨h1, h2⟩ := List.mem_filter.1 hr
    refine ⟨h1, ?_⟩
    simp only [small, Bool.not_eq_true', decide_eq_false_iff_not] at h2
    omega
  have hsort : (roomL c (extL s n)).Pairwise (fun a b => a.s + a.n < b.s) := (runsP_apart (extP s 0) n.toNat).1.filter _
  have hx : (nearO s n c near).isSome := near_some _ none (.inr hne)
  obtain ⟨x, hx⟩ := Option.isSome_iff_exists.1 hx
  have hxr : ∃ r ∈ roomL c (extL s n), x = clampI near c r := by
    rcases near_in (roomL c (extL s n)) none x hx with h | h
    · cases h
    · exact h
  obtain ⟨q, hq, hxq⟩ := hxr
  have hcl := @clamp_in near c q (hin q hq).2
  rw [← hxq] at hcl
  refine ⟨x, hx, ?_⟩
  cases hR : roomL c (extL s n) with
  | nil => exact absurd hR hne
  | cons r R =>
    rw [hR] at hin hsort hq
    obtain ⟨hs1, _⟩ := List.pairwise_cons.1 hsort
    have hfirst : ∀ y ∈ r :: R, r.s ≤ y.s := fun y hy => by
      rcases List.mem_cons.1 hy with rfl | hy
      · omega
      · have := hs1 y hy
        have := (hin r (by simp)).2
        omega
    have hm := min_mem R r
    have h1 := hfirst q hq
    have h2 := hfirst _ hm
    show r.s ≤ x ∧ r.s ≤ (minF r R).s ∧ PartOf _ ⟨r.s, c⟩ ∧ PartOf _ ⟨(minF r R).s, c⟩ ∧ _
    have part : ∀ y ∈ r :: R, ∀ k, y.s ≤ k → k + c ≤ y.s + y.n → PartOf (extL s n) ⟨k, c⟩ := fun y hy k h3 h4 => ⟨y, (hin y hy).1, h3, h4, hc⟩
    refine ⟨by omega, h2, part r (by simp) _ (Int.le_refl _) ?_, part _ hm _ (Int.le_refl _) ?_, part q hq _ hcl.1 hcl.2⟩
    · have := (hin r (by simp)).2; omega
    · have := (hin _ hm).2; omega
end Go.Dv.Try
end
section
/-
  The laws of chapter 4: room is room.
-/
namespace Go.Dv.Try
open Go Go.Dv

theorem gath_len : ∀ {S : List Rn} {c : Int}, (gathL c S).length ≤ S.length := by
  intro S
  induction S with
  | nil => intro c; simp [gathL]
  | cons e S ih =>
    intro c
    unfold gathL
    split
    · simp
    · have := ih (c := c - min e.n c)
      simp only [List.length_cons]; omega
def R_lawFits (ps : List PV) (x : PV) : Prop := ∃ (s : List UInt8) (n c near : Int), ps = [.str s, pI n, .agg [pI c, pI near]] ∧ x = pB true
set_option maxHeartbeats 4000000 in
theorem meets_lawFits : Meets (ctxOf [(n_law04_awake, S_true0), (n_base_Within, fnB Q_within), (n_ref04_Err, fnSpec R_Err04w), (n_bitmap_FirstFit, S_FirstFit), (n_bitmap_BestFit, S_BestFit), (n_bitmap_NearFit, S_NearFit), (n_bitmap_Gathered, S_GatheredD), (n_bitmap_Marked, S_Marked 1), (n_base_SameRuns, fnB Q_SameRuns), (n_ref04_Count, fnSpec R_refCount), (n_base_CopyRuns, S_CopyRuns), (n_ref04_Extents, S_refExt)]) s_law04_BitmapFits c_law04_BitmapFits r_law04_BitmapFits (fnSpec R_lawFits) := by
  rintro _ K ⟨_, ⟨s, n, c, near, rfl, rfl⟩, hK⟩
  by_cases hn : 0 ≤ n ∧ n ≤ 1000
  case neg =>
    (repeat' ((conv => whnf); (fail_if_success (refine ⟨(?_ : Nat), (?_ : _ < _), ?_⟩)); (fail_if_success (refine ⟨(?_ : RV), ?_⟩)); (fail_if_success (refine ⟨(?_ : List RV), ?_⟩)); first | refine NOT_t ?_ | refine NOT_f ?_ | refine CMP_f (by omega) ?_ | refine And.intro rfl ?_ | refine ⟨_, ⟨_, _, _, rfl, rfl⟩, ?_⟩ | fail)) <;> try (conv => whnf)
    (refine ⟨_, ?_, ?_, hK⟩ <;> repeat' (first | exact rfl | exact trivial | exact flat_runs _ | exact flat_pI _ | exact (fun _ h => by cases h) | refine ⟨?_, ?_⟩))
  by_cases he : bmErr s n = 0
  case neg =>
    (repeat' ((conv => whnf); (fail_if_success (refine ⟨(?_ : Nat), (?_ : _ < _), ?_⟩)); (fail_if_success (refine ⟨(?_ : RV), ?_⟩)); (fail_if_success (refine ⟨(?_ : List RV), ?_⟩)); first | refine NOT_t ?_ | refine CMP_t (by omega) ?_ | refine And.intro rfl ?_ | refine ⟨_, ⟨_, _, _, rfl, rfl⟩, ?_⟩ | refine ⟨_, ⟨_, _, rfl, (by repeat' (first | omega | assumption | exact trivial | refine And.intro ?_ ?_)), rfl⟩, ?_⟩ | fail)) <;> try (conv => whnf)
    (refine ⟨_, ?_, ?_, hK⟩ <;> repeat' (first | exact rfl | exact trivial | exact flat_runs _ | exact flat_pI _ | exact (fun _ h => by cases h) | refine ⟨?_, ?_⟩))
  obtain ⟨g1, g2, g3, g4, g5⟩ := bmErr_ok he
  have hs : s.length ≤ 1000 := by
    unfold ceil8 at g4
    omega
  by_cases hc : 1 ≤ c ∧ c ≤ 4096
  case neg =>
    (repeat' ((conv => whnf); (fail_if_success (refine ⟨(?_ : Nat), (?_ : _ < _), ?_⟩)); (fail_if_success (refine ⟨(?_ : RV), ?_⟩)); (fail_if_success (refine ⟨(?_ : List RV), ?_⟩)); first | refine NOT_t ?_ | refine NOT_f ?_ | refine CMP_t (by omega) ?_ | refine CMP_f (by omega) ?_ | refine And.intro rfl ?_ | refine ⟨_, ⟨_, _, _, rfl, rfl⟩, ?_⟩ | refine ⟨_, ⟨_, _, rfl, (by repeat' (first | omega | assumption | exact trivial | refine And.intro ?_ ?_)), rfl⟩, ?_⟩ | fail)) <;> try (conv => whnf)
    (refine ⟨_, ?_, ?_, hK⟩ <;> repeat' (first | exact rfl | exact trivial | exact flat_runs _ | exact flat_pI _ | exact (fun _ h => by cases h) | refine ⟨?_, ?_⟩))
  by_cases hne : 0 ≤ near ∧ near ≤ 4095
  case neg =>
    (repeat' ((conv => whnf); (fail_if_success (refine ⟨(?_ : Nat), (?_ : _ < _), ?_⟩)); (fail_if_success (refine ⟨(?_ : RV), ?_⟩)); (fail_if_success (refine ⟨(?_ : List RV), ?_⟩)); first | refine NOT_t ?_ | refine NOT_f ?_ | refine CMP_t (by omega) ?_ | refine CMP_f (by omega) ?_ | refine And.intro rfl ?_ | refine ⟨_, ⟨_, _, _, rfl, rfl⟩, ?_⟩ | refine ⟨_, ⟨_, _, rfl, (by repeat' (first | omega | assumption | exact trivial | refine And.intro ?_ ?_)), rfl⟩, ?_⟩ | fail)) <;> try (conv => whnf)
    (refine ⟨_, ?_, ?_, hK⟩ <;> repeat' (first | exact rfl | exact trivial | exact flat_runs _ | exact flat_pI _ | exact (fun _ h => by cases h) | refine ⟨?_, ?_⟩))
  have h0 : askE s n c 0 = 0 := by unfold askE andE; rw [if_neg (fun h => h he), if_pos ⟨hc, by decide, by decide⟩]
  have h1 : askE s n c near = 0 := by unfold askE andE; rw [if_neg (fun h => h he), if_pos ⟨hc, hne⟩]
  have b1 : firstR s n c = headS (roomL c (extL s n)) := by unfold firstR; rw [if_neg (fun h => h h0)]; rfl
  have b2 : fitE s n c 0 = headE (roomL c (extL s n)) := by unfold fitE; rw [if_neg (fun h => h h0)]; rfl
  have b3 : bestR s n c = minS (roomL c (extL s n)) := by unfold bestR; rw [if_neg (fun h => h h0)]; rfl
  have b4 : nearR s n c near = optI (nearO s n c near) := by unfold nearR; rw [if_neg (fun h => h h1)]
  have b5 : nearE s n c near = if (nearO s n c near).isSome then 0 else 16 := by unfold nearE; rw [if_neg (fun h => h h1)]
  by_cases hR : roomL c (extL s n) = []
  case neg =>
    obtain ⟨x, hx, l1, l2, p1, p2, p3⟩ := @fits s n c near hc.1 hR
    have e1 : fitE s n c 0 = 0 := by
      rw [b2]
      cases h : roomL c (extL s n) with
      | nil => exact absurd h hR
      | cons _ _ => rfl
    have e2 : nearE s n c near = 0 := by rw [b5, hx]; rfl
    have e3 : nearR s n c near = x := by rw [b4, hx]; rfl
    have e4 : gatP s n c near = [⟨x, c⟩] := by unfold gatP; rw [if_neg (fun h => h h1), hx]
    have e5 : gatPE s n c near = 0 := by unfold gatPE; rw [if_neg (fun h => h h1), hx]
    have one : ∀ k : Int, PartOf (extL s n) ⟨k, c⟩ → changeE s n [⟨k, c⟩] 1 = 0 := fun k h => mark_parts he (by simp) (fun r hr => by rw [List.mem_singleton.1 hr]; exact h) (by simp)
    (repeat' ((conv => whnf); (fail_if_success (refine ⟨(?_ : Nat), (?_ : _ < _), ?_⟩)); (fail_if_success (refine ⟨(?_ : RV), ?_⟩)); (fail_if_success (refine ⟨(?_ : List RV), ?_⟩)); first | refine NOT_t ?_ | refine CMP_t (by omega) ?_ | refine CMP_f (by omega) ?_ | refine And.intro rfl ?_ | refine ⟨_, ⟨_, _, _, rfl, rfl⟩, ?_⟩ | refine ⟨_, ⟨_, _, rfl, (by repeat' (first | omega | assumption | exact trivial | refine And.intro ?_ ?_)), rfl⟩, ?_⟩ | refine ⟨_, _, _, rfl, (by repeat' (first | omega | assumption | exact trivial | refine And.intro ?_ ?_)), ?_⟩ | refine ⟨_, _, _, _, rfl, (by repeat' (first | omega | assumption | exact trivial | refine And.intro ?_ ?_)), ?_⟩ | fail)) <;> try (conv => whnf)
    refine ⟨fun m env σ => ∃ i : Nat, (i + m = 3) ∧ σ = [.box 54 [.pv (pI c), .pv (pI near)], .row T_api_Run 2 true ((gatP s n c near).map Rn.pv), .row T_int 1 true [pI (firstR s n c), pI (bestR s n c), pI (nearR s n c near)]] ∧ env = [(0, .pv (.str s)), (1, .pv (pI n)), (5, .ref 0 0 0), (7, .pv (pI (firstR s n c))), (11, .pv (pI (nearR s n c near))), (13, .own 1), (14, .pv (pI (gatPE s n c near))), (15, .own 2), (16, .pv (pI i))], 3, ⟨0, by omega, rfl, rfl⟩, ?_⟩
    rintro m env σ ⟨i, hi, rfl, rfl⟩
    by_cases h3 : i < 3
    · obtain ⟨k, hk, hp, hl⟩ : ∃ k : Int, [firstR s n c, bestR s n c, nearR s n c near][i]? = some k ∧ PartOf (extL s n) ⟨k, c⟩ ∧ firstR s n c ≤ k := by
        rw [b1, b3, e3]
        obtain rfl | rfl | rfl : i = 0 ∨ i = 1 ∨ i = 2 := by omega
        · exact ⟨_, rfl, p1, Int.le_refl _⟩
        · exact ⟨_, rfl, p2, l2⟩
        · exact ⟨_, rfl, p3, l1⟩
      have q := one k hp
      have hget : [pI (firstR s n c), pI (bestR s n c), pI (nearR s n c near)][i]? = some (pI k) := by
        rw [show [pI (firstR s n c), pI (bestR s n c), pI (nearR s n c near)] = [firstR s n c, bestR s n c, nearR s n c near].map pI from rfl, List.getElem?_map, hk]; rfl
      clear e4 e5 p1 p2 p3 l1 l2 b1 b2 b3 b4 b5 hx
      (repeat' ((conv => whnf); (fail_if_success (refine ⟨(?_ : Nat), (?_ : _ < _), ?_⟩)); (fail_if_success (refine ⟨(?_ : RV), ?_⟩)); (fail_if_success (refine ⟨(?_ : List RV), ?_⟩)); first | refine CMP_t (by omega) ?_ | refine And.intro rfl ?_ | refine And.intro (by (simp; omega)) ?_ | fail)) <;> try (conv => whnf)
      refine ⟨_, (by rw [Int.toNat_natCast]; exact hget), ?_⟩
      (repeat' ((conv => whnf); (fail_if_success (refine ⟨(?_ : Nat), (?_ : _ < _), ?_⟩)); (fail_if_success (refine ⟨(?_ : RV), ?_⟩)); (fail_if_success (refine ⟨(?_ : List RV), ?_⟩)); first | refine And.intro rfl ?_ | fail)) <;> try (conv => whnf)
      refine ⟨s, n, [⟨k, c⟩], rfl, by omega, ?_⟩
      rw [q]
      (repeat' ((conv => whnf); (fail_if_success (refine ⟨(?_ : Nat), (?_ : _ < _), ?_⟩)); (fail_if_success (refine ⟨(?_ : RV), ?_⟩)); (fail_if_success (refine ⟨(?_ : List RV), ?_⟩)); first | refine CMP_f (by omega) ?_ | refine And.intro (by (simp; omega)) ?_ | fail)) <;> try (conv => whnf)
      refine ⟨_, (by rw [Int.toNat_natCast]; exact hget), ?_⟩
      (repeat' ((conv => whnf); (fail_if_success (refine ⟨(?_ : Nat), (?_ : _ < _), ?_⟩)); (fail_if_success (refine ⟨(?_ : RV), ?_⟩)); (fail_if_success (refine ⟨(?_ : List RV), ?_⟩)); first | refine N64 (by omega) ?_ | refine CMP_f (by omega) ?_ | fail)) <;> try (conv => whnf)
      refine ⟨m - 1, by omega, i + 1, by omega, rfl, rfl⟩
    · obtain rfl : i = 3 := by omega
      rw [e4, e5, e3]
      (repeat' ((conv => whnf); (fail_if_success (refine ⟨(?_ : Nat), (?_ : _ < _), ?_⟩)); (fail_if_success (refine ⟨(?_ : RV), ?_⟩)); (fail_if_success (refine ⟨(?_ : List RV), ?_⟩)); first | refine CMP_t (by omega) ?_ | refine CMP_f (by omega) ?_ | refine And.intro rfl ?_ | fail)) <;> try (conv => whnf)
      refine ⟨_, ⟨[⟨x, c⟩], [⟨x, c⟩], rfl, rfl⟩, ?_⟩
      intro r hr
      obtain rfl : r = true := hr.2 rfl
      (conv => whnf)
      (refine ⟨_, ?_, ?_, hK⟩ <;> repeat' (first | exact rfl | exact trivial | exact flat_runs _ | exact flat_pI _ | exact (fun _ h => by cases h) | refine ⟨?_, ?_⟩))
  have hno : nearO s n c near = none := by
    show nearF near c (roomL c (extL s n)) = none
    rw [hR]; rfl
  have e1 : fitE s n c 0 = 16 := by rw [b2, hR]; rfl
  have e2 : nearE s n c near = 16 := by rw [b5, hno]; rfl
  obtain ⟨k, rfl⟩ : ∃ k : Nat, n = k := ⟨n.toNat, by omega⟩
  have hS := sortG_ok near (extL s k)
  have hsum := @ext_sum s k g1
  have hsS := sumN_perm hS.1
  have hSp : ∀ r ∈ sortG near (extL s k), 1 ≤ r.n := fun r hr => ((runsP_ok (extP s 0) k).1 r (by have := hS.1.mem_iff.1 hr; unfold extL at this; rwa [Int.toNat_natCast] at this)).2.1
  have e4 : gatPE s k c near = gerr (gathN c (sortG near (extL s k))) (gathL c (sortG near (extL s k))).length := by unfold gatPE; rw [if_neg (fun h => h h1), hno]
  by_cases hg : gatPE s k c near = 0
  case neg =>
    have e5 : gatPE s k c near = 16 ∧ k - cntN s k < c ∨ gatPE s k c near = 8 := by
      rw [e4]
      unfold gerr
      by_cases h2 : gathN c (sortG near (extL s k)) = 0
      · rw [if_neg (fun h => h h2)]
        rw [e4] at hg
        unfold gerr at hg
        rw [if_neg (fun h => h h2)] at hg
        split at hg
        · exact absurd rfl hg
        · rw [if_neg (by assumption)]; exact .inr rfl
      · rw [if_pos h2]
        refine .inl ⟨rfl, ?_⟩
        refine Decidable.of_not_not fun h3 => h2 (gathN_zero (by omega) ?_ (fun r hr => by have := hSp r hr; omega))
        rw [hsS, hsum, Int.toNat_natCast]; omega
    clear hS hsum hsS hSp e4 b1 b2 b3 b4 b5
    have hcnt := cntN_le s k
    rcases e5 with ⟨e5, e6⟩ | e5
    · (repeat' ((conv => whnf); (fail_if_success (refine ⟨(?_ : Nat), (?_ : _ < _), ?_⟩)); (fail_if_success (refine ⟨(?_ : RV), ?_⟩)); (fail_if_success (refine ⟨(?_ : List RV), ?_⟩)); first | refine N64 (by omega) ?_ | refine NOT_t ?_ | refine CMP_t (by omega) ?_ | refine CMP_f (by omega) ?_ | refine And.intro rfl ?_ | refine ⟨_, ⟨_, _, _, rfl, rfl⟩, ?_⟩ | refine ⟨_, ⟨_, _, rfl, (by repeat' (first | omega | assumption | exact trivial | refine And.intro ?_ ?_)), rfl⟩, ?_⟩ | refine ⟨_, _, _, rfl, (by repeat' (first | omega | assumption | exact trivial | refine And.intro ?_ ?_)), ?_⟩ | refine ⟨_, _, _, _, rfl, (by repeat' (first | omega | assumption | exact trivial | refine And.intro ?_ ?_)), ?_⟩ | fail)) <;> try (conv => whnf)
      (refine ⟨_, ?_, ?_, hK⟩ <;> repeat' (first | exact rfl | exact trivial | exact flat_runs _ | exact flat_pI _ | exact (fun _ h => by cases h) | refine ⟨?_, ?_⟩))
    · (repeat' ((conv => whnf); (fail_if_success (refine ⟨(?_ : Nat), (?_ : _ < _), ?_⟩)); (fail_if_success (refine ⟨(?_ : RV), ?_⟩)); (fail_if_success (refine ⟨(?_ : List RV), ?_⟩)); first | refine NOT_t ?_ | refine CMP_t (by omega) ?_ | refine CMP_f (by omega) ?_ | refine And.intro rfl ?_ | refine ⟨_, ⟨_, _, _, rfl, rfl⟩, ?_⟩ | refine ⟨_, ⟨_, _, rfl, (by repeat' (first | omega | assumption | exact trivial | refine And.intro ?_ ?_)), rfl⟩, ?_⟩ | refine ⟨_, _, _, rfl, (by repeat' (first | omega | assumption | exact trivial | refine And.intro ?_ ?_)), ?_⟩ | refine ⟨_, _, _, _, rfl, (by repeat' (first | omega | assumption | exact trivial | refine And.intro ?_ ?_)), ?_⟩ | fail)) <;> try (conv => whnf)
      (refine ⟨_, ?_, ?_, hK⟩ <;> repeat' (first | exact rfl | exact trivial | exact flat_runs _ | exact flat_pI _ | exact (fun _ h => by cases h) | refine ⟨?_, ?_⟩))
  have e5 : gathN c (sortG near (extL s k)) = 0 ∧ (gathL c (sortG near (extL s k))).length ≤ 64 := by
    rw [hg] at e4
    unfold gerr at e4
    split at e4
    · cases e4
    · split at e4
      · exact ⟨by omega, by assumption⟩
      · cases e4
  obtain ⟨e5, e6⟩ := e5
  have e7 : gatP s k c near = gathL c (sortG near (extL s k)) := by
    unfold gatP
    rw [if_neg (fun h => h h1), hno]
    show (if _ then _ else _) = _
    rw [if_pos (by rw [← e4]; exact hg)]
  have hlt : ∀ e ∈ sortG near (extL s k), e.n < c := fun e he => by
    have h2 := hS.1.mem_iff.1 he
    refine Decidable.of_not_not fun h3 => ?_
    have : e ∈ roomL c (extL s k) := List.mem_filter.2 ⟨h2, by simp only [small, Bool.not_eq_true', decide_eq_false_iff_not]; exact h3⟩
    rw [hR] at this; cases this
  have t2 := gath_two hc.1 e5 hlt
  have t3 := @gath_sum (sortG near (extL s k)) c
  rw [e5] at t3
  have hSne : sortG near (extL s k) ≠ [] := fun h => by rw [h] at t2; simp [gathL] at t2
  have t4 := gath_most (c := c) (by omega) hSne
  have hap : (sortG near (extL s k)).Pairwise (fun a b => ∀ i, ¬ (inR a i = true ∧ inR b i = true)) := by
    refine (hS.1.pairwise_iff (fun {a b} h i hi => h i ⟨hi.2, hi.1⟩)).2 ?_
    refine (runsP_apart (extP s 0) (k : Int).toNat).1.imp fun {a b} hab i hi => ?_
    simp only [inR, decide_eq_true_eq] at hi
    omega
  have q : changeE s k (gathL c (sortG near (extL s k))) 1 = 0 := by
    refine mark_parts he e6 (fun r hr => ?_) (gath_apart (by omega) hSp hap)
    obtain ⟨e, h2, h3, h4, h5⟩ := gath_mem (by omega) hSp hr
    exact ⟨e, hS.1.mem_iff.1 h2, by omega, by omega, h4⟩
  have hGp : ∀ r ∈ gathL c (sortG near (extL s k)), 0 ≤ r.n := fun r hr => by
    obtain ⟨e, h2, h3, h4, h5⟩ := gath_mem (by omega) hSp hr
    omega
  have hdesc : (sortG near (extL s k)).Pairwise (fun x y => y.n ≤ x.n) := hS.2.imp fun {x y} h => by
    refine Decidable.of_not_not fun h2 => ?_
    have : ltG near y x = true := ltG_iff.2 (.inl (by omega))
    rw [this] at h; cases h
  have hGl := @gath_len (sortG near (extL s k)) c
  have nG := fun i => sumN_take (l := gathL c (sortG near (extL s k))) hGp i
  rw [← e7] at t2 t3 t4 q nG e6 hGl hGp
  clear b1 b2 b3 b4 b5 e4 e5 e7 hno h0 hap hR
  (repeat' ((conv => whnf); (fail_if_success (refine ⟨(?_ : Nat), (?_ : _ < _), ?_⟩)); (fail_if_success (refine ⟨(?_ : RV), ?_⟩)); (fail_if_success (refine ⟨(?_ : List RV), ?_⟩)); first | refine NOT_t ?_ | refine CMP_t (by omega) ?_ | refine CMP_f (by omega) ?_ | (show _ ≤ (9223372036854775807 : Nat) → _; first | rw [List.length_map, tab_len] | rw [List.length_map] | rw [List.length_replicate] | skip; intro _) | refine And.intro rfl ?_ | refine ⟨_, ⟨_, _, _, rfl, rfl⟩, ?_⟩ | refine ⟨_, ⟨_, _, rfl, (by repeat' (first | omega | assumption | exact trivial | refine And.intro ?_ ?_)), rfl⟩, ?_⟩ | refine ⟨_, rfl, (by repeat' (first | omega | assumption | exact trivial | refine And.intro ?_ ?_)), ?_⟩ | refine ⟨_, _, _, rfl, (by repeat' (first | omega | assumption | exact trivial | refine And.intro ?_ ?_)), ?_⟩ | refine ⟨_, _, _, _, rfl, (by repeat' (first | omega | assumption | exact trivial | refine And.intro ?_ ?_)), ?_⟩ | fail)) <;> try (conv => whnf)
  generalize gatP s k c near = G at *
  refine ⟨fun m env σ => ∃ i : Nat, (i + m = G.length) ∧ σ = [.box 54 [.pv (pI c), .pv (pI near)], .row T_api_Run 2 true (G.map Rn.pv)] ∧ env = [(0, .pv (.str s)), (1, .pv (pI k)), (5, .ref 0 0 0), (13, .own 1), (21, .pv (pI (sumN (G.take i)))), (22, .pv (pI i))], G.length, ⟨0, by omega, rfl, rfl⟩, ?_⟩
  rintro m env σ ⟨i, hi, rfl, rfl⟩
  have hi1 := nG i
  have hi2 := nG (i + 1)
  by_cases hlt : i < G.length
  · obtain ⟨r, hr0⟩ : ∃ r, G[i]? = some r := ⟨G[i], List.getElem?_eq_getElem hlt⟩
    have hnx := sumN_next hr0
    (repeat' ((conv => whnf); (fail_if_success (refine ⟨(?_ : Nat), (?_ : _ < _), ?_⟩)); (fail_if_success (refine ⟨(?_ : RV), ?_⟩)); (fail_if_success (refine ⟨(?_ : List RV), ?_⟩)); first | refine N64 (by omega) ?_ | refine CMP_t (by omega) ?_ | (show _ ≤ (9223372036854775807 : Nat) → _; first | rw [List.length_map, tab_len] | rw [List.length_map] | rw [List.length_replicate] | skip; intro _) | refine GEThn (by assumption) ?_ | refine OWN (by omega) ?_ | fail)) <;> try (conv => whnf)
    refine ⟨m - 1, by omega, i + 1, by omega, rfl, ?_⟩
    rw [hnx]; rfl
  have hiG : i = G.length := by omega
  subst hiG
  rw [List.take_length] at *
  clear hi1 hi2 hlt hi
  have nS := fun i => sumN_take (l := sortG near (extL s k)) (fun r hr => by have := hSp r hr; omega) i
  have hlen := hS.1.length_eq
  generalize hSS : sortG near (extL s k) = S at *
  (repeat' ((conv => whnf); (fail_if_success (refine ⟨(?_ : Nat), (?_ : _ < _), ?_⟩)); (fail_if_success (refine ⟨(?_ : RV), ?_⟩)); (fail_if_success (refine ⟨(?_ : List RV), ?_⟩)); first | refine CMP_f (by omega) ?_ | (show _ ≤ (9223372036854775807 : Nat) → _; first | rw [List.length_map, tab_len] | rw [List.length_map] | rw [List.length_replicate] | skip; intro _) | refine ⟨_, _, _, rfl, (by repeat' (first | omega | assumption | exact trivial | refine And.intro ?_ ?_)), ?_⟩ | fail)) <;> try (conv => whnf)
  refine ⟨fun m env σ => ∃ (i : Nat) (F : List Rn), (i + m + 1 = G.length ∧ (F.map (·.n)).Perm ((S.drop i).map (·.n) ++ List.replicate i 0)) ∧ σ = [.box 54 [.pv (pI c), .pv (pI near)], .row T_api_Run 2 true (G.map Rn.pv), .row T_api_Run 2 true (F.map Rn.pv)] ∧ env = [(5, .ref 0 0 0), (13, .own 1), (21, .pv (pI (sumN G))), (23, .own 2), (24, .pv (pI (sumN (S.take i)))), (25, .pv (pI i))], G.length - 1, ⟨0, extL s k, ⟨by omega, by simpa using (hS.1.map (·.n)).symm⟩, rfl, rfl⟩, ?_⟩
  rintro m env σ ⟨i, F, ⟨hi, hF⟩, rfl, rfl⟩
  have hFl : F.length = S.length - i + i := by
    have := hF.length_eq
    simpa using this
  have hS1000 : S.length ≤ 1000 := by
    have := len_sum (l := S) hSp
    omega
  have nSi := nS i
  by_cases hlt2 : i < G.length - 1
  case neg =>
    obtain rfl : i = G.length - 1 := by omega
    (repeat' ((conv => whnf); (fail_if_success (refine ⟨(?_ : Nat), (?_ : _ < _), ?_⟩)); (fail_if_success (refine ⟨(?_ : RV), ?_⟩)); (fail_if_success (refine ⟨(?_ : List RV), ?_⟩)); first | refine N64 (by omega) ?_ | refine CMP_t (by omega) ?_ | refine CMP_f (by omega) ?_ | (show _ ≤ (9223372036854775807 : Nat) → _; first | rw [List.length_map, tab_len] | rw [List.length_map] | rw [List.length_replicate] | skip; intro _) | fail)) <;> try (conv => whnf)
    (refine ⟨_, ?_, ?_, hK⟩ <;> repeat' (first | exact rfl | exact trivial | exact flat_runs _ | exact flat_pI _ | exact (fun _ h => by cases h) | refine ⟨?_, ?_⟩))
  obtain ⟨a, R, hdr⟩ : ∃ a R, S.drop i = a :: R := by
    cases h : S.drop i with
    | nil => have := congrArg List.length h; rw [List.length_drop] at this; simp at this; omega
    | cons a R => exact ⟨a, R, rfl⟩
  have haS : S[i]? = some a := by
    have := List.getElem?_drop (xs := S) (i := i) (j := 0)
    rw [hdr] at this
    simpa using this.symm
  have hnx := sumN_next haS
  have hdrR : S.drop (i + 1) = R := by
    rw [← List.drop_drop, hdr]; rfl
  have hRa : ∀ x ∈ R.map (·.n) ++ List.replicate i 0, x ≤ a.n := fun x hx => by
    have hd := hdesc.sublist (List.drop_sublist i S)
    rw [hdr] at hd
    rcases List.mem_append.1 hx with hx | hx
    · obtain ⟨y, hy, rfl⟩ := List.mem_map.1 hx
      exact (List.pairwise_cons.1 hd).1 y hy
    · have := (List.mem_replicate.1 hx).2
      have := hSp a (List.mem_of_mem_drop (i := i) (by rw [hdr]; simp))
      omega
  rw [hdr] at hF
  (repeat' ((conv => whnf); (fail_if_success (refine ⟨(?_ : Nat), (?_ : _ < _), ?_⟩)); (fail_if_success (refine ⟨(?_ : RV), ?_⟩)); (fail_if_success (refine ⟨(?_ : List RV), ?_⟩)); first | refine N64 (by omega) ?_ | refine CMP_t (by omega) ?_ | (show _ ≤ (9223372036854775807 : Nat) → _; first | rw [List.length_map, tab_len] | rw [List.length_map] | rw [List.length_replicate] | skip; intro _) | fail)) <;> try (conv => whnf)
  refine ⟨fun m' env σ => ∃ (j b : Nat) (y : Rn), (j + m' = F.length ∧ F[b]? = some y ∧ ∀ x ∈ F.take j, x.n ≤ y.n) ∧ σ = [.box 54 [.pv (pI c), .pv (pI near)], .row T_api_Run 2 true (G.map Rn.pv), .row T_api_Run 2 true (F.map Rn.pv)] ∧ env = [(5, .ref 0 0 0), (13, .own 1), (21, .pv (pI (sumN G))), (23, .own 2), (24, .pv (pI (sumN (S.take i)))), (25, .pv (pI i)), (26, .pv (pI b)), (27, .pv (pI j))], F.length, ⟨0, 0, F[0]'(by omega), ⟨by omega, List.getElem?_eq_getElem _, by simp⟩, rfl, rfl⟩, ?_⟩
  rintro m' env σ ⟨j, b, y, ⟨hj, hb, hmx⟩, rfl, rfl⟩
  have hbl := (List.getElem?_eq_some_iff.1 hb).1
  by_cases hjl : j < F.length
  · obtain ⟨x, hx⟩ : ∃ x, F[j]? = some x := ⟨F[j], List.getElem?_eq_getElem hjl⟩
    by_cases hxy : y.n < x.n
    · (repeat' ((conv => whnf); (fail_if_success (refine ⟨(?_ : Nat), (?_ : _ < _), ?_⟩)); (fail_if_success (refine ⟨(?_ : RV), ?_⟩)); (fail_if_success (refine ⟨(?_ : List RV), ?_⟩)); first | refine N64 (by omega) ?_ | refine CMP_t (by omega) ?_ | (show _ ≤ (9223372036854775807 : Nat) → _; first | rw [List.length_map, tab_len] | rw [List.length_map] | rw [List.length_replicate] | skip; intro _) | refine GEThn (by assumption) ?_ | refine OWN (by omega) ?_ | refine And.intro rfl ?_ | fail)) <;> try (conv => whnf)
      refine ⟨m' - 1, by omega, j + 1, j, x, ⟨by omega, hx, fun z hz => ?_⟩, rfl, rfl⟩
      rw [List.take_add_one, hx] at hz
      rcases List.mem_append.1 hz with h | h
      · have := hmx z h; omega
      · simp only [Option.toList_some, List.mem_singleton] at h; subst h; omega
    · (repeat' ((conv => whnf); (fail_if_success (refine ⟨(?_ : Nat), (?_ : _ < _), ?_⟩)); (fail_if_success (refine ⟨(?_ : RV), ?_⟩)); (fail_if_success (refine ⟨(?_ : List RV), ?_⟩)); first | refine N64 (by omega) ?_ | refine CMP_t (by omega) ?_ | refine CMP_f (by omega) ?_ | (show _ ≤ (9223372036854775807 : Nat) → _; first | rw [List.length_map, tab_len] | rw [List.length_map] | rw [List.length_replicate] | skip; intro _) | refine GEThn (by assumption) ?_ | refine OWN (by omega) ?_ | refine And.intro rfl ?_ | fail)) <;> try (conv => whnf)
      refine ⟨m' - 1, by omega, j + 1, b, y, ⟨by omega, hb, fun z hz => ?_⟩, rfl, rfl⟩
      rw [List.take_add_one, hx] at hz
      rcases List.mem_append.1 hz with h | h
      · exact hmx z h
      · simp only [Option.toList_some, List.mem_singleton] at h; subst h; omega
  obtain rfl : j = F.length := by omega
  rw [List.take_length] at hmx
  have hpm := perm_max (b := b) (m := y.n) hF hRa (by rw [List.getElem?_map, hb]; rfl) (fun x hx => by
    obtain ⟨z, hz, rfl⟩ := List.mem_map.1 hx
    exact hmx z hz)
  obtain ⟨hya0, hpm⟩ := hpm
  have hya : y.n = a.n := hya0
  have nSj := nS (i + 1)
  rw [hnx] at nSj
  (repeat' ((conv => whnf); (fail_if_success (refine ⟨(?_ : Nat), (?_ : _ < _), ?_⟩)); (fail_if_success (refine ⟨(?_ : RV), ?_⟩)); (fail_if_success (refine ⟨(?_ : List RV), ?_⟩)); first | refine N64 (by omega) ?_ | refine CMP_f (by omega) ?_ | (show _ ≤ (9223372036854775807 : Nat) → _; first | rw [List.length_map, tab_len] | rw [List.length_map] | rw [List.length_replicate] | skip; intro _) | refine GEThn (by assumption) ?_ | refine OWN (by omega) ?_ | refine And.intro rfl ?_  | fail)) <;> try (conv => whnf)
  refine ⟨m - 1, by omega, i + 1, F.set b ⟨y.s, 0⟩, ⟨by omega, ?_⟩, ?_, ?_⟩
  · rw [hdrR, List.map_set]
    refine hpm.trans ?_
    rw [List.replicate_succ']
    exact (List.perm_append_singleton 0 _).symm.trans (List.Perm.of_eq (List.append_assoc _ _ _))
  · rw [List.map_set]; rfl
  · rw [hnx, ← hya]; rfl
end Go.Dv.Try
end
