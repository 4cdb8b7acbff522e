/-
  A part of the proof: own texts, laid together by a tool of our own: F04y.
-/
import Derived.Test.YteiglmkppgjcbaaWalks3
import Derived.Test.YteiglmkppgjcbaaDv4
import Derived.KernelRfl
section
/-
  The laws of chapter 4: marks.
-/
namespace Go.Dv.Try
open Go Go.Dv

/-- A string as it is to be, or an error. -/
def SameS (s : List UInt8) (e : Int) (w : List UInt8) (c : Int) : Prop := e = c ∧ (c ≠ 0 ∧ s = [] ∨ c = 0 ∧ s = w)
theorem bitN_out {s : List UInt8} {i : Nat} (h : 8 * s.length ≤ i) : bitN s i = 0 := by
  unfold bitN; rw [List.getElem?_eq_none (by omega)]; simp
theorem change_same {s : List UInt8} {n : Int} {l : List Rn} {v : Nat} (h : bmErr s n = 0) : changeE s n l v = markErr (bitN s) n l v ∧ (markErr (bitN s) n l v = 0 → changeR s n l v = bmOf (markF (bitN s) l v) n.toNat) ∧ (markErr (bitN s) n l v ≠ 0 → changeR s n l v = []) := by
  have e : changeE s n l v = markErr (bitN s) n l v := by unfold changeE; rw [if_neg (fun h' => h' h)]
  refine ⟨e, fun h' => ?_, fun h' => ?_⟩
  · unfold changeR; rw [e, if_pos h']
  · unfold changeR; rw [e, if_neg h']
theorem change_err {s : List UInt8} {n : Int} {l : List Rn} {v : Nat} (h : bmErr s n ≠ 0) : changeE s n l v = bmErr s n ∧ changeR s n l v = [] := by
  have e : changeE s n l v = bmErr s n := by unfold changeE; rw [if_pos h]
  exact ⟨e, by unfold changeR; rw [e, if_neg h]⟩
theorem mark_zero {n : Int} {l : List Rn} : markErr (fun _ => 0) n l 1 = runsErr l n := by
  unfold markErr
  by_cases h : runsErr l n = 0
  · rw [if_neg (fun h' => h' h), if_neg, h]
    intro h'
    obtain ⟨r, _, hr⟩ := List.any_eq_true.1 h'
    obtain ⟨j, _, _, hj⟩ := hits_iff.1 hr
    simp at hj
  · rw [if_pos h]
theorem of_same {n : Int} {l : List Rn} (hs : sizeErr n = 0) : ofE l n = runsErr l n ∧ (runsErr l n = 0 → ofR l n = bmOf (markF (fun _ => 0) l 1) n.toNat) ∧ (runsErr l n ≠ 0 → ofR l n = []) := by
  have e : ofE l n = runsErr l n := by unfold ofE; rw [if_neg (fun h' => h' hs), mark_zero]
  refine ⟨e, fun h' => ?_, fun h' => ?_⟩
  · unfold ofR; rw [e, if_pos h']
  · unfold ofR; rw [e, if_neg h']
def R_lawMarks (ps : List PV) (x : PV) : Prop := ∃ (s : List UInt8) (n : Int) (l : List Rn) (v a to : Int), ps = [.str s, pI n, .agg [.sl 2 (l.map Rn.pv), pI v, pI a, pI to]] ∧ x = pB true
set_option maxHeartbeats 8000000 in
theorem meets_lawMarks : Meets (ctxOf [(n_law04_awake, S_true0), (n_law04_short, fnB Q_short), (n_base_CopyRuns, S_CopyRuns), (n_bitmap_Marked, S_Marked 1), (n_bitmap_Cleared, S_Marked 0), (n_bitmap_BitmapOf, S_BitmapOf), (n_bitmap_Resized, S_Resized), (n_ref04_SizeErr, fnSpec R_SizeErr), (n_ref04_RunsErr, S_RunsErr), (n_law04_same, fnB Q_same), (n_ref04_Mark, S_Mark), (n_base_Zeros, fnSpec R_Zeros), (n_base_Ceil, fnSpec R_Ceil8), (n_ref04_Err, fnSpec R_Err04), (n_ref04_MarkErr, S_MarkErr), (n_ref04_Bits, S_Bits), (n_ref04_From, S_From)]) s_law04_BitmapMarks c_law04_BitmapMarks r_law04_BitmapMarks (fnSpec R_lawMarks) := by
  rintro _ K ⟨_, ⟨s, n, l, v, a, to, rfl, rfl⟩, hK⟩
  by_cases hs : s.length ≤ 600
  case neg =>
    (repeat' ((conv => whnf); (fail_if_success (refine ⟨(?_ : Nat), (?_ : _ < _), ?_⟩)); (fail_if_success (refine ⟨(?_ : RV), ?_⟩)); (fail_if_success (refine ⟨(?_ : List RV), ?_⟩)); first | refine NOT_t ?_ | refine NOT_f ?_ | refine CMP_f (by omega) ?_ | refine And.intro rfl ?_ | refine ⟨_, ⟨_, rfl, rfl⟩, ?_⟩ | fail)) <;> try (conv => whnf)
    (refine ⟨_, ?_, ?_, hK⟩ <;> repeat' (first | exact rfl | exact trivial | exact flat_runs _ | exact flat_pI _ | exact (fun _ h => by cases h) | refine ⟨?_, ?_⟩))
  by_cases hl : l.length ≤ 80
  case neg =>
    (repeat' ((conv => whnf); (fail_if_success (refine ⟨(?_ : Nat), (?_ : _ < _), ?_⟩)); (fail_if_success (refine ⟨(?_ : RV), ?_⟩)); (fail_if_success (refine ⟨(?_ : List RV), ?_⟩)); first | refine NOT_t ?_ | refine CMP_t (by omega) ?_ | (show _ ≤ (9223372036854775807 : Nat) → _; first | rw [List.length_map, tab_len] | rw [List.length_map] | rw [List.length_replicate] | skip; intro _) | refine And.intro rfl ?_ | refine ⟨_, ⟨_, rfl, rfl⟩, ?_⟩ | fail)) <;> try (conv => whnf)
    (refine ⟨_, ?_, ?_, hK⟩ <;> repeat' (first | exact rfl | exact trivial | exact flat_runs _ | exact flat_pI _ | exact (fun _ h => by cases h) | refine ⟨?_, ?_⟩))
  by_cases hz : sizeErr n = 0
  case neg =>
    have he : bmErr s n ≠ 0 := by unfold bmErr; rw [if_pos hz]; exact hz
    obtain ⟨a1, a2⟩ := @change_err s n l 1 he
    obtain ⟨a3, a4⟩ := @change_err s n l 0 he
    have b1 : resE s n to = bmErr s n := by unfold resE; rw [if_pos he]
    have b2 : resR s n to = [] := by unfold resR; rw [b1, if_neg he]
    have o1 : ofE l n = sizeErr n := by unfold ofE; rw [if_pos hz]
    have o2 : ofR l n = [] := by unfold ofR; rw [o1, if_neg hz]
    have f1 : SameS (ofR l n) (ofE l n) [] (sizeErr n) := ⟨o1, .inl ⟨hz, o2⟩⟩
    have f2 : SameS (changeR s n l 1) (changeE s n l 1) [] (bmErr s n) := ⟨a1, .inl ⟨he, a2⟩⟩
    have f3 : SameS (changeR s n l 0) (changeE s n l 0) [] (bmErr s n) := ⟨a3, .inl ⟨he, a4⟩⟩
    have f4 : SameS (resR s n to) (resE s n to) [] (bmErr s n) := ⟨b1, .inl ⟨he, b2⟩⟩
    (repeat' ((conv => whnf); (fail_if_success (refine ⟨(?_ : Nat), (?_ : _ < _), ?_⟩)); (fail_if_success (refine ⟨(?_ : RV), ?_⟩)); (fail_if_success (refine ⟨(?_ : List RV), ?_⟩)); first | refine NOT_t ?_ | refine CMP_t (by omega) ?_ | refine CMP_f (by omega) ?_ | refine CMP_t (by assumption) ?_ | (show _ ≤ (9223372036854775807 : Nat) → _; first | rw [List.length_map, tab_len] | rw [List.length_map] | rw [List.length_replicate] | skip; intro _) | refine And.intro rfl ?_ | refine ⟨_, ⟨_, rfl, rfl⟩, ?_⟩ | refine ⟨_, ⟨_, _, _, _, rfl, rfl⟩, ?_⟩ | refine ⟨_, ⟨_, _, rfl, (by (repeat' (first | omega | assumption | exact trivial | refine And.intro ?_ ?_)); first | done | fail), rfl⟩, ?_⟩ | refine ⟨_, rfl, (by (repeat' (first | omega | assumption | exact trivial | refine And.intro ?_ ?_)); first | done | fail), ?_⟩ | refine ⟨_, _, rfl, (by (repeat' (first | omega | assumption | exact trivial | refine And.intro ?_ ?_)); first | done | fail), ?_⟩ | refine ⟨_, _, _, rfl, (by (repeat' (first | omega | assumption | exact trivial | refine And.intro ?_ ?_)); first | done | fail), ?_⟩ | fail)) <;> try (conv => whnf)
    (refine ⟨_, ?_, ?_, hK⟩ <;> repeat' (first | exact rfl | exact trivial | exact flat_runs _ | exact flat_pI _ | exact (fun _ h => by cases h) | refine ⟨?_, ?_⟩))
  have hn := sizeErr0 hz
  have hc8 := ceil8_len8 hn.1
  have hl8 : len8 n.toNat ≤ 600 ∧ n.toNat ≤ 8 * len8 n.toNat := by unfold len8; omega
  have hzl : (zerosL (ceil8 n).toNat).length = len8 n.toNat := by rw [hc8, Int.toNat_natCast]; simp [zerosL]
  have hzb : bitN (zerosL (ceil8 n).toNat) = fun _ => 0 := by funext i; exact bitN_zeros _ i
  obtain ⟨o1, o2, o3⟩ := @of_same n l hz
  have f1 : runsErr l n = 0 → SameS (ofR l n) (ofE l n) (bmOf (markF (bitN (zerosL (ceil8 n).toNat)) l 1) n.toNat) 0 := fun h => by
    rw [hzb, o1]; exact ⟨h, .inr ⟨rfl, o2 h⟩⟩
  have f1' : runsErr l n ≠ 0 → SameS (ofR l n) (ofE l n) [] (runsErr l n) := fun h => ⟨o1, .inl ⟨h, o3 h⟩⟩
  by_cases he : bmErr s n = 0
  case neg =>
    obtain ⟨a1, a2⟩ := @change_err s n l 1 he
    obtain ⟨a3, a4⟩ := @change_err s n l 0 he
    have b1 : resE s n to = bmErr s n := by unfold resE; rw [if_pos he]
    have b2 : resR s n to = [] := by unfold resR; rw [b1, if_neg he]
    have f2 : SameS (changeR s n l 1) (changeE s n l 1) [] (bmErr s n) := ⟨a1, .inl ⟨he, a2⟩⟩
    have f3 : SameS (changeR s n l 0) (changeE s n l 0) [] (bmErr s n) := ⟨a3, .inl ⟨he, a4⟩⟩
    have f4 : SameS (resR s n to) (resE s n to) [] (bmErr s n) := ⟨b1, .inl ⟨he, b2⟩⟩
    (repeat' ((conv => whnf); (fail_if_success (refine ⟨(?_ : Nat), (?_ : _ < _), ?_⟩)); (fail_if_success (refine ⟨(?_ : RV), ?_⟩)); (fail_if_success (refine ⟨(?_ : List RV), ?_⟩)); first | refine CMP_t (f1 (by assumption)) ?_ | refine CMP_t (f1' (by assumption)) ?_ | refine NOT_t ?_ | refine CMP_t (by omega) ?_ | refine CMP_f (by omega) ?_ | refine CMP_t (by assumption) ?_ | refine CMP (fun _ => ?_) (fun _ => ?_) | (show _ ≤ (9223372036854775807 : Nat) → _; first | rw [List.length_map, tab_len] | rw [List.length_map] | rw [List.length_replicate] | skip; intro _) | refine And.intro rfl ?_ | refine ⟨_, ⟨_, rfl, rfl⟩, ?_⟩ | refine ⟨_, ⟨_, _, _, _, rfl, rfl⟩, ?_⟩ | refine ⟨_, ⟨_, rfl, (by (repeat' (first | omega | assumption | exact trivial | refine And.intro ?_ ?_)); first | done | fail), rfl⟩, ?_⟩ | refine ⟨_, ⟨_, _, rfl, (by (repeat' (first | omega | assumption | exact trivial | refine And.intro ?_ ?_)); first | done | fail), rfl⟩, ?_⟩ | refine ⟨_, rfl, (by (repeat' (first | omega | assumption | exact trivial | refine And.intro ?_ ?_)); first | done | fail), ?_⟩ | refine ⟨_, _, rfl, (by (repeat' (first | omega | assumption | exact trivial | refine And.intro ?_ ?_)); first | done | fail), ?_⟩ | refine ⟨_, _, _, rfl, (by (repeat' (first | omega | assumption | exact trivial | refine And.intro ?_ ?_)); first | done | fail), ?_⟩ | refine ⟨_, _, _, 1, rfl, (by (repeat' (first | omega | assumption | refine And.intro ?_ ?_)); first | done | fail), ?_⟩ | fail)) <;> try (conv => whnf)
    all_goals (refine ⟨_, ?_, ?_, hK⟩ <;> repeat' (first | exact rfl | exact trivial | exact flat_runs _ | exact flat_pI _ | exact (fun _ h => by cases h) | refine ⟨?_, ?_⟩))
  obtain ⟨g1, g2, g3, g4, g5⟩ := bmErr_ok he
  obtain ⟨a1, a2, a3⟩ := @change_same s n l 1 he
  obtain ⟨a4, a5, a6⟩ := @change_same s n l 0 he
  have f2 : markErr (bitN s) n l 1 = 0 → SameS (changeR s n l 1) (changeE s n l 1) (bmOf (markF (bitN s) l 1) n.toNat) 0 := fun h => ⟨a1.trans h, .inr ⟨rfl, a2 h⟩⟩
  have f2' : markErr (bitN s) n l 1 ≠ 0 → SameS (changeR s n l 1) (changeE s n l 1) [] (markErr (bitN s) n l 1) := fun h => ⟨a1, .inl ⟨h, a3 h⟩⟩
  have f3 : markErr (bitN s) n l 0 = 0 → SameS (changeR s n l 0) (changeE s n l 0) (bmOf (markF (bitN s) l 0) n.toNat) 0 := fun h => ⟨a4.trans h, .inr ⟨rfl, a5 h⟩⟩
  have f3' : markErr (bitN s) n l 0 ≠ 0 → SameS (changeR s n l 0) (changeE s n l 0) [] (markErr (bitN s) n l 0) := fun h => ⟨a4, .inl ⟨h, a6 h⟩⟩
  have hm : ∀ v, markErr (bitN s) n l v = 0 → runsErr l n = 0 := fun v h => by
    unfold markErr at h
    by_cases hr : runsErr l n = 0
    · exact hr
    · rw [if_pos hr] at h; exact absurd h hr
  by_cases ht : sizeErr to = 0
  case neg =>
    have b1 : resE s n to = sizeErr to := by unfold resE; rw [if_neg (fun h => h he), if_pos ht]
    have b2 : resR s n to = [] := by unfold resR; rw [b1, if_neg ht]
    have f4 : SameS (resR s n to) (resE s n to) [] (sizeErr to) := ⟨b1, .inl ⟨ht, b2⟩⟩
    (repeat' ((conv => whnf); (fail_if_success (refine ⟨(?_ : Nat), (?_ : _ < _), ?_⟩)); (fail_if_success (refine ⟨(?_ : RV), ?_⟩)); (fail_if_success (refine ⟨(?_ : List RV), ?_⟩)); first | refine CMP_t (f1 (by assumption)) ?_ | refine CMP_t (f2 (by assumption)) ?_ | refine CMP_t (f3 (by assumption)) ?_ | refine CMP_t (f3' (by assumption)) ?_ | refine CMP_t (f2' (by assumption)) ?_ | refine CMP_t (f1' (by assumption)) ?_ | refine NOT_t ?_ | refine CMP_t (by omega) ?_ | refine CMP_f (by omega) ?_ | refine CMP_t (by assumption) ?_ | refine CMP (fun _ => ?_) (fun _ => ?_) | (show _ ≤ (9223372036854775807 : Nat) → _; first | rw [List.length_map, tab_len] | rw [List.length_map] | rw [List.length_replicate] | skip; intro _) | refine And.intro rfl ?_ | refine ⟨_, ⟨_, rfl, rfl⟩, ?_⟩ | refine ⟨_, ⟨_, _, _, _, rfl, rfl⟩, ?_⟩ | refine ⟨_, ⟨_, rfl, (by (repeat' (first | omega | assumption | exact trivial | refine And.intro ?_ ?_)); first | done | fail), rfl⟩, ?_⟩ | refine ⟨_, ⟨_, _, rfl, (by (repeat' (first | omega | assumption | exact trivial | refine And.intro ?_ ?_)); first | done | fail), rfl⟩, ?_⟩ | refine ⟨_, rfl, (by (repeat' (first | omega | assumption | exact trivial | refine And.intro ?_ ?_)); first | done | fail), ?_⟩ | refine ⟨_, _, rfl, (by (repeat' (first | omega | assumption | exact trivial | refine And.intro ?_ ?_)); first | done | fail), ?_⟩ | refine ⟨_, _, _, rfl, (by (repeat' (first | omega | assumption | exact trivial | refine And.intro ?_ ?_)); first | done | fail), ?_⟩ | refine ⟨_, _, _, 1, rfl, (by (repeat' (first | omega | assumption | refine And.intro ?_ ?_)); first | done | fail), ?_⟩ | refine ⟨_, _, _, 0, rfl, (by (repeat' (first | omega | assumption | refine And.intro ?_ ?_)); first | done | fail), ?_⟩ | refine ⟨_, _, _, 1, rfl, ⟨by omega, by omega, by omega, by omega, by omega, hm _ (by assumption)⟩, ?_⟩ | refine ⟨_, _, _, 0, rfl, ⟨by omega, by omega, by omega, by omega, by omega, hm _ (by assumption)⟩, ?_⟩ | refine ⟨_, _, _, _, rfl, (by (repeat' (first | omega | assumption | exact trivial | refine And.intro ?_ ?_)); first | done | fail), ?_⟩ | fail)) <;> try (conv => whnf)
    all_goals (refine ⟨_, ?_, ?_, hK⟩ <;> repeat' (first | exact rfl | exact trivial | exact flat_runs _ | exact flat_pI _ | exact (fun _ h => by cases h) | refine ⟨?_, ?_⟩))
  have htr := sizeErr0 ht
  have hrE : resE s n to = if hits (fun i => decide (bitN s i = 1)) to.toNat (n.toNat - to.toNat) then 18 else 0 := by unfold resE; rw [if_neg (fun h => h he), if_neg (fun h => h ht)]
  have hb0 : ∀ i, n.toNat ≤ i → bitN s i = 0 := fun i hi => by
    by_cases h : i < 8 * s.length
    · exact g5 i h hi
    · exact bitN_out (by omega)
  have hend : (∀ j, to.toNat ≤ j → j < n.toNat → bitN s j = 0) → resE s n to = 0 ∧ resR s n to = bmOf (bitN s) to.toNat := fun h => by
    have : resE s n to = 0 := by
      rw [hrE, if_neg]
      intro hh
      obtain ⟨j, h1, h2, h3⟩ := hits_iff.1 hh
      rw [h j h1 (by omega)] at h3; cases h3
    exact ⟨this, by unfold resR; rw [if_pos this]⟩
  have hbad : ∀ j, to.toNat ≤ j → j < n.toNat → bitN s j = 1 → SameS (resR s n to) (resE s n to) [] 18 := fun j h1 h2 h3 => by
    have : resE s n to = 18 := by rw [hrE, if_pos (hits_iff.2 ⟨j, h1, by omega, by simpa using h3⟩)]
    exact ⟨this, .inl ⟨by decide, by unfold resR; rw [this, if_neg (by decide)]⟩⟩
  obtain ⟨k0, rfl⟩ : ∃ k : Nat, n = k := ⟨n.toNat, by omega⟩
  obtain ⟨t0, rfl⟩ : ∃ k : Nat, to = k := ⟨to.toNat, by omega⟩
  simp only [Int.toNat_natCast] at *
  (repeat' ((conv => whnf); (fail_if_success (refine ⟨(?_ : Nat), (?_ : _ < _), ?_⟩)); (fail_if_success (refine ⟨(?_ : RV), ?_⟩)); (fail_if_success (refine ⟨(?_ : List RV), ?_⟩)); first | refine CMP_t (f1 (by assumption)) ?_ | refine CMP_t (f2 (by assumption)) ?_ | refine CMP_t (f3 (by assumption)) ?_ | refine CMP_t (f3' (by assumption)) ?_ | refine CMP_t (f2' (by assumption)) ?_ | refine CMP_t (f1' (by assumption)) ?_ | refine NOT_t ?_ | refine CMP_t (by omega) ?_ | refine CMP_f (by omega) ?_ | refine CMP (fun _ => ?_) (fun _ => ?_) | (show _ ≤ (9223372036854775807 : Nat) → _; first | rw [List.length_map, tab_len] | rw [List.length_map] | rw [List.length_replicate] | skip; intro _) | refine And.intro rfl ?_ | refine ⟨_, ⟨_, rfl, rfl⟩, ?_⟩ | refine ⟨_, ⟨_, _, _, _, rfl, rfl⟩, ?_⟩ | refine ⟨_, ⟨_, rfl, (by (repeat' (first | omega | assumption | exact trivial | refine And.intro ?_ ?_)); first | done | fail), rfl⟩, ?_⟩ | refine ⟨_, ⟨_, _, rfl, (by (repeat' (first | omega | assumption | exact trivial | refine And.intro ?_ ?_)); first | done | fail), rfl⟩, ?_⟩ | refine ⟨_, rfl, (by (repeat' (first | omega | assumption | exact trivial | refine And.intro ?_ ?_)); first | done | fail), ?_⟩ | refine ⟨_, _, rfl, (by (repeat' (first | omega | assumption | exact trivial | refine And.intro ?_ ?_)); first | done | fail), ?_⟩ | refine ⟨_, _, _, rfl, (by (repeat' (first | omega | assumption | exact trivial | refine And.intro ?_ ?_)); first | done | fail), ?_⟩ | refine ⟨_, _, _, 1, rfl, (by (repeat' (first | omega | assumption | refine And.intro ?_ ?_)); first | done | fail), ?_⟩ | refine ⟨_, _, _, 0, rfl, (by (repeat' (first | omega | assumption | refine And.intro ?_ ?_)); first | done | fail), ?_⟩ | refine ⟨_, _, _, 1, rfl, ⟨by omega, by omega, by omega, by omega, by omega, hm _ (by assumption)⟩, ?_⟩ | refine ⟨_, _, _, 0, rfl, ⟨by omega, by omega, by omega, by omega, by omega, hm _ (by assumption)⟩, ?_⟩ | refine ⟨_, _, _, _, rfl, (by (repeat' (first | omega | assumption | exact trivial | refine And.intro ?_ ?_)); first | done | fail), ?_⟩ | fail)) <;> try (conv => whnf)
  all_goals (
    clear f1 f1' f2 f2' f3 f3' o1 o2 o3 a1 a2 a3 a4 a5 a6 hm hzl hzb hc8 hrE
    have hlen := bitsL_len s k0
    have hbl : ∀ x ∈ bitsL s k0, 0 ≤ x ∧ x ≤ 1 := fun x hx => by
      obtain ⟨j, hj⟩ := mem_get.1 hx
      have hj2 := lt_of_get hj
      rw [hlen] at hj2
      rw [bitsL_get hj2] at hj
      have := bitN_le s j
      have := Option.some.inj hj
      omega
    by_cases hnt : k0 ≤ t0
    · obtain ⟨q1, q2⟩ := hend fun j h1 h2 => by omega
      refine ⟨fun m env σ => σ = [.box 66 [.pv (.sl 2 (l.map Rn.pv)), .pv (pI v), .pv (pI a), .pv (pI t0)], .row T_int 1 true ((bitsL s k0).map pI)] ∧ env = [(5, .ref 0 0 0), (13, .pv (.str (resR s k0 t0))), (14, .pv (pI (resE s k0 t0))), (20, .own 1)], 0, ⟨rfl, rfl⟩, ?_⟩
      rintro m env σ ⟨rfl, rfl⟩
      (repeat' ((conv => whnf); (fail_if_success (refine ⟨(?_ : Nat), (?_ : _ < _), ?_⟩)); (fail_if_success (refine ⟨(?_ : RV), ?_⟩)); (fail_if_success (refine ⟨(?_ : List RV), ?_⟩)); first | refine CMP_f (by omega) ?_ | (show _ ≤ (9223372036854775807 : Nat) → _; first | rw [List.length_map, tab_len] | rw [List.length_map] | rw [List.length_replicate] | skip; intro _) | fail)) <;> try (conv => whnf)
      refine ⟨fun m env σ => ∃ k : Nat, (k + m = t0 - k0) ∧ σ = [.box 66 [.pv (.sl 2 (l.map Rn.pv)), .pv (pI v), .pv (pI a), .pv (pI t0)], .row T_int 1 true ((bitsL s k0 ++ List.replicate k 0).map pI)] ∧ env = [(5, .ref 0 0 0), (13, .pv (.str (resR s k0 t0))), (14, .pv (pI (resE s k0 t0))), (20, .own 1)], t0 - k0, ⟨0, by omega, by simp, rfl⟩, ?_⟩
      rintro m env σ ⟨k, hk, rfl, rfl⟩
      have hlen2 : (bitsL s k0 ++ List.replicate k 0).length = k0 + k := by simp
      (repeat' ((conv => whnf); (fail_if_success (refine ⟨(?_ : Nat), (?_ : _ < _), ?_⟩)); (fail_if_success (refine ⟨(?_ : RV), ?_⟩)); (fail_if_success (refine ⟨(?_ : List RV), ?_⟩)); first | refine CMP (fun _ => ?_) (fun _ => ?_) | (show _ ≤ (9223372036854775807 : Nat) → _; first | rw [List.length_map, tab_len] | rw [List.length_map] | rw [List.length_replicate] | skip; intro _) | refine And.intro rfl ?_ | refine And.intro (by (simp; omega)) ?_ | refine ⟨_, rfl, ?_⟩ | fail)) <;> try (conv => whnf)
      · refine ⟨m - 1, by omega, k + 1, by omega, ?_, rfl⟩
        rw [List.replicate_succ', ← List.append_assoc, List.map_append (l₂ := [0])]
        rfl
      · have hkt : k0 + k = t0 := by omega
        refine ⟨⟨by omega, fun x hx => ?_⟩, ?_⟩
        · rcases List.mem_append.1 hx with hx | hx
          · exact hbl x hx
          · rw [List.eq_of_mem_replicate hx]; omega
        rw [hlen2, hkt]
        have e : bmOf (fun i => ((bitsL s k0 ++ List.replicate k 0)[i]?.getD 0).toNat) t0 = bmOf (bitN s) t0 := by
          have hget : ∀ i, i < t0 → ((bitsL s k0 ++ List.replicate k 0)[i]?.getD 0).toNat = bitN s i := by
            intro i hi
            by_cases hik : i < k0
            · rw [List.getElem?_append_left (by omega), bitsL_get hik]; simp
            · rw [List.getElem?_append_right (by omega), List.getElem?_replicate, if_pos (by omega), hb0 i (by omega)]; rfl
          refine bmOf_congr (fun i => ?_) (bitN_le s) hget
          by_cases hi : i < t0
          · rw [hget i hi]; exact bitN_le s i
          · rw [List.getElem?_eq_none (by omega)]; simp
        rw [e]
        have f5 : SameS (resR s k0 t0) (resE s k0 t0) (bmOf (bitN s) t0) 0 := ⟨q1, .inr ⟨rfl, q2⟩⟩
        (repeat' ((conv => whnf); (fail_if_success (refine ⟨(?_ : Nat), (?_ : _ < _), ?_⟩)); (fail_if_success (refine ⟨(?_ : RV), ?_⟩)); (fail_if_success (refine ⟨(?_ : List RV), ?_⟩)); first | refine CMP_t (by assumption) ?_ | refine ⟨_, ⟨_, _, _, _, rfl, rfl⟩, ?_⟩ | fail)) <;> try (conv => whnf)
        (refine ⟨_, ?_, ?_, hK⟩ <;> repeat' (first | exact rfl | exact trivial | exact flat_runs _ | exact flat_pI _ | exact (fun _ h => by cases h) | refine ⟨?_, ?_⟩))
    · refine ⟨fun m env σ => ∃ (k : Nat) (A : AV), (k = m + t0 ∧ k ≤ k0 ∧ (∀ j, k ≤ j → j < k0 → bitN s j = 0) ∧ (A = .own 1 ∧ k = k0 ∨ A = .sub 1 1 0 k)) ∧ σ = [.box 66 [.pv (.sl 2 (l.map Rn.pv)), .pv (pI v), .pv (pI a), .pv (pI t0)], .row T_int 1 true ((bitsL s k0).map pI)] ∧ env = [(5, .ref 0 0 0), (13, .pv (.str (resR s k0 t0))), (14, .pv (pI (resE s k0 t0))), (20, A)], k0 - t0, ⟨k0, .own 1, ⟨by omega, by omega, fun j h1 h2 => by omega, .inl ⟨rfl, rfl⟩⟩, rfl, rfl⟩, ?_⟩
      rintro m env σ ⟨k, A, ⟨hk, hkk, hz0, hA⟩, rfl, rfl⟩
      rcases hA with ⟨rfl, rfl⟩ | rfl
      · have f6 : ((bitN s (((bitsL s k).length : Int) - 1).toNat : Nat) : Int) = 1 → SameS (resR s k t0) (resE s k t0) [] 18 := fun h => by
          rw [hlen] at h
          exact hbad (k - 1) (by omega) (by omega) (by rw [show ((k : Int) - 1).toNat = k - 1 by omega] at h; omega)
        (repeat' ((conv => whnf); (fail_if_success (refine ⟨(?_ : Nat), (?_ : _ < _), ?_⟩)); (fail_if_success (refine ⟨(?_ : RV), ?_⟩)); (fail_if_success (refine ⟨(?_ : List RV), ?_⟩)); first | refine CMP_t (f6 (by assumption)) ?_ | refine N64 (by omega) ?_ | refine CMP_t (by omega) ?_ | refine CMP (fun _ => ?_) (fun _ => ?_) | (show _ ≤ (9223372036854775807 : Nat) → _; first | rw [List.length_map, tab_len] | rw [List.length_map] | rw [List.length_replicate] | skip; intro _) | refine GETt (by omega) ?_ | refine OWNt (by omega) ?_ | refine ⟨_, ⟨_, _, _, _, rfl, rfl⟩, ?_⟩ | refine .inr (And.intro (by rw [List.length_map, hlen]; omega) ?_) | fail)) <;> try (conv => whnf)
        · (refine ⟨_, ?_, ?_, hK⟩ <;> repeat' (first | exact rfl | exact trivial | exact flat_runs _ | exact flat_pI _ | exact (fun _ h => by cases h) | refine ⟨?_, ?_⟩))
        · rename_i hb1 _
          rw [hlen] at hb1
          refine ⟨m - 1, by omega, k - 1, .sub 1 1 0 (k - 1), ⟨by omega, by omega, fun j h1 h2 => ?_, .inr rfl⟩, rfl, ?_⟩
          · have := bitN_le s (k - 1)
            rw [show j = k - 1 by omega]
            rw [show ((k : Int) - 1).toNat = k - 1 by omega] at hb1
            omega
          · rw [show k - 1 = (((bitsL s k).length : Int) - 1).toNat - 0 by rw [hlen]; omega]
      · have hcl : (cut 0 (0 + k) ((bitsL s k0).map pI)).length = k := by rw [cut_len (by rw [List.length_map]; omega)]; omega
        by_cases hkt : t0 < k
        · have hf6 : ((bitN s (0 + (((cut 0 (0 + k) ((bitsL s k0).map pI)).length : Int) - 1).toNat) : Nat) : Int) = 1 → SameS (resR s k0 t0) (resE s k0 t0) [] 18 := fun h => by
            rw [hcl] at h
            exact hbad (k - 1) (by omega) (by omega) (by rw [show 0 + ((k : Int) - 1).toNat = k - 1 by omega] at h; omega)
          (repeat' ((conv => whnf); (fail_if_success (refine ⟨(?_ : Nat), (?_ : _ < _), ?_⟩)); (fail_if_success (refine ⟨(?_ : RV), ?_⟩)); (fail_if_success (refine ⟨(?_ : List RV), ?_⟩)); first | refine CMP_t (hf6 (by assumption)) ?_ | refine N64 (by omega) ?_ | refine CMP_t (by omega) ?_ | refine CMP (fun _ => ?_) (fun _ => ?_) | (show _ ≤ (9223372036854775807 : Nat) → _; first | rw [List.length_map, tab_len] | rw [List.length_map] | rw [List.length_replicate] | skip; intro _) | refine GETt (by omega) ?_ | refine ⟨_, ⟨_, _, _, _, rfl, rfl⟩, ?_⟩ | refine And.intro (by omega) ?_ | refine And.intro (by (simp; omega)) ?_ | refine And.intro (by rw [hcl, List.length_map]; omega) ?_ | fail)) <;> try (conv => whnf)
          · (refine ⟨_, ?_, ?_, hK⟩ <;> repeat' (first | exact rfl | exact trivial | exact flat_runs _ | exact flat_pI _ | exact (fun _ h => by cases h) | refine ⟨?_, ?_⟩))
          · rename_i hb1 _
            rw [hcl] at hb1
            refine ⟨m - 1, by omega, k - 1, .sub 1 1 0 (k - 1), ⟨by omega, by omega, fun j h1 h2 => ?_, .inr rfl⟩, rfl, ?_⟩
            · by_cases hjk : j < k
              · have := bitN_le s (k - 1)
                rw [show j = k - 1 by omega]
                rw [show 0 + ((k : Int) - 1).toNat = k - 1 by omega] at hb1
                omega
              · exact hz0 j (by omega) h2
            · rw [show k - 1 = (((cut 0 (0 + k) ((bitsL s k0).map pI)).length : Int) - 1).toNat - 0 by rw [hcl]; omega]
        · have hkt : k = t0 := by omega
          subst hkt
          (repeat' ((conv => whnf); (fail_if_success (refine ⟨(?_ : Nat), (?_ : _ < _), ?_⟩)); (fail_if_success (refine ⟨(?_ : RV), ?_⟩)); (fail_if_success (refine ⟨(?_ : List RV), ?_⟩)); first | refine CMP_f (by omega) ?_ | (show _ ≤ (9223372036854775807 : Nat) → _; first | rw [List.length_map, tab_len] | rw [List.length_map] | rw [List.length_replicate] | skip; intro _) | refine And.intro (by (simp; omega)) ?_ | fail)) <;> try (conv => whnf)
          refine ⟨fun m env σ => σ = [.box 66 [.pv (.sl 2 (l.map Rn.pv)), .pv (pI v), .pv (pI a), .pv (pI k)], .row T_int 1 true ((bitsL s k0).map pI)] ∧ env = [(5, .ref 0 0 0), (13, .pv (.str (resR s k0 k))), (14, .pv (pI (resE s k0 k))), (20, .sub 1 1 0 k)], 0, ⟨rfl, rfl⟩, ?_⟩
          rintro m env σ ⟨rfl, rfl⟩
          (repeat' ((conv => whnf); (fail_if_success (refine ⟨(?_ : Nat), (?_ : _ < _), ?_⟩)); (fail_if_success (refine ⟨(?_ : RV), ?_⟩)); (fail_if_success (refine ⟨(?_ : List RV), ?_⟩)); first | refine CMP_f (by omega) ?_ | (show _ ≤ (9223372036854775807 : Nat) → _; first | rw [List.length_map, tab_len] | rw [List.length_map] | rw [List.length_replicate] | skip; intro _) | refine And.intro (by (simp; omega)) ?_ | fail)) <;> try (conv => whnf)
          have ecut : cut 0 (0 + k) ((bitsL s k0).map pI) = (bitsL s k).map pI := by
            rw [cut_map]
            refine congrArg (List.map pI) ?_
            show List.drop 0 (List.take (0 + k) (bitsL s k0)) = _
            rw [List.drop_zero, Nat.zero_add]
            unfold bitsL
            rw [← List.map_take, List.take_range, Nat.min_eq_left hkk]
          obtain ⟨q1, q2⟩ := hend fun j h1 h2 => hz0 j h1 h2
          refine ⟨bitsL s k, by rw [ecut], ⟨by rw [bitsL_len]; omega, fun x hx => ?_⟩, ?_⟩
          · obtain ⟨j, hj⟩ := mem_get.1 hx
            have hj2 := lt_of_get hj
            rw [bitsL_len] at hj2
            rw [bitsL_get hj2] at hj
            have := bitN_le s j
            have := Option.some.inj hj
            omega
          rw [bitsL_len]
          have e : bmOf (fun i => ((bitsL s k)[i]?.getD 0).toNat) k = bmOf (bitN s) k := by
            have hget : ∀ i, i < k → ((bitsL s k)[i]?.getD 0).toNat = bitN s i := by
              intro i hi
              rw [bitsL_get hi]; simp
            refine bmOf_congr (fun i => ?_) (bitN_le s) hget
            by_cases hi : i < k
            · rw [hget i hi]; exact bitN_le s i
            · rw [List.getElem?_eq_none (by rw [bitsL_len]; omega)]; simp
          rw [e]
          have f5 : SameS (resR s k0 k) (resE s k0 k) (bmOf (bitN s) k) 0 := ⟨q1, .inr ⟨rfl, q2⟩⟩
          (repeat' ((conv => whnf); (fail_if_success (refine ⟨(?_ : Nat), (?_ : _ < _), ?_⟩)); (fail_if_success (refine ⟨(?_ : RV), ?_⟩)); (fail_if_success (refine ⟨(?_ : List RV), ?_⟩)); first | refine CMP_t (by assumption) ?_ | refine ⟨_, ⟨_, _, _, _, rfl, rfl⟩, ?_⟩ | fail)) <;> try (conv => whnf)
          (refine ⟨_, ?_, ?_, hK⟩ <;> repeat' (first | exact rfl | exact trivial | exact flat_runs _ | exact flat_pI _ | exact (fun _ h => by cases h) | refine ⟨?_, ?_⟩)))
end Go.Dv.Try
end
