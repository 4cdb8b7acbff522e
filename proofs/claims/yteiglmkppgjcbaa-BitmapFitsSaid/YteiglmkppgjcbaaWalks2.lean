/-
  A part of the proof: own texts, laid together by a tool of our own: F04m F04n F04o F04p F04z.
-/
import Derived.Test.YteiglmkppgjcbaaWalks1
import Derived.Test.YteiglmkppgjcbaaDv4
section
/-
  Contracts of chapter 4: another size; marks in the reference.
-/
namespace Go.Dv.Try
open Go Go.Dv

def resE (s : List UInt8) (n m : Int) : Int := if bmErr s n ≠ 0 then bmErr s n else if sizeErr m ≠ 0 then sizeErr m else if hits (fun i => decide (bitN s i = 1)) m.toNat (n.toNat - m.toNat) then 18 else 0
def resR (s : List UInt8) (n m : Int) : List UInt8 := if resE s n m = 0 then bmOf (bitN s) m.toNat else []
def S_Resized : Spec := mkS true false fun ps K => ∃ (s : List UInt8) (n m : Int), ps = [.str s, pI n, pI m] ∧ (s.length ≤ 1000000) ∧ K (.tup [.pv (.str (resR s n m)), .pv (pI (resE s n m))])
theorem meets_Resized : Meets (ctxOf [(n_bitmap_open, S_open), (n_bitmap_fresh, S_fresh), (n_bitmap_bitmap_at, fnSpec R_at), (n_bitmap_bitmap_set, mkM M_set)]) s_bitmap_Resized c_bitmap_Resized r_bitmap_Resized S_Resized := by
  rintro _ K ⟨s, n, to, rfl, hs, hK⟩
  unfold resR resE at hK
  by_cases he : bmErr s n = 0
  case neg =>
    simp only [he, ne_eq, not_false_eq_true, if_true, if_false] at hK
    (repeat' ((conv => whnf); (fail_if_success (refine ⟨(?_ : Nat), (?_ : _ < _), ?_⟩)); (fail_if_success (refine ⟨(?_ : RV), ?_⟩)); (fail_if_success (refine ⟨(?_ : List RV), ?_⟩)); first | refine CMP_t (by omega) ?_ | refine And.intro rfl ?_ | refine ⟨_, _, rfl, (by repeat' (first | omega | assumption | exact trivial | refine And.intro ?_ ?_)), ?_⟩ | fail)) <;> try (conv => whnf)
    (refine ⟨_, ?_, ?_, hK⟩ <;> repeat' (first | exact rfl | exact trivial | exact flat_runs _ | exact flat_pI _ | exact (fun _ h => by cases h) | refine ⟨?_, ?_⟩))
  obtain ⟨h1, h2, h3, h4, h5⟩ := bmErr_ok he
  simp only [he, ne_eq, not_true_eq_false, if_false] at hK
  (repeat' ((conv => whnf); (fail_if_success (refine ⟨(?_ : Nat), (?_ : _ < _), ?_⟩)); (fail_if_success (refine ⟨(?_ : RV), ?_⟩)); (fail_if_success (refine ⟨(?_ : List RV), ?_⟩)); first | refine CMP_f (by omega) ?_ | refine And.intro rfl ?_ | refine ⟨_, _, rfl, (by repeat' (first | omega | assumption | exact trivial | refine And.intro ?_ ?_)), ?_⟩ | refine ⟨_, rfl, ?_⟩ | fail)) <;> try (conv => whnf)
  refine ⟨fun h => ?_, fun h => ?_⟩
  rotate_left
  · simp only [h, not_false_eq_true, if_true, if_false, sizeErr2 h] at hK
    (repeat' ((conv => whnf); (fail_if_success (refine ⟨(?_ : Nat), (?_ : _ < _), ?_⟩)); (fail_if_success (refine ⟨(?_ : RV), ?_⟩)); (fail_if_success (refine ⟨(?_ : List RV), ?_⟩)); first | refine CMP_t (by omega) ?_ | refine And.intro rfl ?_ | fail)) <;> try (conv => whnf)
    (refine ⟨_, ?_, ?_, hK⟩ <;> repeat' (first | exact rfl | exact trivial | exact flat_runs _ | exact flat_pI _ | exact (fun _ h => by cases h) | refine ⟨?_, ?_⟩))
  have ht := sizeErr0 h
  simp only [h, not_true_eq_false, if_false] at hK
  (repeat' ((conv => whnf); (fail_if_success (refine ⟨(?_ : Nat), (?_ : _ < _), ?_⟩)); (fail_if_success (refine ⟨(?_ : RV), ?_⟩)); (fail_if_success (refine ⟨(?_ : List RV), ?_⟩)); first | refine CMP_f (by omega) ?_ | refine And.intro rfl ?_ | fail)) <;> try (conv => whnf)
  have hz : (zerosL (len8 to.toNat)).length = len8 to.toNat := by simp [zerosL]
  have hl8 : len8 to.toNat ≤ 512 ∧ to.toNat ≤ 8 * len8 to.toNat := by unfold len8; omega
  refine ⟨fun m env σ => ∃ (i : Nat) (B : List UInt8), (i + m = n ∧ B.length = len8 to.toNat ∧ (∀ j : Nat, to ≤ j → j < i → bitN s j = 0) ∧ ∀ j, bitN B j = if j < i then bitN s j else 0) ∧ σ = [.box 76 [.own 2, .pv (pI n)], .box 76 [.own 3, .pv (pI to)], .row T_uint8 1 false (s.map byteP), .row T_uint8 1 false (B.map byteP)] ∧ env = [(2, .pv (pI to)), (8, .ref 0 0 0), (10, .ref 1 0 0), (29, .pv (pI n)), (30, .pv (pI i))], n.toNat, ⟨0, zerosL (len8 to.toNat), ⟨by omega, hz, fun j _ h => by omega, fun j => by rw [bitN_zeros, if_neg (by omega)]⟩, rfl, rfl⟩, ?_⟩
  rintro m env σ ⟨i, B, ⟨hi, hB, h0, hb⟩, rfl, rfl⟩
  (repeat' ((conv => whnf); (fail_if_success (refine ⟨(?_ : Nat), (?_ : _ < _), ?_⟩)); (fail_if_success (refine ⟨(?_ : RV), ?_⟩)); (fail_if_success (refine ⟨(?_ : List RV), ?_⟩)); first | refine N64 (by omega) ?_ | refine CMP (fun _ => ?_) (fun _ => ?_) | refine BTS ?_ | refine ⟨_, ⟨_, _, _, rfl, (by repeat' (first | omega | assumption | exact trivial | refine And.intro ?_ ?_)), rfl⟩, ?_⟩ | refine ⟨_, _, _, _, _, rfl, rfl, (by repeat' (first | omega | assumption | exact trivial | refine And.intro ?_ ?_)), ?_⟩ | fail)) <;> try (conv => whnf)
  · rename_i _ h0b
    have h0b : bitN s i = 0 := by simpa using h0b
    refine ⟨m - 1, by omega, i + 1, B, ⟨by omega, hB, fun j hj hji => ?_, fun j => ?_⟩, rfl, rfl⟩
    · by_cases h : j = i
      · rw [h]; exact h0b
      · exact h0 j hj (by omega)
    · rw [hb]
      by_cases h : j = i
      · subst h; simp [h0b]
      · by_cases h' : j < i
        · rw [if_pos h', if_pos (by omega)]
        · rw [if_neg h', if_neg (by omega)]
  · rename_i _ h1b hle
    have h1b : bitN s i = 1 := by have := bitN_le s i; simp at h1b; omega
    have hh : hits (fun i => decide (bitN s i = 1)) to.toNat (n.toNat - to.toNat) = true := hits_iff.2 ⟨i, by omega, by omega, by simpa using h1b⟩
    rw [if_pos hh] at hK
    (conv => whnf)
    (refine ⟨_, ?_, ?_, hK⟩ <;> repeat' (first | exact rfl | exact trivial | exact flat_runs _ | exact flat_pI _ | exact (fun _ h => by cases h) | refine ⟨?_, ?_⟩))
  · rename_i _ h1b hle
    have h1b : bitN s i = 1 := by have := bitN_le s i; simp at h1b; omega
    refine ⟨m - 1, by omega, i + 1, setB B i 1, ⟨by omega, by simp [hB], fun j hj hji => h0 j hj (by omega), fun j => ?_⟩, rfl, rfl⟩
    rw [setB_bit (by omega) (Nat.le_refl _), hb]
    by_cases h : j = i
    · subst h; simp [h1b]
    · rw [if_neg h]
      by_cases h' : j < i
      · rw [if_pos h', if_pos (by omega)]
      · rw [if_neg h', if_neg (by omega)]
  · have hi : i = n.toNat := by omega
    subst hi
    have hh : ¬ hits (fun i => decide (bitN s i = 1)) to.toNat (n.toNat - to.toNat) = true := fun hh => by
      obtain ⟨j, h1', h2', h3'⟩ := hits_iff.1 hh
      rw [h0 j (by omega) (by omega)] at h3'
      cases h3'
    have e : B = bmOf (bitN s) to.toNat := by
      refine bm_eq (bitN_le s) hB (fun j hj => ?_) fun j hj _ => ?_
      · rw [hb]
        by_cases h' : j < n.toNat
        · rw [if_pos h']
        · rw [if_neg h']
          by_cases h8 : j < 8 * s.length
          · exact (h5 j h8 (by omega)).symm
          · unfold bitN; rw [List.getElem?_eq_none (by omega)]; simp
      · rw [hb]
        by_cases h' : j < n.toNat
        · rw [if_pos h']; exact h0 j (by omega) h'
        · rw [if_neg h']
    rw [if_neg hh, if_pos rfl, ← e] at hK
    (conv => whnf)
    (refine ⟨_, ?_, ?_, hK⟩ <;> repeat' (first | exact rfl | exact trivial | exact flat_runs _ | exact flat_pI _ | exact (fun _ h => by cases h) | refine ⟨?_, ?_⟩))

theorem U8a {n : Int} {K : Int → Prop} (k : K (n % 256)) : ∀ r : Int, r = IntKind.u8.wrap n → K r := U8m k
def S_From : Spec := mkS true true fun ps K => ∃ l : List Int, ps = [.sl 1 (l.map pI)] ∧ (l.length ≤ 8000 ∧ ∀ x ∈ l, 0 ≤ x ∧ x ≤ 1) ∧ K (.pv (.str (bmOf (fun i => (l[i]?.getD 0).toNat) l.length)))
theorem ok_From : FnOk S_From := by
  refine ⟨fun _ => ⟨rfl, fun ps K h => ?_⟩, fun _ _ h => h, rfl⟩
  obtain ⟨l, rfl, hp, hK⟩ := h
  exact ⟨_, hK, fun K' h => ⟨l, rfl, hp, h⟩⟩
theorem meets_From : Meets (ctxOf [(n_base_Ceil, fnSpec R_Ceil8), (n_base_Power, fnSpec R_base_Power)]) s_ref04_From c_ref04_From r_ref04_From S_From := by
  rintro _ K ⟨l, rfl, ⟨hl, h01⟩, hK⟩
  (repeat' ((conv => whnf); (fail_if_success (refine ⟨(?_ : Nat), (?_ : _ < _), ?_⟩)); (fail_if_success (refine ⟨(?_ : RV), ?_⟩)); (fail_if_success (refine ⟨(?_ : List RV), ?_⟩)); first | (show _ ≤ (9223372036854775807 : Nat) → _; first | rw [List.length_map, tab_len] | rw [List.length_map] | rw [List.length_replicate] | skip; intro _) | refine ⟨_, ⟨_, rfl, (by repeat' (first | omega | assumption | exact trivial | refine And.intro ?_ ?_)), rfl⟩, ?_⟩ | fail)) <;> try (conv => whnf)
  have hc : ceil8 l.length = (len8 l.length : Nat) := by unfold ceil8 len8; omega
  have hl8 : len8 l.length ≤ 1000 := by unfold len8; omega
  (repeat' ((conv => whnf); (fail_if_success (refine ⟨(?_ : Nat), (?_ : _ < _), ?_⟩)); (fail_if_success (refine ⟨(?_ : RV), ?_⟩)); (fail_if_success (refine ⟨(?_ : List RV), ?_⟩)); first | refine And.intro (by omega) ?_ | fail)) <;> try (conv => whnf)
  have hf : ∀ i : Nat, (l[i]?.getD 0).toNat ≤ 1 := by
    intro i
    cases h : l[i]? with
    | none => simp
    | some x => have := h01 x (List.mem_of_getElem? h); simp; omega
  refine ⟨fun m env σ => ∃ i : Nat, (i + m = l.length) ∧ σ = [.row T_uint8 1 true ((bmGo (fun i => (l[i]?.getD 0).toNat) (zerosL (len8 l.length)) i).map byteP)] ∧ env = [(0, .pv (.sl 1 (l.map pI))), (3, .own 0), (4, .pv (pI i))], l.length, ⟨0, by omega, by rw [hc, Int.toNat_natCast]; exact congrArg (fun x => [Blk.row _ _ _ x]) (zeros_row _), rfl⟩, ?_⟩
  rintro m env σ ⟨i, hi, rfl, rfl⟩
  have hbl := bmGo_len (fun i => (l[i]?.getD 0).toNat) (zerosL (len8 l.length)) i
  have hz : (zerosL (len8 l.length)).length = len8 l.length := by simp [zerosL]
  have h88 : l.length ≤ 8 * len8 l.length := by unfold len8; omega
  rw [hz] at hbl
  (repeat' ((conv => whnf); (fail_if_success (refine ⟨(?_ : Nat), (?_ : _ < _), ?_⟩)); (fail_if_success (refine ⟨(?_ : RV), ?_⟩)); (fail_if_success (refine ⟨(?_ : List RV), ?_⟩)); first | refine CMP (fun _ => ?_) (fun _ => ?_) | refine QUO (by omega) ?_ | refine REM (by omega) ?_ | (show _ ≤ (9223372036854775807 : Nat) → _; first | rw [List.length_map, tab_len] | rw [List.length_map] | rw [List.length_replicate] | skip; intro _) | refine IDXn (by omega) (fun _ _ => ?_) | refine OWN (by omega) ?_ | refine GETb (by omega) (fun _ _ _ => ?_) | refine BTS ?_ | refine And.intro rfl ?_ | refine ⟨_, ⟨_, rfl, (by repeat' (first | omega | assumption | exact trivial | refine And.intro ?_ ?_)), rfl⟩, ?_⟩ | fail)) <;> try (conv => whnf)
  · rename_i b hb hb2 x hx
    have hx01 := h01 x (List.mem_of_getElem? hx)
    have e1 : ((i : Int) / 8).toNat = i / 8 := by omega
    have e2 : ((i : Int) % 8).toNat = i % 8 := by omega
    have hbit : b.toNat / 2 ^ (i % 8) % 2 = 0 := by
      have := bmGo_bit hf i (by rw [hz]; omega) i
      rw [if_neg (by omega), bitN_zeros] at this
      unfold bitN at this
      rw [← e1, hb] at this
      exact this
    have hxn : x.toNat ≤ 1 := by omega
    have hsb := setBit_toNat b (k := i % 8) (v := x.toNat) (by omega) hxn
    rw [hbit, Nat.zero_mul, Nat.sub_zero] at hsb
    have hs256 := (setBit b (i % 8) x.toNat).toNat_lt
    have hp : x * ((2 ^ ((i : Int) % 8).toNat : Nat) : Int) = ((x.toNat * 2 ^ (i % 8) : Nat) : Int) := by
      rw [e2, Int.natCast_mul, Int.toNat_of_nonneg hx01.1]
    generalize hq : x.toNat * 2 ^ (i % 8) = q at *
    rw [hp]
    (repeat' ((conv => whnf); (fail_if_success (refine ⟨(?_ : Nat), (?_ : _ < _), ?_⟩)); (fail_if_success (refine ⟨(?_ : RV), ?_⟩)); (fail_if_success (refine ⟨(?_ : List RV), ?_⟩)); first | refine N64 (by omega) ?_ | refine U8 (by omega) ?_ | refine GEThn (by assumption) ?_ | refine OWN (by omega) ?_ | refine And.intro rfl ?_ | fail)) <;> try (conv => whnf)
    have e3 : ((bmGo (fun i => (l[i]?.getD 0).toNat) (zerosL (len8 l.length)) i).map byteP).set ((i : Int) / 8).toNat (.int .u8 ((b.toNat : Int) + (q : Int))) = (bmGo (fun i => (l[i]?.getD 0).toNat) (zerosL (len8 l.length)) (i + 1)).map byteP := by
      simp only [bmGo, setB]
      rw [e1] at hb
      rw [e1, hx, hb, Option.getD_some, Option.getD_some, ← set_map]
      refine congrArg (List.set _ _) ?_
      show _ = PV.int .u8 _
      rw [hsb]
      rfl
    refine ⟨m - 1, by omega, i + 1, by omega, congrArg (fun x => [Blk.row _ _ _ x]) ?_, rfl⟩
    exact e3
  · have : i = l.length := by omega
    subst this
    (refine ⟨_, ?_, ?_, hK⟩ <;> repeat' (first | exact rfl | exact trivial | exact flat_runs _ | exact flat_pI _ | exact (fun _ h => by cases h) | refine ⟨?_, ?_⟩))

def S_MarkErr : Spec := mkS true false fun ps K => ∃ (s : List UInt8) (n : Int) (l : List Rn) (v : Nat), ps = [.str s, pI n, .sl 2 (l.map Rn.pv), pI v] ∧ (0 ≤ n ∧ n ≤ 4096 ∧ n ≤ 8 * s.length ∧ s.length ≤ 1000000) ∧ K (.pv (pI (markErr (bitN s) n l v)))
theorem meets_MarkErr : Meets (ctxOf [(n_ref04_RunsErr, S_RunsErr), (n_ref04_Bit, fnSpec R_Bit04)]) s_ref04_MarkErr c_ref04_MarkErr r_ref04_MarkErr S_MarkErr := by
  rintro _ K ⟨s, n, l, v, rfl, ⟨h0, h1, h2, h3⟩, hK⟩
  unfold markErr at hK
  by_cases he : runsErr l n = 0
  case neg =>
    simp only [he, ne_eq, not_false_eq_true, if_true] at hK
    (repeat' ((conv => whnf); (fail_if_success (refine ⟨(?_ : Nat), (?_ : _ < _), ?_⟩)); (fail_if_success (refine ⟨(?_ : RV), ?_⟩)); (fail_if_success (refine ⟨(?_ : List RV), ?_⟩)); first | refine CMP_t (by omega) ?_ | refine ⟨_, _, rfl, (by repeat' (first | omega | assumption | exact trivial | refine And.intro ?_ ?_)), ?_⟩ | fail)) <;> try (conv => whnf)
    (refine ⟨_, ?_, ?_, hK⟩ <;> repeat' (first | exact rfl | exact trivial | exact flat_runs _ | exact flat_pI _ | exact (fun _ h => by cases h) | refine ⟨?_, ?_⟩))
  simp only [he, ne_eq, not_true_eq_false, if_false] at hK
  obtain ⟨hl, hok, hpw⟩ := runsErr_ok he
  (repeat' ((conv => whnf); (fail_if_success (refine ⟨(?_ : Nat), (?_ : _ < _), ?_⟩)); (fail_if_success (refine ⟨(?_ : RV), ?_⟩)); (fail_if_success (refine ⟨(?_ : List RV), ?_⟩)); first | refine CMP_f (by omega) ?_ | refine ⟨_, _, rfl, (by repeat' (first | omega | assumption | exact trivial | refine And.intro ?_ ?_)), ?_⟩ | fail)) <;> try (conv => whnf)
  refine ⟨fun m env σ => ∃ (i : Nat), (i + m = l.length ∧ (∀ r ∈ l.take i, hits (fun j => decide (bitN s j = v)) r.s.toNat r.n.toNat = false)) ∧ σ = [] ∧ env = [(0, .pv (.str s)), (2, .pv (.sl 2 (l.map Rn.pv))), (3, .pv (pI v)), (10, .pv (pI i))], l.length, ⟨0, ⟨by omega, fun r h => (by cases h)⟩, rfl, rfl⟩, ?_⟩
  rintro m env σ ⟨i, ⟨hi, hh⟩, rfl, rfl⟩
  (repeat' ((conv => whnf); (fail_if_success (refine ⟨(?_ : Nat), (?_ : _ < _), ?_⟩)); (fail_if_success (refine ⟨(?_ : RV), ?_⟩)); (fail_if_success (refine ⟨(?_ : List RV), ?_⟩)); first | refine CMP (fun _ => ?_) (fun _ => ?_) | (show _ ≤ (9223372036854775807 : Nat) → _; first | rw [List.length_map, tab_len] | rw [List.length_map] | rw [List.length_replicate] | skip; intro _) | refine IDXn (by omega) (fun _ _ => ?_) | fail)) <;> try (conv => whnf)
  · rename_i r hr
    obtain ⟨hr1, hr2⟩ := hok r (List.mem_of_getElem? hr)
    refine ⟨fun m' env σ => ∃ (k : Nat), (k + m' = r.n.toNat ∧ hits (fun j => decide (bitN s j = v)) r.s.toNat k = false) ∧ σ = [] ∧ env = [(0, .pv (.str s)), (2, .pv (.sl 2 (l.map Rn.pv))), (3, .pv (pI v)), (10, .pv (pI i)), (11, .pv (pI ((r.s.toNat + k : Nat) : Int)))], r.n.toNat, ⟨0, ⟨by omega, rfl⟩, rfl, by rw [show ((r.s.toNat + 0 : Nat) : Int) = r.s by omega]⟩, ?_⟩
    rintro m' env σ ⟨k, ⟨hk, hf⟩, rfl, rfl⟩
    (repeat' ((conv => whnf); (fail_if_success (refine ⟨(?_ : Nat), (?_ : _ < _), ?_⟩)); (fail_if_success (refine ⟨(?_ : RV), ?_⟩)); (fail_if_success (refine ⟨(?_ : List RV), ?_⟩)); first | refine N64 (by omega) ?_ | refine CMP (fun _ => ?_) (fun _ => ?_) | refine IDXh (by assumption) ?_ | refine And.intro rfl ?_ | refine ⟨_, ⟨_, _, rfl, (by repeat' (first | omega | assumption | exact trivial | refine And.intro ?_ ?_)), rfl⟩, ?_⟩ | fail)) <;> try (conv => whnf)
    · rename_i hlt hc
      have hh : hits (fun j => decide (bitN s j = v)) r.s.toNat r.n.toNat = true := hits_iff.2 ⟨r.s.toNat + k, by omega, by omega, by simp; omega⟩
      have ha : (l.any fun r => hits (fun i => decide (bitN s i = v)) r.s.toNat r.n.toNat) = true := List.any_eq_true.2 ⟨r, List.mem_of_getElem? hr, hh⟩
      rw [if_pos ha] at hK
      (refine ⟨_, ?_, ?_, hK⟩ <;> repeat' (first | exact rfl | exact trivial | exact flat_runs _ | exact flat_pI _ | exact (fun _ h => by cases h) | refine ⟨?_, ?_⟩))
    · rename_i hlt hc
      refine ⟨m' - 1, by omega, k + 1, ⟨by omega, ?_⟩, rfl, by rw [show ((r.s.toNat + (k + 1) : Nat) : Int) = ((r.s.toNat + k : Nat) : Int) + 1 by omega]⟩
      simp only [hits, hf, Bool.false_or, decide_eq_false_iff_not]; omega
    · refine ⟨m - 1, by omega, i + 1, ⟨by omega, fun x hx => ?_⟩, rfl, rfl⟩
      rw [List.take_add_one, hr] at hx
      rcases List.mem_append.1 hx with hx | hx
      · exact hh x hx
      · simp at hx; subst hx
        rw [show x.n.toNat = k by omega]; exact hf
  · have ei : i = l.length := by omega
    subst ei
    rw [List.take_length] at hh
    have ha : ¬ (l.any fun r => hits (fun i => decide (bitN s i = v)) r.s.toNat r.n.toNat) = true := by
      rw [Bool.not_eq_true, List.any_eq_false]
      intro r hr
      rw [hh r hr]; simp
    rw [if_neg ha] at hK
    (refine ⟨_, ?_, ?_, hK⟩ <;> repeat' (first | exact rfl | exact trivial | exact flat_runs _ | exact flat_pI _ | exact (fun _ h => by cases h) | refine ⟨?_, ?_⟩))

def S_Mark : Spec := mkS true true fun ps K => ∃ (s : List UInt8) (n : Int) (l : List Rn) (v : Nat), ps = [.str s, pI n, .sl 2 (l.map Rn.pv), pI v] ∧ (0 ≤ n ∧ n ≤ 4096 ∧ n ≤ 8 * s.length ∧ s.length ≤ 1000000 ∧ v ≤ 1 ∧ runsErr l n = 0) ∧ K (.pv (.str (bmOf (markF (bitN s) l v) n.toNat)))
theorem ok_Mark : FnOk S_Mark := by
  refine ⟨fun _ => ⟨rfl, fun ps K h => ?_⟩, fun _ _ h => h, rfl⟩
  obtain ⟨s, n, l, v, rfl, hp, hK⟩ := h
  exact ⟨_, hK, fun K' h => ⟨s, n, l, v, rfl, hp, h⟩⟩
theorem meets_Mark : Meets (ctxOf [(n_ref04_Bits, S_Bits), (n_ref04_From, S_From)]) s_ref04_Mark c_ref04_Mark r_ref04_Mark S_Mark := by
  rintro _ K ⟨s, n, l, v, rfl, ⟨h0, h1, h2, h3, h4, he⟩, hK⟩
  obtain ⟨hl, hok, hpw⟩ := runsErr_ok he
  obtain ⟨n, rfl⟩ : ∃ k : Nat, n = k := ⟨n.toNat, by omega⟩
  rw [Int.toNat_natCast] at hK
  have ebits : ∀ n, bitsL s n = tab (fun i => ((bitN s i : Nat) : Int)) n := fun n => rfl
  (repeat' ((conv => whnf); (fail_if_success (refine ⟨(?_ : Nat), (?_ : _ < _), ?_⟩)); (fail_if_success (refine ⟨(?_ : RV), ?_⟩)); (fail_if_success (refine ⟨(?_ : List RV), ?_⟩)); first | refine ⟨_, _, rfl, (by repeat' (first | omega | assumption | exact trivial | refine And.intro ?_ ?_)), ?_⟩ | fail)) <;> try (conv => whnf)
  refine ⟨fun m env σ => ∃ (i : Nat), (i + m = l.length) ∧ σ = [.row T_int 1 true ((tab (fun j => ((markF (bitN s) (l.take i) v j : Nat) : Int)) n).map pI)] ∧ env = [(2, .pv (.sl 2 (l.map Rn.pv))), (3, .pv (pI v)), (9, .own 0), (10, .pv (pI i))], l.length, ⟨0, by omega, by rw [ebits]; refine congrArg (fun x => [Blk.row _ _ _ (List.map pI x)]) (tab_ext fun j _ => ?_); simp [markF, inRs], rfl⟩, ?_⟩
  rintro m env σ ⟨i, hi, rfl, rfl⟩
  (repeat' ((conv => whnf); (fail_if_success (refine ⟨(?_ : Nat), (?_ : _ < _), ?_⟩)); (fail_if_success (refine ⟨(?_ : RV), ?_⟩)); (fail_if_success (refine ⟨(?_ : List RV), ?_⟩)); first | refine CMP (fun _ => ?_) (fun _ => ?_) | (show _ ≤ (9223372036854775807 : Nat) → _; first | rw [List.length_map, tab_len] | rw [List.length_map] | rw [List.length_replicate] | skip; intro _) | refine IDXn (by omega) (fun _ _ => ?_) | refine ⟨_, rfl, ?_⟩ | fail)) <;> try (conv => whnf)
  · rename_i r hr
    obtain ⟨hr1, hr2⟩ := hok r (List.mem_of_getElem? hr)
    refine ⟨fun m' env σ => ∃ (k : Nat), (k + m' = r.n.toNat) ∧ σ = [.row T_int 1 true ((tab (fun j => if r.s.toNat ≤ j ∧ j < r.s.toNat + k then (v : Int) else ((markF (bitN s) (l.take i) v j : Nat) : Int)) n).map pI)] ∧ env = [(2, .pv (.sl 2 (l.map Rn.pv))), (3, .pv (pI v)), (9, .own 0), (10, .pv (pI i)), (11, .pv (pI ((r.s.toNat + k : Nat) : Int)))], r.n.toNat, ⟨0, by omega, ?_, by rw [show ((r.s.toNat + 0 : Nat) : Int) = r.s by omega]⟩, ?_⟩
    · refine congrArg (fun x => [Blk.row _ _ _ (List.map pI x)]) (tab_ext fun j _ => ?_)
      rw [if_neg (by omega)]
    rintro m' env σ ⟨k, hk, rfl, rfl⟩
    (repeat' ((conv => whnf); (fail_if_success (refine ⟨(?_ : Nat), (?_ : _ < _), ?_⟩)); (fail_if_success (refine ⟨(?_ : RV), ?_⟩)); (fail_if_success (refine ⟨(?_ : List RV), ?_⟩)); first | refine N64 (by omega) ?_ | refine CMP (fun _ => ?_) (fun _ => ?_) | refine IDXh (by assumption) ?_ | refine GETt (by omega) ?_ | refine OWNt (by omega) ?_ | refine And.intro rfl ?_ | fail)) <;> try (conv => whnf)
    · refine ⟨m' - 1, by omega, k + 1, by omega, ?_, by rw [show ((r.s.toNat + (k + 1) : Nat) : Int) = ((r.s.toNat + k : Nat) : Int) + 1 by omega]⟩
      rw [Int.toNat_natCast, set_map, tab_set]
      refine congrArg (fun x => [Blk.row _ _ _ (List.map pI x)]) (tab_ext fun j _ => ?_)
      by_cases hj : j = r.s.toNat + k
      · rw [if_pos hj, if_pos (by omega)]
      · rw [if_neg hj]
        by_cases h' : r.s.toNat ≤ j ∧ j < r.s.toNat + k
        · rw [if_pos h', if_pos (by omega)]
        · rw [if_neg h', if_neg (by omega)]
    · refine ⟨m - 1, by omega, i + 1, by omega, ?_, rfl⟩
      refine congrArg (fun x => [Blk.row _ _ _ (List.map pI x)]) (tab_ext fun j _ => ?_)
      unfold markF
      have : inRs (l.take (i + 1)) j = (inRs (l.take i) j || inR r j) := by
        rw [List.take_add_one, hr]; exact inRs_snoc _ _ _
      rw [this]
      have e : (r.s.toNat ≤ j ∧ j < r.s.toNat + k) ↔ inR r j = true := by
        simp only [inR, decide_eq_true_eq]; omega
      by_cases h : inR r j = true
      · rw [if_pos (e.2 h), if_pos (by simp [h])]
      · rw [if_neg (fun h' => h (e.1 h'))]
        have : inR r j = false := by simpa using h
        simp [this]
  · have ei : i = l.length := by omega
    subst ei
    rw [List.take_length]
    have hle := markF_le (bitN_le s) (l := l) h4
    refine ⟨⟨by simp; omega, fun x hx => ?_⟩, ?_⟩
    · obtain ⟨j, hj⟩ := mem_get.1 hx
      obtain ⟨_, rfl⟩ := tab_get' hj
      have := hle j
      omega
    rw [tab_len]
    have e : bmOf (fun i => ((tab (fun j => ((markF (bitN s) l v j : Nat) : Int)) n)[i]?.getD 0).toNat) n = bmOf (markF (bitN s) l v) n := by
      refine bmOf_congr (fun i => ?_) hle fun i hi => by rw [tab_get hi]; simp
      by_cases hi : i < n
      · rw [tab_get hi]; have := hle i; simpa using this
      · rw [List.getElem?_eq_none (by simp; omega)]; simp
    rw [e]
    (conv => whnf)
    (refine ⟨_, ?_, ?_, hK⟩ <;> repeat' (first | exact rfl | exact trivial | exact flat_runs _ | exact flat_pI _ | exact (fun _ h => by cases h) | refine ⟨?_, ?_⟩))
end Go.Dv.Try
end
section
/-
  Contracts of chapter 4: how runs are compared; parts that change places.
-/
namespace Go.Dv.Try
open Go Go.Dv

def cmpI (a b : Int) : Int := if a < b then -1 else if b < a then 1 else 0
def R_isNaN (ps : List PV) (x : PV) : Prop := ∃ a : Int, ps = [pI a] ∧ x = pB false
theorem meets_isNaN : Meets (ctxOf []) s_cmp_isNaN_int c_cmp_isNaN_int r_cmp_isNaN_int (fnSpec R_isNaN) := by
  rintro _ K ⟨_, ⟨a, rfl, rfl⟩, hK⟩
  refine CMP_f (fun h => h rfl) ?_
  (conv => whnf)
  (refine ⟨_, ?_, ?_, hK⟩ <;> repeat' (first | exact rfl | exact trivial | exact flat_runs _ | exact flat_pI _ | exact (fun _ h => by cases h) | refine ⟨?_, ?_⟩))
def R_Compare (ps : List PV) (x : PV) : Prop := ∃ a b : Int, ps = [pI a, pI b] ∧ x = pI (cmpI a b)
theorem meets_Compare : Meets (ctxOf [(n_cmp_isNaN_int, fnSpec R_isNaN)]) s_cmp_Compare_int c_cmp_Compare_int r_cmp_Compare_int (fnSpec R_Compare) := by
  rintro _ K ⟨_, ⟨a, b, rfl, rfl⟩, hK⟩
  unfold cmpI at hK
  (repeat' ((conv => whnf); (fail_if_success (refine ⟨(?_ : Nat), (?_ : _ < _), ?_⟩)); (fail_if_success (refine ⟨(?_ : RV), ?_⟩)); (fail_if_success (refine ⟨(?_ : List RV), ?_⟩)); first | refine CMP (fun _ => ?_) (fun _ => ?_) | refine ⟨_, ⟨_, rfl, rfl⟩, ?_⟩ | fail)) <;> try (conv => whnf)
  · rename_i h
    rw [if_pos h] at hK; (refine ⟨_, ?_, ?_, hK⟩ <;> repeat' (first | exact rfl | exact trivial | exact flat_runs _ | exact flat_pI _ | exact (fun _ h => by cases h) | refine ⟨?_, ?_⟩))
  · rename_i h h2
    rw [if_neg h, if_pos h2] at hK; (refine ⟨_, ?_, ?_, hK⟩ <;> repeat' (first | exact rfl | exact trivial | exact flat_runs _ | exact flat_pI _ | exact (fun _ h => by cases h) | refine ⟨?_, ?_⟩))
  · rename_i h h2
    rw [if_neg h, if_neg h2] at hK; (refine ⟨_, ?_, ?_, hK⟩ <;> repeat' (first | exact rfl | exact trivial | exact flat_runs _ | exact flat_pI _ | exact (fun _ h => by cases h) | refine ⟨?_, ?_⟩))
def R_Or (ps : List PV) (x : PV) : Prop := ∃ l : List Int, ps = [.sl 1 (l.map pI)] ∧ x = pI (firstZ l)
theorem meets_Or : Meets (ctxOf []) s_cmp_Or_int c_cmp_Or_int r_cmp_Or_int (fnSpec R_Or) := by
  rintro _ K ⟨_, ⟨l, rfl, rfl⟩, hK⟩
  (repeat' ((conv => whnf); (fail_if_success (refine ⟨(?_ : Nat), (?_ : _ < _), ?_⟩)); (fail_if_success (refine ⟨(?_ : RV), ?_⟩)); (fail_if_success (refine ⟨(?_ : List RV), ?_⟩)); first | (show _ ≤ (9223372036854775807 : Nat) → _; first | rw [List.length_map, tab_len] | rw [List.length_map] | rw [List.length_replicate] | skip; intro _) | fail)) <;> try (conv => whnf)
  refine ⟨fun m env σ => ∃ n : Nat, (n + m = l.length ∧ ∀ j, j < n → l[j]? = some 0) ∧ σ = [] ∧ env = [(3, .pv (pI 0)), (6, .pv (.sl 1 (l.map pI))), (7, .pv (pI (l.length : Nat))), (8, .pv (pI n))], l.length, ⟨0, ⟨by omega, fun j hj => by omega⟩, rfl, rfl⟩, ?_⟩
  rintro m env σ ⟨n, ⟨hn, h0⟩, rfl, rfl⟩
  (repeat' ((conv => whnf); (fail_if_success (refine ⟨(?_ : Nat), (?_ : _ < _), ?_⟩)); (fail_if_success (refine ⟨(?_ : RV), ?_⟩)); (fail_if_success (refine ⟨(?_ : List RV), ?_⟩)); first | refine N64 (by omega) ?_ | refine CMP (fun _ => ?_) (fun _ => ?_) | refine IDXn (by omega) (fun _ _ => ?_) | fail)) <;> try (conv => whnf)
  · rename_i x hx hne
    rw [firstZ_drop l n h0, List.drop_eq_getElem_cons (lt_of_get hx)] at hK
    rw [List.getElem?_eq_getElem (lt_of_get hx)] at hx
    simp only [Option.some.inj hx, firstZ, if_neg hne] at hK
    (refine ⟨_, ?_, ?_, hK⟩ <;> repeat' (first | exact rfl | exact trivial | exact flat_runs _ | exact flat_pI _ | exact (fun _ h => by cases h) | refine ⟨?_, ?_⟩))
  · rename_i x hx hne
    refine ⟨m - 1, by omega, n + 1, ⟨by omega, fun j hj => ?_⟩, rfl, rfl⟩
    by_cases hjn : j < n
    · exact h0 j hjn
    · rw [show j = n by omega, hx]; simpa using hne
  · rw [firstZ_drop l n h0, List.drop_eq_nil_of_le (by omega)] at hK
    (refine ⟨_, ?_, ?_, hK⟩ <;> repeat' (first | exact rfl | exact trivial | exact flat_runs _ | exact flat_pI _ | exact (fun _ h => by cases h) | refine ⟨?_, ?_⟩))
def awayI (a b : Int) : Int := max (a - b) (b - a)
def R_away (ps : List PV) (x : PV) : Prop := ∃ a b : Int, ps = [pI a, pI b] ∧ (-1000000000000 ≤ a ∧ a ≤ 1000000000000 ∧ -1000000000000 ≤ b ∧ b ≤ 1000000000000) ∧ x = pI (awayI a b)
theorem meets_away : Meets (ctxOf []) s_bitmap_away c_bitmap_away r_bitmap_away (fnSpec R_away) := by
  rintro _ K ⟨_, ⟨a, b, rfl, ⟨h1, h2, h3, h4⟩, rfl⟩, hK⟩
  unfold awayI at hK
  (repeat' ((conv => whnf); (fail_if_success (refine ⟨(?_ : Nat), (?_ : _ < _), ?_⟩)); (fail_if_success (refine ⟨(?_ : RV), ?_⟩)); (fail_if_success (refine ⟨(?_ : List RV), ?_⟩)); first | refine N64 (by omega) ?_ | refine MAX ?_ | fail)) <;> try (conv => whnf)
  (refine ⟨_, ?_, ?_, hK⟩ <;> repeat' (first | exact rfl | exact trivial | exact flat_runs _ | exact flat_pI _ | exact (fun _ h => by cases h) | refine ⟨?_, ?_⟩))

def rnB (r : Rn) : Prop := -1000000000000 ≤ r.s ∧ r.s ≤ 1000000000000 ∧ -1000000000000 ≤ r.n ∧ r.n ≤ 1000000000000
def gcmp (near : Int) (p q : Rn) : Int := firstZ [cmpI q.n p.n, cmpI (awayI p.s near) (awayI q.s near), cmpI p.s q.s]
def ltG (near : Int) (p q : Rn) : Bool := decide (gcmp near p q < 0)
theorem ltG_iff {near : Int} {p q : Rn} : ltG near p q = true ↔ (q.n < p.n ∨ q.n = p.n ∧ (awayI p.s near < awayI q.s near ∨ awayI p.s near = awayI q.s near ∧ p.s < q.s)) := by
  unfold ltG gcmp
  rw [decide_eq_true_iff]
  generalize awayI p.s near = x
  generalize awayI q.s near = y
  simp only [firstZ, cmpI]
  by_cases h1 : q.n < p.n
  · simp [h1]
  · by_cases h2 : p.n < q.n
    · simp [h1, h2]; omega
    · by_cases h3 : x < y
      · simp [h1, h2, h3]; omega
      · by_cases h4 : y < x
        · simp [h1, h2, h3, h4]; omega
        · by_cases h5 : p.s < q.s
          · simp [h1, h2, h3, h4, h5]; omega
          · by_cases h6 : q.s < p.s <;> simp [h1, h2, h3, h4, h5, h6] <;> omega
theorem ltG_ord (near : Int) : Ord (ltG near) := by
  constructor
  · intro x y h
    rw [← Bool.not_eq_true]
    rw [ltG_iff] at h ⊢
    omega
  · intro x y z h1 h2
    rw [← Bool.not_eq_true] at h1 h2 ⊢
    rw [ltG_iff] at h1 h2 ⊢
    omega
theorem ltG_tri {near : Int} {x y : Rn} (h1 : ltG near x y = false) (h2 : ltG near y x = false) : x = y := by
  rw [← Bool.not_eq_true] at h1 h2
  rw [ltG_iff] at h1 h2
  obtain ⟨a, b⟩ := x
  obtain ⟨c, d⟩ := y
  simp only at h1 h2
  have : a = c ∧ b = d := by omega
  rw [this.1, this.2]
def cloG (c near : Int) : PV := .clo n_bitmap_Gathered_f1 [.cptr (.agg [pI c, pI near])]
def nearB (near : Int) : Prop := -1000000000000 ≤ near ∧ near ≤ 1000000000000
def R_cmpG (ps : List PV) (x : PV) : Prop := ∃ (p q : Rn) (c near : Int), ps = [p.pv, q.pv, .cptr (.agg [pI c, pI near])] ∧ (rnB p ∧ rnB q ∧ nearB near) ∧ x = pI (gcmp near p q)
theorem meets_cmpG : Meets (ctxOf [(n_cmp_Or_int, fnSpec R_Or), (n_cmp_Compare_int, fnSpec R_Compare), (n_bitmap_away, fnSpec R_away)]) s_bitmap_Gathered_f1 c_bitmap_Gathered_f1 r_bitmap_Gathered_f1 (fnSpec R_cmpG) := by
  rintro _ K ⟨_, ⟨p, q, c, near, rfl, ⟨⟨h1, h2, h3, h4⟩, ⟨h5, h6, h7, h8⟩, h9, h10⟩, rfl⟩, hK⟩
  unfold gcmp at hK
  (repeat' ((conv => whnf); (fail_if_success (refine ⟨(?_ : Nat), (?_ : _ < _), ?_⟩)); (fail_if_success (refine ⟨(?_ : RV), ?_⟩)); (fail_if_success (refine ⟨(?_ : List RV), ?_⟩)); first | refine And.intro rfl ?_ | refine ⟨_, ⟨_, _, rfl, rfl⟩, ?_⟩ | refine ⟨_, ⟨_, _, rfl, (by repeat' (first | omega | assumption | exact trivial | refine And.intro ?_ ?_)), rfl⟩, ?_⟩ | refine ⟨_, ⟨[_, _, _], rfl, rfl⟩, ?_⟩ | fail)) <;> try (conv => whnf)
  (refine ⟨_, ?_, ?_, hK⟩ <;> repeat' (first | exact rfl | exact trivial | exact flat_runs _ | exact flat_pI _ | exact (fun _ h => by cases h) | refine ⟨?_, ?_⟩))

/-- A place in a row in which one value was put. -/
theorem GETs {α : Type} {f : Nat → α} {n : Nat} {F : α → PV} {i k : Nat} {x : α} {K : PV → Prop} (h : k < n) (c : K (F (if k = i then x else f k))) : ∃ y, (((tab f n).map F).set i (F x))[k]? = some y ∧ K y :=
  ⟨_, by rw [set_map, tab_set, List.getElem?_map, tab_get h]; rfl, c⟩
abbrev rowG (ap : Bool) (f : Nat → Rn) (N : Nat) : Blk := .row T_api_Run 2 ap ((tab f N).map Rn.pv)
def M_swap (xs : List AV) (σ : Sto) (K : AV → Sto → Prop) : Prop :=
  ∃ (ap : Bool) (f : Nat → Rn) (N : Nat) (a b n c near : Int), xs = [.own 0, .pv (pI a), .pv (pI b), .pv (pI n), .pv (cloG c near)] ∧ σ = [rowG ap f N] ∧ (0 ≤ a ∧ a + n ≤ b ∧ b + n ≤ N ∧ 0 ≤ n ∧ N ≤ 100000) ∧ K (.tup []) [rowG ap (swpF f a.toNat b.toNat n.toNat) N]
theorem meets_swap : MeetsM (ctxOf []) s_slices_swapRangeCmpFunc_depository_api_Run c_slices_swapRangeCmpFunc_depository_api_Run r_slices_swapRangeCmpFunc_depository_api_Run (mkM M_swap) := by
  rintro _ _ K ⟨ap, f, N, a, b, n, c, near, rfl, rfl, ⟨h0, h1, h2, h3, h4⟩, hK⟩
  refine ⟨fun m env σ => ∃ i : Nat, (i + m = n) ∧ σ = [rowG ap (swpF f a.toNat b.toNat i) N] ∧ env = [(0, .own 0), (1, .pv (pI a)), (2, .pv (pI b)), (3, .pv (pI n)), (10, .pv (pI i))], n.toNat, ⟨0, by omega, ?_, rfl⟩, ?_⟩
  · refine congrArg (fun x => [rowG ap x N]) (funext fun j => ?_)
    unfold swpF; rw [if_neg (by omega), if_neg (by omega)]
  rintro m env σ ⟨i, hi, rfl, rfl⟩
  (repeat' ((conv => whnf); (fail_if_success (refine ⟨(?_ : Nat), (?_ : _ < _), ?_⟩)); (fail_if_success (refine ⟨(?_ : RV), ?_⟩)); (fail_if_success (refine ⟨(?_ : List RV), ?_⟩)); first | refine GETs (by omega) ?_ | refine N64 (by omega) ?_ | refine CMP (fun _ => ?_) (fun _ => ?_) | refine GETt (by omega) ?_ | refine OWNt (by omega) ?_ | refine And.intro rfl ?_ | refine And.intro (by (simp; omega)) ?_ | fail)) <;> try (conv => whnf)
  · refine ⟨m - 1, by omega, i + 1, by omega, ?_, rfl⟩
    refine congrArg (fun x => [Blk.row _ _ _ x]) ?_
    rw [show PV.agg [pI (swpF f a.toNat b.toNat i (b + i).toNat).s, pI (swpF f a.toNat b.toNat i (b + i).toNat).n] = (swpF f a.toNat b.toNat i (b + i).toNat).pv from rfl,
      show PV.agg [pI (swpF f a.toNat b.toNat i (a + i).toNat).s, pI (swpF f a.toNat b.toNat i (a + i).toNat).n] = (swpF f a.toNat b.toNat i (a + i).toNat).pv from rfl, set_map, set_map, tab_set, tab_set]
    refine congrArg (List.map Rn.pv) (tab_ext fun j _ => ?_)
    unfold swpF
    repeat' split
    all_goals first | (exfalso; omega) | rfl | (congr 1 <;> omega)
  · have : n.toNat = i := by omega
    rw [this] at hK
    exact hK

def M_rot (xs : List AV) (σ : Sto) (K : AV → Sto → Prop) : Prop :=
  ∃ (ap : Bool) (f : Nat → Rn) (N : Nat) (a m b c near : Int), xs = [.own 0, .pv (pI a), .pv (pI m), .pv (pI b), .pv (cloG c near)] ∧ σ = [rowG ap f N] ∧ (0 ≤ a ∧ a < m ∧ m < b ∧ b ≤ N ∧ N ≤ 100000) ∧ K (.tup []) [rowG ap (rotF f a.toNat m.toNat b.toNat) N]
theorem meets_rot : MeetsM (ctxOf [(n_slices_swapRangeCmpFunc_depository_api_Run, mkM M_swap)]) s_slices_rotateCmpFunc_depository_api_Run c_slices_rotateCmpFunc_depository_api_Run r_slices_rotateCmpFunc_depository_api_Run (mkM M_rot) := by
  rintro _ _ K ⟨ap, f, N, a, m, b, c, near, rfl, rfl, ⟨h0, h1, h2, h3, h4⟩, hK⟩
  (repeat' ((conv => whnf); (fail_if_success (refine ⟨(?_ : Nat), (?_ : _ < _), ?_⟩)); (fail_if_success (refine ⟨(?_ : RV), ?_⟩)); (fail_if_success (refine ⟨(?_ : List RV), ?_⟩)); first | refine N64 (by omega) ?_ | fail)) <;> try (conv => whnf)
  refine ⟨fun q env σ => ∃ (i j : Int) (g : Nat → Rn), (q = i + j ∧ 0 < i ∧ 0 < j ∧ i ≤ m - a ∧ j ≤ b - m ∧ rotF f a.toNat m.toNat b.toNat = rotF g (m - i).toNat m.toNat (m + j).toNat) ∧ σ = [rowG ap g N] ∧ env = [(0, .own 0), (2, .pv (pI m)), (4, .pv (cloG c near)), (10, .pv (pI i)), (11, .pv (pI j))], (b - a).toNat, ⟨m - a, b - m, f, ⟨by omega, by omega, by omega, by omega, by omega, by rw [show m - (m - a) = a by omega, show m + (b - m) = b by omega]⟩, rfl, rfl⟩, ?_⟩
  rintro q env σ ⟨i, j, g, ⟨hq, hi, hj, hi2, hj2, he⟩, rfl, rfl⟩
  (repeat' ((conv => whnf); (fail_if_success (refine ⟨(?_ : Nat), (?_ : _ < _), ?_⟩)); (fail_if_success (refine ⟨(?_ : RV), ?_⟩)); (fail_if_success (refine ⟨(?_ : List RV), ?_⟩)); first | refine N64 (by omega) ?_ | refine CMP (fun _ => ?_) (fun _ => ?_) | refine ⟨_, _, _, _, _, _, _, _, rfl, rfl, (by repeat' (first | omega | assumption | exact trivial | refine And.intro ?_ ?_)), ?_⟩ | fail)) <;> try (conv => whnf)
  · rename_i hne hgt
    refine ⟨j.toNat + (i - j).toNat, by omega, i - j, j, swpF g (m - i).toNat m.toNat j.toNat, ⟨by omega, by omega, by omega, by omega, by omega, ?_⟩, rfl, rfl⟩
    rw [he]
    funext x
    unfold rotF swpF
    repeat' split
    all_goals first | (exfalso; omega) | (congr 1 <;> omega)
  · rename_i hne hgt
    refine ⟨i.toNat + (j - i).toNat, by omega, i, j - i, swpF g (m - i).toNat (m + j - i).toNat i.toNat, ⟨by omega, by omega, by omega, by omega, by omega, ?_⟩, rfl, rfl⟩
    rw [he]
    funext x
    unfold rotF swpF
    repeat' split
    all_goals first | (exfalso; omega) | (congr 1 <;> omega)
  · rename_i hne
    have hij : i = j := Decidable.of_not_not hne
    subst hij
    have e : rotF f a.toNat m.toNat b.toNat = swpF g (m - i).toNat m.toNat i.toNat := by
      rw [he]
      funext x
      unfold rotF swpF
      repeat' split
      all_goals first | (exfalso; omega) | (congr 1 <;> omega)
    rw [e] at hK
    exact hK

/-- A value moved ahead, the ones between one further. -/
def movF (g : Nat → Rn) (j i : Nat) : Nat → Rn := fun k => if k = j then g i else if j < k ∧ k ≤ i then g (k - 1) else g k
theorem movF_self (g : Nat → Rn) (i : Nat) : movF g i i = g := by
  funext k; unfold movF
  by_cases h : k = i
  · rw [if_pos h, h]
  · rw [if_neg h, if_neg (by omega)]
theorem movF_swap (g : Nat → Rn) {j i : Nat} (h0 : 0 < j) (h : j ≤ i) : swapF (movF g j i) (j - 1) j = movF g (j - 1) i := by
  funext k; unfold swapF movF
  repeat' split
  all_goals first | (exfalso; omega) | rfl | (congr 1 <;> omega)
theorem movF_perm (g : Nat → Rn) {a i : Nat} : ∀ d, d ≤ i - a → a ≤ i → PermOn a (i + 1) g (movF g (i - d) i) := by
  intro d
  induction d with
  | zero => intro _ _; rw [Nat.sub_zero, movF_self]; exact .refl _ _ _
  | succ d ih =>
    intro h1 h2
    refine (ih (by omega) h2).trans ?_
    rw [← show i - d - 1 = i - (d + 1) by omega, ← movF_swap g (by omega) (by omega)]
    have := swapF_perm (movF g (i - d) i) (i := i - d - 1)
    rw [show i - d - 1 + 1 = i - d by omega] at this
    exact this.wide (by omega) (by omega) (by omega)
abbrev ctxG : List (Nat × Spec) := [(n_bitmap_Gathered_f1, fnSpec R_cmpG)]
def M_ins (xs : List AV) (σ : Sto) (K : AV → Sto → Prop) : Prop :=
  ∃ (ap : Bool) (f : Nat → Rn) (N : Nat) (a b c near : Int), xs = [.own 0, .pv (pI a), .pv (pI b), .pv (cloG c near)] ∧ σ = [rowG ap f N] ∧ (0 ≤ a ∧ a ≤ b ∧ b ≤ N ∧ N ≤ 100000 ∧ (∀ j, rnB (f j)) ∧ nearB near) ∧
    ∀ g, PermOn a.toNat b.toNat f g → SortedOn (ltG near) a.toNat b.toNat g → K (.tup []) [rowG ap g N]
theorem meets_ins : MeetsM (ctxOf ctxG) s_slices_insertionSortCmpFunc_depository_api_Run c_slices_insertionSortCmpFunc_depository_api_Run r_slices_insertionSortCmpFunc_depository_api_Run (mkM M_ins) := by
  rintro _ _ K ⟨ap, f, N, a, b, c, near, rfl, rfl, ⟨h0, h1, h2, h3, hB, hN⟩, hK⟩
  (repeat' ((conv => whnf); (fail_if_success (refine ⟨(?_ : Nat), (?_ : _ < _), ?_⟩)); (fail_if_success (refine ⟨(?_ : RV), ?_⟩)); (fail_if_success (refine ⟨(?_ : List RV), ?_⟩)); first | refine N64 (by omega) ?_ | fail)) <;> try (conv => whnf)
  refine ⟨fun q env σ => ∃ (i : Int) (g : Nat → Rn), (q = (b - i).toNat ∧ a + 1 ≤ i ∧ (i ≤ b ∨ i = a + 1) ∧ PermOn a.toNat b.toNat f g ∧ SortedOn (ltG near) a.toNat i.toNat g) ∧ σ = [rowG ap g N] ∧ env = [(0, .own 0), (1, .pv (pI a)), (2, .pv (pI b)), (3, .pv (cloG c near)), (8, .pv (pI i))], (b - (a + 1)).toNat, ⟨a + 1, f, ⟨by omega, by omega, by omega, .refl _ _ _, fun i j h1 h2 h3 => ?_⟩, rfl, rfl⟩, ?_⟩
  · rw [show i = j by omega]; exact (ltG_ord near).irrefl _
  rintro q env σ ⟨i, g, ⟨hq, hi, hi2, hp, hs⟩, rfl, rfl⟩
  (repeat' ((conv => whnf); (fail_if_success (refine ⟨(?_ : Nat), (?_ : _ < _), ?_⟩)); (fail_if_success (refine ⟨(?_ : RV), ?_⟩)); (fail_if_success (refine ⟨(?_ : List RV), ?_⟩)); first | refine CMP (fun _ => ?_) (fun _ => ?_) | fail)) <;> try (conv => whnf)
  · refine ⟨fun q env σ => ∃ (j : Int), (q = (j - a).toNat ∧ a ≤ j ∧ j ≤ i ∧ ∀ k : Nat, j ≤ k → k < i → ltG near (g i.toNat) (g k) = true) ∧ σ = [rowG ap (movF g j.toNat i.toNat) N] ∧ env = [(0, .own 0), (1, .pv (pI a)), (2, .pv (pI b)), (3, .pv (cloG c near)), (8, .pv (pI i)), (9, .pv (pI j))], (i - a).toNat, ⟨i, ⟨by omega, by omega, by omega, fun k h1 h2 => by omega⟩, by rw [movF_self], rfl⟩, ?_⟩
    rintro q env σ ⟨j, ⟨hq, hj, hji, hlt⟩, rfl, rfl⟩
    have hB2 : ∀ k, rnB (movF g j.toNat i.toNat k) := by
      have := hp.all (P := rnB) hB
      intro k; unfold movF
      repeat' split
      all_goals exact this _
    (repeat' ((conv => whnf); (fail_if_success (refine ⟨(?_ : Nat), (?_ : _ < _), ?_⟩)); (fail_if_success (refine ⟨(?_ : RV), ?_⟩)); (fail_if_success (refine ⟨(?_ : List RV), ?_⟩)); first | refine N64 (by omega) ?_ | refine CMP (fun _ => ?_) (fun _ => ?_) | refine GETt (by omega) ?_ | refine OWNt (by omega) ?_ | refine And.intro rfl ?_ | fail)) <;> try (conv => whnf)
    · have hcmp : ∀ r : Int, r = gcmp near (movF g j.toNat i.toNat j.toNat) (movF g j.toNat i.toNat (j - 1).toNat) → (r < 0 ↔ ltG near (g i.toNat) (g (j - 1).toNat) = true) := by
        intro r hr
        have e1 : movF g j.toNat i.toNat j.toNat = g i.toNat := by unfold movF; rw [if_pos rfl]
        have e2 : movF g j.toNat i.toNat (j - 1).toNat = g (j - 1).toNat := by unfold movF; rw [if_neg (by omega), if_neg (by omega)]
        rw [hr, e1, e2]; unfold ltG; rw [decide_eq_true_iff]
      refine ⟨_, ⟨_, _, c, near, rfl, ⟨hB2 _, hB2 _, hN⟩, rfl⟩, ?_⟩
      (repeat' ((conv => whnf); (fail_if_success (refine ⟨(?_ : Nat), (?_ : _ < _), ?_⟩)); (fail_if_success (refine ⟨(?_ : RV), ?_⟩)); (fail_if_success (refine ⟨(?_ : List RV), ?_⟩)); first | refine GETs (by omega) ?_ | refine N64 (by omega) ?_ | refine CMP (fun _ => ?_) (fun _ => ?_) | refine GETt (by omega) ?_ | refine OWNt (by omega) ?_ | refine And.intro rfl ?_ | refine And.intro (by (simp; omega)) ?_ | fail)) <;> try (conv => whnf)
      · rename_i hlt0
        have hl := (hcmp _ rfl).1 hlt0
        refine ⟨(j - 1 - a).toNat, by omega, j - 1, ⟨by omega, by omega, by omega, fun k h4 h5 => ?_⟩, ?_, rfl⟩
        · by_cases hk : k = (j - 1).toNat
          · rw [hk]; exact hl
          · exact hlt k (by omega) h5
        · refine congrArg (fun x => [Blk.row _ _ _ x]) ?_
          have hsw := movF_swap g (j := j.toNat) (i := i.toNat) (by omega) (by omega)
          rw [show PV.agg [pI (movF g j.toNat i.toNat (j - 1).toNat).s, pI (movF g j.toNat i.toNat (j - 1).toNat).n] = (movF g j.toNat i.toNat (j - 1).toNat).pv from rfl,
            show PV.agg [pI (movF g j.toNat i.toNat j.toNat).s, pI (movF g j.toNat i.toNat j.toNat).n] = (movF g j.toNat i.toNat j.toNat).pv from rfl, set_map, set_map, tab_set, tab_set]
          refine congrArg (List.map Rn.pv) ?_
          rw [show (j - 1).toNat = j.toNat - 1 by omega, ← hsw]
          refine tab_ext fun x _ => ?_
          unfold swapF
          repeat' split
          all_goals first | (exfalso; omega) | rfl
      · rename_i hlt0
        have hl : ltG near (g i.toNat) (g (j - 1).toNat) = false := by
          cases h : ltG near (g i.toNat) (g (j - 1).toNat) with
          | false => rfl
          | true => exact absurd ((hcmp _ rfl).2 h) hlt0
        refine ⟨(b - (i + 1)).toNat, by omega, i + 1, movF g j.toNat i.toNat, ⟨rfl, by omega, by omega, hp.trans ?_, ?_⟩, rfl, rfl⟩
        · have := movF_perm g (a := a.toNat) (i := i.toNat) (i - j).toNat (by omega) (by omega)
          rw [show i.toNat - (i - j).toNat = j.toNat by omega] at this
          exact this.wide (by omega) (by omega) (by omega)
        · rw [show (i + 1).toNat = i.toNat + 1 by omega]
          exact sorted_insert (ltG_ord near) hs (by omega) (by omega) (fun k h4 h5 => hlt k (by omega) (by omega)) fun _ => by rw [show j.toNat - 1 = (j - 1).toNat by omega]; exact hl
    · refine ⟨(b - (i + 1)).toNat, by omega, i + 1, movF g j.toNat i.toNat, ⟨rfl, by omega, by omega, hp.trans ?_, ?_⟩, rfl, rfl⟩
      · have := movF_perm g (a := a.toNat) (i := i.toNat) (i - j).toNat (by omega) (by omega)
        rw [show i.toNat - (i - j).toNat = j.toNat by omega] at this
        exact this.wide (by omega) (by omega) (by omega)
      · rw [show (i + 1).toNat = i.toNat + 1 by omega]
        exact sorted_insert (ltG_ord near) hs (by omega) (by omega) (fun k h4 h5 => hlt k (by omega) (by omega)) fun _ => by omega
  · rename_i hlt
    exact hK g hp (by rcases hi2 with h | h; · rw [show b = i by omega]; exact hs
                      · exact fun x y h1 h2 h3 => by rw [show x = y by omega]; exact (ltG_ord near).irrefl _)
end Go.Dv.Try
end
section
/-
  Contracts of chapter 4: runs in order.
-/
namespace Go.Dv.Try
open Go Go.Dv

def M_sym (k : Nat) (xs : List AV) (σ : Sto) (K : AV → Sto → Prop) : Prop :=
  ∃ (ap : Bool) (f : Nat → Rn) (N : Nat) (a m b c near : Int), xs = [.own 0, .pv (pI a), .pv (pI m), .pv (pI b), .pv (cloG c near)] ∧ σ = [rowG ap f N] ∧
    (0 ≤ a ∧ a < m ∧ m < b ∧ b ≤ N ∧ N ≤ 100000 ∧ b - a ≤ k ∧ (∀ j, rnB (f j)) ∧ nearB near ∧ SortedOn (ltG near) a.toNat m.toNat f ∧ SortedOn (ltG near) m.toNat b.toNat f) ∧
    ∀ g, PermOn a.toNat b.toNat f g → SortedOn (ltG near) a.toNat b.toNat g → K (.tup []) [rowG ap g N]
theorem lt_of_cmp {near : Int} {p q : Rn} (h : gcmp near p q < 0) : ltG near p q = true := by unfold ltG; rw [decide_eq_true_iff]; exact h
theorem ge_of_cmp {near : Int} {p q : Rn} (h : ¬ gcmp near p q < 0) : ltG near p q = false := by unfold ltG; rw [decide_eq_false_iff_not]; exact h
theorem movF_permR (g : Nat → Rn) {a m : Nat} : True := trivial

/-- A value moved behind others. -/
def movR (g : Nat → Rn) (a k : Nat) : Nat → Rn := fun j => if j = k then g a else if a ≤ j ∧ j < k then g (j + 1) else g j
theorem movR_self (g : Nat → Rn) (a : Nat) : movR g a a = g := by
  funext j; unfold movR
  repeat' split
  all_goals first | (exfalso; omega) | rfl | (congr 1 <;> omega)
theorem movR_swap (g : Nat → Rn) {a k : Nat} (h : a ≤ k) : swapF (movR g a k) k (k + 1) = movR g a (k + 1) := by
  funext j; unfold swapF movR
  repeat' split
  all_goals first | (exfalso; omega) | rfl | (congr 1 <;> omega)
theorem movR_perm (g : Nat → Rn) {a : Nat} : ∀ d, PermOn a (a + d + 1) g (movR g a (a + d)) := by
  intro d
  induction d with
  | zero => rw [show a + 0 = a by omega, movR_self]; exact .refl _ _ _
  | succ d ih =>
    rw [← Nat.add_assoc, ← movR_swap g (by omega)]
    exact (ih.wide (Nat.le_refl _) (by omega) (by omega)).trans ((swapF_perm _).wide (by omega) (by omega) (by omega))
theorem sorted_movR {lt : Rn → Rn → Bool} (o : Ord lt) {a b k : Nat} {g : Nat → Rn} (hs : SortedOn lt (a + 1) b g) (hk : a ≤ k) (hkb : k < b) (h1 : ∀ j, a < j → j ≤ k → lt (g j) (g a) = true) (h2 : k + 1 < b → lt (g (k + 1)) (g a) = false) : SortedOn lt a b (movR g a k) := by
  apply sorted_step o
  intro j hj hjb
  show lt (if j + 1 = k then g a else if a ≤ j + 1 ∧ j + 1 < k then g (j + 1 + 1) else g (j + 1)) (if j = k then g a else if a ≤ j ∧ j < k then g (j + 1) else g j) = false
  by_cases e1 : j = k
  · rw [if_neg (by omega), if_neg (by omega), if_pos e1, e1]; exact h2 (by omega)
  · rw [if_neg e1]
    by_cases e2 : j + 1 = k
    · rw [if_pos e2, if_pos (by omega)]
      exact o.asymm _ _ (h1 (j + 1) (by omega) (by omega))
    · rw [if_neg e2]
      by_cases e3 : j < k
      · rw [if_pos (by omega), if_pos (by omega)]; exact hs _ _ (by omega) (by omega) (by omega)
      · rw [if_neg (by omega), if_neg (by omega)]; exact hs _ _ (by omega) (by omega) (by omega)

set_option maxHeartbeats 4000000 in
theorem meets_sym (k : Nat) : MeetsM (ctxOf [(n_bitmap_Gathered_f1, fnSpec R_cmpG), (n_slices_rotateCmpFunc_depository_api_Run, mkM M_rot), (n_slices_symMergeCmpFunc_depository_api_Run, mkM (M_sym k))]) s_slices_symMergeCmpFunc_depository_api_Run c_slices_symMergeCmpFunc_depository_api_Run r_slices_symMergeCmpFunc_depository_api_Run (mkM (M_sym (k + 1))) := by
  rintro _ _ K ⟨ap, f, N, a, m, b, c, near, rfl, rfl, ⟨h0, h1, h2, h3, h4, h5, hB, hN, hs1, hs2⟩, hK⟩
  have ho := ltG_ord near
  (repeat' ((conv => whnf); (fail_if_success (refine ⟨(?_ : Nat), (?_ : _ < _), ?_⟩)); (fail_if_success (refine ⟨(?_ : RV), ?_⟩)); (fail_if_success (refine ⟨(?_ : List RV), ?_⟩)); first | refine N64 (by omega) ?_ | refine CMP (fun _ => ?_) (fun _ => ?_) | refine U64 (by omega) ?_ | refine SHR1 (by omega) ?_ | fail)) <;> try (conv => whnf)
  · rename_i hm1
    -- one value on the left
    refine ⟨fun q env σ => ∃ (i j : Int), (q = (j - i).toNat ∧ m ≤ i ∧ i ≤ j ∧ j ≤ b ∧ (∀ x : Nat, m ≤ x → x < i → ltG near (f x) (f a.toNat) = true) ∧ (j < b → ltG near (f j.toNat) (f a.toNat) = false)) ∧ σ = [rowG ap f N] ∧ env = [(0, .own 0), (1, .pv (pI a)), (4, .pv (cloG c near)), (10, .pv (pI i)), (11, .pv (pI j))], (b - m).toNat, ⟨m, b, ⟨rfl, by omega, by omega, by omega, fun x hx hx2 => by omega, fun h => by omega⟩, rfl, rfl⟩, ?_⟩
    rintro q env σ ⟨i, j, ⟨hq, hi, hij, hj, hlt, hge⟩, rfl, rfl⟩
    (repeat' ((conv => whnf); (fail_if_success (refine ⟨(?_ : Nat), (?_ : _ < _), ?_⟩)); (fail_if_success (refine ⟨(?_ : RV), ?_⟩)); (fail_if_success (refine ⟨(?_ : List RV), ?_⟩)); first | refine N64 (by omega) ?_ | refine CMP (fun _ => ?_) (fun _ => ?_) | refine U64 (by omega) ?_ | refine SHR1 (by omega) ?_ | refine GETt (by omega) ?_ | refine OWNt (by omega) ?_ | refine And.intro rfl ?_ | fail)) <;> try (conv => whnf)
    · refine ⟨_, ⟨_, _, c, near, rfl, ⟨hB _, hB _, hN⟩, rfl⟩, ?_⟩
      (repeat' ((conv => whnf); (fail_if_success (refine ⟨(?_ : Nat), (?_ : _ < _), ?_⟩)); (fail_if_success (refine ⟨(?_ : RV), ?_⟩)); (fail_if_success (refine ⟨(?_ : List RV), ?_⟩)); first | refine N64 (by omega) ?_ | refine CMP (fun _ => ?_) (fun _ => ?_) | fail)) <;> try (conv => whnf)
      · rename_i hc
        have hc := lt_of_cmp hc
        refine ⟨(j - ((i + j) / 2 + 1)).toNat, by omega, (i + j) / 2 + 1, j, ⟨rfl, by omega, by omega, by omega, fun x hx hx2 => ?_, hge⟩, rfl, rfl⟩
        cases hh : ltG near (f x) (f a.toNat) with
        | true => rfl
        | false =>
          have := ho.trans _ _ _ hh (hs2 x ((i + j) / 2).toNat (by omega) (by omega) (by omega))
          rw [hc] at this; cases this
      · rename_i hc
        have hc := ge_of_cmp hc
        exact ⟨((i + j) / 2 - i).toNat, by omega, i, (i + j) / 2, ⟨rfl, by omega, by omega, by omega, hlt, fun _ => hc⟩, rfl, rfl⟩
    · rename_i hnij
      have hij : i = j := by omega
      subst hij
      refine ⟨fun q env σ => ∃ (x : Int), (q = (i - 1 - x).toNat ∧ a ≤ x ∧ x ≤ i - 1) ∧ σ = [rowG ap (movR f a.toNat x.toNat) N] ∧ env = [(0, .own 0), (10, .pv (pI i)), (13, .pv (pI x))], (i - 1 - a).toNat, ⟨a, ⟨rfl, by omega, by omega⟩, by rw [movR_self], rfl⟩, ?_⟩
      rintro q env σ ⟨x, ⟨hq, hx, hx2⟩, rfl, rfl⟩
      (repeat' ((conv => whnf); (fail_if_success (refine ⟨(?_ : Nat), (?_ : _ < _), ?_⟩)); (fail_if_success (refine ⟨(?_ : RV), ?_⟩)); (fail_if_success (refine ⟨(?_ : List RV), ?_⟩)); first | refine GETs (by omega) ?_ | refine N64 (by omega) ?_ | refine CMP (fun _ => ?_) (fun _ => ?_) | refine GETt (by omega) ?_ | refine OWNt (by omega) ?_ | refine And.intro rfl ?_ | refine And.intro (by (simp; omega)) ?_ | fail)) <;> try (conv => whnf)
      · refine ⟨(i - 1 - (x + 1)).toNat, by omega, x + 1, ⟨rfl, by omega, by omega⟩, ?_, rfl⟩
        refine congrArg (fun x => [Blk.row _ _ _ x]) ?_
        rw [show PV.agg [pI (movR f a.toNat x.toNat (x + 1).toNat).s, pI (movR f a.toNat x.toNat (x + 1).toNat).n] = (movR f a.toNat x.toNat (x + 1).toNat).pv from rfl,
            show PV.agg [pI (movR f a.toNat x.toNat x.toNat).s, pI (movR f a.toNat x.toNat x.toNat).n] = (movR f a.toNat x.toNat x.toNat).pv from rfl, set_map, set_map, tab_set, tab_set]
        refine congrArg (List.map Rn.pv) ?_
        rw [show (x + 1).toNat = x.toNat + 1 by omega, ← movR_swap f (by omega)]
        refine tab_ext fun y _ => ?_
        unfold swapF
        repeat' split
        all_goals first | (exfalso; omega) | rfl
      · have hxi : x = i - 1 := by omega
        refine hK _ ?_ ?_
        · have := movR_perm f (a := a.toNat) (x - a).toNat
          rw [show a.toNat + (x - a).toNat = x.toNat by omega] at this
          exact this.wide (Nat.le_refl _) (by omega) (by omega)
        · refine sorted_movR ho (sorted_sub hs2 (by omega) (Nat.le_refl _)) (by omega) (by omega) (fun y h6 h7 => hlt y (by omega) (by omega)) fun h => ?_
          rw [show x.toNat + 1 = i.toNat by omega]
          exact hge (by omega)
  · rename_i hm1 hb1
    -- one value on the right
    refine ⟨fun q env σ => ∃ (i j : Int), (q = (j - i).toNat ∧ a ≤ i ∧ i ≤ j ∧ j ≤ m ∧ (a < i → ltG near (f m.toNat) (f (i - 1).toNat) = false) ∧ (∀ x : Nat, j ≤ x → x < m → ltG near (f m.toNat) (f x) = true)) ∧ σ = [rowG ap f N] ∧ env = [(0, .own 0), (2, .pv (pI m)), (4, .pv (cloG c near)), (14, .pv (pI i)), (15, .pv (pI j))], (m - a).toNat, ⟨a, m, ⟨rfl, by omega, by omega, by omega, fun h => by omega, fun x hx hx2 => by omega⟩, rfl, rfl⟩, ?_⟩
    rintro q env σ ⟨i, j, ⟨hq, hi, hij, hj, hge, hlt⟩, rfl, rfl⟩
    (repeat' ((conv => whnf); (fail_if_success (refine ⟨(?_ : Nat), (?_ : _ < _), ?_⟩)); (fail_if_success (refine ⟨(?_ : RV), ?_⟩)); (fail_if_success (refine ⟨(?_ : List RV), ?_⟩)); first | refine N64 (by omega) ?_ | refine CMP (fun _ => ?_) (fun _ => ?_) | refine U64 (by omega) ?_ | refine SHR1 (by omega) ?_ | refine GETt (by omega) ?_ | refine OWNt (by omega) ?_ | refine And.intro rfl ?_ | fail)) <;> try (conv => whnf)
    · refine ⟨_, ⟨_, _, c, near, rfl, ⟨hB _, hB _, hN⟩, rfl⟩, ?_⟩
      (repeat' ((conv => whnf); (fail_if_success (refine ⟨(?_ : Nat), (?_ : _ < _), ?_⟩)); (fail_if_success (refine ⟨(?_ : RV), ?_⟩)); (fail_if_success (refine ⟨(?_ : List RV), ?_⟩)); first | refine N64 (by omega) ?_ | refine NOT_t ?_ | refine NOT_f ?_ | refine CMP (fun _ => ?_) (fun _ => ?_) | fail)) <;> try (conv => whnf)
      · rename_i hc
        have hc := lt_of_cmp hc
        refine ⟨((i + j) / 2 - i).toNat, by omega, i, (i + j) / 2, ⟨rfl, by omega, by omega, by omega, hge, fun x hx hx2 => ?_⟩, rfl, rfl⟩
        cases hh : ltG near (f m.toNat) (f x) with
        | true => rfl
        | false =>
          have := ho.trans _ _ _ (hs1 ((i + j) / 2).toNat x (by omega) (by omega) (by omega)) hh
          rw [hc] at this; cases this
      · rename_i hc
        have hc := ge_of_cmp hc
        refine ⟨(j - ((i + j) / 2 + 1)).toNat, by omega, (i + j) / 2 + 1, j, ⟨rfl, by omega, by omega, by omega, fun _ => ?_, hlt⟩, rfl, rfl⟩
        rw [show (i + j) / 2 + 1 - 1 = (i + j) / 2 by omega]; exact hc
    · rename_i hnij
      have hij : i = j := by omega
      subst hij
      refine ⟨fun q env σ => ∃ (x : Int), (q = (x - i).toNat ∧ i ≤ x ∧ x ≤ m) ∧ σ = [rowG ap (movF f x.toNat m.toNat) N] ∧ env = [(0, .own 0), (14, .pv (pI i)), (17, .pv (pI x))], (m - i).toNat, ⟨m, ⟨rfl, by omega, by omega⟩, by rw [movF_self], rfl⟩, ?_⟩
      rintro q env σ ⟨x, ⟨hq, hx, hx2⟩, rfl, rfl⟩
      (repeat' ((conv => whnf); (fail_if_success (refine ⟨(?_ : Nat), (?_ : _ < _), ?_⟩)); (fail_if_success (refine ⟨(?_ : RV), ?_⟩)); (fail_if_success (refine ⟨(?_ : List RV), ?_⟩)); first | refine GETs (by omega) ?_ | refine N64 (by omega) ?_ | refine CMP (fun _ => ?_) (fun _ => ?_) | refine GETt (by omega) ?_ | refine OWNt (by omega) ?_ | refine And.intro rfl ?_ | refine And.intro (by (simp; omega)) ?_ | fail)) <;> try (conv => whnf)
      · refine ⟨(x - 1 - i).toNat, by omega, x - 1, ⟨rfl, by omega, by omega⟩, ?_, rfl⟩
        refine congrArg (fun x => [Blk.row _ _ _ x]) ?_
        rw [show PV.agg [pI (movF f x.toNat m.toNat (x - 1).toNat).s, pI (movF f x.toNat m.toNat (x - 1).toNat).n] = (movF f x.toNat m.toNat (x - 1).toNat).pv from rfl,
            show PV.agg [pI (movF f x.toNat m.toNat x.toNat).s, pI (movF f x.toNat m.toNat x.toNat).n] = (movF f x.toNat m.toNat x.toNat).pv from rfl, set_map, set_map, tab_set, tab_set]
        refine congrArg (List.map Rn.pv) ?_
        rw [show (x - 1).toNat = x.toNat - 1 by omega, ← movF_swap f (by omega) (by omega)]
        refine tab_ext fun y _ => ?_
        unfold swapF
        repeat' split
        all_goals first | (exfalso; omega) | rfl
      · have hxi : x = i := by omega
        have ebm : b.toNat = m.toNat + 1 := by omega
        refine hK _ ?_ ?_
        · have := movF_perm f (a := a.toNat) (i := m.toNat) (m - x).toNat (by omega) (by omega)
          rw [show m.toNat - (m - x).toNat = x.toNat by omega] at this
          rw [ebm]; exact this
        · rw [ebm]
          refine sorted_insert ho hs1 (by omega) (by omega) (fun y h6 h7 => hlt y (by omega) (by omega)) fun h => ?_
          rw [show x.toNat - 1 = (i - 1).toNat by omega]
          exact hge (by omega)
  all_goals
    rename_i hcase
    obtain ⟨lo, hi, hlo, hhi⟩ : ∃ lo hi, lo = (if (a + b) / 2 < m then (a + b) / 2 + m - b else a) ∧ hi = (if (a + b) / 2 < m then (a + b) / 2 else m) := ⟨_, _, rfl, rfl⟩
    have F : a ≤ lo ∧ hi ≤ m ∧ lo ≤ hi ∧ (lo = a ∨ lo = (a + b) / 2 + m - b) ∧ (hi = m ∨ hi = (a + b) / 2) ∧ (a + b) / 2 + m - lo ≤ b ∧ hi ≤ (a + b) / 2 := by
      first | (rw [if_pos hcase] at hlo hhi; omega) | (rw [if_neg hcase] at hlo hhi; omega)
    obtain ⟨F1, F2, F3, F4, F5, F6, F7⟩ := F
    refine ⟨fun q env σ => ∃ (i j : Int), (q = (j - i).toNat ∧ lo ≤ i ∧ i ≤ j ∧ j ≤ hi ∧ (lo < i → ltG near (f ((a + b) / 2 + m - i).toNat) (f (i - 1).toNat) = false) ∧ (j < hi → ltG near (f ((a + b) / 2 + m - 1 - j).toNat) (f j.toNat) = true)) ∧ σ = [rowG ap f N] ∧ env = [(0, .own 0), (1, .pv (pI a)), (2, .pv (pI m)), (3, .pv (pI b)), (4, .pv (cloG c near)), (18, .pv (pI ((a + b) / 2))), (19, .pv (pI ((a + b) / 2 + m))), (20, .pv (pI i)), (21, .pv (pI j)), (22, .pv (pI ((a + b) / 2 + m - 1)))], (hi - lo).toNat, ⟨lo, hi, ⟨rfl, by omega, by omega, by omega, fun h => by omega, fun h => by omega⟩, rfl, by first | (rw [hlo, hhi, if_pos hcase, if_pos hcase] <;> rfl) | (rw [hlo, hhi, if_neg hcase, if_neg hcase] <;> rfl)⟩, ?_⟩
    rintro q env σ ⟨i, j, ⟨hq, hi1, hij, hj, hge, hlt⟩, rfl, rfl⟩
    by_cases hij2 : i < j
    · (repeat' ((conv => whnf); (fail_if_success (refine ⟨(?_ : Nat), (?_ : _ < _), ?_⟩)); (fail_if_success (refine ⟨(?_ : RV), ?_⟩)); (fail_if_success (refine ⟨(?_ : List RV), ?_⟩)); first | refine N64 (by omega) ?_ | refine CMP_t (by omega) ?_ | refine U64 (by omega) ?_ | refine SHR1 (by omega) ?_ | refine GETt (by omega) ?_ | refine OWNt (by omega) ?_ | refine And.intro rfl ?_ | fail)) <;> try (conv => whnf)
      refine ⟨_, ⟨_, _, c, near, rfl, ⟨hB _, hB _, hN⟩, rfl⟩, ?_⟩
      (repeat' ((conv => whnf); (fail_if_success (refine ⟨(?_ : Nat), (?_ : _ < _), ?_⟩)); (fail_if_success (refine ⟨(?_ : RV), ?_⟩)); (fail_if_success (refine ⟨(?_ : List RV), ?_⟩)); first | refine N64 (by omega) ?_ | refine NOT_t ?_ | refine NOT_f ?_ | refine CMP (fun _ => ?_) (fun _ => ?_) | fail)) <;> try (conv => whnf)
      · rename_i hc
        have hc := lt_of_cmp hc
        exact ⟨((i + j) / 2 - i).toNat, by omega, i, (i + j) / 2, ⟨rfl, by omega, by omega, by omega, hge, fun _ => hc⟩, rfl, rfl⟩
      · rename_i hc
        have hc := ge_of_cmp hc
        refine ⟨(j - ((i + j) / 2 + 1)).toNat, by omega, (i + j) / 2 + 1, j, ⟨rfl, by omega, by omega, by omega, fun _ => ?_, hlt⟩, rfl, rfl⟩
        rw [show (i + j) / 2 + 1 - 1 = (i + j) / 2 by omega, show (a + b) / 2 + m - ((i + j) / 2 + 1) = (a + b) / 2 + m - 1 - (i + j) / 2 by omega]; exact hc
    · have hij : i = j := by omega
      subst hij
      have M := merge_halves ho hs1 hs2 (s := i.toNat) (e := ((a + b) / 2 + m - i).toNat) (mid := ((a + b) / 2).toNat) (by omega) (by omega) (by omega) (by omega) (by omega)
        (fun x1 x2 => by rw [show i.toNat - 1 = (i - 1).toNat by omega]; exact hge (by omega))
        (fun x1 x2 => by rw [show ((a + b) / 2 + m - i).toNat - 1 = ((a + b) / 2 + m - 1 - i).toNat by omega]; exact hlt (by omega))
      obtain ⟨c1, c2, c3, c4, cx⟩ := M
      obtain ⟨G1, G2, G3, G4, G5, G6⟩ : i ≤ m ∧ i ≤ (a + b) / 2 ∧ m ≤ (a + b) / 2 + m - i ∧ (a + b) / 2 + m - i ≤ b ∧ (a + b) / 2 ≤ (a + b) / 2 + m - i ∧ a ≤ i := by omega
      have hii : ¬ i < i := Int.lt_irrefl i
      clear hlo hhi F1 F2 F3 F4 F5 F6 F7 hge hlt hq hij hj hij2 hi1
      have p0 : PermOn a.toNat b.toNat f (rotF f i.toNat m.toNat ((a + b) / 2 + m - i).toNat) := (rotF_perm f (by omega) (by omega)).wide (by omega) (by omega) (by omega)
      by_cases h1' : i < m ∧ m < (a + b) / 2 + m - i
      · have hBc : ∀ j, rnB ((rotF f i.toNat m.toNat ((a + b) / 2 + m - i).toNat) j) := p0.all hB
        by_cases h2' : a < i ∧ i < (a + b) / 2
        · first
            | (exfalso; omega)
            | ((repeat' ((conv => whnf); (fail_if_success (refine ⟨(?_ : Nat), (?_ : _ < _), ?_⟩)); (fail_if_success (refine ⟨(?_ : RV), ?_⟩)); (fail_if_success (refine ⟨(?_ : List RV), ?_⟩)); first | refine N64 (by omega) ?_ | refine CMP_t (by omega) ?_ | refine CMP_f (by omega) ?_ | refine ⟨_, _, _, _, _, _, _, _, rfl, rfl, (by repeat' (first | omega | assumption | exact trivial | refine And.intro ?_ ?_)), ?_⟩ | fail)) <;> try (conv => whnf)
               intro g1 q1 t1
               have r3 : SortedOn (ltG near) ((a + b) / 2).toNat ((a + b) / 2 + m - i).toNat g1 := sorted_congr c3 fun y y1 y2 => q1.2 y (by omega)
               have r4 : SortedOn (ltG near) ((a + b) / 2 + m - i).toNat b.toNat g1 := sorted_congr c4 fun y y1 y2 => q1.2 y (by omega)
               have hB1 : ∀ j, rnB (g1 j) := q1.all hBc
               have cx1 : ∀ x y, a.toNat ≤ x → x < ((a + b) / 2).toNat → ((a + b) / 2).toNat ≤ y → y < b.toNat → ltG near (g1 y) (g1 x) = false := by
                 intro x y hx hx2 hy hy2
                 obtain ⟨z, hz1, hz2, hz⟩ := q1.mem hx hx2
                 rw [hz, q1.2 y (by omega)]
                 exact cx z y hz1 hz2 hy hy2
               have p1 : PermOn a.toNat b.toNat f g1 := p0.trans (q1.wide (Nat.le_refl _) (by omega) (by omega))
               by_cases h3' : (a + b) / 2 < (a + b) / 2 + m - i ∧ (a + b) / 2 + m - i < b
               · first
                   | (exfalso; omega)
                   | ((repeat' ((conv => whnf); (fail_if_success (refine ⟨(?_ : Nat), (?_ : _ < _), ?_⟩)); (fail_if_success (refine ⟨(?_ : RV), ?_⟩)); (fail_if_success (refine ⟨(?_ : List RV), ?_⟩)); first | refine CMP_t (by omega) ?_ | refine ⟨_, _, _, _, _, _, _, _, rfl, rfl, (by repeat' (first | omega | assumption | exact trivial | refine And.intro ?_ ?_)), ?_⟩ | fail)) <;> try (conv => whnf)
                      intro g2 q2 t2
                      refine hK g2 (p1.trans (q2.wide (by omega) (Nat.le_refl _) (by omega))) (sorted_join (sorted_congr t1 fun y y1 y2 => q2.2 y (by omega)) t2 fun x y hx hx2 hy hy2 => ?_)
                      obtain ⟨z, hz1, hz2, hz⟩ := q2.mem hy hy2
                      rw [hz, q2.2 x (by omega)]
                      exact cx1 x z hx hx2 hz1 hz2)
               · first
                   | (exfalso; omega)
                   | (have t2 : SortedOn (ltG near) ((a + b) / 2).toNat b.toNat g1 := by
                        by_cases hz : (a + b) / 2 < (a + b) / 2 + m - i
                        · rw [show b.toNat = ((a + b) / 2 + m - i).toNat by omega]; exact r3
                        · rw [show ((a + b) / 2).toNat = ((a + b) / 2 + m - i).toNat by omega]; exact r4
                      (repeat' ((conv => whnf); (fail_if_success (refine ⟨(?_ : Nat), (?_ : _ < _), ?_⟩)); (fail_if_success (refine ⟨(?_ : RV), ?_⟩)); (fail_if_success (refine ⟨(?_ : List RV), ?_⟩)); first | refine CMP_t (by omega) ?_ | refine CMP_f (by omega) ?_ | fail)) <;> try (conv => whnf)
                      all_goals exact hK g1 p1 (sorted_join t1 t2 cx1)))
        · first
            | (exfalso; omega)
            | (have t1 : SortedOn (ltG near) a.toNat ((a + b) / 2).toNat ((rotF f i.toNat m.toNat ((a + b) / 2 + m - i).toNat)) := by
                 by_cases hz : a < i
                 · rw [show ((a + b) / 2).toNat = i.toNat by omega]; exact c1
                 · rw [show a.toNat = i.toNat by omega]; exact c2
               have q1 : PermOn a.toNat ((a + b) / 2).toNat ((rotF f i.toNat m.toNat ((a + b) / 2 + m - i).toNat)) ((rotF f i.toNat m.toNat ((a + b) / 2 + m - i).toNat)) := .refl _ _ _
               have r3 : SortedOn (ltG near) ((a + b) / 2).toNat ((a + b) / 2 + m - i).toNat ((rotF f i.toNat m.toNat ((a + b) / 2 + m - i).toNat)) := sorted_congr c3 fun y y1 y2 => q1.2 y (by omega)
               have r4 : SortedOn (ltG near) ((a + b) / 2 + m - i).toNat b.toNat ((rotF f i.toNat m.toNat ((a + b) / 2 + m - i).toNat)) := sorted_congr c4 fun y y1 y2 => q1.2 y (by omega)
               have hB1 : ∀ j, rnB (((rotF f i.toNat m.toNat ((a + b) / 2 + m - i).toNat)) j) := q1.all hBc
               have cx1 : ∀ x y, a.toNat ≤ x → x < ((a + b) / 2).toNat → ((a + b) / 2).toNat ≤ y → y < b.toNat → ltG near (((rotF f i.toNat m.toNat ((a + b) / 2 + m - i).toNat)) y) (((rotF f i.toNat m.toNat ((a + b) / 2 + m - i).toNat)) x) = false := by
                 intro x y hx hx2 hy hy2
                 obtain ⟨z, hz1, hz2, hz⟩ := q1.mem hx hx2
                 rw [hz, q1.2 y (by omega)]
                 exact cx z y hz1 hz2 hy hy2
               have p1 : PermOn a.toNat b.toNat f ((rotF f i.toNat m.toNat ((a + b) / 2 + m - i).toNat)) := p0.trans (q1.wide (Nat.le_refl _) (by omega) (by omega))
               by_cases h3' : (a + b) / 2 < (a + b) / 2 + m - i ∧ (a + b) / 2 + m - i < b
               · first
                   | (exfalso; omega)
                   | ((repeat' ((conv => whnf); (fail_if_success (refine ⟨(?_ : Nat), (?_ : _ < _), ?_⟩)); (fail_if_success (refine ⟨(?_ : RV), ?_⟩)); (fail_if_success (refine ⟨(?_ : List RV), ?_⟩)); first | refine N64 (by omega) ?_ | refine CMP_t (by omega) ?_ | refine CMP_f (by omega) ?_ | refine ⟨_, _, _, _, _, _, _, _, rfl, rfl, (by repeat' (first | omega | assumption | exact trivial | refine And.intro ?_ ?_)), ?_⟩ | fail)) <;> try (conv => whnf)
                      intro g2 q2 t2
                      refine hK g2 (p1.trans (q2.wide (by omega) (Nat.le_refl _) (by omega))) (sorted_join (sorted_congr t1 fun y y1 y2 => q2.2 y (by omega)) t2 fun x y hx hx2 hy hy2 => ?_)
                      obtain ⟨z, hz1, hz2, hz⟩ := q2.mem hy hy2
                      rw [hz, q2.2 x (by omega)]
                      exact cx1 x z hx hx2 hz1 hz2)
               · first
                   | (exfalso; omega)
                   | (have t2 : SortedOn (ltG near) ((a + b) / 2).toNat b.toNat ((rotF f i.toNat m.toNat ((a + b) / 2 + m - i).toNat)) := by
                        by_cases hz : (a + b) / 2 < (a + b) / 2 + m - i
                        · rw [show b.toNat = ((a + b) / 2 + m - i).toNat by omega]; exact r3
                        · rw [show ((a + b) / 2).toNat = ((a + b) / 2 + m - i).toNat by omega]; exact r4
                      (repeat' ((conv => whnf); (fail_if_success (refine ⟨(?_ : Nat), (?_ : _ < _), ?_⟩)); (fail_if_success (refine ⟨(?_ : RV), ?_⟩)); (fail_if_success (refine ⟨(?_ : List RV), ?_⟩)); first | refine N64 (by omega) ?_ | refine CMP_t (by omega) ?_ | refine CMP_f (by omega) ?_ | refine ⟨_, _, _, _, _, _, _, _, rfl, rfl, (by repeat' (first | omega | assumption | exact trivial | refine And.intro ?_ ?_)), ?_⟩ | fail)) <;> try (conv => whnf)
                      all_goals exact hK ((rotF f i.toNat m.toNat ((a + b) / 2 + m - i).toNat)) p1 (sorted_join t1 t2 cx1)))
      · have hfg : rotF f i.toNat m.toNat ((a + b) / 2 + m - i).toNat = f := by
          funext x; unfold rotF
          repeat' split
          all_goals first | (exfalso; omega) | rfl | (congr 1 <;> omega)
        rw [hfg] at c1 c2 c3 c4 cx p0
        have hBc : ∀ j, rnB (f j) := p0.all hB
        by_cases h2' : a < i ∧ i < (a + b) / 2
        · first
            | (exfalso; omega)
            | ((repeat' ((conv => whnf); (fail_if_success (refine ⟨(?_ : Nat), (?_ : _ < _), ?_⟩)); (fail_if_success (refine ⟨(?_ : RV), ?_⟩)); (fail_if_success (refine ⟨(?_ : List RV), ?_⟩)); first | refine N64 (by omega) ?_ | refine CMP_t (by omega) ?_ | refine CMP_f (by omega) ?_ | refine ⟨_, _, _, _, _, _, _, _, rfl, rfl, (by repeat' (first | omega | assumption | exact trivial | refine And.intro ?_ ?_)), ?_⟩ | fail)) <;> try (conv => whnf)
               intro g1 q1 t1
               have r3 : SortedOn (ltG near) ((a + b) / 2).toNat ((a + b) / 2 + m - i).toNat g1 := sorted_congr c3 fun y y1 y2 => q1.2 y (by omega)
               have r4 : SortedOn (ltG near) ((a + b) / 2 + m - i).toNat b.toNat g1 := sorted_congr c4 fun y y1 y2 => q1.2 y (by omega)
               have hB1 : ∀ j, rnB (g1 j) := q1.all hBc
               have cx1 : ∀ x y, a.toNat ≤ x → x < ((a + b) / 2).toNat → ((a + b) / 2).toNat ≤ y → y < b.toNat → ltG near (g1 y) (g1 x) = false := by
                 intro x y hx hx2 hy hy2
                 obtain ⟨z, hz1, hz2, hz⟩ := q1.mem hx hx2
                 rw [hz, q1.2 y (by omega)]
                 exact cx z y hz1 hz2 hy hy2
               have p1 : PermOn a.toNat b.toNat f g1 := p0.trans (q1.wide (Nat.le_refl _) (by omega) (by omega))
               by_cases h3' : (a + b) / 2 < (a + b) / 2 + m - i ∧ (a + b) / 2 + m - i < b
               · first
                   | (exfalso; omega)
                   | (skip
                      intro g2 q2 t2
                      refine hK g2 (p1.trans (q2.wide (by omega) (Nat.le_refl _) (by omega))) (sorted_join (sorted_congr t1 fun y y1 y2 => q2.2 y (by omega)) t2 fun x y hx hx2 hy hy2 => ?_)
                      obtain ⟨z, hz1, hz2, hz⟩ := q2.mem hy hy2
                      rw [hz, q2.2 x (by omega)]
                      exact cx1 x z hx hx2 hz1 hz2)
               · first
                   | (exfalso; omega)
                   | (have t2 : SortedOn (ltG near) ((a + b) / 2).toNat b.toNat g1 := by
                        by_cases hz : (a + b) / 2 < (a + b) / 2 + m - i
                        · rw [show b.toNat = ((a + b) / 2 + m - i).toNat by omega]; exact r3
                        · rw [show ((a + b) / 2).toNat = ((a + b) / 2 + m - i).toNat by omega]; exact r4
                      (repeat' ((conv => whnf); (fail_if_success (refine ⟨(?_ : Nat), (?_ : _ < _), ?_⟩)); (fail_if_success (refine ⟨(?_ : RV), ?_⟩)); (fail_if_success (refine ⟨(?_ : List RV), ?_⟩)); first | refine CMP_f (by omega) ?_ | fail)) <;> try (conv => whnf)
                      all_goals exact hK g1 p1 (sorted_join t1 t2 cx1)))
        · first
            | (exfalso; omega)
            | (have t1 : SortedOn (ltG near) a.toNat ((a + b) / 2).toNat (f) := by
                 by_cases hz : a < i
                 · rw [show ((a + b) / 2).toNat = i.toNat by omega]; exact c1
                 · rw [show a.toNat = i.toNat by omega]; exact c2
               have q1 : PermOn a.toNat ((a + b) / 2).toNat (f) (f) := .refl _ _ _
               have r3 : SortedOn (ltG near) ((a + b) / 2).toNat ((a + b) / 2 + m - i).toNat (f) := sorted_congr c3 fun y y1 y2 => q1.2 y (by omega)
               have r4 : SortedOn (ltG near) ((a + b) / 2 + m - i).toNat b.toNat (f) := sorted_congr c4 fun y y1 y2 => q1.2 y (by omega)
               have hB1 : ∀ j, rnB ((f) j) := q1.all hBc
               have cx1 : ∀ x y, a.toNat ≤ x → x < ((a + b) / 2).toNat → ((a + b) / 2).toNat ≤ y → y < b.toNat → ltG near ((f) y) ((f) x) = false := by
                 intro x y hx hx2 hy hy2
                 obtain ⟨z, hz1, hz2, hz⟩ := q1.mem hx hx2
                 rw [hz, q1.2 y (by omega)]
                 exact cx z y hz1 hz2 hy hy2
               have p1 : PermOn a.toNat b.toNat f (f) := p0.trans (q1.wide (Nat.le_refl _) (by omega) (by omega))
               by_cases h3' : (a + b) / 2 < (a + b) / 2 + m - i ∧ (a + b) / 2 + m - i < b
               · first
                   | (exfalso; omega)
                   | ((repeat' ((conv => whnf); (fail_if_success (refine ⟨(?_ : Nat), (?_ : _ < _), ?_⟩)); (fail_if_success (refine ⟨(?_ : RV), ?_⟩)); (fail_if_success (refine ⟨(?_ : List RV), ?_⟩)); first | refine N64 (by omega) ?_ | refine CMP_t (by omega) ?_ | refine CMP_f (by omega) ?_ | refine ⟨_, _, _, _, _, _, _, _, rfl, rfl, (by repeat' (first | omega | assumption | exact trivial | refine And.intro ?_ ?_)), ?_⟩ | fail)) <;> try (conv => whnf)
                      intro g2 q2 t2
                      refine hK g2 (p1.trans (q2.wide (by omega) (Nat.le_refl _) (by omega))) (sorted_join (sorted_congr t1 fun y y1 y2 => q2.2 y (by omega)) t2 fun x y hx hx2 hy hy2 => ?_)
                      obtain ⟨z, hz1, hz2, hz⟩ := q2.mem hy hy2
                      rw [hz, q2.2 x (by omega)]
                      exact cx1 x z hx hx2 hz1 hz2)
               · first
                   | (exfalso; omega)
                   | (have t2 : SortedOn (ltG near) ((a + b) / 2).toNat b.toNat (f) := by
                        by_cases hz : (a + b) / 2 < (a + b) / 2 + m - i
                        · rw [show b.toNat = ((a + b) / 2 + m - i).toNat by omega]; exact r3
                        · rw [show ((a + b) / 2).toNat = ((a + b) / 2 + m - i).toNat by omega]; exact r4
                      (repeat' ((conv => whnf); (fail_if_success (refine ⟨(?_ : Nat), (?_ : _ < _), ?_⟩)); (fail_if_success (refine ⟨(?_ : RV), ?_⟩)); (fail_if_success (refine ⟨(?_ : List RV), ?_⟩)); first | refine N64 (by omega) ?_ | refine CMP_t (by omega) ?_ | refine CMP_f (by omega) ?_ | fail)) <;> try (conv => whnf)
                      all_goals exact hK (f) p1 (sorted_join t1 t2 cx1)))
end Go.Dv.Try
end
section
/-
  Contracts of chapter 4: runs in order, all of them.
-/
namespace Go.Dv.Try
open Go Go.Dv

theorem step_le {d x a : Nat} (h1 : x % d = 0) (h2 : a % d = 0) (h : x < a) : x + d ≤ a := by
  obtain ⟨p, rfl⟩ := Nat.dvd_of_mod_eq_zero h1
  obtain ⟨q, rfl⟩ := Nat.dvd_of_mod_eq_zero h2
  have hpq : p < q := Nat.lt_of_mul_lt_mul_left h
  calc d * p + d = d * (p + 1) := by rw [Nat.mul_succ]
    _ ≤ d * q := Nat.mul_le_mul_left d hpq
theorem mod_half {d a : Nat} (h : a % (2 * d) = 0) : a % d = 0 := Nat.mod_eq_zero_of_dvd (Nat.dvd_trans ⟨2, by rw [Nat.mul_comm]⟩ (Nat.dvd_of_mod_eq_zero h))
/-- Blocks of so many values in order, up to a place. -/
def BlkS (lt : Rn → Rn → Bool) (s a : Nat) (f : Nat → Rn) : Prop := ∀ x, x % s = 0 → x + s ≤ a → SortedOn lt x (x + s) f
/-- The same from a place on, the last one cut. -/
def RstS (lt : Rn → Rn → Bool) (s a n : Nat) (f : Nat → Rn) : Prop := ∀ x, x % s = 0 → a ≤ x → x < n → SortedOn lt x (min (x + s) n) f
theorem BlkS.step {lt : Rn → Rn → Bool} {s a : Nat} {f g : Nat → Rn} (h : BlkS lt s a f) (ha : a % s = 0) (hs : SortedOn lt a (a + s) g) (e : ∀ j, j < a → g j = f j) : BlkS lt s (a + s) g := by
  intro x hx hxa
  by_cases h1 : x < a
  · have := step_le hx ha h1
    exact sorted_congr (h x hx this) fun j h2 h3 => e j (by omega)
  · have : x = a := by omega
    subst this; exact hs
theorem BlkS.all {lt : Rn → Rn → Bool} {s a n : Nat} {f g : Nat → Rn} (h : BlkS lt s a f) (ha : a % s = 0) (han : a ≤ n) (hna : n ≤ a + s) (hs : SortedOn lt a n g) (e : ∀ j, j < a → g j = f j) : RstS lt s 0 n g := by
  intro x hx _ hxn
  by_cases h1 : x < a
  · have := step_le hx ha h1
    rw [Nat.min_eq_left (by omega)]
    exact sorted_congr (h x hx this) fun j h2 h3 => e j (by omega)
  · have : ¬ a < x := fun h2 => by have := step_le ha hx h2; omega
    have : x = a := by omega
    subst this
    rw [Nat.min_eq_right (by omega)]
    exact hs

def M_stb (xs : List AV) (σ : Sto) (K : AV → Sto → Prop) : Prop :=
  ∃ (ap : Bool) (f : Nat → Rn) (N : Nat) (c near : Int), xs = [.own 0, .pv (pI N), .pv (cloG c near)] ∧ σ = [rowG ap f N] ∧ (N ≤ 100000 ∧ (∀ j, rnB (f j)) ∧ nearB near) ∧
    ∀ g, PermOn 0 N f g → SortedOn (ltG near) 0 N g → K (.tup []) [rowG ap g N]
def M_symA (xs : List AV) (σ : Sto) (K : AV → Sto → Prop) : Prop := M_sym 100000 xs σ K
theorem meets_stb : MeetsM (ctxOf [(n_slices_insertionSortCmpFunc_depository_api_Run, mkM M_ins), (n_slices_symMergeCmpFunc_depository_api_Run, mkM M_symA)]) s_slices_stableCmpFunc_depository_api_Run c_slices_stableCmpFunc_depository_api_Run r_slices_stableCmpFunc_depository_api_Run (mkM M_stb) := by
  rintro _ _ K ⟨ap, f, N, c, near, rfl, rfl, ⟨hN, hB, hnear⟩, hK⟩
  (conv => whnf)
  refine ⟨fun q env σ => ∃ (a : Int) (g : Nat → Rn), (q = (N - a).toNat ∧ 0 ≤ a ∧ a ≤ N ∧ a.toNat % 20 = 0 ∧ PermOn 0 N f g ∧ BlkS (ltG near) 20 a.toNat g) ∧ σ = [rowG ap g N] ∧ env = [(0, .own 0), (1, .pv (pI N)), (2, .pv (cloG c near)), (6, .pv (pI 20)), (7, .pv (pI a)), (8, .pv (pI (a + 20)))], N, ⟨0, f, ⟨by omega, by omega, by omega, rfl, .refl _ _ _, fun x _ h => by omega⟩, rfl, rfl⟩, ?_⟩
  rintro q env σ ⟨a, g, ⟨hq, ha0, haN, ha, hp, hb⟩, rfl, rfl⟩
  have hB1 := hp.all (P := rnB) hB
  (repeat' ((conv => whnf); (fail_if_success (refine ⟨(?_ : Nat), (?_ : _ < _), ?_⟩)); (fail_if_success (refine ⟨(?_ : RV), ?_⟩)); (fail_if_success (refine ⟨(?_ : List RV), ?_⟩)); first | refine CMP (fun _ => ?_) (fun _ => ?_) | refine ⟨_, _, _, _, _, _, _, rfl, rfl, (by repeat' (first | omega | assumption | exact trivial | refine And.intro ?_ ?_)), ?_⟩ | fail)) <;> try (conv => whnf)
  · rename_i hle
    intro g1 q1 t1
    (repeat' ((conv => whnf); (fail_if_success (refine ⟨(?_ : Nat), (?_ : _ < _), ?_⟩)); (fail_if_success (refine ⟨(?_ : RV), ?_⟩)); (fail_if_success (refine ⟨(?_ : List RV), ?_⟩)); first | refine N64 (by omega) ?_ | fail)) <;> try (conv => whnf)
    refine ⟨(N - (a + 20)).toNat, by omega, a + 20, g1, ⟨rfl, by omega, by omega, by omega, hp.trans (q1.wide (by omega) (by omega) (by omega)), ?_⟩, rfl, rfl⟩
    rw [show (a + 20).toNat = a.toNat + 20 by omega] at t1 q1 ⊢
    exact hb.step ha t1 fun j hj => q1.2 j (by omega)
  · rename_i hle
    intro g1 q1 t1
    have hp1 : PermOn 0 N f g1 := hp.trans (q1.wide (by omega) (by omega) (by omega))
    have hr1 : RstS (ltG near) 20 0 N g1 := hb.all ha (by omega) (by omega) (by simpa using t1) fun j hj => q1.2 j (by omega)
    refine ⟨fun q env σ => ∃ (s : Int) (g : Nat → Rn), (q = (N - s).toNat ∧ 0 < s ∧ s ≤ 200000 ∧ PermOn 0 N f g ∧ RstS (ltG near) s.toNat 0 N g) ∧ σ = [rowG ap g N] ∧ env = [(0, .own 0), (1, .pv (pI N)), (2, .pv (cloG c near)), (6, .pv (pI s))], (N - 20 : Int).toNat, ⟨20, g1, ⟨by omega, by omega, by omega, hp1, hr1⟩, rfl, rfl⟩, ?_⟩
    clear hb hp hq ha hle t1 q1 hp1 hr1 hB1
    rintro q env σ ⟨s, g, ⟨hq, hs0, hs1, hp, hr⟩, rfl, rfl⟩
    (repeat' ((conv => whnf); (fail_if_success (refine ⟨(?_ : Nat), (?_ : _ < _), ?_⟩)); (fail_if_success (refine ⟨(?_ : RV), ?_⟩)); (fail_if_success (refine ⟨(?_ : List RV), ?_⟩)); first | refine N64 (by omega) ?_ | refine CMP (fun _ => ?_) (fun _ => ?_) | fail)) <;> try (conv => whnf)
    · rename_i hsN
      refine ⟨fun q' env σ => ∃ (a : Int) (g : Nat → Rn), (q' = (N - a).toNat ∧ 0 ≤ a ∧ a ≤ N ∧ a.toNat % (2 * s.toNat) = 0 ∧ PermOn 0 N f g ∧ BlkS (ltG near) (2 * s.toNat) a.toNat g ∧ RstS (ltG near) s.toNat a.toNat N g) ∧ σ = [rowG ap g N] ∧ env = [(0, .own 0), (1, .pv (pI N)), (2, .pv (cloG c near)), (6, .pv (pI s)), (7, .pv (pI a)), (8, .pv (pI (a + 2 * s)))], N, ⟨0, g, ⟨by omega, by omega, by omega, Nat.zero_mod _, hp, fun x _ h => by omega, hr⟩, rfl, by rw [Int.zero_add]⟩, ?_⟩
      clear hp hr
      rintro q' env σ ⟨a, g, ⟨hq', ha0, haN, ha, hp, hb, hr⟩, rfl, rfl⟩
      have hB1 := hp.all (P := rnB) hB
      have hh := mod_half ha
      have r1 : a.toNat < N → SortedOn (ltG near) a.toNat (min (a.toNat + s.toNat) N) g := fun h => hr _ hh (Nat.le_refl _) h
      have r2 : a.toNat + s.toNat < N → SortedOn (ltG near) (a.toNat + s.toNat) (min (a.toNat + s.toNat + s.toNat) N) g := fun h => hr _ (by rw [Nat.add_mod_right]; exact hh) (by omega) h
      (repeat' ((conv => whnf); (fail_if_success (refine ⟨(?_ : Nat), (?_ : _ < _), ?_⟩)); (fail_if_success (refine ⟨(?_ : RV), ?_⟩)); (fail_if_success (refine ⟨(?_ : List RV), ?_⟩)); first | refine N64 (by omega) ?_ | refine CMP (fun _ => ?_) (fun _ => ?_) | fail)) <;> try (conv => whnf)
      · rename_i hle
        have r1 := r1 (by omega)
        have r2 := r2 (by omega)
        rw [Nat.min_eq_left (by omega), show a.toNat + s.toNat = (a + s).toNat by omega] at r1
        rw [Nat.min_eq_left (by omega), show a.toNat + s.toNat + s.toNat = (a + 2 * s).toNat by omega, show a.toNat + s.toNat = (a + s).toNat by omega] at r2
        unfold M_symA
        (repeat' ((conv => whnf); (fail_if_success (refine ⟨(?_ : Nat), (?_ : _ < _), ?_⟩)); (fail_if_success (refine ⟨(?_ : RV), ?_⟩)); (fail_if_success (refine ⟨(?_ : List RV), ?_⟩)); first | refine ⟨_, _, _, _, _, _, _, _, rfl, rfl, (by repeat' (first | omega | assumption | exact trivial | refine And.intro ?_ ?_)), ?_⟩ | fail)) <;> try (conv => whnf)
        intro g1 q1 t1
        (repeat' ((conv => whnf); (fail_if_success (refine ⟨(?_ : Nat), (?_ : _ < _), ?_⟩)); (fail_if_success (refine ⟨(?_ : RV), ?_⟩)); (fail_if_success (refine ⟨(?_ : List RV), ?_⟩)); first | refine N64 (by omega) ?_ | fail)) <;> try (conv => whnf)
        refine ⟨(N - (a + 2 * s)).toNat, by omega, a + 2 * s, g1, ⟨rfl, by omega, by omega, ?_, hp.trans (q1.wide (by omega) (by omega) (by omega)), ?_, fun x hx hx2 hx3 => ?_⟩, rfl, rfl⟩
        · rw [show (a + 2 * s).toNat = a.toNat + 2 * s.toNat by omega, Nat.add_mod_right]; exact ha
        · rw [show (a + 2 * s).toNat = a.toNat + 2 * s.toNat by omega] at t1 q1 ⊢
          exact hb.step ha t1 fun j hj => q1.2 j (by omega)
        · exact sorted_congr (hr x hx (by omega) hx3) fun j h1 h2 => q1.2 j (by omega)
      · rename_i hle hlt
        have r1 := r1 (by omega)
        have r2 := r2 (by omega)
        rw [Nat.min_eq_left (by omega), show a.toNat + s.toNat = (a + s).toNat by omega] at r1
        rw [Nat.min_eq_right (by omega), show a.toNat + s.toNat = (a + s).toNat by omega] at r2
        unfold M_symA
        refine ⟨ap, g, N, a, a + s, N, c, near, rfl, rfl, ⟨by omega, by omega, by omega, by omega, by omega, by omega, hB1, hnear, r1, by simpa using r2⟩, fun g1 q1 t1 => ?_⟩
        (repeat' ((conv => whnf); (fail_if_success (refine ⟨(?_ : Nat), (?_ : _ < _), ?_⟩)); (fail_if_success (refine ⟨(?_ : RV), ?_⟩)); (fail_if_success (refine ⟨(?_ : List RV), ?_⟩)); first | refine N64 (by omega) ?_ | fail)) <;> try (conv => whnf)
        refine ⟨(N - s * 2).toNat, by omega, s * 2, g1, ⟨rfl, by omega, by omega, hp.trans (q1.wide (by omega) (by omega) (by omega)), ?_⟩, rfl, rfl⟩
        rw [show (s * 2).toNat = 2 * s.toNat by omega]
        exact hb.all ha (by omega) (by omega) (by simpa using t1) fun j hj => q1.2 j (by omega)
      · rename_i hle hlt
        refine ⟨(N - s * 2).toNat, by omega, s * 2, g, ⟨rfl, by omega, by omega, hp, ?_⟩, rfl, rfl⟩
        rw [show (s * 2).toNat = 2 * s.toNat by omega]
        refine hb.all ha (by omega) (by omega) ?_ fun j _ => rfl
        by_cases haN2 : a.toNat < N
        · have := r1 haN2
          rw [Nat.min_eq_right (by omega)] at this
          exact this
        · exact fun x y h1 h2 h3 => by omega
    · rename_i hsN
      refine hK g hp ?_
      by_cases h0 : 0 < N
      · have := hr 0 (Nat.zero_mod _) (Nat.le_refl _) h0
        rw [Nat.min_eq_right (by omega)] at this
        exact this
      · exact fun x y h1 h2 h3 => by omega

def M_stable (xs : List AV) (σ : Sto) (K : AV → Sto → Prop) : Prop :=
  ∃ (ap : Bool) (L : List Rn) (c near : Int), xs = [.own 0, .pv (cloG c near)] ∧ σ = [.row T_api_Run 2 ap (L.map Rn.pv)] ∧ (L.length ≤ 100000 ∧ (∀ r ∈ L, rnB r) ∧ nearB near) ∧
    ∀ S : List Rn, S.Perm L → S.Pairwise (fun x y => ltG near y x = false) → K (.tup []) [.row T_api_Run 2 ap (S.map Rn.pv)]
theorem meets_stable : MeetsM (ctxOf [(n_slices_stableCmpFunc_depository_api_Run, mkM M_stb)]) s_slices_SortStableFunc_depository_api_Run_depository_api_Run c_slices_SortStableFunc_depository_api_Run_depository_api_Run r_slices_SortStableFunc_depository_api_Run_depository_api_Run (mkM M_stable) := by
  rintro _ _ K ⟨ap, L, c, near, rfl, rfl, ⟨hN, hB, hnear⟩, hK⟩
  obtain ⟨f, hf⟩ : ∃ f : Nat → Rn, f = fun i => L[i]?.getD ⟨0, 0⟩ := ⟨_, rfl⟩
  have hL : L = tab f L.length := tab_of fun i x hx => by rw [hf]; simp [hx]
  have hBf : ∀ j, rnB (f j) := by
    intro j
    rw [hf]
    show rnB (L[j]?.getD ⟨0, 0⟩)
    cases h : L[j]? with
    | none => simp [rnB]
    | some x => exact hB x (List.mem_of_getElem? h)
  generalize hn : L.length = N at *
  rw [hL]
  (repeat' ((conv => whnf); (fail_if_success (refine ⟨(?_ : Nat), (?_ : _ < _), ?_⟩)); (fail_if_success (refine ⟨(?_ : RV), ?_⟩)); (fail_if_success (refine ⟨(?_ : List RV), ?_⟩)); first | (show _ ≤ (9223372036854775807 : Nat) → _; first | rw [List.length_map, tab_len] | rw [List.length_map] | rw [List.length_replicate] | skip; intro _) | refine ⟨_, _, _, _, _, rfl, rfl, (by repeat' (first | omega | assumption | exact trivial | refine And.intro ?_ ?_)), ?_⟩ | fail)) <;> try (conv => whnf)
  intro g hp hs
  refine hK (tab g N) ?_ ?_
  · rw [hL]; exact hp.perm
  · rw [List.pairwise_iff_getElem]
    intro i j h1 h2 h3
    have e1 := tab_get (f := g) (n := N) (i := i) (by simpa using h1)
    have e2 := tab_get (f := g) (n := N) (i := j) (by simpa using h2)
    rw [List.getElem?_eq_getElem h1] at e1
    rw [List.getElem?_eq_getElem h2] at e2
    rw [Option.some.inj e1, Option.some.inj e2]
    exact hs i j (by omega) (by omega) (by simpa using h2)
end Go.Dv.Try
end
section
/-
  Merges in place, at any length.
-/
namespace Go.Dv.Try
open Go Go.Dv

theorem at_sym (h1 : SoundAt prg n_bitmap_Gathered_f1 (fnSpec R_cmpG)) (h2 : SoundAt prg n_slices_rotateCmpFunc_depository_api_Run (mkM M_rot)) : ∀ k, SoundAt prg n_slices_symMergeCmpFunc_depository_api_Run (mkM (M_sym k)) := by
  intro k
  induction k with
  | zero =>
    refine ⟨fun e => (by cases e), fun e => (by cases e), fun _ _ _ _ _ e => (by cases e), fun _ _ _ _ _ _ _ _ h => (show False from h).elim, ?_⟩
    rintro w ok hok σ0 vals0 xs vs K _ hrel hral ⟨ap, f, N, a, m, b, c, near, _, _, hp, _⟩
    exfalso; omega
  | succ k ih =>
    exact w_slices_symMergeCmpFunc_depository_api_Run.soundM mixed (ctx_cons h1 (ctx_cons h2 (ctx_cons ih ctx_nil))) (by rintro _ _ _ ⟨_, _, _, _, _, _, _, _, rfl, _⟩; rfl) (meets_sym k)
end Go.Dv.Try
end
