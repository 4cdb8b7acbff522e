/-
  A part of the proof: own texts, laid together by a tool of our own: G06c G06d P06j G06e G06f G06g.
-/
import Derived.Test.YthibkikicnaciaaWalks5
import Derived.Test.YthibkikicnaciaaWalks4
section
/-
  Contracts of chapter 6: words, parts of a chunk.
-/
namespace Go.Dv.Try
open Go Go.Dv

/-- The first two bytes, the lower one first. -/
def wordV (s : List UInt8) : Nat := (s[0]?.getD 0).toNat + 256 * (s[1]?.getD 0).toNat
theorem wordV_lt (s : List UInt8) : wordV s < 65536 := by
  have h1 := (s[0]?.getD 0).toNat_lt
  have h2 := (s[1]?.getD 0).toNat_lt
  unfold wordV; omega

def R_wordAt (ps : List PV) (x : PV) : Prop := ∃ s : List UInt8, ps = [.str s] ∧ 2 ≤ s.length ∧ x = pI (wordV s)
theorem meets_wordAt : Meets (ctxOf []) s_compress_wordAt c_compress_wordAt r_compress_wordAt (fnSpec R_wordAt) := by
  rintro _ K ⟨_, ⟨s, rfl, hs, rfl⟩, hK⟩
  obtain ⟨b0, h0⟩ : ∃ b, s[0]? = some b := by rw [List.getElem?_eq_getElem (by omega)]; exact ⟨_, rfl⟩
  obtain ⟨b1, h1⟩ : ∃ b, s[1]? = some b := by rw [List.getElem?_eq_getElem (by omega)]; exact ⟨_, rfl⟩
  have l0 := b0.toNat_lt
  have l1 := b1.toNat_lt
  refine ⟨by kernel_rfl, ?_⟩
  refine ⟨_, ⟨by omega, h0⟩, ?_⟩
  refine fun x hx => ?_
  have hx := n64 hx (by omega)
  rw [hx]
  refine ⟨_, ⟨by omega, h1⟩, ?_⟩
  refine fun y hy => ?_
  have hy := n64 hy (by omega)
  rw [hy]
  refine ⟨by omega, ?_⟩
  refine fun z hz => ?_
  have e : ((b1.toNat : Int).toNat * 2 ^ (Int.toNat 8) : Nat) = 2 ^ 8 * b1.toNat := by rw [Int.toNat_natCast, Nat.mul_comm]; rfl
  rw [shl64 (by omega) (by omega) (by rw [e]; omega)] at hz
  subst hz
  refine fun q hq => ?_
  rw [e, or64 (by omega) (by omega), or_add (by omega)] at hq
  subst hq
  refine ⟨.pv (pI _), pI_eq ?_, trivial, hK⟩
  unfold wordV
  rw [h0, h1]; rfl

theorem high_bit {w : Nat} (h : w < 65536) : w &&& 32768 ≠ 0 ↔ 32768 ≤ w := by
  have h1 : w.testBit 15 = decide (w / 2 ^ 15 % 2 = 1) := Nat.testBit_eq_decide_div_mod_eq ..
  have e : (32768 : Nat) = 2 ^ 15 := rfl
  constructor
  · intro hn
    refine Decidable.of_not_not fun hlt => hn ?_
    have h2 : w.testBit 15 = false := by rw [h1, decide_eq_false_iff_not]; omega
    apply Nat.eq_of_testBit_eq
    intro j
    rw [e, Nat.testBit_and, Nat.testBit_two_pow, Nat.zero_testBit]
    by_cases hj : 15 = j
    · subst hj; rw [h2]; rfl
    · simp [hj]
  · intro hle hz
    have h2 : w.testBit 15 = true := by rw [h1, decide_eq_true_iff]; omega
    have h3 : (w &&& 32768).testBit 15 = true := by rw [e, Nat.testBit_and, Nat.testBit_two_pow, h2]; rfl
    rw [hz, Nat.zero_testBit] at h3
    cases h3

def S_opened : Spec := mkS true false fun ps K => ∃ (s : List UInt8) (ex : Bool), ps = [.str s, pB ex] ∧ s.length ≤ 5000 ∧
  (s.length < 2 → K (.tup [.pv (.str []), .pv (pB false), .pv (pI 14)])) ∧
  (2 ≤ s.length → (wordV s / 4096 % 8 ≠ 3 → K (.tup [.pv (.str []), .pv (pB (decide (32768 ≤ wordV s))), .pv (pI 3)])) ∧
    (wordV s / 4096 % 8 = 3 → (s.length - 2 < wordV s % 4096 + 1 ∨ (ex = true ∧ wordV s % 4096 + 1 < s.length - 2) → K (.tup [.pv (.str []), .pv (pB (decide (32768 ≤ wordV s))), .pv (pI 10)])) ∧
      (¬ (s.length - 2 < wordV s % 4096 + 1 ∨ (ex = true ∧ wordV s % 4096 + 1 < s.length - 2)) → K (.tup [.pv (.str ((s.drop 2).take (wordV s % 4096 + 1))), .pv (pB (decide (32768 ≤ wordV s))), .pv (pI 0)]))))
theorem meets_opened : Meets (ctxOf [(n_compress_wordAt, fnSpec R_wordAt), (n_compress_unless, fnSpec R_compress_unless)]) s_compress_opened c_compress_opened r_compress_opened S_opened := by
  rintro _ K ⟨s, ex, rfl, hs, hK1, hK2⟩
  refine fun b hb => ?_
  rcases cmp hb with ⟨rfl, h⟩ | ⟨rfl, h⟩
  · exact ⟨[.pv (.str _), .pv (pB _), .pv _], ⟨rfl, rfl, rfl, trivial⟩, ⟨trivial, trivial, trivial, trivial⟩, hK1 (by omega)⟩
  have h2 : 2 ≤ s.length := by omega
  have hK := hK2 h2
  have hw := wordV_lt s
  refine ⟨_, ⟨s, rfl, h2, rfl⟩, ?_⟩
  refine fun x hx => ?_
  rw [show (4095 : Int) = ((4095 : Nat) : Int) from rfl, and64 (by omega) (by decide), show (4095 : Nat) = 2 ^ 12 - 1 from rfl, and_mod] at hx
  subst hx
  refine fun x hx => ?_
  obtain rfl := n64 hx (by omega)
  refine ⟨by omega, ?_⟩
  have e9 : cut (Int.toNat 2) s.length s = s.drop 2 := cut_drop 2 s
  refine ⟨by omega, ?_⟩
  refine fun x hx => ?_
  have hx : x = ((wordV s / 4096 : Nat) : Int) := by
    rw [hx]
    show ((wordV s : Nat) : Int).fdiv (2 ^ 12) = _
    rw [Int.fdiv_eq_ediv_of_nonneg _ (by decide)]; rfl
  subst hx
  refine fun x hx => ?_
  rw [show (7 : Int) = ((7 : Nat) : Int) from rfl, and64 (by omega) (by decide), show (7 : Nat) = 2 ^ 3 - 1 from rfl, and_mod] at hx
  subst hx
  refine fun b3 hb3 => ?_
  refine ⟨_, ⟨b3, 3, rfl, rfl⟩, ?_⟩
  refine fun x hx => ?_
  rw [show (32768 : Int) = ((32768 : Nat) : Int) from rfl, and64 (by omega) (by decide)] at hx
  have h15 := high_bit (wordV_lt s)
  subst hx
  refine fun c hc => ?_
  have hcd : c = decide (32768 ≤ wordV s) := by
    rw [Bool.eq_iff_iff, hc, decide_eq_true_iff, ← h15]
    omega
  subst hcd
  refine fun b hb => ?_
  rcases cmp hb3 with ⟨rfl, h3⟩ | ⟨rfl, h3⟩
  · rcases cmp hb with ⟨rfl, h⟩ | ⟨rfl, h⟩
    · exact absurd rfl h
    have hK := hK.2 (by omega)
    refine fun b hb => ?_
    rw [e9, List.length_drop] at hb
    rcases cmp hb with ⟨rfl, h4⟩ | ⟨rfl, h4⟩
    · exact ⟨[.pv (.str _), .pv (pB _), .pv _], ⟨rfl, rfl, rfl, trivial⟩, ⟨trivial, trivial, trivial, trivial⟩, hK.1 (.inl (by omega))⟩
    have ecut : cut 0 (((wordV s % 2 ^ 12 : Nat) : Int) + 1).toNat (cut (Int.toNat 2) s.length s) = (s.drop 2).take (wordV s % 4096 + 1) := by
      rw [e9, cut_take, show (((wordV s % 2 ^ 12 : Nat) : Int) + 1).toNat = wordV s % 4096 + 1 by omega]
    cases ex with
    | false =>
      have hK := hK.2 (by rintro (h5 | ⟨h5, _⟩); omega; cases h5)
      rw [← ecut] at hK
      refine ⟨⟨by omega, by rw [e9, List.length_drop]; omega⟩, ?_⟩
      exact ⟨[.pv (.str _), .pv (pB _), .pv _], ⟨rfl, rfl, rfl, trivial⟩, ⟨trivial, trivial, trivial, trivial⟩, hK⟩
    | true =>
      refine fun b hb => ?_
      rw [e9, List.length_drop] at hb
      rcases cmp hb with ⟨rfl, h5⟩ | ⟨rfl, h5⟩
      · exact ⟨[.pv (.str _), .pv (pB _), .pv _], ⟨rfl, rfl, rfl, trivial⟩, ⟨trivial, trivial, trivial, trivial⟩, hK.1 (.inr ⟨rfl, by omega⟩)⟩
      have hK := hK.2 (by rintro (h6 | ⟨_, h6⟩); omega; omega)
      rw [← ecut] at hK
      refine ⟨⟨by omega, by rw [e9, List.length_drop]; omega⟩, ?_⟩
      exact ⟨[.pv (.str _), .pv (pB _), .pv _], ⟨rfl, rfl, rfl, trivial⟩, ⟨trivial, trivial, trivial, trivial⟩, hK⟩
  · rcases cmp hb with ⟨rfl, h⟩ | ⟨rfl, h⟩
    · exact ⟨[.pv (.str _), .pv (pB _), .pv _], ⟨rfl, rfl, rfl, trivial⟩, ⟨trivial, trivial, trivial, trivial⟩, hK.1 (by omega)⟩
    · exact absurd (by decide) h
end Go.Dv.Try
end
section
/-
  Contracts of chapter 6: numbers of bytes, parts of a chunk in the reference.
-/
namespace Go.Dv.Try
open Go Go.Dv

/-- The number of so many bytes, the lowest first. -/
def leN : Nat → List UInt8 → Nat
  | 0, _ => 0
  | n + 1, s => (s[0]?.getD 0).toNat + 256 * leN n (s.drop 1)
theorem leN_two (s : List UInt8) : leN 2 s = wordV s := by
  simp only [leN, wordV, List.getElem?_drop]; simp
theorem leN_lt : ∀ (n : Nat) (s : List UInt8), leN n s < 256 ^ n := by
  intro n
  induction n with
  | zero => intro s; simp [leN]
  | succ n ih =>
    intro s
    have h1 := ih (s.drop 1)
    have h2 := (s[0]?.getD 0).toNat_lt
    simp only [leN]
    rw [Nat.pow_succ]; omega

def R_LittleAt (ps : List PV) (x : PV) : Prop := ∃ (s : List UInt8) (i n : Int), ps = [.str s, pI i, pI n] ∧ (0 ≤ i ∧ 0 ≤ n ∧ n ≤ 7 ∧ i + n ≤ s.length ∧ s.length ≤ 1000000) ∧ x = pI (leN n.toNat (s.drop i.toNat))
theorem meets_LittleAt : Meets (ctxOf []) s_base_LittleAt c_base_LittleAt r_base_LittleAt (fnSpec R_LittleAt) := by
  rintro _ K ⟨_, ⟨s, i, n, rfl, ⟨h1, h2, h3, h4, h5⟩, rfl⟩, hK⟩
  refine fun x hx => ?_
  obtain rfl := n64 hx (by omega)
  refine ⟨fun m env σ => (m : Int) ≤ n ∧ σ = [] ∧ env = [(0, .pv (.str s)), (1, .pv (pI i)), (7, .pv (pI (leN (n.toNat - m) (s.drop (i.toNat + m))))), (8, .pv (pI ((m : Int) - 1)))], n.toNat, ⟨by omega, rfl, ?_⟩, ?_⟩
  · rw [Nat.sub_self, show ((n.toNat : Nat) : Int) - 1 = n - 1 by omega]; rfl
  rintro m env σ ⟨hm, rfl, rfl⟩
  refine fun b hb => ?_
  rcases cmp hb with ⟨rfl, h⟩ | ⟨rfl, h⟩
  · cases m with
    | zero => omega
    | succ m =>
    have en : ((m + 1 : Nat) : Int) - 1 = (m : Int) := by omega
    rw [en]
    have hb1 := leN_lt (n.toNat - (m + 1)) (s.drop (i.toNat + (m + 1)))
    have hb2 : 256 ^ (n.toNat - (m + 1)) ≤ 256 ^ 6 := Nat.pow_le_pow_right (by omega) (by omega)
    have e6 : (256 : Nat) ^ 6 = 281474976710656 := by decide
    refine fun x hx => ?_
    have hx := n64 hx (by omega)
    rw [hx]
    refine fun y hy => ?_
    have hy := n64 hy (by omega)
    rw [hy]
    obtain ⟨v, hv⟩ : ∃ v, s[i.toNat + m]? = some v := by rw [List.getElem?_eq_getElem (by omega)]; exact ⟨_, rfl⟩
    have hvl := v.toNat_lt
    refine ⟨_, ⟨by omega, by rw [show (i + (m : Int)).toNat = i.toNat + m by omega]; exact hv⟩, ?_⟩
    refine fun z hz => ?_
    have hz := n64 hz (by omega)
    rw [hz]
    refine fun q hq => ?_
    have hq := n64 hq (by omega)
    rw [hq]
    refine fun r hr => ?_
    have hr := n64 hr (by omega)
    rw [hr]
    refine ⟨m, by omega, by omega, rfl, ?_⟩
    have e : leN (n.toNat - m) (s.drop (i.toNat + m)) = v.toNat + 256 * leN (n.toNat - (m + 1)) (s.drop (i.toNat + (m + 1))) := by
      rw [show n.toNat - m = n.toNat - (m + 1) + 1 by omega]
      simp only [leN, List.getElem?_drop, List.drop_drop, Nat.add_zero, hv, Option.getD_some]
      rw [Nat.add_assoc]
    rw [e]
    show [(0, AV.pv (.str s)), (1, AV.pv (pI i)), (7, AV.pv (pI _)), (8, AV.pv (pI ((m : Int) - 1)))] = _
    rw [show ((leN (n.toNat - (m + 1)) (s.drop (i.toNat + (m + 1))) : Nat) : Int) * 256 + (v.toNat : Int) = ((v.toNat + 256 * leN (n.toNat - (m + 1)) (s.drop (i.toNat + (m + 1))) : Nat) : Int) by omega]
  · have : m = 0 := by omega
    subst this
    exact ⟨.pv (pI _), rfl, trivial, hK⟩

def S_Parts : Spec := mkS true false fun ps K => ∃ s : List UInt8, ps = [.str s] ∧ s.length ≤ 5000 ∧
  (s.length < 2 → K (.tup [.pv (pB false), .pv (.str []), .pv (pI 14)])) ∧
  (2 ≤ s.length → (wordV s / 4096 % 8 ≠ 3 → K (.tup [.pv (pB false), .pv (.str []), .pv (pI 3)])) ∧ (wordV s / 4096 % 8 = 3 → K (.tup [.pv (pB (decide (32768 ≤ wordV s))), .pv (.str (s.drop 2)), .pv (pI 0)])))
theorem meets_Parts : Meets (ctxOf [(n_base_LittleAt, fnSpec R_LittleAt)]) s_ref06_Parts c_ref06_Parts r_ref06_Parts S_Parts := by
  rintro _ K ⟨s, rfl, hs, hK1, hK2⟩
  refine fun b hb => ?_
  rcases cmp hb with ⟨rfl, h⟩ | ⟨rfl, h⟩
  · exact ⟨[.pv (pB _), .pv (.str _), .pv _], ⟨rfl, rfl, rfl, trivial⟩, ⟨trivial, trivial, trivial, trivial⟩, hK1 (by omega)⟩
  have h2 : 2 ≤ s.length := by omega
  have hK := hK2 h2
  have hw := wordV_lt s
  refine ⟨_, ⟨s, 0, 2, rfl, by omega, rfl⟩, ?_⟩
  rw [show leN (Int.toNat 2) (s.drop (Int.toNat 0)) = wordV s from leN_two s]
  refine ⟨by decide, ?_⟩
  refine fun x hx => ?_
  rw [Int.tdiv_eq_ediv_of_nonneg (by omega)] at hx
  have hx := n64 hx (by omega)
  rw [hx]
  refine ⟨by decide, ?_⟩
  refine fun y hy => ?_
  rw [Int.tmod_eq_emod_of_nonneg (by omega)] at hy
  rw [hy]
  refine fun b hb => ?_
  rcases cmp hb with ⟨rfl, h3⟩ | ⟨rfl, h3⟩
  · exact ⟨[.pv (pB _), .pv (.str _), .pv _], ⟨rfl, rfl, rfl, trivial⟩, ⟨trivial, trivial, trivial, trivial⟩, hK.1 (by omega)⟩
  have hK := hK.2 (by omega)
  refine ⟨by kernel_rfl, ?_⟩
  refine fun c hc => ?_
  have hcd : c = decide (32768 ≤ wordV s) := by
    rw [Bool.eq_iff_iff, hc, decide_eq_true_iff]
    omega
  subst hcd
  refine ⟨by omega, ?_⟩
  rw [← cut_drop 2 s] at hK
  exact ⟨[.pv (pB _), .pv (.str _), .pv _], ⟨rfl, rfl, rfl, trivial⟩, ⟨trivial, trivial, trivial, trivial⟩, hK⟩
end Go.Dv.Try
end
section
/-
  Plain laws of chapter 6: tokens of bytes.
-/
namespace Go.Dv.Try
open Go Go.Dv

/-- A copy of a word, with so many bits for the length. -/
def copyT (g w : Nat) : Tok := ⟨((w / 2 ^ g + 1 : Nat) : Int), ((w % 2 ^ g + 3 : Nat) : Int), 0⟩
def litT (s : List UInt8) : Tok := ⟨0, 0, ((s[0]?.getD 0).toNat : Int)⟩
def word2 (s : List UInt8) : Nat := (s[0]?.getD 0).toNat + 256 * (s[1]?.getD 0).toNat

/-- The tokens of bytes, with so many signs left of a group; an error, or 0. -/
def tokRun (g : Nat → Nat) : Nat → Nat → Nat → List UInt8 → Nat → Int × List Tok
  | 0, _, _, _, _ => (0, [])
  | n + 1, 0, _, s, a => if s = [] then (0, []) else if s.length = 1 then (14, []) else tokRun g n 8 (s[0]?.getD 0).toNat (s.drop 1) a
  | n + 1, left + 1, f, s, a =>
    if s = [] then (if f ≠ 0 then (3, []) else (0, []))
    else if f % 2 = 1 then
      (if s.length < 2 then (14, []) else ((tokRun g n left (f / 2) (s.drop 2) (a + (copyT (g a) (word2 s)).made.toNat)).1, copyT (g a) (word2 s) :: (tokRun g n left (f / 2) (s.drop 2) (a + (copyT (g a) (word2 s)).made.toNat)).2))
    else ((tokRun g n left (f / 2) (s.drop 1) (a + 1)).1, litT s :: (tokRun g n left (f / 2) (s.drop 1) (a + 1)).2)

theorem copyT_made (g w : Nat) : (copyT g w).made = ((w % 2 ^ g + 3 : Nat) : Int) := by
  unfold Tok.made copyT
  show (if ((w / 2 ^ g + 1 : Nat) : Int) ≠ 0 then ((w % 2 ^ g + 3 : Nat) : Int) else 1) = _
  rw [if_pos (Int.natCast_ne_zero.mpr (Nat.succ_ne_zero _))]

/-- Whether there is an error does not depend on positions. -/
theorem tokRun_err (g h : Nat → Nat) : ∀ (n left f : Nat) (s : List UInt8) (a b : Nat), (tokRun g n left f s a).1 = (tokRun h n left f s b).1 := by
  intro n
  induction n with
  | zero => intro left f s a b; rfl
  | succ n ih =>
    intro left f s a b
    cases left with
    | zero =>
      simp only [tokRun]
      split
      · rfl
      · split
        · rfl
        · exact ih _ _ _ _ _
    | succ left =>
      simp only [tokRun]
      split
      · rfl
      · split
        · split
          · rfl
          · exact ih _ _ _ _ _
        · exact ih _ _ _ _ _

theorem tokRun_len (g : Nat → Nat) : ∀ (n left f : Nat) (s : List UInt8) (a : Nat), (tokRun g n left f s a).2.length ≤ s.length := by
  intro n
  induction n with
  | zero => intro left f s a; simp [tokRun]
  | succ n ih =>
    intro left f s a
    cases left with
    | zero =>
      simp only [tokRun]
      split
      · simp
      · split
        · simp
        · have := ih 8 (s[0]?.getD 0).toNat (s.drop 1) a
          rw [List.length_drop] at this; omega
    | succ left =>
      simp only [tokRun]
      split
      · split <;> simp
      · rename_i hs
        have hl : 0 < s.length := List.length_pos_iff.2 hs
        split
        · split
          · simp
          · have := ih left (f / 2) (s.drop 2) (a + (copyT (g a) (word2 s)).made.toNat)
            rw [List.length_drop] at this
            simp only [List.length_cons]; omega
        · have := ih left (f / 2) (s.drop 1) (a + 1)
          rw [List.length_drop] at this
          simp only [List.length_cons]; omega

theorem tokErr_end {t : Tok} {a : Nat} (h : 4096 ≤ a) : tokErr t a = 8 := by unfold tokErr; rw [if_pos h]

/-- What is checked does not depend on the tokens that come too late. -/
theorem tokRun_same (g h : Nat → Nat) (hgh : ∀ a, a < 4096 → g a = h a) : ∀ (n left f : Nat) (s : List UInt8) (a i : Nat), checkRun (tokRun g n left f s a).2 i a = checkRun (tokRun h n left f s a).2 i a ∧ ((checkRun (tokRun g n left f s a).2 i a).2 = 0 → (tokRun g n left f s a).2 = (tokRun h n left f s a).2) ∧ ((tokRun g n left f s a).2 = [] ↔ (tokRun h n left f s a).2 = []) := by
  intro n
  induction n with
  | zero => intro left f s a i; exact ⟨rfl, fun _ => rfl, Iff.rfl⟩
  | succ n ih =>
    intro left f s a i
    have step : ∀ (t u : Tok) (s' : List UInt8), (a < 4096 → t = u) →
        checkRun (t :: (tokRun g n left.pred (f / 2) s' (a + t.made.toNat)).2) i a = checkRun (u :: (tokRun h n left.pred (f / 2) s' (a + u.made.toNat)).2) i a ∧ ((checkRun (t :: (tokRun g n left.pred (f / 2) s' (a + t.made.toNat)).2) i a).2 = 0 → t :: (tokRun g n left.pred (f / 2) s' (a + t.made.toNat)).2 = u :: (tokRun h n left.pred (f / 2) s' (a + u.made.toNat)).2) := by
      intro t u s' htu
      by_cases ha : a < 4096
      · have := htu ha
        subst this
        simp only [checkRun]
        split
        · rename_i he
          exact ⟨rfl, fun h0 => absurd h0 he⟩
        · have h1 := ih left.pred (f / 2) s' (a + t.made.toNat) (i + 1)
          exact ⟨h1.1, fun h0 => by rw [h1.2.1 h0]⟩
      · simp only [checkRun, tokErr_end (t := t) (a := a) (by omega), tokErr_end (t := u) (a := a) (by omega)]
        exact ⟨rfl, fun h0 => by cases h0⟩
    cases left with
    | zero =>
      simp only [tokRun]
      split
      · exact ⟨rfl, fun _ => rfl, Iff.rfl⟩
      · split
        · exact ⟨rfl, fun _ => rfl, Iff.rfl⟩
        · exact ih _ _ _ _ _
    | succ left =>
      simp only [tokRun]
      split
      · exact ⟨rfl, fun _ => by split <;> rfl, by split <;> exact Iff.rfl⟩
      · split
        · split
          · exact ⟨rfl, fun _ => rfl, Iff.rfl⟩
          · have := step (copyT (g a) (word2 s)) (copyT (h a) (word2 s)) (s.drop 2) (fun ha => by rw [hgh a ha])
            exact ⟨this.1, this.2, by simp⟩
        · have := step (litT s) (litT s) (s.drop 1) (fun _ => rfl)
          have e : (litT s).made.toNat = 1 := rfl
          rw [e] at this
          exact ⟨this.1, this.2, by simp⟩

/-- The tokens, or the error. -/
def resN (g : Nat → Nat) (s : List UInt8) : List Tok × Int :=
  if (tokRun g (s.length + 1) 0 0 s 0).1 ≠ 0 then ([], (tokRun g (s.length + 1) 0 0 s 0).1)
  else if (checkN (tokRun g (s.length + 1) 0 0 s 0).2).2 ≠ 0 then ([], (checkN (tokRun g (s.length + 1) 0 0 s 0).2).2) else ((tokRun g (s.length + 1) 0 0 s 0).2, 0)

theorem resN_same (g h : Nat → Nat) (hgh : ∀ a, a < 4096 → g a = h a) (s : List UInt8) : resN g s = resN h s := by
  have h1 := tokRun_err g h (s.length + 1) 0 0 s 0 0
  have h2 := tokRun_same g h hgh (s.length + 1) 0 0 s 0 0
  unfold resN
  rw [h1]
  split
  · rfl
  · have hc : checkN (tokRun g (s.length + 1) 0 0 s 0).2 = checkN (tokRun h (s.length + 1) 0 0 s 0).2 := by
      unfold checkN
      by_cases he : (tokRun g (s.length + 1) 0 0 s 0).2 = []
      · rw [if_pos he, if_pos (h2.2.2.1 he)]
      · rw [if_neg he, if_neg (fun h => he (h2.2.2.2 h)), h2.1]
    rw [hc]
    split
    · rfl
    · rename_i h3
      have h3 := Decidable.of_not_not h3
      rw [← hc] at h3
      have : (checkRun (tokRun g (s.length + 1) 0 0 s 0).2 0 0).2 = 0 := by
        have h4 := checkN_zero h3
        unfold checkN at h3
        rw [if_neg h4.2.1] at h3
        exact h3
      rw [h2.2.1 this]

/-- More steps change nothing. -/
theorem tokRun_more (g : Nat → Nat) : ∀ (n left f : Nat) (s : List UInt8) (a : Nat), s.length < n → tokRun g (n + 1) left f s a = tokRun g n left f s a := by
  intro n
  induction n with
  | zero => intro left f s a h; omega
  | succ n ih =>
    intro left f s a h
    cases left with
    | zero =>
      rw [tokRun, tokRun]
      split
      · rfl
      · rename_i hs
        have hl : 0 < s.length := List.length_pos_iff.2 hs
        split
        · rfl
        · exact ih _ _ _ _ (by rw [List.length_drop]; omega)
    | succ left =>
      rw [tokRun, tokRun]
      split
      · rfl
      · rename_i hs
        have hl : 0 < s.length := List.length_pos_iff.2 hs
        split
        · split
          · rfl
          · rw [ih _ _ _ _ (by rw [List.length_drop]; omega)]
        · rw [ih _ _ _ _ (by rw [List.length_drop]; omega)]

def tokN (g : Nat → Nat) (left f : Nat) (s : List UInt8) (a : Nat) : Int × List Tok := tokRun g (s.length + 1) left f s a
theorem tokN_nil0 (g : Nat → Nat) (f a : Nat) : tokN g 0 f [] a = (0, []) := by unfold tokN; rw [tokRun, if_pos rfl]
theorem tokN_nil (g : Nat → Nat) (left f a : Nat) : tokN g (left + 1) f [] a = if f ≠ 0 then (3, []) else (0, []) := by unfold tokN; rw [tokRun, if_pos rfl]
theorem tokN_14 (g : Nat → Nat) (f a : Nat) {s : List UInt8} (h : s.length = 1) : tokN g 0 f s a = (14, []) := by
  unfold tokN; rw [tokRun, if_neg (by intro e; subst e; cases h), if_pos h]
theorem tokN_group (g : Nat → Nat) (f a : Nat) {s : List UInt8} (h : 2 ≤ s.length) : tokN g 0 f s a = tokN g 8 (s[0]?.getD 0).toNat (s.drop 1) a := by
  unfold tokN
  rw [tokRun, if_neg (by intro e; subst e; simp at h), if_neg (by omega), List.length_drop, show s.length - 1 + 1 = s.length by omega]
theorem tokN_copy14 (g : Nat → Nat) (left f a : Nat) {s : List UInt8} (h : s.length = 1) (hf : f % 2 = 1) : tokN g (left + 1) f s a = (14, []) := by
  unfold tokN; rw [tokRun, if_neg (by intro e; subst e; cases h), if_pos hf, if_pos (by omega)]
theorem tokN_copy (g : Nat → Nat) (left f a : Nat) {s : List UInt8} (h : 2 ≤ s.length) (hf : f % 2 = 1) :
    tokN g (left + 1) f s a = ((tokN g left (f / 2) (s.drop 2) (a + (copyT (g a) (word2 s)).made.toNat)).1, copyT (g a) (word2 s) :: (tokN g left (f / 2) (s.drop 2) (a + (copyT (g a) (word2 s)).made.toNat)).2) := by
  unfold tokN
  rw [tokRun, if_neg (by intro e; subst e; simp at h), if_pos hf, if_neg (by omega), List.length_drop]
  rw [← tokRun_more g (s.length - 2 + 1) left (f / 2) (s.drop 2) _ (by rw [List.length_drop]; omega), show s.length - 2 + 1 + 1 = s.length by omega]
theorem tokN_lit (g : Nat → Nat) (left f a : Nat) {s : List UInt8} (h : 1 ≤ s.length) (hf : ¬ f % 2 = 1) :
    tokN g (left + 1) f s a = ((tokN g left (f / 2) (s.drop 1) (a + 1)).1, litT s :: (tokN g left (f / 2) (s.drop 1) (a + 1)).2) := by
  unfold tokN
  rw [tokRun, if_neg (by intro e; subst e; simp at h), if_neg hf, List.length_drop, show s.length - 1 + 1 = s.length by omega]

theorem resN_tok (g : Nat → Nat) (s : List UInt8) : resN g s = if (tokN g 0 0 s 0).1 ≠ 0 then ([], (tokN g 0 0 s 0).1) else if (checkN (tokN g 0 0 s 0).2).2 ≠ 0 then ([], (checkN (tokN g 0 0 s 0).2).2) else ((tokN g 0 0 s 0).2, 0) := rfl

/-- What is left of the work, behind the tokens that there are. -/
def After (g : Nat → Nat) (s0 : List UInt8) (acc : List Tok) (left f : Nat) (s : List UInt8) (a : Nat) : Prop :=
  tokN g 0 0 s0 0 = ((tokN g left f s a).1, acc ++ (tokN g left f s a).2)

def gRef (a : Nat) : Nat := if a < 4096 then 16 - shiftN a else 16
def gPro (a : Nat) : Nat := 16 - shiftN (min a 4095)
theorem g_same (a : Nat) (h : a < 4096) : gRef a = gPro a := by unfold gRef gPro; rw [if_pos h, show min a 4095 = a by omega]
theorem gRef_le (a : Nat) : gRef a ≤ 16 := by unfold gRef; split <;> omega
theorem gPro_le (a : Nat) : 4 ≤ gPro a ∧ gPro a ≤ 12 := by
  have h1 := shiftN_le (a := min a 4095) (by omega)
  have h2 := shiftN_ge (min a 4095)
  unfold gPro; omega
end Go.Dv.Try
end
section
/-
  Contracts of chapter 6: tokens of bytes in the reference.
-/
namespace Go.Dv.Try
open Go Go.Dv

def S_tokens : Spec := mkS true false fun ps K => ∃ s : List UInt8, ps = [.str s] ∧ s.length ≤ 5000 ∧ K (.tup [.fresh 68 3 ((resN gRef s).1.map Tok.pv), .pv (pI (resN gRef s).2)])
set_option maxHeartbeats 1000000 in
theorem meets_refTokens : Meets (ctxOf [(n_base_LittleAt, fnSpec R_LittleAt), (n_base_Power, fnSpec R_base_Power), (n_ref06_Shift, fnSpec R_compress_shift), (n_base_Bit, fnSpec R_base_Bit), (n_ref06_Makes, fnSpec R_compress_made), (n_ref06_TokensErr, S_TokensErr)]) s_ref06_Tokens c_ref06_Tokens r_ref06_Tokens S_tokens := by
  rintro _ K ⟨s0, rfl, hs0, hK⟩
  refine ⟨fun m env σ => ∃ (acc : List Tok) (left f a idx : Nat), (idx ≤ s0.length ∧ idx + m = s0.length ∧ acc.length ≤ idx ∧ a ≤ 70000 * acc.length + 0 * f ∧ (left + acc.length) % 8 = 0 ∧ (left < 8 ∧ f < 2 ^ left) ∧ After gRef s0 acc left f (s0.drop idx) a) ∧ σ = [.row 68 3 true (acc.map Tok.pv)] ∧ env = [(0, .pv (.str s0)), (4, .own 0), (5, .pv (pI a)), (6, .pv (pI idx)), (7, .pv (pI f)), (8, .pv (pI acc.length))], s0.length, ⟨[], 0, 0, 0, 0, ⟨by omega, by omega, by simp, by simp, rfl, by omega, by unfold After; simp⟩, rfl, rfl⟩, ?_⟩
  rintro m env σ ⟨acc, left, f, a, idx, ⟨hi1, hi2, hal, hab, hleft, hlf, haf⟩, rfl, rfl⟩
  rw [Nat.zero_mul, Nat.add_zero] at hab
  have hf8 : f < 256 := by
    have : 2 ^ left ≤ 2 ^ 7 := Nat.pow_le_pow_right (by omega) (by omega)
    omega
  refine fun b hb => ?_
  rcases cmp hb with ⟨rfl, hlt⟩ | ⟨rfl, hlt⟩
  · refine ⟨by decide, ?_⟩
    refine fun x hx => ?_
    rw [Int.tmod_eq_emod_of_nonneg (by omega)] at hx
    rw [hx]
    refine fun b hb => ?_
    have hdl0 : (s0.drop idx).length = s0.length - idx := List.length_drop
    rcases cmp hb with ⟨rfl, h8⟩ | ⟨rfl, h8⟩
    · have : left = 0 := by omega
      subst this
      obtain ⟨fb, hfb⟩ : ∃ v, s0[idx]? = some v := by rw [List.getElem?_eq_getElem (by omega)]; exact ⟨_, rfl⟩
      have hfl := fb.toNat_lt
      refine ⟨_, ⟨by omega, by rw [Int.toNat_natCast]; exact hfb⟩, ?_⟩
      refine fun y hy => ?_
      have hy := n64 hy (by omega)
      rw [hy]
      refine fun y hy => ?_
      have hy := n64 hy (by omega)
      rw [hy]
      refine fun b hb => ?_
      rcases cmp hb with ⟨rfl, he⟩ | ⟨rfl, he⟩
      · have h1 := tokN_14 gRef f a (s := s0.drop idx) (by omega)
        unfold After at haf
        rw [h1] at haf
        rw [resN_tok, haf] at hK
        dsimp only at hK
        rw [if_pos (by decide)] at hK
        exact ⟨[.fresh _ _ _, .pv _], ⟨⟨rfl, rfl, rfl, rfl⟩, rfl, trivial⟩, ⟨by simp [RV.flat1], trivial, trivial⟩, hK⟩
      have hlf2 : fb.toNat < 2 * 2 ^ 7 := by omega
      have haf : After gRef s0 acc 8 fb.toNat (s0.drop (idx + 1)) a := by
        unfold After at haf ⊢
        rw [tokN_group gRef f a (s := s0.drop idx) (by omega), List.getElem?_drop, Nat.add_zero, hfb, List.drop_drop] at haf
        exact haf
      obtain ⟨v, hv⟩ : ∃ v, s0[(idx + 1)]? = some v := by rw [List.getElem?_eq_getElem (by omega)]; exact ⟨_, rfl⟩
      have hvl := v.toNat_lt
      have hlit : litT (s0.drop (idx + 1)) = ⟨0, 0, (v.toNat : Int)⟩ := by unfold litT; rw [List.getElem?_drop, Nat.add_zero, hv]; rfl
      have hdl : (s0.drop (idx + 1)).length = s0.length - (idx + 1) := List.length_drop
      refine ⟨by decide, ?_⟩
      refine fun x hx => ?_
      rw [Int.tmod_eq_emod_of_nonneg (by omega)] at hx
      rw [hx]
      refine fun b hb => ?_
      refine ⟨by decide, ?_⟩
      refine fun y hy => ?_
      rw [Int.tdiv_eq_ediv_of_nonneg (by omega)] at hy
      have hy := n64 hy (by omega)
      rw [hy]
      refine ⟨_, ⟨by omega, hv⟩, ?_⟩
      refine fun y hy => ?_
      have hy := n64 hy (by omega)
      rw [hy]
      refine ⟨rfl, ?_⟩
      refine ⟨rfl, ?_⟩
      rcases cmp hb with ⟨rfl, hbit⟩ | ⟨rfl, hbit⟩
      · have hodd : fb.toNat % 2 = 1 := by omega
        refine fun y hy => ?_
        have hy := n64 hy (by omega)
        rw [hy]
        refine fun b hb2 => ?_
        rcases cmp hb2 with ⟨rfl, h14⟩ | ⟨rfl, h14⟩
        · have h1 := tokN_copy14 gRef 7 fb.toNat a (s := s0.drop (idx + 1)) (by omega) hodd
          unfold After at haf
          rw [h1] at haf
          rw [resN_tok, haf] at hK
          dsimp only at hK
          rw [if_pos (by decide)] at hK
          exact ⟨[.fresh _ _ _, .pv _], ⟨⟨rfl, rfl, rfl, rfl⟩, rfl, trivial⟩, ⟨by simp [RV.flat1], trivial, trivial⟩, hK⟩
        have hst := tokN_copy gRef 7 fb.toNat a (s := s0.drop (idx + 1)) (by omega) hodd
        unfold After at haf
        rw [hst] at haf
        have hwv : leN (Int.toNat 2) (s0.drop (((idx : Int) + 1)).toNat) = word2 (s0.drop (idx + 1)) := by
          rw [show (((idx : Int) + 1)).toNat = (idx + 1) by omega]; exact leN_two _
        have hwl : word2 (s0.drop (idx + 1)) < 65536 := wordV_lt _
        refine ⟨_, ⟨s0, ((idx : Int) + 1), 2, rfl, by omega, rfl⟩, ?_⟩
        rw [hwv]
        generalize word2 (s0.drop (idx + 1)) = w at *
        refine ⟨_, ⟨16, rfl, by omega, rfl⟩, ?_⟩
        refine fun b hb3 => ?_
        rcases cmp hb3 with ⟨rfl, hpos⟩ | ⟨rfl, hpos⟩
        · have hs := shiftN_le (a := a) (by omega)
          have hs2 := shiftN_ge a
          refine ⟨_, ⟨a, rfl, ⟨by omega, by omega⟩, rfl⟩, ?_⟩
          unfold shiftZ
          rw [Int.toNat_natCast]
          refine fun y hy => ?_
          have hy := n64 hy (by omega)
          rw [hy]
          refine ⟨_, ⟨_, rfl, ⟨by omega, by omega⟩, rfl⟩, ?_⟩
          have hgv : (16 - (shiftN a : Int)).toNat = gRef a := by unfold gRef; rw [if_pos (by omega)]; omega
          rw [hgv]
          have hpg := Nat.two_pow_pos (gRef a)
          have hpl : w / 2 ^ gRef a ≤ w := Nat.div_le_self _ _
          have hpm : w % 2 ^ gRef a ≤ w := Nat.mod_le _ _
          have hcd : ((w : Nat) : Int).tdiv ((2 ^ gRef a : Nat) : Int) = ((w / 2 ^ gRef a : Nat) : Int) := by rw [Int.tdiv_eq_ediv_of_nonneg (by omega)]; rfl
          have hcm : ((w : Nat) : Int).tmod ((2 ^ gRef a : Nat) : Int) = ((w % 2 ^ gRef a : Nat) : Int) := by rw [Int.tmod_eq_emod_of_nonneg (by omega)]; rfl
          have hct : copyT (gRef a) w = ⟨((w / 2 ^ gRef a : Nat) : Int) + 1, ((w % 2 ^ gRef a : Nat) : Int) + 3, 0⟩ := rfl
          generalize w / 2 ^ gRef a = q at *
          generalize w % 2 ^ gRef a = r at *
          have hmq : (⟨(q : Int) + 1, (r : Int) + 3, 0⟩ : Tok).made = (r : Int) + 3 := by
            unfold Tok.made
            rw [if_pos (show (q : Int) + 1 ≠ 0 by omega)]
          rw [hct, hmq, show ((r : Int) + 3).toNat = r + 3 by omega] at haf
          refine ⟨by kernel_rfl, ?_⟩
          refine ⟨by omega, ?_⟩
          refine fun y hy => ?_
          rw [hcd] at hy
          have hy := n64 hy (by omega)
          rw [hy]
          refine fun y hy => ?_
          have hy := n64 hy (by omega)
          rw [hy]
          refine ⟨by omega, ?_⟩
          refine fun y hy => ?_
          rw [hcm] at hy
          rw [hy]
          refine fun y hy => ?_
          have hy := n64 hy (by omega)
          rw [hy]
          refine ⟨rfl, ?_⟩
          refine ⟨rfl, ?_⟩
          refine ⟨rfl, ?_⟩
          refine fun y hy => ?_
          have hy := n64 hy (by omega)
          rw [hy]
          refine ⟨_, ⟨true, rfl, rfl⟩, ?_⟩
          refine fun y hy => ?_
          have hy := n64 hy (by simp only [bitZ]; omega)
          rw [hy]
          refine ⟨_, ⟨(⟨(q : Int) + 1, (r : Int) + 3, 0⟩ : Tok), rfl, rfl⟩, ?_⟩
          have hmd : ((⟨(q : Int) + 1, (r : Int) + 3, 0⟩ : Tok)).made = (r : Int) + 3 := hmq
          rw [hmd]
          refine fun y hy => ?_
          have hy := n64 hy (by omega)
          rw [hy]
          refine ⟨rfl, ?_⟩
          refine ⟨⟨by simp; omega, by simp; omega⟩, ?_⟩
          refine fun y hy => ?_
          have hy := n64 hy (by omega)
          rw [hy]
          refine ⟨s0.length - ((idx + 1) + 2), by omega, acc ++ [(⟨(q : Int) + 1, (r : Int) + 3, 0⟩ : Tok)], 7, fb.toNat / 2, a + (r + 3), (idx + 1) + 2, ⟨by omega, by omega, by rw [List.length_append, List.length_cons, List.length_nil]; omega, by rw [List.length_append, List.length_cons, List.length_nil]; omega, by rw [List.length_append, List.length_cons, List.length_nil]; omega, ⟨by omega, by omega⟩, ?_⟩, ?_, ?_⟩
          · unfold After
            rw [haf]
            simp [List.drop_drop]
          · rw [List.map_append]; rfl
          · rw [List.length_append]
            show _ = [(0, AV.pv (.str s0)), (4, .own 0), (5, .pv (pI ((a + (r + 3) : Nat) : Int))), (6, .pv (pI (((idx + 1) + 2 : Nat) : Int))), (7, .pv (pI ((fb.toNat / 2 : Nat) : Int))), (8, .pv (pI ((acc.length + 1 : Nat) : Int)))]
            rw [show ((a + (r + 3) : Nat) : Int) = (a : Int) + ((r : Int) + 3) by omega, show (((idx + 1) + 2 : Nat) : Int) = ((idx : Int) + 1) + 1 + 1 by omega, show ((fb.toNat / 2 : Nat) : Int) = (fb.toNat : Int) / 2 by omega]
            rfl
        · have hgv : Int.toNat 16 = gRef a := by unfold gRef; rw [if_neg (by omega)]; rfl
          rw [hgv]
          have hpg := Nat.two_pow_pos (gRef a)
          have hpl : w / 2 ^ gRef a ≤ w := Nat.div_le_self _ _
          have hpm : w % 2 ^ gRef a ≤ w := Nat.mod_le _ _
          have hcd : ((w : Nat) : Int).tdiv ((2 ^ gRef a : Nat) : Int) = ((w / 2 ^ gRef a : Nat) : Int) := by rw [Int.tdiv_eq_ediv_of_nonneg (by omega)]; rfl
          have hcm : ((w : Nat) : Int).tmod ((2 ^ gRef a : Nat) : Int) = ((w % 2 ^ gRef a : Nat) : Int) := by rw [Int.tmod_eq_emod_of_nonneg (by omega)]; rfl
          have hct : copyT (gRef a) w = ⟨((w / 2 ^ gRef a : Nat) : Int) + 1, ((w % 2 ^ gRef a : Nat) : Int) + 3, 0⟩ := rfl
          generalize w / 2 ^ gRef a = q at *
          generalize w % 2 ^ gRef a = r at *
          have hmq : (⟨(q : Int) + 1, (r : Int) + 3, 0⟩ : Tok).made = (r : Int) + 3 := by
            unfold Tok.made
            rw [if_pos (show (q : Int) + 1 ≠ 0 by omega)]
          rw [hct, hmq, show ((r : Int) + 3).toNat = r + 3 by omega] at haf
          refine ⟨by kernel_rfl, ?_⟩
          refine ⟨by omega, ?_⟩
          refine fun y hy => ?_
          rw [hcd] at hy
          have hy := n64 hy (by omega)
          rw [hy]
          refine fun y hy => ?_
          have hy := n64 hy (by omega)
          rw [hy]
          refine ⟨by omega, ?_⟩
          refine fun y hy => ?_
          rw [hcm] at hy
          rw [hy]
          refine fun y hy => ?_
          have hy := n64 hy (by omega)
          rw [hy]
          refine ⟨rfl, ?_⟩
          refine ⟨rfl, ?_⟩
          refine ⟨rfl, ?_⟩
          refine fun y hy => ?_
          have hy := n64 hy (by omega)
          rw [hy]
          refine ⟨_, ⟨true, rfl, rfl⟩, ?_⟩
          refine fun y hy => ?_
          have hy := n64 hy (by simp only [bitZ]; omega)
          rw [hy]
          refine ⟨_, ⟨(⟨(q : Int) + 1, (r : Int) + 3, 0⟩ : Tok), rfl, rfl⟩, ?_⟩
          have hmd : ((⟨(q : Int) + 1, (r : Int) + 3, 0⟩ : Tok)).made = (r : Int) + 3 := hmq
          rw [hmd]
          refine fun y hy => ?_
          have hy := n64 hy (by omega)
          rw [hy]
          refine ⟨rfl, ?_⟩
          refine ⟨⟨by simp; omega, by simp; omega⟩, ?_⟩
          refine fun y hy => ?_
          have hy := n64 hy (by omega)
          rw [hy]
          refine ⟨s0.length - ((idx + 1) + 2), by omega, acc ++ [(⟨(q : Int) + 1, (r : Int) + 3, 0⟩ : Tok)], 7, fb.toNat / 2, a + (r + 3), (idx + 1) + 2, ⟨by omega, by omega, by rw [List.length_append, List.length_cons, List.length_nil]; omega, by rw [List.length_append, List.length_cons, List.length_nil]; omega, by rw [List.length_append, List.length_cons, List.length_nil]; omega, ⟨by omega, by omega⟩, ?_⟩, ?_, ?_⟩
          · unfold After
            rw [haf]
            simp [List.drop_drop]
          · rw [List.map_append]; rfl
          · rw [List.length_append]
            show _ = [(0, AV.pv (.str s0)), (4, .own 0), (5, .pv (pI ((a + (r + 3) : Nat) : Int))), (6, .pv (pI (((idx + 1) + 2 : Nat) : Int))), (7, .pv (pI ((fb.toNat / 2 : Nat) : Int))), (8, .pv (pI ((acc.length + 1 : Nat) : Int)))]
            rw [show ((a + (r + 3) : Nat) : Int) = (a : Int) + ((r : Int) + 3) by omega, show (((idx + 1) + 2 : Nat) : Int) = ((idx : Int) + 1) + 1 + 1 by omega, show ((fb.toNat / 2 : Nat) : Int) = (fb.toNat : Int) / 2 by omega]
            rfl
      · have hev : ¬ fb.toNat % 2 = 1 := by omega
        have hst := tokN_lit gRef 7 fb.toNat a (s := s0.drop (idx + 1)) (by omega) hev
        unfold After at haf
        rw [hst] at haf
        rw [hlit] at haf
        refine fun y hy => ?_
        have hy := n64 hy (by omega)
        rw [hy]
        refine ⟨_, ⟨false, rfl, rfl⟩, ?_⟩
        refine fun y hy => ?_
        have hy := n64 hy (by simp only [bitZ]; omega)
        rw [hy]
        refine ⟨_, ⟨(⟨0, 0, (v.toNat : Int)⟩ : Tok), rfl, rfl⟩, ?_⟩
        have hmd : ((⟨0, 0, (v.toNat : Int)⟩ : Tok)).made = 1 := rfl
        rw [hmd]
        refine fun y hy => ?_
        have hy := n64 hy (by omega)
        rw [hy]
        refine ⟨rfl, ?_⟩
        refine ⟨⟨by simp; omega, by simp; omega⟩, ?_⟩
        refine fun y hy => ?_
        have hy := n64 hy (by omega)
        rw [hy]
        refine ⟨s0.length - ((idx + 1) + 1), by omega, acc ++ [(⟨0, 0, (v.toNat : Int)⟩ : Tok)], 7, fb.toNat / 2, a + 1, (idx + 1) + 1, ⟨by omega, by omega, by rw [List.length_append, List.length_cons, List.length_nil]; omega, by rw [List.length_append, List.length_cons, List.length_nil]; omega, by rw [List.length_append, List.length_cons, List.length_nil]; omega, ⟨by omega, by omega⟩, ?_⟩, ?_, ?_⟩
        · unfold After
          rw [haf]
          simp [List.drop_drop]
        · rw [List.map_append]; rfl
        · rw [List.length_append]
          show _ = [(0, AV.pv (.str s0)), (4, .own 0), (5, .pv (pI ((a + 1 : Nat) : Int))), (6, .pv (pI (((idx + 1) + 1 : Nat) : Int))), (7, .pv (pI ((fb.toNat / 2 : Nat) : Int))), (8, .pv (pI ((acc.length + 1 : Nat) : Int)))]
          rw [show (((idx + 1) + 1 : Nat) : Int) = ((idx : Int) + 1) + 1 + 0 by omega, show ((fb.toNat / 2 : Nat) : Int) = (fb.toNat : Int) / 2 by omega]
          rfl
    · obtain ⟨lft, rfl⟩ : ∃ l, left = l + 1 := ⟨left - 1, by omega⟩
      have hlf2 : f < 2 * 2 ^ lft := by
        have := hlf.2
        rw [Nat.pow_succ] at this; omega
      obtain ⟨v, hv⟩ : ∃ v, s0[idx]? = some v := by rw [List.getElem?_eq_getElem (by omega)]; exact ⟨_, rfl⟩
      have hvl := v.toNat_lt
      have hlit : litT (s0.drop idx) = ⟨0, 0, (v.toNat : Int)⟩ := by unfold litT; rw [List.getElem?_drop, Nat.add_zero, hv]; rfl
      have hdl : (s0.drop idx).length = s0.length - idx := List.length_drop
      refine ⟨by decide, ?_⟩
      refine fun x hx => ?_
      rw [Int.tmod_eq_emod_of_nonneg (by omega)] at hx
      rw [hx]
      refine fun b hb => ?_
      refine ⟨by decide, ?_⟩
      refine fun y hy => ?_
      rw [Int.tdiv_eq_ediv_of_nonneg (by omega)] at hy
      have hy := n64 hy (by omega)
      rw [hy]
      refine ⟨_, ⟨by omega, hv⟩, ?_⟩
      refine fun y hy => ?_
      have hy := n64 hy (by omega)
      rw [hy]
      refine ⟨rfl, ?_⟩
      refine ⟨rfl, ?_⟩
      rcases cmp hb with ⟨rfl, hbit⟩ | ⟨rfl, hbit⟩
      · have hodd : f % 2 = 1 := by omega
        refine fun y hy => ?_
        have hy := n64 hy (by omega)
        rw [hy]
        refine fun b hb2 => ?_
        rcases cmp hb2 with ⟨rfl, h14⟩ | ⟨rfl, h14⟩
        · have h1 := tokN_copy14 gRef lft f a (s := s0.drop idx) (by omega) hodd
          unfold After at haf
          rw [h1] at haf
          rw [resN_tok, haf] at hK
          dsimp only at hK
          rw [if_pos (by decide)] at hK
          exact ⟨[.fresh _ _ _, .pv _], ⟨⟨rfl, rfl, rfl, rfl⟩, rfl, trivial⟩, ⟨by simp [RV.flat1], trivial, trivial⟩, hK⟩
        have hst := tokN_copy gRef lft f a (s := s0.drop idx) (by omega) hodd
        unfold After at haf
        rw [hst] at haf
        have hwv : leN (Int.toNat 2) (s0.drop ((idx : Int)).toNat) = word2 (s0.drop idx) := by
          rw [show ((idx : Int)).toNat = idx by omega]; exact leN_two _
        have hwl : word2 (s0.drop idx) < 65536 := wordV_lt _
        refine ⟨_, ⟨s0, (idx : Int), 2, rfl, by omega, rfl⟩, ?_⟩
        rw [hwv]
        generalize word2 (s0.drop idx) = w at *
        refine ⟨_, ⟨16, rfl, by omega, rfl⟩, ?_⟩
        refine fun b hb3 => ?_
        rcases cmp hb3 with ⟨rfl, hpos⟩ | ⟨rfl, hpos⟩
        · have hs := shiftN_le (a := a) (by omega)
          have hs2 := shiftN_ge a
          refine ⟨_, ⟨a, rfl, ⟨by omega, by omega⟩, rfl⟩, ?_⟩
          unfold shiftZ
          rw [Int.toNat_natCast]
          refine fun y hy => ?_
          have hy := n64 hy (by omega)
          rw [hy]
          refine ⟨_, ⟨_, rfl, ⟨by omega, by omega⟩, rfl⟩, ?_⟩
          have hgv : (16 - (shiftN a : Int)).toNat = gRef a := by unfold gRef; rw [if_pos (by omega)]; omega
          rw [hgv]
          have hpg := Nat.two_pow_pos (gRef a)
          have hpl : w / 2 ^ gRef a ≤ w := Nat.div_le_self _ _
          have hpm : w % 2 ^ gRef a ≤ w := Nat.mod_le _ _
          have hcd : ((w : Nat) : Int).tdiv ((2 ^ gRef a : Nat) : Int) = ((w / 2 ^ gRef a : Nat) : Int) := by rw [Int.tdiv_eq_ediv_of_nonneg (by omega)]; rfl
          have hcm : ((w : Nat) : Int).tmod ((2 ^ gRef a : Nat) : Int) = ((w % 2 ^ gRef a : Nat) : Int) := by rw [Int.tmod_eq_emod_of_nonneg (by omega)]; rfl
          have hct : copyT (gRef a) w = ⟨((w / 2 ^ gRef a : Nat) : Int) + 1, ((w % 2 ^ gRef a : Nat) : Int) + 3, 0⟩ := rfl
          generalize w / 2 ^ gRef a = q at *
          generalize w % 2 ^ gRef a = r at *
          have hmq : (⟨(q : Int) + 1, (r : Int) + 3, 0⟩ : Tok).made = (r : Int) + 3 := by
            unfold Tok.made
            rw [if_pos (show (q : Int) + 1 ≠ 0 by omega)]
          rw [hct, hmq, show ((r : Int) + 3).toNat = r + 3 by omega] at haf
          refine ⟨by kernel_rfl, ?_⟩
          refine ⟨by omega, ?_⟩
          refine fun y hy => ?_
          rw [hcd] at hy
          have hy := n64 hy (by omega)
          rw [hy]
          refine fun y hy => ?_
          have hy := n64 hy (by omega)
          rw [hy]
          refine ⟨by omega, ?_⟩
          refine fun y hy => ?_
          rw [hcm] at hy
          rw [hy]
          refine fun y hy => ?_
          have hy := n64 hy (by omega)
          rw [hy]
          refine ⟨rfl, ?_⟩
          refine ⟨rfl, ?_⟩
          refine ⟨rfl, ?_⟩
          refine fun y hy => ?_
          have hy := n64 hy (by omega)
          rw [hy]
          refine ⟨_, ⟨true, rfl, rfl⟩, ?_⟩
          refine fun y hy => ?_
          have hy := n64 hy (by simp only [bitZ]; omega)
          rw [hy]
          refine ⟨_, ⟨(⟨(q : Int) + 1, (r : Int) + 3, 0⟩ : Tok), rfl, rfl⟩, ?_⟩
          have hmd : ((⟨(q : Int) + 1, (r : Int) + 3, 0⟩ : Tok)).made = (r : Int) + 3 := hmq
          rw [hmd]
          refine fun y hy => ?_
          have hy := n64 hy (by omega)
          rw [hy]
          refine ⟨rfl, ?_⟩
          refine ⟨⟨by simp; omega, by simp; omega⟩, ?_⟩
          refine fun y hy => ?_
          have hy := n64 hy (by omega)
          rw [hy]
          refine ⟨s0.length - (idx + 2), by omega, acc ++ [(⟨(q : Int) + 1, (r : Int) + 3, 0⟩ : Tok)], lft, f / 2, a + (r + 3), idx + 2, ⟨by omega, by omega, by rw [List.length_append, List.length_cons, List.length_nil]; omega, by rw [List.length_append, List.length_cons, List.length_nil]; omega, by rw [List.length_append, List.length_cons, List.length_nil]; omega, ⟨by omega, by omega⟩, ?_⟩, ?_, ?_⟩
          · unfold After
            rw [haf]
            simp [List.drop_drop]
          · rw [List.map_append]; rfl
          · rw [List.length_append]
            show _ = [(0, AV.pv (.str s0)), (4, .own 0), (5, .pv (pI ((a + (r + 3) : Nat) : Int))), (6, .pv (pI ((idx + 2 : Nat) : Int))), (7, .pv (pI ((f / 2 : Nat) : Int))), (8, .pv (pI ((acc.length + 1 : Nat) : Int)))]
            rw [show ((a + (r + 3) : Nat) : Int) = (a : Int) + ((r : Int) + 3) by omega, show ((idx + 2 : Nat) : Int) = (idx : Int) + 1 + 1 by omega, show ((f / 2 : Nat) : Int) = (f : Int) / 2 by omega]
            rfl
        · have hgv : Int.toNat 16 = gRef a := by unfold gRef; rw [if_neg (by omega)]; rfl
          rw [hgv]
          have hpg := Nat.two_pow_pos (gRef a)
          have hpl : w / 2 ^ gRef a ≤ w := Nat.div_le_self _ _
          have hpm : w % 2 ^ gRef a ≤ w := Nat.mod_le _ _
          have hcd : ((w : Nat) : Int).tdiv ((2 ^ gRef a : Nat) : Int) = ((w / 2 ^ gRef a : Nat) : Int) := by rw [Int.tdiv_eq_ediv_of_nonneg (by omega)]; rfl
          have hcm : ((w : Nat) : Int).tmod ((2 ^ gRef a : Nat) : Int) = ((w % 2 ^ gRef a : Nat) : Int) := by rw [Int.tmod_eq_emod_of_nonneg (by omega)]; rfl
          have hct : copyT (gRef a) w = ⟨((w / 2 ^ gRef a : Nat) : Int) + 1, ((w % 2 ^ gRef a : Nat) : Int) + 3, 0⟩ := rfl
          generalize w / 2 ^ gRef a = q at *
          generalize w % 2 ^ gRef a = r at *
          have hmq : (⟨(q : Int) + 1, (r : Int) + 3, 0⟩ : Tok).made = (r : Int) + 3 := by
            unfold Tok.made
            rw [if_pos (show (q : Int) + 1 ≠ 0 by omega)]
          rw [hct, hmq, show ((r : Int) + 3).toNat = r + 3 by omega] at haf
          refine ⟨by kernel_rfl, ?_⟩
          refine ⟨by omega, ?_⟩
          refine fun y hy => ?_
          rw [hcd] at hy
          have hy := n64 hy (by omega)
          rw [hy]
          refine fun y hy => ?_
          have hy := n64 hy (by omega)
          rw [hy]
          refine ⟨by omega, ?_⟩
          refine fun y hy => ?_
          rw [hcm] at hy
          rw [hy]
          refine fun y hy => ?_
          have hy := n64 hy (by omega)
          rw [hy]
          refine ⟨rfl, ?_⟩
          refine ⟨rfl, ?_⟩
          refine ⟨rfl, ?_⟩
          refine fun y hy => ?_
          have hy := n64 hy (by omega)
          rw [hy]
          refine ⟨_, ⟨true, rfl, rfl⟩, ?_⟩
          refine fun y hy => ?_
          have hy := n64 hy (by simp only [bitZ]; omega)
          rw [hy]
          refine ⟨_, ⟨(⟨(q : Int) + 1, (r : Int) + 3, 0⟩ : Tok), rfl, rfl⟩, ?_⟩
          have hmd : ((⟨(q : Int) + 1, (r : Int) + 3, 0⟩ : Tok)).made = (r : Int) + 3 := hmq
          rw [hmd]
          refine fun y hy => ?_
          have hy := n64 hy (by omega)
          rw [hy]
          refine ⟨rfl, ?_⟩
          refine ⟨⟨by simp; omega, by simp; omega⟩, ?_⟩
          refine fun y hy => ?_
          have hy := n64 hy (by omega)
          rw [hy]
          refine ⟨s0.length - (idx + 2), by omega, acc ++ [(⟨(q : Int) + 1, (r : Int) + 3, 0⟩ : Tok)], lft, f / 2, a + (r + 3), idx + 2, ⟨by omega, by omega, by rw [List.length_append, List.length_cons, List.length_nil]; omega, by rw [List.length_append, List.length_cons, List.length_nil]; omega, by rw [List.length_append, List.length_cons, List.length_nil]; omega, ⟨by omega, by omega⟩, ?_⟩, ?_, ?_⟩
          · unfold After
            rw [haf]
            simp [List.drop_drop]
          · rw [List.map_append]; rfl
          · rw [List.length_append]
            show _ = [(0, AV.pv (.str s0)), (4, .own 0), (5, .pv (pI ((a + (r + 3) : Nat) : Int))), (6, .pv (pI ((idx + 2 : Nat) : Int))), (7, .pv (pI ((f / 2 : Nat) : Int))), (8, .pv (pI ((acc.length + 1 : Nat) : Int)))]
            rw [show ((a + (r + 3) : Nat) : Int) = (a : Int) + ((r : Int) + 3) by omega, show ((idx + 2 : Nat) : Int) = (idx : Int) + 1 + 1 by omega, show ((f / 2 : Nat) : Int) = (f : Int) / 2 by omega]
            rfl
      · have hev : ¬ f % 2 = 1 := by omega
        have hst := tokN_lit gRef lft f a (s := s0.drop idx) (by omega) hev
        unfold After at haf
        rw [hst] at haf
        rw [hlit] at haf
        refine fun y hy => ?_
        have hy := n64 hy (by omega)
        rw [hy]
        refine ⟨_, ⟨false, rfl, rfl⟩, ?_⟩
        refine fun y hy => ?_
        have hy := n64 hy (by simp only [bitZ]; omega)
        rw [hy]
        refine ⟨_, ⟨(⟨0, 0, (v.toNat : Int)⟩ : Tok), rfl, rfl⟩, ?_⟩
        have hmd : ((⟨0, 0, (v.toNat : Int)⟩ : Tok)).made = 1 := rfl
        rw [hmd]
        refine fun y hy => ?_
        have hy := n64 hy (by omega)
        rw [hy]
        refine ⟨rfl, ?_⟩
        refine ⟨⟨by simp; omega, by simp; omega⟩, ?_⟩
        refine fun y hy => ?_
        have hy := n64 hy (by omega)
        rw [hy]
        refine ⟨s0.length - (idx + 1), by omega, acc ++ [(⟨0, 0, (v.toNat : Int)⟩ : Tok)], lft, f / 2, a + 1, idx + 1, ⟨by omega, by omega, by rw [List.length_append, List.length_cons, List.length_nil]; omega, by rw [List.length_append, List.length_cons, List.length_nil]; omega, by rw [List.length_append, List.length_cons, List.length_nil]; omega, ⟨by omega, by omega⟩, ?_⟩, ?_, ?_⟩
        · unfold After
          rw [haf]
          simp [List.drop_drop]
        · rw [List.map_append]; rfl
        · rw [List.length_append]
          show _ = [(0, AV.pv (.str s0)), (4, .own 0), (5, .pv (pI ((a + 1 : Nat) : Int))), (6, .pv (pI ((idx + 1 : Nat) : Int))), (7, .pv (pI ((f / 2 : Nat) : Int))), (8, .pv (pI ((acc.length + 1 : Nat) : Int)))]
          rw [show ((idx + 1 : Nat) : Int) = (idx : Int) + 1 + 0 by omega, show ((f / 2 : Nat) : Int) = (f : Int) / 2 by omega]
          rfl
  · have hidx : idx = s0.length := by omega
    have hnil : s0.drop idx = [] := List.drop_eq_nil_of_le (by omega)
    unfold After at haf
    rw [hnil] at haf
    refine fun b hb => ?_
    rcases cmp hb with ⟨rfl, h⟩ | ⟨rfl, h⟩
    · cases left with
      | zero => simp at hlf; omega
      | succ left =>
      rw [tokN_nil, if_pos (by omega)] at haf
      rw [resN_tok, haf] at hK
      dsimp only at hK
      rw [if_pos (by decide)] at hK
      exact ⟨[.fresh _ _ _, .pv _], ⟨⟨rfl, rfl, rfl, rfl⟩, rfl, trivial⟩, ⟨by simp [RV.flat1], trivial, trivial⟩, hK⟩
    have haf : tokN gRef 0 0 s0 0 = (0, acc) := by
      cases left with
      | zero => rw [haf, tokN_nil0, List.append_nil]
      | succ left => rw [haf, tokN_nil, if_neg (by omega), List.append_nil]
    rw [resN_tok, haf] at hK
    dsimp only at hK
    rw [if_neg (by decide)] at hK
    refine ⟨acc, rfl, by omega, ?_⟩
    refine fun b hb => ?_
    rcases cmp hb with ⟨rfl, h⟩ | ⟨rfl, h⟩
    · rw [if_pos h] at hK
      exact ⟨[.fresh _ _ _, .pv _], ⟨⟨rfl, rfl, rfl, rfl⟩, rfl, trivial⟩, ⟨by simp [RV.flat1], trivial, trivial⟩, hK⟩
    · rw [if_neg h] at hK
      exact ⟨[.fresh _ _ _, .pv _], ⟨⟨rfl, rfl, rfl, rfl⟩, rfl, trivial⟩, ⟨flat_toks _, trivial, trivial⟩, hK⟩
end Go.Dv.Try
end
section
/-
  Contracts of chapter 6: tokens of bytes in the program.
-/
namespace Go.Dv.Try
open Go Go.Dv

theorem tokN_even (g : Nat → Nat) (l f a : Nat) (hf : f % 2 = 0) (hl : f < 2 ^ (l + 1)) : tokN g (l + 1) f [] a = tokN g l (f / 2) [] a := by
  cases l with
  | zero => rw [tokN_nil, tokN_nil0, if_neg (by simp at hl; omega)]
  | succ l =>
    rw [tokN_nil, tokN_nil]
    by_cases h : f = 0
    · subst h; rfl
    · rw [if_pos h, if_pos (by omega)]

def S_tokensP : Spec := mkS true false fun ps K => ∃ s : List UInt8, ps = [.str s] ∧ s.length ≤ 5000 ∧ K (.tup [.fresh 68 3 ((resN gPro s).1.map Tok.pv), .pv (pI (resN gPro s).2)])
set_option maxHeartbeats 1000000 in
theorem meets_tokens : Meets (ctxOf [(n_compress_shift, fnSpec R_compress_shift), (n_compress_wordAt, fnSpec R_wordAt), (n_compress_made, fnSpec R_compress_made), (n_compress_CheckTokens, S_CheckTokens)]) s_compress_tokens c_compress_tokens r_compress_tokens S_tokensP := by
  rintro _ K ⟨s0, rfl, hs0, hK⟩
  refine ⟨fun m env σ => ∃ (acc : List Tok) (f a : Nat) (s : List UInt8), (s.length = m ∧ acc.length + s.length ≤ s0.length ∧ a ≤ 70000 * acc.length ∧ After gPro s0 acc 0 f s a) ∧ σ = [.row 68 3 true (acc.map Tok.pv)] ∧ env = [(0, .pv (.str s)), (4, .own 0), (5, .pv (pI a))], s0.length, ⟨[], 0, 0, s0, ⟨rfl, by simp, by simp, by unfold After; simp⟩, rfl, rfl⟩, ?_⟩
  rintro m env σ ⟨acc, f, a, s, ⟨hm, hal, hab, haf⟩, rfl, rfl⟩
  refine fun b hb => ?_
  rcases cmp hb with ⟨rfl, hne⟩ | ⟨rfl, hne⟩
  · have hpos : 0 < s.length := List.length_pos_iff.2 hne
    obtain ⟨fb, hfb⟩ : ∃ v, s[0]? = some v := by rw [List.getElem?_eq_getElem hpos]; exact ⟨_, rfl⟩
    have hfl := fb.toNat_lt
    have hd1 : cut (Int.toNat 1) s.length s = s.drop 1 := cut_drop 1 s
    refine ⟨_, ⟨by omega, hfb⟩, ?_⟩
    refine ⟨by omega, ?_⟩
    refine fun b hb => ?_
    rw [hd1] at hb
    rcases cmp hb with ⟨rfl, he⟩ | ⟨rfl, he⟩
    · have hl1 : s.length = 1 := by
        have : (s.drop 1).length = 0 := by rw [he]; rfl
        rw [List.length_drop] at this; omega
      have h1 := tokN_14 gPro f a hl1
      unfold After at haf
      rw [h1] at haf
      rw [resN_tok, haf] at hK
      dsimp only at hK
      rw [if_pos (by decide)] at hK
      exact ⟨[.fresh _ _ _, .pv _], ⟨⟨rfl, rfl, rfl, rfl⟩, rfl, trivial⟩, ⟨by simp [RV.flat1], trivial, trivial⟩, hK⟩
    have hl2 : 2 ≤ s.length := by
      have : 0 < (s.drop 1).length := List.length_pos_iff.2 he
      rw [List.length_drop] at this; omega
    have haf : After gPro s0 acc 8 (fb.toNat / 2 ^ 0) (s.drop 1) a := by
      unfold After at haf ⊢
      rw [tokN_group gPro f a hl2, hfb] at haf
      simpa using haf
    refine ⟨fun m2 env σ => ∃ (acc : List Tok) (a k : Nat) (q : List UInt8), (k + m2 = 8 ∧ q.length < m ∧ acc.length + q.length ≤ s0.length ∧ a ≤ 70000 * acc.length ∧ After gPro s0 acc (8 - k) (fb.toNat / 2 ^ k) q a) ∧ σ = [.row 68 3 true (acc.map Tok.pv)] ∧ env = [(0, .pv (.str q)), (4, .own 0), (5, .pv (pI a)), (6, .pv (byteP fb)), (22, .pv (pI k))], 8, ⟨acc, a, 0, s.drop 1, ⟨rfl, by rw [List.length_drop]; omega, by rw [List.length_drop]; omega, hab, haf⟩, rfl, ?_⟩, ?_⟩
    · show [(0, AV.pv (.str (cut (Int.toNat 1) s.length s))), (4, .own 0), (5, .pv (pI a)), (6, .pv (byteP fb)), (22, .pv (pI 0))] = _
      rw [hd1]; rfl
    clear haf hab hal hfb hl2 hd1
    rintro m2 env σ ⟨acc, a, k, q, ⟨hk, hqm, hal, hab, haf⟩, rfl, rfl⟩
    refine fun b hb => ?_
    rcases cmp hb with ⟨rfl, hk8⟩ | ⟨rfl, hk8⟩
    · obtain ⟨l, hl⟩ : ∃ l, 8 - k = l + 1 := ⟨7 - k, by omega⟩
      have hl' : 8 - (k + 1) = l := by omega
      have hfk : fb.toNat / 2 ^ (k + 1) = fb.toNat / 2 ^ k / 2 := by rw [Nat.div_div_eq_div_mul, Nat.pow_succ]
      have hfl2 : fb.toNat / 2 ^ k < 2 ^ (l + 1) := by
        rw [Nat.div_lt_iff_lt_mul (Nat.two_pow_pos k), ← Nat.pow_add, show l + 1 + k = 8 by omega]; omega
      have hfl3 : fb.toNat / 2 ^ k ≤ fb.toNat := Nat.div_le_self _ _
      rw [hl] at haf
      refine ⟨by omega, ?_⟩
      refine fun x hx => ?_
      have hx : x = ((fb.toNat / 2 ^ k : Nat) : Int) := by
        rw [hx]
        have e8 : min ((k : Int)).toNat IntKind.u8.bits = k := by
          have : IntKind.u8.bits = 8 := rfl
          omega
        rw [e8, show ((2 : Int) ^ k) = ((2 ^ k : Nat) : Int) by simp, Int.fdiv_eq_ediv_of_nonneg _ (Int.natCast_nonneg _)]; rfl
      subst hx
      generalize fb.toNat / 2 ^ k = fk at *
      refine fun x hx => ?_
      rw [show (1 : Int) = ((1 : Nat) : Int) from rfl, and8 (by omega) (by decide), show (1 : Nat) = 2 ^ 1 - 1 from rfl, and_mod] at hx
      subst hx
      refine fun b hb => ?_
      rcases cmp hb with ⟨rfl, hq⟩ | ⟨rfl, hq⟩
      · subst hq
        refine fun b hb => ?_
        rcases cmp hb with ⟨rfl, hbit⟩ | ⟨rfl, hbit⟩
        · unfold After at haf
          rw [tokN_nil, if_pos (by omega)] at haf
          rw [resN_tok, haf] at hK
          dsimp only at hK
          rw [if_pos (by decide)] at hK
          exact ⟨[.fresh _ _ _, .pv _], ⟨⟨rfl, rfl, rfl, rfl⟩, rfl, trivial⟩, ⟨by simp [RV.flat1], trivial, trivial⟩, hK⟩
        · refine fun y hy => ?_
          have hy := n64 hy (by omega)
          rw [hy]
          refine ⟨m2 - 1, by omega, acc, a, k + 1, [], ⟨by omega, hqm, hal, hab, ?_⟩, rfl, rfl⟩
          unfold After at haf ⊢
          rw [hl', hfk, haf, tokN_even gPro l fk a (by omega) hfl2]
      · have hqp : 0 < q.length := List.length_pos_iff.2 hq
        obtain ⟨v, hv⟩ : ∃ v, q[0]? = some v := by rw [List.getElem?_eq_getElem hqp]; exact ⟨_, rfl⟩
        have hvl := v.toNat_lt
        have hlit : litT q = ⟨0, 0, (v.toNat : Int)⟩ := by unfold litT; rw [hv]; rfl
        have hd1 : cut (Int.toNat 1) q.length q = q.drop 1 := cut_drop 1 q
        refine ⟨_, ⟨by omega, hv⟩, ?_⟩
        refine fun y hy => ?_
        have hy := n64 hy (by omega)
        rw [hy]
        refine ⟨rfl, ?_⟩
        refine ⟨rfl, ?_⟩
        refine fun b hb => ?_
        rcases cmp hb with ⟨rfl, hbit⟩ | ⟨rfl, hbit⟩
        · have hodd : fk % 2 = 1 := by omega
          refine fun b hb2 => ?_
          rcases cmp hb2 with ⟨rfl, h14⟩ | ⟨rfl, h14⟩
          · have h1 := tokN_copy14 gPro l fk a (s := q) (by omega) hodd
            unfold After at haf
            rw [h1] at haf
            rw [resN_tok, haf] at hK
            dsimp only at hK
            rw [if_pos (by decide)] at hK
            exact ⟨[.fresh _ _ _, .pv _], ⟨⟨rfl, rfl, rfl, rfl⟩, rfl, trivial⟩, ⟨by simp [RV.flat1], trivial, trivial⟩, hK⟩
          have hst := tokN_copy gPro l fk a (s := q) (by omega) hodd
          unfold After at haf
          rw [hst] at haf
          have hwl : word2 q < 65536 := wordV_lt _
          have hwv : wordV q = word2 q := rfl
          have hg := gPro_le a
          refine fun x hx => ?_
          have hx : x = ((min a 4095 : Nat) : Int) := by omega
          subst hx
          refine ⟨_, ⟨_, rfl, ⟨by omega, by omega⟩, rfl⟩, ?_⟩
          unfold shiftZ
          rw [Int.toNat_natCast]
          refine fun y hy => ?_
          have hgs : gPro a = 16 - shiftN (min a 4095) := rfl
          have hs := shiftN_le (a := min a 4095) (by omega)
          have hy := n64 hy (by omega)
          have hy : y = (gPro a : Nat) := by omega
          subst hy
          refine ⟨_, ⟨q, rfl, by omega, rfl⟩, ?_⟩
          rw [hwv]
          generalize word2 q = w at *
          have hpg := Nat.two_pow_pos (gPro a)
          have hpg2 : 2 ^ gPro a ≤ 2 ^ 12 := Nat.pow_le_pow_right (by omega) (by omega)
          have hpl : w / 2 ^ gPro a ≤ w := Nat.div_le_self _ _
          have hpm : w % 2 ^ gPro a ≤ w := Nat.mod_le _ _
          have hct : copyT (gPro a) w = ⟨((w / 2 ^ gPro a : Nat) : Int) + 1, ((w % 2 ^ gPro a : Nat) : Int) + 3, 0⟩ := rfl
          obtain ⟨qq, hqq⟩ : ∃ x, w / 2 ^ gPro a = x := ⟨_, rfl⟩
          obtain ⟨r, hr⟩ : ∃ x, w % 2 ^ gPro a = x := ⟨_, rfl⟩
          rw [hqq, hr] at hct
          rw [hqq] at hpl
          rw [hr] at hpm
          refine ⟨by kernel_rfl, ?_⟩
          refine ⟨by omega, ?_⟩
          refine fun y hy => ?_
          have hy : y = (qq : Int) := by
            rw [hy]
            have e8 : min ((gPro a : Nat) : Int).toNat IntKind.i64.bits = gPro a := by
              have : IntKind.i64.bits = 64 := rfl
              omega
            rw [e8, show ((2 : Int) ^ gPro a) = ((2 ^ gPro a : Nat) : Int) by simp, Int.fdiv_eq_ediv_of_nonneg _ (Int.natCast_nonneg _), ← hqq]; rfl
          subst hy
          refine fun y hy => ?_
          have hy := n64 hy (by omega)
          rw [hy]
          refine ⟨by omega, ?_⟩
          refine fun y hy => ?_
          have hy : y = ((2 ^ gPro a : Nat) : Int) := by
            rw [shl64 (by omega) (by omega) (by rw [Int.toNat_natCast]; simp; omega)] at hy
            rw [hy, Int.toNat_natCast]; simp
          subst hy
          refine fun y hy => ?_
          have hy := n64 hy (by omega)
          have hy : y = ((2 ^ gPro a - 1 : Nat) : Int) := by omega
          subst hy
          refine fun y hy => ?_
          rw [and64 (by omega) (by omega), and_mod, hr] at hy
          subst hy
          refine fun y hy => ?_
          have hy := n64 hy (by omega)
          rw [hy]
          refine ⟨rfl, ?_⟩
          refine ⟨rfl, ?_⟩
          refine ⟨rfl, ?_⟩
          have hmq : (⟨(qq : Int) + 1, (r : Int) + 3, 0⟩ : Tok).made = (r : Int) + 3 := by
            unfold Tok.made
            rw [if_pos (show (qq : Int) + 1 ≠ 0 by omega)]
          rw [hct, hmq, show ((r : Int) + 3).toNat = r + 3 by omega] at haf
          refine ⟨by omega, ?_⟩
          have hdl1 : (q.drop 1).length = q.length - 1 := List.length_drop
          have hd2 : cut (Int.toNat 1) (q.drop 1).length (q.drop 1) = q.drop 2 := by rw [show cut (Int.toNat 1) (q.drop 1).length (q.drop 1) = (q.drop 1).drop 1 from cut_drop 1 _, List.drop_drop]
          refine ⟨by rw [hd1]; omega, ?_⟩
          refine ⟨rfl, ?_⟩
          refine ⟨⟨by simp; omega, by simp; omega⟩, ?_⟩
          refine ⟨_, ⟨(⟨(qq : Int) + 1, (r : Int) + 3, 0⟩ : Tok), rfl, rfl⟩, ?_⟩
          rw [hmq]
          refine fun y hy => ?_
          have hy := n64 hy (by omega)
          rw [hy]
          refine fun y hy => ?_
          have hy := n64 hy (by omega)
          rw [hy]
          refine ⟨m2 - 1, by omega, acc ++ [(⟨(qq : Int) + 1, (r : Int) + 3, 0⟩ : Tok)], a + (r + 3), k + 1, q.drop 2, ⟨by omega, by rw [List.length_drop]; omega, by rw [List.length_append, List.length_cons, List.length_nil, List.length_drop]; omega, by rw [List.length_append, List.length_cons, List.length_nil]; omega, ?_⟩, ?_, ?_⟩
          · unfold After
            rw [hl', hfk, haf]
            simp
          · rw [List.map_append]; rfl
          · show [(0, AV.pv (.str (cut (Int.toNat 1) (cut (Int.toNat 1) q.length q).length (cut (Int.toNat 1) q.length q)))), (4, .own 0), (5, .pv (pI ((a : Int) + ((r : Int) + 3)))), (6, .pv (byteP fb)), (22, .pv (pI ((k : Int) + 1)))] = _
            rw [hd1, hd2, show ((a + (r + 3) : Nat) : Int) = (a : Int) + ((r : Int) + 3) by omega]; rfl
        · have hev : ¬ fk % 2 = 1 := by omega
          have hst := tokN_lit gPro l fk a (s := q) (by omega) hev
          unfold After at haf
          rw [hst, hlit] at haf
          refine ⟨by omega, ?_⟩
          refine ⟨rfl, ?_⟩
          refine ⟨⟨by simp; omega, by simp; omega⟩, ?_⟩
          refine ⟨_, ⟨(⟨0, 0, (v.toNat : Int)⟩ : Tok), rfl, rfl⟩, ?_⟩
          have hm1 : (⟨0, 0, (v.toNat : Int)⟩ : Tok).made = 1 := rfl
          rw [hm1]
          refine fun y hy => ?_
          have hy := n64 hy (by omega)
          rw [hy]
          refine fun y hy => ?_
          have hy := n64 hy (by omega)
          rw [hy]
          refine ⟨m2 - 1, by omega, acc ++ [(⟨0, 0, (v.toNat : Int)⟩ : Tok)], a + 1, k + 1, q.drop 1, ⟨by omega, by rw [List.length_drop]; omega, by rw [List.length_append, List.length_cons, List.length_nil, List.length_drop]; omega, by rw [List.length_append, List.length_cons, List.length_nil]; omega, ?_⟩, ?_, ?_⟩
          · unfold After
            rw [hl', hfk, haf]
            simp
          · rw [List.map_append]; rfl
          · show [(0, AV.pv (.str (cut (Int.toNat 1) q.length q))), (4, .own 0), (5, .pv (pI ((a : Int) + 1))), (6, .pv (byteP fb)), (22, .pv (pI ((k : Int) + 1)))] = _
            rw [hd1]; rfl
    · have hk : k = 8 := by omega
      subst hk
      refine ⟨q.length, by omega, acc, fb.toNat / 2 ^ 8, a, q, ⟨rfl, hal, hab, haf⟩, rfl, rfl⟩
  · have : s = [] := Decidable.of_not_not hne
    subst this
    unfold After at haf
    rw [tokN_nil0] at haf
    rw [resN_tok, haf] at hK
    dsimp only at hK
    rw [if_neg (by decide), List.append_nil] at hK
    refine ⟨acc, rfl, by simp at hal; omega, ?_⟩
    refine fun b hb => ?_
    rcases cmp hb with ⟨rfl, h⟩ | ⟨rfl, h⟩
    · rw [if_pos h] at hK
      exact ⟨[.fresh _ _ _, .pv _], ⟨⟨rfl, rfl, rfl, rfl⟩, rfl, trivial⟩, ⟨by simp [RV.flat1], trivial, trivial⟩, hK⟩
    · rw [if_neg h] at hK
      exact ⟨[.fresh _ _ _, .pv _], ⟨⟨rfl, rfl, rfl, rfl⟩, rfl, trivial⟩, ⟨flat_toks _, trivial, trivial⟩, hK⟩
end Go.Dv.Try
end
section
/-
  Contracts of chapter 6: chunks decoded; the law of chunks.
-/
namespace Go.Dv.Try
open Go Go.Dv

/-- The tokens of a chunk, or the error. -/
def toksOfN (s : List UInt8) : List Tok × Int :=
  if s.length < 2 then ([], 14) else if wordV s / 4096 % 8 ≠ 3 then ([], 3) else if wordV s < 32768 then ([], 15)
  else if s.length - 2 ≠ wordV s % 4096 + 1 then ([], 10) else resN gRef (s.drop 2)
/-- The data of a chunk, or the error. -/
def decN (s : List UInt8) : List UInt8 × Int :=
  if s.length < 2 then ([], 14) else if wordV s / 4096 % 8 ≠ 3 then ([], 3)
  else if s.length - 2 ≠ wordV s % 4096 + 1 then ([], 10) else if wordV s < 32768 then (s.drop 2, 0)
  else if (resN gRef (s.drop 2)).2 ≠ 0 then ([], (resN gRef (s.drop 2)).2) else (expN (resN gRef (s.drop 2)).1, 0)

theorem resN_ok {g : Nat → Nat} {s : List UInt8} (h : (resN g s).2 = 0) : ToksOk (resN g s).1 0 := by
  unfold resN at h ⊢
  split at h
  · rename_i h1; exact absurd h h1
  · rename_i h1
    rw [if_neg h1]
    split at h
    · rename_i h2; exact absurd h h2
    · rename_i h2
      rw [if_neg h2]
      exact (checkN_zero (Decidable.of_not_not h2)).2.2

def S_toksOf : Spec := mkS true false fun ps K => ∃ s : List UInt8, ps = [.str s] ∧ s.length ≤ 5000 ∧ K (.tup [.fresh 68 3 ((toksOfN s).1.map Tok.pv), .pv (pI (toksOfN s).2)])
def S_decode : Spec := mkS true false fun ps K => ∃ s : List UInt8, ps = [.str s] ∧ s.length ≤ 5000 ∧ K (.tup [.pv (.str (decN s).1), .pv (pI (decN s).2)])

theorem meets_refTokensOf : Meets (ctxOf [(n_ref06_Parts, S_Parts), (n_base_LittleAt, fnSpec R_LittleAt), (n_ref06_Tokens, S_tokens)]) s_ref06_TokensOf c_ref06_TokensOf r_ref06_TokensOf S_toksOf := by
  rintro _ K ⟨s, rfl, hs, hK⟩
  have hw := wordV_lt s
  unfold toksOfN at hK
  refine ⟨s, rfl, hs, fun h2 => ?_, fun h2 => ⟨fun h3 => ?_, fun h3 => ?_⟩⟩
  · rw [if_pos h2] at hK
    refine fun b hb => ?_
    rcases cmp hb with ⟨rfl, h⟩ | ⟨rfl, h⟩
    · exact ⟨[.fresh _ _ _, .pv _], ⟨⟨rfl, rfl, rfl, rfl⟩, rfl, trivial⟩, ⟨by simp [RV.flat1], trivial, trivial⟩, hK⟩
    · exact absurd (by decide) h
  · rw [if_neg (by omega), if_pos h3] at hK
    refine fun b hb => ?_
    rcases cmp hb with ⟨rfl, h⟩ | ⟨rfl, h⟩
    · exact ⟨[.fresh _ _ _, .pv _], ⟨⟨rfl, rfl, rfl, rfl⟩, rfl, trivial⟩, ⟨by simp [RV.flat1], trivial, trivial⟩, hK⟩
    · exact absurd (by decide) h
  · rw [if_neg (by omega), if_neg (by omega)] at hK
    refine fun b hb => ?_
    rcases cmp hb with ⟨rfl, h⟩ | ⟨rfl, h⟩
    · exact absurd rfl h
    by_cases hp : 32768 ≤ wordV s
    · rw [decide_eq_true hp]
      rw [if_neg (by omega)] at hK
      refine NOT_t ?_
      refine ⟨_, ⟨s, 0, 2, rfl, by omega, rfl⟩, ?_⟩
      rw [show leN (Int.toNat 2) (s.drop (Int.toNat 0)) = wordV s from leN_two s]
      refine ⟨by decide, ?_⟩
      refine fun y hy => ?_
      rw [Int.tmod_eq_emod_of_nonneg (by omega)] at hy
      rw [hy]
      refine fun y hy => ?_
      have hy := n64 hy (by omega)
      rw [hy]
      refine fun b hb => ?_
      rw [List.length_drop] at hb
      rcases cmp hb with ⟨rfl, h⟩ | ⟨rfl, h⟩
      · rw [if_pos (by omega)] at hK
        exact ⟨[.fresh _ _ _, .pv _], ⟨⟨rfl, rfl, rfl, rfl⟩, rfl, trivial⟩, ⟨by simp [RV.flat1], trivial, trivial⟩, hK⟩
      · rw [if_neg (by omega)] at hK
        refine ⟨s.drop 2, rfl, by rw [List.length_drop]; omega, ?_⟩
        exact ⟨[.fresh _ _ _, .pv _], ⟨⟨rfl, rfl, rfl, rfl⟩, rfl, trivial⟩, ⟨flat_toks _, trivial, trivial⟩, hK⟩
    · rw [decide_eq_false hp]
      rw [if_pos (by omega)] at hK
      refine NOT_f ?_
      exact ⟨[.fresh _ _ _, .pv _], ⟨⟨rfl, rfl, rfl, rfl⟩, rfl, trivial⟩, ⟨by simp [RV.flat1], trivial, trivial⟩, hK⟩

theorem meets_refDecode : Meets (ctxOf [(n_ref06_Parts, S_Parts), (n_base_LittleAt, fnSpec R_LittleAt), (n_ref06_Tokens, S_tokens), (n_ref06_Expanded, S_expanded)]) s_ref06_Decode c_ref06_Decode r_ref06_Decode S_decode := by
  rintro _ K ⟨s, rfl, hs, hK⟩
  have hw := wordV_lt s
  unfold decN at hK
  refine ⟨s, rfl, hs, fun h2 => ?_, fun h2 => ⟨fun h3 => ?_, fun h3 => ?_⟩⟩
  · rw [if_pos h2] at hK
    refine fun b hb => ?_
    rcases cmp hb with ⟨rfl, h⟩ | ⟨rfl, h⟩
    · exact ⟨[.pv (.str _), .pv _], ⟨rfl, rfl, trivial⟩, ⟨trivial, trivial, trivial⟩, hK⟩
    · exact absurd (by decide) h
  · rw [if_neg (by omega), if_pos h3] at hK
    refine fun b hb => ?_
    rcases cmp hb with ⟨rfl, h⟩ | ⟨rfl, h⟩
    · exact ⟨[.pv (.str _), .pv _], ⟨rfl, rfl, trivial⟩, ⟨trivial, trivial, trivial⟩, hK⟩
    · exact absurd (by decide) h
  · rw [if_neg (by omega), if_neg (by omega)] at hK
    refine fun b hb => ?_
    rcases cmp hb with ⟨rfl, h⟩ | ⟨rfl, h⟩
    · exact absurd rfl h
    refine ⟨_, ⟨s, 0, 2, rfl, by omega, rfl⟩, ?_⟩
    rw [show leN (Int.toNat 2) (s.drop (Int.toNat 0)) = wordV s from leN_two s]
    refine ⟨by decide, ?_⟩
    refine fun y hy => ?_
    rw [Int.tmod_eq_emod_of_nonneg (by omega)] at hy
    rw [hy]
    refine fun y hy => ?_
    have hy := n64 hy (by omega)
    rw [hy]
    refine fun b hb => ?_
    rw [List.length_drop] at hb
    rcases cmp hb with ⟨rfl, h⟩ | ⟨rfl, h⟩
    · rw [if_pos (by omega)] at hK
      exact ⟨[.pv (.str _), .pv _], ⟨rfl, rfl, trivial⟩, ⟨trivial, trivial, trivial⟩, hK⟩
    rw [if_neg (by omega)] at hK
    by_cases hp : 32768 ≤ wordV s
    · rw [decide_eq_true hp]
      rw [if_neg (by omega)] at hK
      refine NOT_t ?_
      refine ⟨s.drop 2, rfl, by rw [List.length_drop]; omega, ?_⟩
      refine fun b hb => ?_
      rcases cmp hb with ⟨rfl, h⟩ | ⟨rfl, h⟩
      · rw [if_pos h] at hK
        exact ⟨[.pv (.str _), .pv _], ⟨rfl, rfl, trivial⟩, ⟨trivial, trivial, trivial⟩, hK⟩
      · rw [if_neg h] at hK
        refine ⟨_, rfl, resN_ok (Decidable.of_not_not h), ?_⟩
        exact ⟨[.pv (.str _), .pv _], ⟨rfl, rfl, trivial⟩, ⟨trivial, trivial, trivial⟩, hK⟩
    · rw [decide_eq_false hp]
      rw [if_pos (by omega)] at hK
      refine NOT_f ?_
      exact ⟨[.pv (.str _), .pv _], ⟨rfl, rfl, trivial⟩, ⟨trivial, trivial, trivial⟩, hK⟩

theorem meets_TokensOf : Meets (ctxOf [(n_compress_opened, S_opened), (n_compress_tokens, S_tokensP)]) s_compress_TokensOf c_compress_TokensOf r_compress_TokensOf S_toksOf := by
  rintro _ K ⟨s, rfl, hs, hK⟩
  have hw := wordV_lt s
  unfold toksOfN at hK
  have second : ∀ (K' : RV → Prop), True := fun _ => trivial
  refine ⟨s, false, rfl, hs, fun h2 => ?_, fun h2 => ⟨fun h3 => ?_, fun h3 => ⟨fun h4 => ?_, fun h4 => ?_⟩⟩⟩
  · rw [if_pos h2] at hK
    refine fun b hb => ?_
    rcases cmp hb with ⟨rfl, h⟩ | ⟨rfl, h⟩
    · omega
    refine ⟨s, true, rfl, hs, fun h2 => ?_, fun h2' => absurd h2 (by omega)⟩
    refine fun b hb => ?_
    rcases cmp hb with ⟨rfl, h⟩ | ⟨rfl, h⟩
    · exact ⟨[.fresh _ _ _, .pv _], ⟨⟨rfl, rfl, rfl, rfl⟩, rfl, trivial⟩, ⟨by simp [RV.flat1], trivial, trivial⟩, hK⟩
    · exact absurd (by decide) h
  · rw [if_neg (by omega), if_pos h3] at hK
    refine fun b hb => ?_
    rcases cmp hb with ⟨rfl, h⟩ | ⟨rfl, h⟩
    case inr => omega
    refine fun b hb => ?_
    rcases cmp hb with ⟨rfl, h⟩ | ⟨rfl, h⟩
    · exact absurd rfl h
    refine ⟨s, true, rfl, hs, fun h2' => absurd h2 (by omega), fun h2 => ⟨fun _ => ?_, fun h3' => absurd h3' h3⟩⟩
    refine fun b hb => ?_
    rcases cmp hb with ⟨rfl, h⟩ | ⟨rfl, h⟩
    · exact ⟨[.fresh _ _ _, .pv _], ⟨⟨rfl, rfl, rfl, rfl⟩, rfl, trivial⟩, ⟨by simp [RV.flat1], trivial, trivial⟩, hK⟩
    · exact absurd (by decide) h
  · rw [if_neg (by omega), if_neg (by omega)] at hK
    refine fun b hb => ?_
    rcases cmp hb with ⟨rfl, h⟩ | ⟨rfl, h⟩
    case inr => omega
    refine fun b hb => ?_
    rcases cmp hb with ⟨rfl, h⟩ | ⟨rfl, h⟩
    case inr => exact absurd (by decide) h
    by_cases hp : 32768 ≤ wordV s
    · rw [decide_eq_true hp]
      refine NOT_t ?_
      rw [if_neg (by omega)] at hK
      have h4' : s.length - 2 < wordV s % 4096 + 1 := by
        rcases h4 with h4 | ⟨h4, _⟩
        · exact h4
        · cases h4
      rw [if_pos (by omega)] at hK
      refine ⟨s, true, rfl, hs, fun h2' => absurd h2 (by omega), fun h2 => ⟨fun h3' => absurd h3 h3', fun h3 => ⟨fun _ => ?_, fun h5 => absurd (.inl h4') h5⟩⟩⟩
      refine fun b hb => ?_
      rcases cmp hb with ⟨rfl, h⟩ | ⟨rfl, h⟩
      · exact ⟨[.fresh _ _ _, .pv _], ⟨⟨rfl, rfl, rfl, rfl⟩, rfl, trivial⟩, ⟨by simp [RV.flat1], trivial, trivial⟩, hK⟩
      · exact absurd (by decide) h
    · rw [decide_eq_false hp]
      refine NOT_f ?_
      rw [if_pos (by omega)] at hK
      exact ⟨[.fresh _ _ _, .pv _], ⟨⟨rfl, rfl, rfl, rfl⟩, rfl, trivial⟩, ⟨by simp [RV.flat1], trivial, trivial⟩, hK⟩
  · rw [if_neg (by omega), if_neg (by omega)] at hK
    refine fun b hb => ?_
    rcases cmp hb with ⟨rfl, h⟩ | ⟨rfl, h⟩
    case inr => omega
    refine fun b hb => ?_
    rcases cmp hb with ⟨rfl, h⟩ | ⟨rfl, h⟩
    case inr => exact absurd (by decide) h
    by_cases hp : 32768 ≤ wordV s
    · rw [decide_eq_true hp]
      refine NOT_t ?_
      rw [if_neg (by omega)] at hK
      have h4' : ¬ s.length - 2 < wordV s % 4096 + 1 := fun h => h4 (.inl h)
      refine ⟨s, true, rfl, hs, fun h2' => absurd h2 (by omega), fun h2 => ⟨fun h3' => absurd h3 h3', fun h3 => ⟨fun h5 => ?_, fun h5 => ?_⟩⟩⟩
      · rw [if_pos (by rcases h5 with h5 | ⟨_, h5⟩ <;> omega)] at hK
        refine fun b hb => ?_
        rcases cmp hb with ⟨rfl, h⟩ | ⟨rfl, h⟩
        · exact ⟨[.fresh _ _ _, .pv _], ⟨⟨rfl, rfl, rfl, rfl⟩, rfl, trivial⟩, ⟨by simp [RV.flat1], trivial, trivial⟩, hK⟩
        · exact absurd (by decide) h
      · have h6 : ¬ wordV s % 4096 + 1 < s.length - 2 := fun h => h5 (.inr ⟨rfl, h⟩)
        rw [if_neg (by omega)] at hK
        refine fun b hb => ?_
        rcases cmp hb with ⟨rfl, h⟩ | ⟨rfl, h⟩
        · exact absurd rfl h
        have et : (s.drop 2).take (wordV s % 4096 + 1) = s.drop 2 := List.take_of_length_le (by rw [List.length_drop]; omega)
        refine ⟨_, rfl, by rw [et, List.length_drop]; omega, ?_⟩
        rw [et, ← resN_same gRef gPro g_same]
        exact ⟨[.fresh _ _ _, .pv _], ⟨⟨rfl, rfl, rfl, rfl⟩, rfl, trivial⟩, ⟨flat_toks _, trivial, trivial⟩, hK⟩
    · rw [decide_eq_false hp]
      refine NOT_f ?_
      rw [if_pos (by omega)] at hK
      exact ⟨[.fresh _ _ _, .pv _], ⟨⟨rfl, rfl, rfl, rfl⟩, rfl, trivial⟩, ⟨by simp [RV.flat1], trivial, trivial⟩, hK⟩

theorem meets_Decode : Meets (ctxOf [(n_compress_opened, S_opened), (n_compress_tokens, S_tokensP), (n_compress_expanded, S_expanded)]) s_compress_Decode c_compress_Decode r_compress_Decode S_decode := by
  rintro _ K ⟨s, rfl, hs, hK⟩
  have hw := wordV_lt s
  unfold decN at hK
  refine ⟨s, true, rfl, hs, fun h2 => ?_, fun h2 => ⟨fun h3 => ?_, fun h3 => ⟨fun h4 => ?_, fun h4 => ?_⟩⟩⟩
  · rw [if_pos h2] at hK
    refine fun b hb => ?_
    rcases cmp hb with ⟨rfl, h⟩ | ⟨rfl, h⟩
    · exact ⟨[.pv (.str _), .pv _], ⟨rfl, rfl, trivial⟩, ⟨trivial, trivial, trivial⟩, hK⟩
    · exact absurd (by decide) h
  · rw [if_neg (by omega), if_pos h3] at hK
    refine fun b hb => ?_
    rcases cmp hb with ⟨rfl, h⟩ | ⟨rfl, h⟩
    · exact ⟨[.pv (.str _), .pv _], ⟨rfl, rfl, trivial⟩, ⟨trivial, trivial, trivial⟩, hK⟩
    · exact absurd (by decide) h
  · rw [if_neg (by omega), if_neg (by omega), if_pos (by rcases h4 with h4 | ⟨_, h4⟩ <;> omega)] at hK
    refine fun b hb => ?_
    rcases cmp hb with ⟨rfl, h⟩ | ⟨rfl, h⟩
    · exact ⟨[.pv (.str _), .pv _], ⟨rfl, rfl, trivial⟩, ⟨trivial, trivial, trivial⟩, hK⟩
    · exact absurd (by decide) h
  · have h5 : ¬ s.length - 2 < wordV s % 4096 + 1 := fun h => h4 (.inl h)
    have h6 : ¬ wordV s % 4096 + 1 < s.length - 2 := fun h => h4 (.inr ⟨rfl, h⟩)
    rw [if_neg (by omega), if_neg (by omega), if_neg (by omega)] at hK
    have et : (s.drop 2).take (wordV s % 4096 + 1) = s.drop 2 := List.take_of_length_le (by rw [List.length_drop]; omega)
    rw [et]
    refine fun b hb => ?_
    rcases cmp hb with ⟨rfl, h⟩ | ⟨rfl, h⟩
    · exact absurd rfl h
    by_cases hp : 32768 ≤ wordV s
    · rw [decide_eq_true hp]
      refine NOT_t ?_
      rw [if_neg (by omega)] at hK
      refine ⟨s.drop 2, rfl, by rw [List.length_drop]; omega, ?_⟩
      rw [← resN_same gRef gPro g_same]
      refine fun b hb => ?_
      rcases cmp hb with ⟨rfl, h⟩ | ⟨rfl, h⟩
      · rw [if_pos h] at hK
        exact ⟨[.pv (.str _), .pv _], ⟨rfl, rfl, trivial⟩, ⟨trivial, trivial, trivial⟩, hK⟩
      · rw [if_neg h] at hK
        refine ⟨_, rfl, resN_ok (Decidable.of_not_not h), ?_⟩
        exact ⟨[.pv (.str _), .pv _], ⟨rfl, rfl, trivial⟩, ⟨trivial, trivial, trivial⟩, hK⟩
    · rw [decide_eq_false hp]
      refine NOT_f ?_
      rw [if_pos (by omega)] at hK
      exact ⟨[.pv (.str _), .pv _], ⟨rfl, rfl, trivial⟩, ⟨trivial, trivial, trivial⟩, hK⟩

theorem meets_lawDecodes : Meets (ctxOf [(n_law06_awake, fnSpec R_true0), (n_compress_TokensOf, S_toksOf), (n_compress_Decode, S_decode), (n_ref06_TokensOf, S_toksOf), (n_ref06_Decode, S_decode), (n_ref06_SameTokens, fnSpec R_ref06_SameTokens)]) s_law06_CompressDecodes c_law06_CompressDecodes r_law06_CompressDecodes (fnSpec R_lawD) := by
  rintro _ K ⟨_, ⟨s, rfl, rfl⟩, hK⟩
  refine ⟨_, ⟨rfl, rfl⟩, ?_⟩
  refine NOT_t ?_
  refine fun b hb => ?_
  rcases cmp hb with ⟨rfl, h⟩ | ⟨rfl, h⟩
  · exact ⟨.pv (pB true), rfl, trivial, hK⟩
  refine ⟨s, rfl, by omega, ?_⟩
  refine ⟨s, rfl, by omega, ?_⟩
  refine ⟨s, rfl, by omega, ?_⟩
  refine ⟨s, rfl, by omega, ?_⟩
  refine fun b hb => ?_
  rcases cmp hb with ⟨rfl, h⟩ | ⟨rfl, h⟩
  case inr => exact absurd rfl h
  refine ⟨pB true, ⟨(toksOfN s).1, (toksOfN s).1, rfl, by simp⟩, ?_⟩
  refine fun b hb => ?_
  rcases cmp hb with ⟨rfl, h⟩ | ⟨rfl, h⟩
  case inr => exact absurd rfl h
  refine fun b hb => ?_
  rcases cmp hb with ⟨rfl, h⟩ | ⟨rfl, h⟩
  case inr => exact absurd rfl h
  exact ⟨.pv (pB true), rfl, trivial, hK⟩
end Go.Dv.Try
end
