/-
  A part of the proof: own texts, laid together by a tool of our own: P06i G06b G06c G06d P06j G06e G06f G06g G06h G06i G06j G06k P06k G06l G06m.
-/
import Derived.Test.YtklihepoaoceoaaWalks2
section
/-
  Plain laws of chapter 6: none is smaller.
-/
namespace Go.Dv.Try
open Go Go.Dv

/-- The bits that tokens take. -/
def bitsN : List Tok → Int
  | [] => 0
  | t :: l => (if t.d ≠ 0 then 17 else 9) + bitsN l

/-- Tokens whose copies are no longer than the best match, up to the end. -/
def Mk (D : List UInt8) : List Tok → Nat → Prop
  | [], a => a = D.length
  | t :: l, a => a < D.length ∧ (t.d ≠ 0 → 3 ≤ t.l ∧ t.l.toNat ≤ (bestN D a).2) ∧ Mk D l (a + t.made.toNat)

theorem minRun_at (t : List Int) : ∀ (m n k : Nat) (o : Int), n ≤ k → k < n + m → minRun t m n o ≤ 17 + t.getD (k - 1) 0 := by
  intro m
  induction m with
  | zero => intro n k o h1 h2; omega
  | succ m ih =>
    intro n k o h1 h2
    unfold minRun
    by_cases he : n = k
    · subst he
      have := minRun_le t m (n + 1) (min o (17 + t.getD (n - 1) 0)); omega
    · exact ih _ _ _ (by omega) (by omega)

theorem costs_end (d : List UInt8) : (costsN d).getD d.length 0 = 0 := by
  have h : ((costsN d).drop d.length)[0]? = (costsN d)[d.length]? := by simp
  rw [List.getD_eq_getElem?_getD, ← h]
  unfold costsN
  rw [costsT_drop d _ _ (Nat.le_refl _), Nat.sub_self]; rfl

theorem costs_get (d : List UInt8) (a : Nat) (h : a < d.length) : (costsN d).getD a 0 = costT d a ((costsN d).drop (a + 1)) := by
  rw [List.getD_eq_getElem?_getD, costsN_at d a h]; rfl

theorem cost_le (D : List UInt8) : ∀ (l : List Tok) (a : Nat), Mk D l a → (costsN D).getD a 0 ≤ bitsN l := by
  intro l
  induction l with
  | nil => intro a h; simp only [Mk] at h; subst h; rw [costs_end]; simp [bitsN]
  | cons t l ih =>
    intro a h
    obtain ⟨h1, h2, h3⟩ := h
    have h4 := ih _ h3
    rw [costs_get D a h1]
    unfold costT
    simp only [bitsN]
    by_cases hd : t.d ≠ 0
    · obtain ⟨h5, h6⟩ := h2 hd
      have hm : t.made = t.l := by unfold Tok.made; rw [if_pos hd]
      rw [hm] at h4
      have h7 := minRun_at ((costsN D).drop (a + 1)) ((bestN D a).2 - 2) 3 t.l.toNat (9 + ((costsN D).drop (a + 1)).getD 0 0) (by omega) (by omega)
      rw [getD_drop1 _ _ _ (by omega)] at h7
      rw [if_pos hd]; omega
    · have hm : t.made = 1 := by unfold Tok.made; rw [if_neg hd]
      rw [hm] at h4
      have h7 := minRun_le ((costsN D).drop (a + 1)) ((bestN D a).2 - 2) 3 (9 + ((costsN D).drop (a + 1)).getD 0 0)
      have h8 := getD_drop1 (costsN D) a 1 (Nat.le_refl _)
      rw [show (1 : Nat) - 1 = 0 from rfl] at h8
      rw [h8] at h7 ⊢
      rw [if_neg hd]
      rw [show a + Int.toNat 1 = a + 1 from rfl] at h4
      omega

theorem mrun_ge (d : List UInt8) (a k : Nat) : ∀ (m n q : Nat), q ≤ m → (∀ b, n ≤ b → b < n + q → d[a + b]? = d[a + b - k]?) → n + q ≤ mrun d a k n m := by
  intro m
  induction m with
  | zero => intro n q h _; have : q = 0 := by omega
            subst this; simp [mrun]
  | succ m ih =>
    intro n q h hb
    cases q with
    | zero => have := (mrun_le d a k (m + 1) n).1; omega
    | succ q =>
      unfold mrun
      rw [if_pos (hb n (Nat.le_refl _) (by omega))]
      have := ih (n + 1) q (by omega) (fun b h1 h2 => hb b (by omega) (by omega))
      omega

theorem bestRun_ge (d : List UInt8) (a : Nat) : ∀ (m k dist most : Nat), most ≤ roomN d a → most ≤ (bestRun d a m k dist most).2 ∧ ∀ q, k ≤ q → q < k + m → matchN d a q ≤ (bestRun d a m k dist most).2 := by
  intro m
  induction m with
  | zero => intro k dist most _; exact ⟨Nat.le_refl _, fun q h1 h2 => by omega⟩
  | succ m ih =>
    intro k dist most h
    unfold bestRun
    split
    · split
      · have h1 := ih (k + 1) k (matchN d a k) (matchN_le d a k)
        refine ⟨by omega, fun q hq1 hq2 => ?_⟩
        by_cases he : q = k
        · subst he; exact h1.1
        · exact h1.2 q (by omega) (by omega)
      · have h1 := ih (k + 1) dist most h
        refine ⟨h1.1, fun q hq1 hq2 => ?_⟩
        by_cases he : q = k
        · subst he; omega
        · exact h1.2 q (by omega) (by omega)
    · refine ⟨Nat.le_refl _, fun q _ _ => ?_⟩
      have := matchN_le d a q
      simp only; omega

theorem bestN_ge (d : List UInt8) (a k : Nat) (h1 : 1 ≤ k) (h2 : k ≤ a) : matchN d a k ≤ (bestN d a).2 := (bestRun_ge d a a 1 0 0 (Nat.zero_le _)).2 k h1 (by omega)

/-- What is there stays in front. -/
theorem copyOut_get : ∀ (n d : Nat) (out : List UInt8), (∀ i, i < out.length → (copyOut n d out)[i]? = out[i]?) ∧ (1 ≤ d → d ≤ out.length → ∀ j, j < n → (copyOut n d out)[out.length + j]? = (copyOut n d out)[out.length + j - d]?) := by
  intro n
  induction n with
  | zero => intro d out; exact ⟨fun _ _ => rfl, fun _ _ j hj => by omega⟩
  | succ n ih =>
    intro d out
    have h := ih d (out ++ [out[out.length - d]?.getD 0])
    rw [List.length_append, List.length_cons, List.length_nil] at h
    refine ⟨fun i hi => ?_, fun hd hdo j hj => ?_⟩
    · show (copyOut n d (out ++ [out[out.length - d]?.getD 0]))[i]? = _
      rw [h.1 i (by omega), List.getElem?_append_left hi]
    · show (copyOut n d (out ++ [out[out.length - d]?.getD 0]))[out.length + j]? = (copyOut n d (out ++ [out[out.length - d]?.getD 0]))[out.length + j - d]?
      cases j with
      | zero =>
        rw [h.1 _ (by omega), h.1 _ (by omega), Nat.add_zero, List.getElem?_append_right (Nat.le_refl _), Nat.sub_self, List.getElem?_append_left (by omega), List.getElem?_eq_getElem (show out.length - d < out.length by omega)]
        rfl
      | succ j =>
        have := h.2 hd (by omega) j (by omega)
        rw [show out.length + (j + 1) = out.length + (0 + 1) + j by omega]
        exact this

theorem expT_get {t : Tok} (out : List UInt8) : ∀ i, i < out.length → (expT t out)[i]? = out[i]? := by
  intro i hi
  unfold expT
  split
  · exact (copyOut_get _ _ _).1 i hi
  · exact List.getElem?_append_left hi
theorem expRun_get : ∀ (l : List Tok) (out : List UInt8) (a : Nat), ToksOk l a → ∀ i, i < out.length → (expRun l out)[i]? = out[i]? := by
  intro l
  induction l with
  | nil => intro out a _ i _; rfl
  | cons t l ih =>
    intro out a h i hi
    simp only [expRun]
    rw [ih _ _ h.2 i (by rw [expT_len h.1]; omega), expT_get out i hi]

/-- Valid tokens. -/
theorem mk_toks : ∀ (l : List Tok) (out : List UInt8), ToksOk l out.length → Mk (expRun l out) l out.length := by
  intro l
  induction l with
  | nil => intro out _; rfl
  | cons t l ih =>
    intro out h
    obtain ⟨h1, h2⟩ := h
    have hm := tok_made h1
    have hl := expT_len h1 out
    have h2' : ToksOk l (expT t out).length := by rw [hl]; exact h2
    have h3 := ih (expT t out) h2'
    have hlen := expRun_len l (expT t out) _ h2'
    have hpos : (expT t out).length ≤ posT l (expT t out).length := by
      have : ∀ (l : List Tok) (a : Nat), a ≤ posT l a := by
        intro l
        induction l with
        | nil => intro a; exact Nat.le_refl _
        | cons t l ih => intro a; have := ih (a + t.made.toNat); simp only [posT]; omega
      exact this _ _
    show Mk (expRun l (expT t out)) (t :: l) out.length
    refine ⟨by omega, fun hd => ?_, by rw [← hl]; exact h3⟩
    have h1' := h1
    unfold TokOk at h1'
    rw [if_pos hd] at h1'
    have hmd : t.made = t.l := by unfold Tok.made; rw [if_pos hd]
    refine ⟨by omega, Nat.le_trans ?_ (bestN_ge _ _ t.d.toNat (by omega) (by omega))⟩
    unfold matchN
    have he : expT t out = copyOut t.l.toNat t.d.toNat out := by unfold expT; rw [if_pos hd]
    have := mrun_ge (expRun l (expT t out)) out.length t.d.toNat (roomN (expRun l (expT t out)) out.length) 0 t.l.toNat (by unfold roomN; omega) (fun b _ hb => ?_)
    · omega
    · rw [expRun_get l _ _ h2' _ (by omega), expRun_get l _ _ h2' _ (by omega), he]
      exact (copyOut_get _ _ _).2 (by omega) (by omega) b (by omega)

theorem costs_min (l : List Tok) (h : ToksOk l 0) : (costsN (expN l)).getD 0 0 ≤ bitsN l := cost_le _ _ _ (mk_toks l [] h)

theorem bits_opt (d : List UInt8) : ∀ (m a : Nat), a + m = d.length → bitsN (optRun d (costsN d) m a) = (costsN d).getD a 0 := by
  intro m
  induction m using Nat.strongRecOn with
  | _ m ih =>
    intro a hm
    cases m with
    | zero =>
      have : a = d.length := by omega
      subst this
      rw [costs_end]; rfl
    | succ m =>
      have hmade := optAt_made d a (by omega)
      rw [optRun_step d m a hm]
      simp only [bitsN]
      rw [ih _ (by omega) _ (by omega)]
      unfold optAt
      by_cases hne : 9 + (costsN d).getD (a + 1) 0 ≠ (costsN d).getD a 0
      · rw [if_pos hne]
        have h1 := opt_find d a (by omega) hne
        have h2 := near_pos d a _ (by omega) h1.2.1
        have hd : (copyN (nearN d a (findRun (costsN d) a (d.length - a) 3), findRun (costsN d) a (d.length - a) 3)).d ≠ 0 := by simp only [copyN]; omega
        have hml : (copyN (nearN d a (findRun (costsN d) a (d.length - a) 3), findRun (costsN d) a (d.length - a) 3)).made = (findRun (costsN d) a (d.length - a) 3 : Nat) := by
          unfold Tok.made; rw [if_pos hd]; rfl
        rw [if_pos hd, hml, Int.toNat_natCast]
        exact h1.2.2.2
      · rw [if_neg hne]
        have hd : ¬ (litN d a).d ≠ 0 := by simp [litN]
        have hml : (litN d a).made = 1 := by unfold Tok.made; rw [if_neg hd]
        rw [if_neg hd, hml]
        exact Decidable.of_not_not hne
theorem costs_opt (d : List UInt8) : bitsN (optN d) = (costsN d).getD 0 0 := bits_opt d _ 0 (by omega)
end Go.Dv.Try
end
section
/-
  Contracts of chapter 6: bits of tokens; none is smaller.
-/
namespace Go.Dv.Try
open Go Go.Dv

end Go.Dv.Try
end
section
/-
  Contracts of chapter 6: words, parts of a chunk.
-/
namespace Go.Dv.Try
open Go Go.Dv

/-- The first two bytes, the lower one first. -/
def wordV (s : List UInt8) : Nat := (s[0]?.getD 0).toNat + 256 * (s[1]?.getD 0).toNat
theorem wordV_lt (s : List UInt8) : wordV s < 65536 := by
  have h1 := (s[0]?.getD 0).toNat_lt
  have h2 := (s[1]?.getD 0).toNat_lt
  unfold wordV; omega

def R_wordAt (ps : List PV) (x : PV) : Prop := ∃ s : List UInt8, ps = [.str s] ∧ 2 ≤ s.length ∧ x = pI (wordV s)
theorem meets_wordAt : Meets (ctxOf []) s_compress_wordAt c_compress_wordAt r_compress_wordAt (fnSpec R_wordAt) := by
  rintro _ K ⟨_, ⟨s, rfl, hs, rfl⟩, hK⟩
  obtain ⟨b0, h0⟩ : ∃ b, s[0]? = some b := by rw [List.getElem?_eq_getElem (by omega)]; exact ⟨_, rfl⟩
  obtain ⟨b1, h1⟩ : ∃ b, s[1]? = some b := by rw [List.getElem?_eq_getElem (by omega)]; exact ⟨_, rfl⟩
  have l0 := b0.toNat_lt
  have l1 := b1.toNat_lt
  refine ⟨by kernel_rfl, ?_⟩
  refine ⟨_, ⟨by omega, h0⟩, ?_⟩
  refine fun x hx => ?_
  have hx := n64 hx (by omega)
  rw [hx]
  refine ⟨_, ⟨by omega, h1⟩, ?_⟩
  refine fun y hy => ?_
  have hy := n64 hy (by omega)
  rw [hy]
  refine ⟨by omega, ?_⟩
  refine fun z hz => ?_
  have e : ((b1.toNat : Int).toNat * 2 ^ (Int.toNat 8) : Nat) = 2 ^ 8 * b1.toNat := by rw [Int.toNat_natCast, Nat.mul_comm]; rfl
  rw [shl64 (by omega) (by omega) (by rw [e]; omega)] at hz
  subst hz
  refine fun q hq => ?_
  rw [e, or64 (by omega) (by omega), or_add (by omega)] at hq
  subst hq
  refine ⟨.pv (pI _), pI_eq ?_, trivial, hK⟩
  unfold wordV
  rw [h0, h1]; rfl

theorem high_bit {w : Nat} (h : w < 65536) : w &&& 32768 ≠ 0 ↔ 32768 ≤ w := by
  have h1 : w.testBit 15 = decide (w / 2 ^ 15 % 2 = 1) := Nat.testBit_eq_decide_div_mod_eq ..
  have e : (32768 : Nat) = 2 ^ 15 := rfl
  constructor
  · intro hn
    refine Decidable.of_not_not fun hlt => hn ?_
    have h2 : w.testBit 15 = false := by rw [h1, decide_eq_false_iff_not]; omega
    apply Nat.eq_of_testBit_eq
    intro j
    rw [e, Nat.testBit_and, Nat.testBit_two_pow, Nat.zero_testBit]
    by_cases hj : 15 = j
    · subst hj; rw [h2]; rfl
    · simp [hj]
  · intro hle hz
    have h2 : w.testBit 15 = true := by rw [h1, decide_eq_true_iff]; omega
    have h3 : (w &&& 32768).testBit 15 = true := by rw [e, Nat.testBit_and, Nat.testBit_two_pow, h2]; rfl
    rw [hz, Nat.zero_testBit] at h3
    cases h3

def S_opened : Spec := mkS true false fun ps K => ∃ (s : List UInt8) (ex : Bool), ps = [.str s, pB ex] ∧ s.length ≤ 5000 ∧
  (s.length < 2 → K (.tup [.pv (.str []), .pv (pB false), .pv (pI 14)])) ∧
  (2 ≤ s.length → (wordV s / 4096 % 8 ≠ 3 → K (.tup [.pv (.str []), .pv (pB (decide (32768 ≤ wordV s))), .pv (pI 3)])) ∧
    (wordV s / 4096 % 8 = 3 → (s.length - 2 < wordV s % 4096 + 1 ∨ (ex = true ∧ wordV s % 4096 + 1 < s.length - 2) → K (.tup [.pv (.str []), .pv (pB (decide (32768 ≤ wordV s))), .pv (pI 10)])) ∧
      (¬ (s.length - 2 < wordV s % 4096 + 1 ∨ (ex = true ∧ wordV s % 4096 + 1 < s.length - 2)) → K (.tup [.pv (.str ((s.drop 2).take (wordV s % 4096 + 1))), .pv (pB (decide (32768 ≤ wordV s))), .pv (pI 0)]))))
theorem meets_opened : Meets (ctxOf [(n_compress_wordAt, fnSpec R_wordAt), (n_compress_unless, fnSpec R_compress_unless)]) s_compress_opened c_compress_opened r_compress_opened S_opened := by
  rintro _ K ⟨s, ex, rfl, hs, hK1, hK2⟩
  refine fun b hb => ?_
  rcases cmp hb with ⟨rfl, h⟩ | ⟨rfl, h⟩
  · exact ⟨[.pv (.str _), .pv (pB _), .pv _], ⟨rfl, rfl, rfl, trivial⟩, ⟨trivial, trivial, trivial, trivial⟩, hK1 (by omega)⟩
  have h2 : 2 ≤ s.length := by omega
  have hK := hK2 h2
  have hw := wordV_lt s
  refine ⟨_, ⟨s, rfl, h2, rfl⟩, ?_⟩
  refine fun x hx => ?_
  rw [show (4095 : Int) = ((4095 : Nat) : Int) from rfl, and64 (by omega) (by decide), show (4095 : Nat) = 2 ^ 12 - 1 from rfl, and_mod] at hx
  subst hx
  refine fun x hx => ?_
  obtain rfl := n64 hx (by omega)
  refine ⟨by omega, ?_⟩
  have e9 : cut (Int.toNat 2) s.length s = s.drop 2 := cut_drop 2 s
  refine ⟨by omega, ?_⟩
  refine fun x hx => ?_
  have hx : x = ((wordV s / 4096 : Nat) : Int) := by
    rw [hx]
    show ((wordV s : Nat) : Int).fdiv (2 ^ 12) = _
    rw [Int.fdiv_eq_ediv_of_nonneg _ (by decide)]; rfl
  subst hx
  refine fun x hx => ?_
  rw [show (7 : Int) = ((7 : Nat) : Int) from rfl, and64 (by omega) (by decide), show (7 : Nat) = 2 ^ 3 - 1 from rfl, and_mod] at hx
  subst hx
  refine fun b3 hb3 => ?_
  refine ⟨_, ⟨b3, 3, rfl, rfl⟩, ?_⟩
  refine fun x hx => ?_
  rw [show (32768 : Int) = ((32768 : Nat) : Int) from rfl, and64 (by omega) (by decide)] at hx
  have h15 := high_bit (wordV_lt s)
  subst hx
  refine fun c hc => ?_
  have hcd : c = decide (32768 ≤ wordV s) := by
    rw [Bool.eq_iff_iff, hc, decide_eq_true_iff, ← h15]
    omega
  subst hcd
  refine fun b hb => ?_
  rcases cmp hb3 with ⟨rfl, h3⟩ | ⟨rfl, h3⟩
  · rcases cmp hb with ⟨rfl, h⟩ | ⟨rfl, h⟩
    · exact absurd rfl h
    have hK := hK.2 (by omega)
    refine fun b hb => ?_
    rw [e9, List.length_drop] at hb
    rcases cmp hb with ⟨rfl, h4⟩ | ⟨rfl, h4⟩
    · exact ⟨[.pv (.str _), .pv (pB _), .pv _], ⟨rfl, rfl, rfl, trivial⟩, ⟨trivial, trivial, trivial, trivial⟩, hK.1 (.inl (by omega))⟩
    have ecut : cut 0 (((wordV s % 2 ^ 12 : Nat) : Int) + 1).toNat (cut (Int.toNat 2) s.length s) = (s.drop 2).take (wordV s % 4096 + 1) := by
      rw [e9, cut_take, show (((wordV s % 2 ^ 12 : Nat) : Int) + 1).toNat = wordV s % 4096 + 1 by omega]
    cases ex with
    | false =>
      have hK := hK.2 (by rintro (h5 | ⟨h5, _⟩); omega; cases h5)
      rw [← ecut] at hK
      refine ⟨⟨by omega, by rw [e9, List.length_drop]; omega⟩, ?_⟩
      exact ⟨[.pv (.str _), .pv (pB _), .pv _], ⟨rfl, rfl, rfl, trivial⟩, ⟨trivial, trivial, trivial, trivial⟩, hK⟩
    | true =>
      refine fun b hb => ?_
      rw [e9, List.length_drop] at hb
      rcases cmp hb with ⟨rfl, h5⟩ | ⟨rfl, h5⟩
      · exact ⟨[.pv (.str _), .pv (pB _), .pv _], ⟨rfl, rfl, rfl, trivial⟩, ⟨trivial, trivial, trivial, trivial⟩, hK.1 (.inr ⟨rfl, by omega⟩)⟩
      have hK := hK.2 (by rintro (h6 | ⟨_, h6⟩); omega; omega)
      rw [← ecut] at hK
      refine ⟨⟨by omega, by rw [e9, List.length_drop]; omega⟩, ?_⟩
      exact ⟨[.pv (.str _), .pv (pB _), .pv _], ⟨rfl, rfl, rfl, trivial⟩, ⟨trivial, trivial, trivial, trivial⟩, hK⟩
  · rcases cmp hb with ⟨rfl, h⟩ | ⟨rfl, h⟩
    · exact ⟨[.pv (.str _), .pv (pB _), .pv _], ⟨rfl, rfl, rfl, trivial⟩, ⟨trivial, trivial, trivial, trivial⟩, hK.1 (by omega)⟩
    · exact absurd (by decide) h
end Go.Dv.Try
end
section
/-
  Contracts of chapter 6: numbers of bytes, parts of a chunk in the reference.
-/
namespace Go.Dv.Try
open Go Go.Dv

end Go.Dv.Try
end
section
/-
  Plain laws of chapter 6: tokens of bytes.
-/
namespace Go.Dv.Try
open Go Go.Dv

/-- A copy of a word, with so many bits for the length. -/
def copyT (g w : Nat) : Tok := ⟨((w / 2 ^ g + 1 : Nat) : Int), ((w % 2 ^ g + 3 : Nat) : Int), 0⟩
def litT (s : List UInt8) : Tok := ⟨0, 0, ((s[0]?.getD 0).toNat : Int)⟩
def word2 (s : List UInt8) : Nat := (s[0]?.getD 0).toNat + 256 * (s[1]?.getD 0).toNat

/-- The tokens of bytes, with so many signs left of a group; an error, or 0. -/
def tokRun (g : Nat → Nat) : Nat → Nat → Nat → List UInt8 → Nat → Int × List Tok
  | 0, _, _, _, _ => (0, [])
  | n + 1, 0, _, s, a => if s = [] then (0, []) else if s.length = 1 then (14, []) else tokRun g n 8 (s[0]?.getD 0).toNat (s.drop 1) a
  | n + 1, left + 1, f, s, a =>
    if s = [] then (if f ≠ 0 then (3, []) else (0, []))
    else if f % 2 = 1 then
      (if s.length < 2 then (14, []) else ((tokRun g n left (f / 2) (s.drop 2) (a + (copyT (g a) (word2 s)).made.toNat)).1, copyT (g a) (word2 s) :: (tokRun g n left (f / 2) (s.drop 2) (a + (copyT (g a) (word2 s)).made.toNat)).2))
    else ((tokRun g n left (f / 2) (s.drop 1) (a + 1)).1, litT s :: (tokRun g n left (f / 2) (s.drop 1) (a + 1)).2)

/-- Whether there is an error does not depend on positions. -/
theorem tokRun_err (g h : Nat → Nat) : ∀ (n left f : Nat) (s : List UInt8) (a b : Nat), (tokRun g n left f s a).1 = (tokRun h n left f s b).1 := by
  intro n
  induction n with
  | zero => intro left f s a b; rfl
  | succ n ih =>
    intro left f s a b
    cases left with
    | zero =>
      simp only [tokRun]
      split
      · rfl
      · split
        · rfl
        · exact ih _ _ _ _ _
    | succ left =>
      simp only [tokRun]
      split
      · rfl
      · split
        · split
          · rfl
          · exact ih _ _ _ _ _
        · exact ih _ _ _ _ _

theorem tokErr_end {t : Tok} {a : Nat} (h : 4096 ≤ a) : tokErr t a = 8 := by unfold tokErr; rw [if_pos h]

/-- What is checked does not depend on the tokens that come too late. -/
theorem tokRun_same (g h : Nat → Nat) (hgh : ∀ a, a < 4096 → g a = h a) : ∀ (n left f : Nat) (s : List UInt8) (a i : Nat), checkRun (tokRun g n left f s a).2 i a = checkRun (tokRun h n left f s a).2 i a ∧ ((checkRun (tokRun g n left f s a).2 i a).2 = 0 → (tokRun g n left f s a).2 = (tokRun h n left f s a).2) ∧ ((tokRun g n left f s a).2 = [] ↔ (tokRun h n left f s a).2 = []) := by
  intro n
  induction n with
  | zero => intro left f s a i; exact ⟨rfl, fun _ => rfl, Iff.rfl⟩
  | succ n ih =>
    intro left f s a i
    have step : ∀ (t u : Tok) (s' : List UInt8), (a < 4096 → t = u) →
        checkRun (t :: (tokRun g n left.pred (f / 2) s' (a + t.made.toNat)).2) i a = checkRun (u :: (tokRun h n left.pred (f / 2) s' (a + u.made.toNat)).2) i a ∧ ((checkRun (t :: (tokRun g n left.pred (f / 2) s' (a + t.made.toNat)).2) i a).2 = 0 → t :: (tokRun g n left.pred (f / 2) s' (a + t.made.toNat)).2 = u :: (tokRun h n left.pred (f / 2) s' (a + u.made.toNat)).2) := by
      intro t u s' htu
      by_cases ha : a < 4096
      · have := htu ha
        subst this
        simp only [checkRun]
        split
        · rename_i he
          exact ⟨rfl, fun h0 => absurd h0 he⟩
        · have h1 := ih left.pred (f / 2) s' (a + t.made.toNat) (i + 1)
          exact ⟨h1.1, fun h0 => by rw [h1.2.1 h0]⟩
      · simp only [checkRun, tokErr_end (t := t) (a := a) (by omega), tokErr_end (t := u) (a := a) (by omega)]
        exact ⟨rfl, fun h0 => by cases h0⟩
    cases left with
    | zero =>
      simp only [tokRun]
      split
      · exact ⟨rfl, fun _ => rfl, Iff.rfl⟩
      · split
        · exact ⟨rfl, fun _ => rfl, Iff.rfl⟩
        · exact ih _ _ _ _ _
    | succ left =>
      simp only [tokRun]
      split
      · exact ⟨rfl, fun _ => by split <;> rfl, by split <;> exact Iff.rfl⟩
      · split
        · split
          · exact ⟨rfl, fun _ => rfl, Iff.rfl⟩
          · have := step (copyT (g a) (word2 s)) (copyT (h a) (word2 s)) (s.drop 2) (fun ha => by rw [hgh a ha])
            exact ⟨this.1, this.2, by simp⟩
        · have := step (litT s) (litT s) (s.drop 1) (fun _ => rfl)
          have e : (litT s).made.toNat = 1 := rfl
          rw [e] at this
          exact ⟨this.1, this.2, by simp⟩

/-- The tokens, or the error. -/
def resN (g : Nat → Nat) (s : List UInt8) : List Tok × Int :=
  if (tokRun g (s.length + 1) 0 0 s 0).1 ≠ 0 then ([], (tokRun g (s.length + 1) 0 0 s 0).1)
  else if (checkN (tokRun g (s.length + 1) 0 0 s 0).2).2 ≠ 0 then ([], (checkN (tokRun g (s.length + 1) 0 0 s 0).2).2) else ((tokRun g (s.length + 1) 0 0 s 0).2, 0)

theorem resN_same (g h : Nat → Nat) (hgh : ∀ a, a < 4096 → g a = h a) (s : List UInt8) : resN g s = resN h s := by
  have h1 := tokRun_err g h (s.length + 1) 0 0 s 0 0
  have h2 := tokRun_same g h hgh (s.length + 1) 0 0 s 0 0
  unfold resN
  rw [h1]
  split
  · rfl
  · have hc : checkN (tokRun g (s.length + 1) 0 0 s 0).2 = checkN (tokRun h (s.length + 1) 0 0 s 0).2 := by
      unfold checkN
      by_cases he : (tokRun g (s.length + 1) 0 0 s 0).2 = []
      · rw [if_pos he, if_pos (h2.2.2.1 he)]
      · rw [if_neg he, if_neg (fun h => he (h2.2.2.2 h)), h2.1]
    rw [hc]
    split
    · rfl
    · rename_i h3
      have h3 := Decidable.of_not_not h3
      rw [← hc] at h3
      have : (checkRun (tokRun g (s.length + 1) 0 0 s 0).2 0 0).2 = 0 := by
        have h4 := checkN_zero h3
        unfold checkN at h3
        rw [if_neg h4.2.1] at h3
        exact h3
      rw [h2.2.1 this]

/-- More steps change nothing. -/
theorem tokRun_more (g : Nat → Nat) : ∀ (n left f : Nat) (s : List UInt8) (a : Nat), s.length < n → tokRun g (n + 1) left f s a = tokRun g n left f s a := by
  intro n
  induction n with
  | zero => intro left f s a h; omega
  | succ n ih =>
    intro left f s a h
    cases left with
    | zero =>
      rw [tokRun, tokRun]
      split
      · rfl
      · rename_i hs
        have hl : 0 < s.length := List.length_pos_iff.2 hs
        split
        · rfl
        · exact ih _ _ _ _ (by rw [List.length_drop]; omega)
    | succ left =>
      rw [tokRun, tokRun]
      split
      · rfl
      · rename_i hs
        have hl : 0 < s.length := List.length_pos_iff.2 hs
        split
        · split
          · rfl
          · rw [ih _ _ _ _ (by rw [List.length_drop]; omega)]
        · rw [ih _ _ _ _ (by rw [List.length_drop]; omega)]

def tokN (g : Nat → Nat) (left f : Nat) (s : List UInt8) (a : Nat) : Int × List Tok := tokRun g (s.length + 1) left f s a
theorem tokN_nil0 (g : Nat → Nat) (f a : Nat) : tokN g 0 f [] a = (0, []) := by unfold tokN; rw [tokRun, if_pos rfl]
theorem tokN_nil (g : Nat → Nat) (left f a : Nat) : tokN g (left + 1) f [] a = if f ≠ 0 then (3, []) else (0, []) := by unfold tokN; rw [tokRun, if_pos rfl]
theorem tokN_14 (g : Nat → Nat) (f a : Nat) {s : List UInt8} (h : s.length = 1) : tokN g 0 f s a = (14, []) := by
  unfold tokN; rw [tokRun, if_neg (by intro e; subst e; cases h), if_pos h]
theorem tokN_group (g : Nat → Nat) (f a : Nat) {s : List UInt8} (h : 2 ≤ s.length) : tokN g 0 f s a = tokN g 8 (s[0]?.getD 0).toNat (s.drop 1) a := by
  unfold tokN
  rw [tokRun, if_neg (by intro e; subst e; simp at h), if_neg (by omega), List.length_drop, show s.length - 1 + 1 = s.length by omega]
theorem tokN_copy14 (g : Nat → Nat) (left f a : Nat) {s : List UInt8} (h : s.length = 1) (hf : f % 2 = 1) : tokN g (left + 1) f s a = (14, []) := by
  unfold tokN; rw [tokRun, if_neg (by intro e; subst e; cases h), if_pos hf, if_pos (by omega)]
theorem tokN_copy (g : Nat → Nat) (left f a : Nat) {s : List UInt8} (h : 2 ≤ s.length) (hf : f % 2 = 1) :
    tokN g (left + 1) f s a = ((tokN g left (f / 2) (s.drop 2) (a + (copyT (g a) (word2 s)).made.toNat)).1, copyT (g a) (word2 s) :: (tokN g left (f / 2) (s.drop 2) (a + (copyT (g a) (word2 s)).made.toNat)).2) := by
  unfold tokN
  rw [tokRun, if_neg (by intro e; subst e; simp at h), if_pos hf, if_neg (by omega), List.length_drop]
  rw [← tokRun_more g (s.length - 2 + 1) left (f / 2) (s.drop 2) _ (by rw [List.length_drop]; omega), show s.length - 2 + 1 + 1 = s.length by omega]
theorem tokN_lit (g : Nat → Nat) (left f a : Nat) {s : List UInt8} (h : 1 ≤ s.length) (hf : ¬ f % 2 = 1) :
    tokN g (left + 1) f s a = ((tokN g left (f / 2) (s.drop 1) (a + 1)).1, litT s :: (tokN g left (f / 2) (s.drop 1) (a + 1)).2) := by
  unfold tokN
  rw [tokRun, if_neg (by intro e; subst e; simp at h), if_neg hf, List.length_drop, show s.length - 1 + 1 = s.length by omega]

theorem resN_tok (g : Nat → Nat) (s : List UInt8) : resN g s = if (tokN g 0 0 s 0).1 ≠ 0 then ([], (tokN g 0 0 s 0).1) else if (checkN (tokN g 0 0 s 0).2).2 ≠ 0 then ([], (checkN (tokN g 0 0 s 0).2).2) else ((tokN g 0 0 s 0).2, 0) := rfl

/-- What is left of the work, behind the tokens that there are. -/
def After (g : Nat → Nat) (s0 : List UInt8) (acc : List Tok) (left f : Nat) (s : List UInt8) (a : Nat) : Prop :=
  tokN g 0 0 s0 0 = ((tokN g left f s a).1, acc ++ (tokN g left f s a).2)

def gRef (a : Nat) : Nat := if a < 4096 then 16 - shiftN a else 16
def gPro (a : Nat) : Nat := 16 - shiftN (min a 4095)
theorem g_same (a : Nat) (h : a < 4096) : gRef a = gPro a := by unfold gRef gPro; rw [if_pos h, show min a 4095 = a by omega]
theorem gPro_le (a : Nat) : 4 ≤ gPro a ∧ gPro a ≤ 12 := by
  have h1 := shiftN_le (a := min a 4095) (by omega)
  have h2 := shiftN_ge (min a 4095)
  unfold gPro; omega
end Go.Dv.Try
end
section
/-
  Contracts of chapter 6: tokens of bytes in the reference.
-/
namespace Go.Dv.Try
open Go Go.Dv

end Go.Dv.Try
end
section
/-
  Contracts of chapter 6: tokens of bytes in the program.
-/
namespace Go.Dv.Try
open Go Go.Dv

theorem tokN_even (g : Nat → Nat) (l f a : Nat) (hf : f % 2 = 0) (hl : f < 2 ^ (l + 1)) : tokN g (l + 1) f [] a = tokN g l (f / 2) [] a := by
  cases l with
  | zero => rw [tokN_nil, tokN_nil0, if_neg (by simp at hl; omega)]
  | succ l =>
    rw [tokN_nil, tokN_nil]
    by_cases h : f = 0
    · subst h; rfl
    · rw [if_pos h, if_pos (by omega)]

def S_tokensP : Spec := mkS true false fun ps K => ∃ s : List UInt8, ps = [.str s] ∧ s.length ≤ 5000 ∧ K (.tup [.fresh T_api_CompressToken 3 ((resN gPro s).1.map Tok.pv), .pv (pI (resN gPro s).2)])
set_option maxHeartbeats 1000000 in
theorem meets_tokens : Meets (ctxOf [(n_compress_shift, fnSpec R_compress_shift), (n_compress_wordAt, fnSpec R_wordAt), (n_compress_made, fnSpec R_compress_made), (n_compress_CheckTokens, S_CheckTokens)]) s_compress_tokens c_compress_tokens r_compress_tokens S_tokensP := by
  rintro _ K ⟨s0, rfl, hs0, hK⟩
  refine ⟨fun m env σ => ∃ (acc : List Tok) (f a : Nat) (s : List UInt8), (s.length = m ∧ acc.length + s.length ≤ s0.length ∧ a ≤ 70000 * acc.length ∧ After gPro s0 acc 0 f s a) ∧ σ = [.row T_api_CompressToken 3 true (acc.map Tok.pv)] ∧ env = [(0, .pv (.str s)), (4, .own 0), (5, .pv (pI a))], s0.length, ⟨[], 0, 0, s0, ⟨rfl, by simp, by simp, by unfold After; simp⟩, rfl, rfl⟩, ?_⟩
  rintro m env σ ⟨acc, f, a, s, ⟨hm, hal, hab, haf⟩, rfl, rfl⟩
  refine fun b hb => ?_
  rcases cmp hb with ⟨rfl, hne⟩ | ⟨rfl, hne⟩
  · have hpos : 0 < s.length := List.length_pos_iff.2 hne
    obtain ⟨fb, hfb⟩ : ∃ v, s[0]? = some v := by rw [List.getElem?_eq_getElem hpos]; exact ⟨_, rfl⟩
    have hfl := fb.toNat_lt
    have hd1 : cut (Int.toNat 1) s.length s = s.drop 1 := cut_drop 1 s
    refine ⟨_, ⟨by omega, hfb⟩, ?_⟩
    refine ⟨by omega, ?_⟩
    refine fun b hb => ?_
    rw [hd1] at hb
    rcases cmp hb with ⟨rfl, he⟩ | ⟨rfl, he⟩
    · have hl1 : s.length = 1 := by
        have : (s.drop 1).length = 0 := by rw [he]; rfl
        rw [List.length_drop] at this; omega
      have h1 := tokN_14 gPro f a hl1
      unfold After at haf
      rw [h1] at haf
      rw [resN_tok, haf] at hK
      dsimp only at hK
      rw [if_pos (by decide)] at hK
      exact ⟨[.fresh _ _ _, .pv _], ⟨⟨rfl, rfl, rfl, rfl⟩, rfl, trivial⟩, ⟨by simp [RV.flat1], trivial, trivial⟩, hK⟩
    have hl2 : 2 ≤ s.length := by
      have : 0 < (s.drop 1).length := List.length_pos_iff.2 he
      rw [List.length_drop] at this; omega
    have haf : After gPro s0 acc 8 (fb.toNat / 2 ^ 0) (s.drop 1) a := by
      unfold After at haf ⊢
      rw [tokN_group gPro f a hl2, hfb] at haf
      simpa using haf
    refine ⟨fun m2 env σ => ∃ (acc : List Tok) (a k : Nat) (q : List UInt8), (k + m2 = 8 ∧ q.length < m ∧ acc.length + q.length ≤ s0.length ∧ a ≤ 70000 * acc.length ∧ After gPro s0 acc (8 - k) (fb.toNat / 2 ^ k) q a) ∧ σ = [.row T_api_CompressToken 3 true (acc.map Tok.pv)] ∧ env = [(0, .pv (.str q)), (4, .own 0), (5, .pv (pI a)), (6, .pv (byteP fb)), (22, .pv (pI k))], 8, ⟨acc, a, 0, s.drop 1, ⟨rfl, by rw [List.length_drop]; omega, by rw [List.length_drop]; omega, hab, haf⟩, rfl, ?_⟩, ?_⟩
    · show [(0, AV.pv (.str (cut (Int.toNat 1) s.length s))), (4, .own 0), (5, .pv (pI a)), (6, .pv (byteP fb)), (22, .pv (pI 0))] = _
      rw [hd1]; rfl
    clear haf hab hal hfb hl2 hd1
    rintro m2 env σ ⟨acc, a, k, q, ⟨hk, hqm, hal, hab, haf⟩, rfl, rfl⟩
    refine fun b hb => ?_
    rcases cmp hb with ⟨rfl, hk8⟩ | ⟨rfl, hk8⟩
    · obtain ⟨l, hl⟩ : ∃ l, 8 - k = l + 1 := ⟨7 - k, by omega⟩
      have hl' : 8 - (k + 1) = l := by omega
      have hfk : fb.toNat / 2 ^ (k + 1) = fb.toNat / 2 ^ k / 2 := by rw [Nat.div_div_eq_div_mul, Nat.pow_succ]
      have hfl2 : fb.toNat / 2 ^ k < 2 ^ (l + 1) := by
        rw [Nat.div_lt_iff_lt_mul (Nat.two_pow_pos k), ← Nat.pow_add, show l + 1 + k = 8 by omega]; omega
      have hfl3 : fb.toNat / 2 ^ k ≤ fb.toNat := Nat.div_le_self _ _
      rw [hl] at haf
      refine ⟨by omega, ?_⟩
      refine fun x hx => ?_
      have hx : x = ((fb.toNat / 2 ^ k : Nat) : Int) := by
        rw [hx]
        have e8 : min ((k : Int)).toNat IntKind.u8.bits = k := by
          have : IntKind.u8.bits = 8 := rfl
          omega
        rw [e8, show ((2 : Int) ^ k) = ((2 ^ k : Nat) : Int) by simp, Int.fdiv_eq_ediv_of_nonneg _ (Int.natCast_nonneg _)]; rfl
      subst hx
      generalize fb.toNat / 2 ^ k = fk at *
      refine fun x hx => ?_
      rw [show (1 : Int) = ((1 : Nat) : Int) from rfl, and8 (by omega) (by decide), show (1 : Nat) = 2 ^ 1 - 1 from rfl, and_mod] at hx
      subst hx
      refine fun b hb => ?_
      rcases cmp hb with ⟨rfl, hq⟩ | ⟨rfl, hq⟩
      · subst hq
        refine fun b hb => ?_
        rcases cmp hb with ⟨rfl, hbit⟩ | ⟨rfl, hbit⟩
        · unfold After at haf
          rw [tokN_nil, if_pos (by omega)] at haf
          rw [resN_tok, haf] at hK
          dsimp only at hK
          rw [if_pos (by decide)] at hK
          exact ⟨[.fresh _ _ _, .pv _], ⟨⟨rfl, rfl, rfl, rfl⟩, rfl, trivial⟩, ⟨by simp [RV.flat1], trivial, trivial⟩, hK⟩
        · refine fun y hy => ?_
          have hy := n64 hy (by omega)
          rw [hy]
          refine ⟨m2 - 1, by omega, acc, a, k + 1, [], ⟨by omega, hqm, hal, hab, ?_⟩, rfl, rfl⟩
          unfold After at haf ⊢
          rw [hl', hfk, haf, tokN_even gPro l fk a (by omega) hfl2]
      · have hqp : 0 < q.length := List.length_pos_iff.2 hq
        obtain ⟨v, hv⟩ : ∃ v, q[0]? = some v := by rw [List.getElem?_eq_getElem hqp]; exact ⟨_, rfl⟩
        have hvl := v.toNat_lt
        have hlit : litT q = ⟨0, 0, (v.toNat : Int)⟩ := by unfold litT; rw [hv]; rfl
        have hd1 : cut (Int.toNat 1) q.length q = q.drop 1 := cut_drop 1 q
        refine ⟨_, ⟨by omega, hv⟩, ?_⟩
        refine fun y hy => ?_
        have hy := n64 hy (by omega)
        rw [hy]
        refine ⟨rfl, ?_⟩
        refine ⟨rfl, ?_⟩
        refine fun b hb => ?_
        rcases cmp hb with ⟨rfl, hbit⟩ | ⟨rfl, hbit⟩
        · have hodd : fk % 2 = 1 := by omega
          refine fun b hb2 => ?_
          rcases cmp hb2 with ⟨rfl, h14⟩ | ⟨rfl, h14⟩
          · have h1 := tokN_copy14 gPro l fk a (s := q) (by omega) hodd
            unfold After at haf
            rw [h1] at haf
            rw [resN_tok, haf] at hK
            dsimp only at hK
            rw [if_pos (by decide)] at hK
            exact ⟨[.fresh _ _ _, .pv _], ⟨⟨rfl, rfl, rfl, rfl⟩, rfl, trivial⟩, ⟨by simp [RV.flat1], trivial, trivial⟩, hK⟩
          have hst := tokN_copy gPro l fk a (s := q) (by omega) hodd
          unfold After at haf
          rw [hst] at haf
          have hwl : word2 q < 65536 := wordV_lt _
          have hwv : wordV q = word2 q := rfl
          have hg := gPro_le a
          refine fun x hx => ?_
          have hx : x = ((min a 4095 : Nat) : Int) := by omega
          subst hx
          refine ⟨_, ⟨_, rfl, ⟨by omega, by omega⟩, rfl⟩, ?_⟩
          unfold shiftZ
          rw [Int.toNat_natCast]
          refine fun y hy => ?_
          have hgs : gPro a = 16 - shiftN (min a 4095) := rfl
          have hs := shiftN_le (a := min a 4095) (by omega)
          have hy := n64 hy (by omega)
          have hy : y = (gPro a : Nat) := by omega
          subst hy
          refine ⟨_, ⟨q, rfl, by omega, rfl⟩, ?_⟩
          rw [hwv]
          generalize word2 q = w at *
          have hpg := Nat.two_pow_pos (gPro a)
          have hpg2 : 2 ^ gPro a ≤ 2 ^ 12 := Nat.pow_le_pow_right (by omega) (by omega)
          have hpl : w / 2 ^ gPro a ≤ w := Nat.div_le_self _ _
          have hpm : w % 2 ^ gPro a ≤ w := Nat.mod_le _ _
          have hct : copyT (gPro a) w = ⟨((w / 2 ^ gPro a : Nat) : Int) + 1, ((w % 2 ^ gPro a : Nat) : Int) + 3, 0⟩ := rfl
          obtain ⟨qq, hqq⟩ : ∃ x, w / 2 ^ gPro a = x := ⟨_, rfl⟩
          obtain ⟨r, hr⟩ : ∃ x, w % 2 ^ gPro a = x := ⟨_, rfl⟩
          rw [hqq, hr] at hct
          rw [hqq] at hpl
          rw [hr] at hpm
          refine ⟨by kernel_rfl, ?_⟩
          refine ⟨by omega, ?_⟩
          refine fun y hy => ?_
          have hy : y = (qq : Int) := by
            rw [hy]
            have e8 : min ((gPro a : Nat) : Int).toNat IntKind.i64.bits = gPro a := by
              have : IntKind.i64.bits = 64 := rfl
              omega
            rw [e8, show ((2 : Int) ^ gPro a) = ((2 ^ gPro a : Nat) : Int) by simp, Int.fdiv_eq_ediv_of_nonneg _ (Int.natCast_nonneg _), ← hqq]; rfl
          subst hy
          refine fun y hy => ?_
          have hy := n64 hy (by omega)
          rw [hy]
          refine ⟨by omega, ?_⟩
          refine fun y hy => ?_
          have hy : y = ((2 ^ gPro a : Nat) : Int) := by
            rw [shl64 (by omega) (by omega) (by rw [Int.toNat_natCast]; simp; omega)] at hy
            rw [hy, Int.toNat_natCast]; simp
          subst hy
          refine fun y hy => ?_
          have hy := n64 hy (by omega)
          have hy : y = ((2 ^ gPro a - 1 : Nat) : Int) := by omega
          subst hy
          refine fun y hy => ?_
          rw [and64 (by omega) (by omega), and_mod, hr] at hy
          subst hy
          refine fun y hy => ?_
          have hy := n64 hy (by omega)
          rw [hy]
          refine ⟨rfl, ?_⟩
          refine ⟨rfl, ?_⟩
          refine ⟨rfl, ?_⟩
          have hmq : (⟨(qq : Int) + 1, (r : Int) + 3, 0⟩ : Tok).made = (r : Int) + 3 := by
            unfold Tok.made
            rw [if_pos (show (qq : Int) + 1 ≠ 0 by omega)]
          rw [hct, hmq, show ((r : Int) + 3).toNat = r + 3 by omega] at haf
          refine ⟨by omega, ?_⟩
          have hdl1 : (q.drop 1).length = q.length - 1 := List.length_drop
          have hd2 : cut (Int.toNat 1) (q.drop 1).length (q.drop 1) = q.drop 2 := by rw [show cut (Int.toNat 1) (q.drop 1).length (q.drop 1) = (q.drop 1).drop 1 from cut_drop 1 _, List.drop_drop]
          refine ⟨by rw [hd1]; omega, ?_⟩
          refine ⟨rfl, ?_⟩
          refine ⟨⟨by simp; omega, by simp; omega⟩, ?_⟩
          refine ⟨_, ⟨(⟨(qq : Int) + 1, (r : Int) + 3, 0⟩ : Tok), rfl, rfl⟩, ?_⟩
          rw [hmq]
          refine fun y hy => ?_
          have hy := n64 hy (by omega)
          rw [hy]
          refine fun y hy => ?_
          have hy := n64 hy (by omega)
          rw [hy]
          refine ⟨m2 - 1, by omega, acc ++ [(⟨(qq : Int) + 1, (r : Int) + 3, 0⟩ : Tok)], a + (r + 3), k + 1, q.drop 2, ⟨by omega, by rw [List.length_drop]; omega, by rw [List.length_append, List.length_cons, List.length_nil, List.length_drop]; omega, by rw [List.length_append, List.length_cons, List.length_nil]; omega, ?_⟩, ?_, ?_⟩
          · unfold After
            rw [hl', hfk, haf]
            simp
          · rw [List.map_append]; rfl
          · show [(0, AV.pv (.str (cut (Int.toNat 1) (cut (Int.toNat 1) q.length q).length (cut (Int.toNat 1) q.length q)))), (4, .own 0), (5, .pv (pI ((a : Int) + ((r : Int) + 3)))), (6, .pv (byteP fb)), (22, .pv (pI ((k : Int) + 1)))] = _
            rw [hd1, hd2, show ((a + (r + 3) : Nat) : Int) = (a : Int) + ((r : Int) + 3) by omega]; rfl
        · have hev : ¬ fk % 2 = 1 := by omega
          have hst := tokN_lit gPro l fk a (s := q) (by omega) hev
          unfold After at haf
          rw [hst, hlit] at haf
          refine ⟨by omega, ?_⟩
          refine ⟨rfl, ?_⟩
          refine ⟨⟨by simp; omega, by simp; omega⟩, ?_⟩
          refine ⟨_, ⟨(⟨0, 0, (v.toNat : Int)⟩ : Tok), rfl, rfl⟩, ?_⟩
          have hm1 : (⟨0, 0, (v.toNat : Int)⟩ : Tok).made = 1 := rfl
          rw [hm1]
          refine fun y hy => ?_
          have hy := n64 hy (by omega)
          rw [hy]
          refine fun y hy => ?_
          have hy := n64 hy (by omega)
          rw [hy]
          refine ⟨m2 - 1, by omega, acc ++ [(⟨0, 0, (v.toNat : Int)⟩ : Tok)], a + 1, k + 1, q.drop 1, ⟨by omega, by rw [List.length_drop]; omega, by rw [List.length_append, List.length_cons, List.length_nil, List.length_drop]; omega, by rw [List.length_append, List.length_cons, List.length_nil]; omega, ?_⟩, ?_, ?_⟩
          · unfold After
            rw [hl', hfk, haf]
            simp
          · rw [List.map_append]; rfl
          · show [(0, AV.pv (.str (cut (Int.toNat 1) q.length q))), (4, .own 0), (5, .pv (pI ((a : Int) + 1))), (6, .pv (byteP fb)), (22, .pv (pI ((k : Int) + 1)))] = _
            rw [hd1]; rfl
    · have hk : k = 8 := by omega
      subst hk
      refine ⟨q.length, by omega, acc, fb.toNat / 2 ^ 8, a, q, ⟨rfl, hal, hab, haf⟩, rfl, rfl⟩
  · have : s = [] := Decidable.of_not_not hne
    subst this
    unfold After at haf
    rw [tokN_nil0] at haf
    rw [resN_tok, haf] at hK
    dsimp only at hK
    rw [if_neg (by decide), List.append_nil] at hK
    refine ⟨acc, rfl, by simp at hal; omega, ?_⟩
    refine fun b hb => ?_
    rcases cmp hb with ⟨rfl, h⟩ | ⟨rfl, h⟩
    · rw [if_pos h] at hK
      exact ⟨[.fresh _ _ _, .pv _], ⟨⟨rfl, rfl, rfl, rfl⟩, rfl, trivial⟩, ⟨by simp [RV.flat1], trivial, trivial⟩, hK⟩
    · rw [if_neg h] at hK
      exact ⟨[.fresh _ _ _, .pv _], ⟨⟨rfl, rfl, rfl, rfl⟩, rfl, trivial⟩, ⟨flat_toks _, trivial, trivial⟩, hK⟩
end Go.Dv.Try
end
section
/-
  Contracts of chapter 6: chunks decoded; the law of chunks.
-/
namespace Go.Dv.Try
open Go Go.Dv

/-- The data of a chunk, or the error. -/
def decN (s : List UInt8) : List UInt8 × Int :=
  if s.length < 2 then ([], 14) else if wordV s / 4096 % 8 ≠ 3 then ([], 3)
  else if s.length - 2 ≠ wordV s % 4096 + 1 then ([], 10) else if wordV s < 32768 then (s.drop 2, 0)
  else if (resN gRef (s.drop 2)).2 ≠ 0 then ([], (resN gRef (s.drop 2)).2) else (expN (resN gRef (s.drop 2)).1, 0)

theorem resN_ok {g : Nat → Nat} {s : List UInt8} (h : (resN g s).2 = 0) : ToksOk (resN g s).1 0 := by
  unfold resN at h ⊢
  split at h
  · rename_i h1; exact absurd h h1
  · rename_i h1
    rw [if_neg h1]
    split at h
    · rename_i h2; exact absurd h h2
    · rename_i h2
      rw [if_neg h2]
      exact (checkN_zero (Decidable.of_not_not h2)).2.2

def S_decode : Spec := mkS true false fun ps K => ∃ s : List UInt8, ps = [.str s] ∧ s.length ≤ 5000 ∧ K (.tup [.pv (.str (decN s).1), .pv (pI (decN s).2)])

theorem meets_Decode : Meets (ctxOf [(n_compress_opened, S_opened), (n_compress_tokens, S_tokensP), (n_compress_expanded, S_expanded)]) s_compress_Decode c_compress_Decode r_compress_Decode S_decode := by
  rintro _ K ⟨s, rfl, hs, hK⟩
  have hw := wordV_lt s
  unfold decN at hK
  refine ⟨s, true, rfl, hs, fun h2 => ?_, fun h2 => ⟨fun h3 => ?_, fun h3 => ⟨fun h4 => ?_, fun h4 => ?_⟩⟩⟩
  · rw [if_pos h2] at hK
    refine fun b hb => ?_
    rcases cmp hb with ⟨rfl, h⟩ | ⟨rfl, h⟩
    · exact ⟨[.pv (.str _), .pv _], ⟨rfl, rfl, trivial⟩, ⟨trivial, trivial, trivial⟩, hK⟩
    · exact absurd (by decide) h
  · rw [if_neg (by omega), if_pos h3] at hK
    refine fun b hb => ?_
    rcases cmp hb with ⟨rfl, h⟩ | ⟨rfl, h⟩
    · exact ⟨[.pv (.str _), .pv _], ⟨rfl, rfl, trivial⟩, ⟨trivial, trivial, trivial⟩, hK⟩
    · exact absurd (by decide) h
  · rw [if_neg (by omega), if_neg (by omega), if_pos (by rcases h4 with h4 | ⟨_, h4⟩ <;> omega)] at hK
    refine fun b hb => ?_
    rcases cmp hb with ⟨rfl, h⟩ | ⟨rfl, h⟩
    · exact ⟨[.pv (.str _), .pv _], ⟨rfl, rfl, trivial⟩, ⟨trivial, trivial, trivial⟩, hK⟩
    · exact absurd (by decide) h
  · have h5 : ¬ s.length - 2 < wordV s % 4096 + 1 := fun h => h4 (.inl h)
    have h6 : ¬ wordV s % 4096 + 1 < s.length - 2 := fun h => h4 (.inr ⟨rfl, h⟩)
    rw [if_neg (by omega), if_neg (by omega), if_neg (by omega)] at hK
    have et : (s.drop 2).take (wordV s % 4096 + 1) = s.drop 2 := List.take_of_length_le (by rw [List.length_drop]; omega)
    rw [et]
    refine fun b hb => ?_
    rcases cmp hb with ⟨rfl, h⟩ | ⟨rfl, h⟩
    · exact absurd rfl h
    by_cases hp : 32768 ≤ wordV s
    · rw [decide_eq_true hp]
      refine NOT_t ?_
      rw [if_neg (by omega)] at hK
      refine ⟨s.drop 2, rfl, by rw [List.length_drop]; omega, ?_⟩
      rw [← resN_same gRef gPro g_same]
      refine fun b hb => ?_
      rcases cmp hb with ⟨rfl, h⟩ | ⟨rfl, h⟩
      · rw [if_pos h] at hK
        exact ⟨[.pv (.str _), .pv _], ⟨rfl, rfl, trivial⟩, ⟨trivial, trivial, trivial⟩, hK⟩
      · rw [if_neg h] at hK
        refine ⟨_, rfl, resN_ok (Decidable.of_not_not h), ?_⟩
        exact ⟨[.pv (.str _), .pv _], ⟨rfl, rfl, trivial⟩, ⟨trivial, trivial, trivial⟩, hK⟩
    · rw [decide_eq_false hp]
      refine NOT_f ?_
      rw [if_pos (by omega)] at hK
      exact ⟨[.pv (.str _), .pv _], ⟨rfl, rfl, trivial⟩, ⟨trivial, trivial, trivial⟩, hK⟩

end Go.Dv.Try
end
section
/-
  Contracts of chapter 6: zeros and clusters.
-/
namespace Go.Dv.Try
open Go Go.Dv

def zerosL (n : Nat) : List UInt8 := List.replicate n 0

theorem repN_zeros : ∀ n, repN [0] n = zerosL n := by
  intro n
  induction n with
  | zero => rfl
  | succ n ih => show [0] ++ repN [0] n = _; rw [ih]; rfl

def R_Zeros (ps : List PV) (x : PV) : Prop := ∃ n : Int, ps = [pI n] ∧ (0 ≤ n ∧ n ≤ 200000) ∧ x = .str (zerosL n.toNat)
theorem meets_Zeros : Meets (ctxOf []) s_base_Zeros c_base_Zeros r_base_Zeros (fnSpec R_Zeros) := by
  rintro _ K ⟨_, ⟨n, rfl, h, rfl⟩, hK⟩
  refine fun x hx => ?_
  refine fun y hy => ?_
  have hy : y = n := by omega
  rw [hy]
  refine ⟨by omega, ?_⟩
  refine ⟨zerosL n.toNat, ?_, ?_⟩
  · unfold zerosL; rw [List.map_replicate]; rfl
  exact ⟨.pv (.str _), rfl, trivial, hK⟩

def R_zeros (ps : List PV) (x : PV) : Prop := ∃ n : Int, ps = [pI n] ∧ (0 ≤ n ∧ n ≤ 200000) ∧ x = .str (zerosL n.toNat)
theorem meets_zeros : Meets (ctxOf [(n_strings_Repeat, fnSpec R_Repeat)]) s_compress_zeros c_compress_zeros r_compress_zeros (fnSpec R_zeros) := by
  rintro _ K ⟨_, ⟨n, rfl, h, rfl⟩, hK⟩
  refine ⟨_, ⟨[0], n, rfl, by simp; omega, rfl⟩, ?_⟩
  refine ⟨.pv (.str _), ?_, trivial, hK⟩
  show PV.str (zerosL n.toNat) = PV.str (repN [0] n.toNat)
  rw [repN_zeros]

def R_clusters (ps : List PV) (x : PV) : Prop := ∃ n : Int, ps = [pI n] ∧ (0 ≤ n ∧ n ≤ 1000000) ∧ x = pI ((n + 255) / 256)
theorem meets_clusters : Meets (ctxOf []) s_compress_clusters c_compress_clusters r_compress_clusters (fnSpec R_clusters) := by
  rintro _ K ⟨_, ⟨n, rfl, h, rfl⟩, hK⟩
  refine fun x hx => ?_
  have hx := n64 hx (by omega)
  rw [hx]
  refine fun x hx => ?_
  have hx := n64 hx (by omega)
  rw [hx]
  refine ⟨by decide, ?_⟩
  refine fun x hx => ?_
  rw [Int.tdiv_eq_ediv_of_nonneg (by omega)] at hx
  have hx := n64 hx (by omega)
  rw [hx]
  refine ⟨.pv (pI _), pI_eq ?_, trivial, hK⟩
  omega
end Go.Dv.Try
end
section
/-
  Contracts of chapter 6: units packed.
-/
namespace Go.Dv.Try
open Go Go.Dv

theorem zerosL_len (n : Nat) : (zerosL n).length = n := by simp [zerosL]

/-- Up to whole clusters. -/
def padN (s : List UInt8) : List UInt8 := s ++ zerosL ((-(s.length : Int)) % 256).toNat
theorem padN_len (s : List UInt8) : (padN s).length = (s.length + 255) / 256 * 256 := by
  unfold padN
  rw [List.length_append, zerosL_len]; omega

/-- A unit packed. -/
def packN (u : List UInt8) : List UInt8 :=
  if u = zerosL u.length then []
  else if (bodyN (optN u)).length ≤ 4096 ∧ ((bodyN (optN u)).length + 2 + 255) / 256 * 256 < 4096 then padN (headN (bodyN (optN u)).length true ++ bodyN (optN u)) else u

def S_PackUnit : Spec := mkS true false fun ps K => ∃ u : List UInt8, ps = [.str u] ∧ u.length ≤ 100000 ∧ (u.length ≠ 4096 → K (.tup [.pv (.str []), .pv (pI 10)])) ∧ (u.length = 4096 → K (.tup [.pv (.str (packN u)), .pv (pI 0)]))
theorem meets_PackUnit : Meets (ctxOf [(n_compress_zeros, fnSpec R_zeros), (n_compress_data_optimal, S_optimal), (n_compress_chunk, S_chunk), (n_compress_clusters, fnSpec R_clusters)]) s_compress_PackUnit c_compress_PackUnit r_compress_PackUnit S_PackUnit := by
  rintro _ K ⟨u, rfl, hul, hK1, hK2⟩
  refine fun b hb => ?_
  rcases cmp hb with ⟨rfl, h⟩ | ⟨rfl, h⟩
  · exact ⟨[.pv (.str _), .pv _], ⟨rfl, rfl, trivial⟩, ⟨trivial, trivial, trivial⟩, hK1 (by omega)⟩
  have hu : u.length = 4096 := by omega
  have hK := hK2 hu
  clear hK1 hK2
  unfold packN at hK
  have hb := bodyRun_len (optN u).length (optN u) 0
  have hl := toksOk_len _ 0 (opt_toks u (by omega)) (opt_ne u (by omega))
  have hb0 := body_ne _ (opt_ne u (by omega))
  have e : bodyRun (optN u).length (optN u) 0 = bodyN (optN u) := rfl
  rw [e] at hb
  refine ⟨_, ⟨_, rfl, by omega, rfl⟩, ?_⟩
  rw [Int.toNat_natCast]
  refine fun b hb => ?_
  rcases cmp hb with ⟨rfl, hz⟩ | ⟨rfl, hz⟩
  · rw [if_pos hz] at hK
    exact ⟨[.pv (.str _), .pv _], ⟨rfl, rfl, trivial⟩, ⟨trivial, trivial, trivial⟩, hK⟩
  rw [if_neg hz] at hK
  refine ⟨u, rfl, by omega, ?_⟩
  refine ⟨optN u, rfl, ⟨opt_ne u (by omega), opt_toks u (by omega)⟩, fun h5 => ?_, fun h5 => ?_⟩
  · rw [if_neg (by omega)] at hK
    refine ⟨_, ⟨_, rfl, by simp, rfl⟩, ?_⟩
    refine fun x hx => ?_
    have hx := n64 hx (by simp)
    rw [hx]
    refine fun b hb => ?_
    rcases cmp hb with ⟨rfl, h⟩ | ⟨rfl, h⟩
    case inr => exact absurd (by decide) h
    exact ⟨[.pv (.str _), .pv _], ⟨rfl, rfl, trivial⟩, ⟨trivial, trivial, trivial⟩, hK⟩
  · generalize bodyN (optN u) = bd at *
    have hbl : (headN bd.length true ++ bd).length = bd.length + 2 := by rw [List.length_append, headN_len]; omega
    refine ⟨_, ⟨_, rfl, by rw [hbl]; omega, rfl⟩, ?_⟩
    rw [hbl]
    refine fun x hx => ?_
    have hx := n64 hx (by omega)
    rw [hx]
    refine fun b hb => ?_
    rcases cmp hb with ⟨rfl, h⟩ | ⟨rfl, h⟩
    case inl => exact absurd rfl h
    refine fun b hb => ?_
    rcases cmp hb with ⟨rfl, h⟩ | ⟨rfl, h⟩
    · rw [if_neg (by omega)] at hK
      exact ⟨[.pv (.str _), .pv _], ⟨rfl, rfl, trivial⟩, ⟨trivial, trivial, trivial⟩, hK⟩
    · rw [if_pos (by omega)] at hK
      refine fun x hx => ?_
      rw [hbl] at hx
      have hx := n64 hx (by omega)
      rw [hx]
      refine ⟨_, ⟨_, rfl, by omega, rfl⟩, ?_⟩
      refine ⟨by rw [hbl, zerosL_len]; omega, ?_⟩
      refine ⟨[.pv (.str _), .pv _], ⟨rfl, rfl, trivial⟩, ⟨trivial, trivial, trivial⟩, ?_⟩
      unfold padN at hK
      rw [hbl] at hK
      rw [show ((-((bd.length + 2 : Nat) : Int)) % 256).toNat = (((bd.length + 2 : Nat) + 255 : Int) / 256 * 256 - (bd.length + 2 : Nat)).toNat by omega] at hK
      exact hK
end Go.Dv.Try
end
section
/-
  Contracts of chapter 6: what is stored, unpacked.
-/
namespace Go.Dv.Try
open Go Go.Dv

/-- What is stored of a unit, unpacked, or the error. -/
def unpackN (s : List UInt8) : List UInt8 × Int :=
  if 4096 < s.length ∨ s.length % 256 ≠ 0 then ([], 10)
  else if s.length = 0 then (zerosL 4096, 0)
  else if s.length = 4096 then (s, 0)
  else if wordV s / 4096 % 8 ≠ 3 then ([], 3)
  else if wordV s < 32768 then ([], 15)
  else if s.length - 2 < wordV s % 4096 + 1 then ([], 10)
  else if (resN gRef ((s.drop 2).take (wordV s % 4096 + 1))).2 ≠ 0 then ([], (resN gRef ((s.drop 2).take (wordV s % 4096 + 1))).2)
  else if (expN (resN gRef ((s.drop 2).take (wordV s % 4096 + 1))).1).length ≠ 4096 then ([], 10)
  else if s.drop (2 + (wordV s % 4096 + 1)) ≠ zerosL (s.length - (2 + (wordV s % 4096 + 1))) ∨ 256 ≤ s.length - (2 + (wordV s % 4096 + 1)) then ([], 3)
  else (expN (resN gRef ((s.drop 2).take (wordV s % 4096 + 1))).1, 0)

def S_unpack : Spec := mkS true false fun ps K => ∃ s : List UInt8, ps = [.str s] ∧ s.length ≤ 5000 ∧ K (.tup [.pv (.str (unpackN s).1), .pv (pI (unpackN s).2)])
theorem exp_len {l : List Tok} (h : ToksOk l 0) : (expN l).length ≤ 4096 := by
  have h1 := expRun_len l [] 0 h
  have h2 := posT_le l 0 h (by omega)
  unfold expN
  simp at h1; omega

set_option maxHeartbeats 1000000 in
theorem meets_UnpackUnit : Meets (ctxOf [(n_compress_zeros, fnSpec R_zeros), (n_compress_opened, S_opened), (n_compress_unless, fnSpec R_compress_unless), (n_compress_first, fnSpec R_compress_first), (n_compress_tokens, S_tokensP), (n_compress_expanded, S_expanded), (n_compress_clusters, fnSpec R_clusters)]) s_compress_UnpackUnit c_compress_UnpackUnit r_compress_UnpackUnit S_unpack := by
  rintro _ K ⟨s, rfl, hs, hK⟩
  have hw := wordV_lt s
  unfold unpackN at hK
  refine fun b hb => ?_
  rcases cmp hb with ⟨rfl, h1⟩ | ⟨rfl, h1⟩
  · rw [if_pos (.inl (by omega))] at hK
    exact ⟨[.pv (.str _), .pv _], ⟨rfl, rfl, trivial⟩, ⟨trivial, trivial, trivial⟩, hK⟩
  refine ⟨by decide, ?_⟩
  refine fun x hx => ?_
  rw [Int.tmod_eq_emod_of_nonneg (by omega)] at hx
  rw [hx]
  refine fun b hb => ?_
  rcases cmp hb with ⟨rfl, h2⟩ | ⟨rfl, h2⟩
  · rw [if_pos (.inr (by omega))] at hK
    exact ⟨[.pv (.str _), .pv _], ⟨rfl, rfl, trivial⟩, ⟨trivial, trivial, trivial⟩, hK⟩
  rw [if_neg (by rintro (h | h); omega; omega)] at hK
  refine fun b hb => ?_
  rcases cmp hb with ⟨rfl, h3⟩ | ⟨rfl, h3⟩
  · rw [if_pos (by omega)] at hK
    refine ⟨_, ⟨4096, rfl, by omega, rfl⟩, ?_⟩
    exact ⟨[.pv (.str _), .pv _], ⟨rfl, rfl, trivial⟩, ⟨trivial, trivial, trivial⟩, hK⟩
  rw [if_neg (by omega)] at hK
  refine fun b hb => ?_
  rcases cmp hb with ⟨rfl, h4⟩ | ⟨rfl, h4⟩
  · rw [if_pos (by omega)] at hK
    exact ⟨[.pv (.str _), .pv _], ⟨rfl, rfl, trivial⟩, ⟨trivial, trivial, trivial⟩, hK⟩
  rw [if_neg (by omega)] at hK
  refine ⟨s, false, rfl, hs, fun h => by omega, fun hl2 => ⟨fun h5 => ?_, fun h5 => ⟨fun h6 => ?_, fun h6 => ?_⟩⟩⟩
  · rw [if_pos h5] at hK
    refine fun b hb => ?_
    rcases cmp hb with ⟨rfl, h⟩ | ⟨rfl, h⟩
    · exact absurd h (by decide)
    refine fun b hb => ?_
    rcases cmp hb with ⟨rfl, h⟩ | ⟨rfl, h⟩
    · exact absurd h (by decide)
    refine fun b hb => ?_
    rcases cmp hb with ⟨rfl, h⟩ | ⟨rfl, h⟩
    · exact ⟨[.pv (.str _), .pv _], ⟨rfl, rfl, trivial⟩, ⟨trivial, trivial, trivial⟩, hK⟩
    · exact absurd (by decide) h
  · have h6 : s.length - 2 < wordV s % 4096 + 1 := by
      rcases h6 with h6 | ⟨h6, _⟩
      · exact h6
      · cases h6
    rw [if_neg (by omega)] at hK
    refine fun b hb => ?_
    rcases cmp hb with ⟨rfl, h⟩ | ⟨rfl, h⟩
    · exact absurd h (by decide)
    refine fun b hb => ?_
    rcases cmp hb with ⟨rfl, h⟩ | ⟨rfl, h⟩
    case inr => exact absurd rfl h
    refine ⟨_, ⟨decide (32768 ≤ wordV s), 15, rfl, rfl⟩, ?_⟩
    refine ⟨rfl, ?_⟩
    refine ⟨_, ⟨[unlessZ (decide (32768 ≤ wordV s)) 15, 10], rfl, rfl⟩, ?_⟩
    refine fun b hb => ?_
    by_cases hp : 32768 ≤ wordV s
    · rw [decide_eq_true hp] at hb ⊢
      rw [if_neg (by omega), if_pos h6] at hK
      rcases cmp hb with ⟨rfl, h⟩ | ⟨rfl, h⟩
      · exact ⟨[.pv (.str _), .pv _], ⟨rfl, rfl, trivial⟩, ⟨trivial, trivial, trivial⟩, hK⟩
      · exact absurd (by decide) h
    · rw [decide_eq_false hp] at hb ⊢
      rw [if_pos (by omega)] at hK
      rcases cmp hb with ⟨rfl, h⟩ | ⟨rfl, h⟩
      · exact ⟨[.pv (.str _), .pv _], ⟨rfl, rfl, trivial⟩, ⟨trivial, trivial, trivial⟩, hK⟩
      · exact absurd (by decide) h
  · have h6 : ¬ s.length - 2 < wordV s % 4096 + 1 := fun h => h6 (.inl h)
    rw [if_neg (by omega)] at hK
    refine fun b hb => ?_
    rcases cmp hb with ⟨rfl, h⟩ | ⟨rfl, h⟩
    case inr => exact absurd rfl h
    refine ⟨_, ⟨decide (32768 ≤ wordV s), 15, rfl, rfl⟩, ?_⟩
    refine ⟨rfl, ?_⟩
    refine ⟨_, ⟨[unlessZ (decide (32768 ≤ wordV s)) 15, 0], rfl, rfl⟩, ?_⟩
    refine fun b hb => ?_
    by_cases hp : 32768 ≤ wordV s
    case neg =>
      rw [decide_eq_false hp] at hb ⊢
      rw [if_pos (by omega)] at hK
      rcases cmp hb with ⟨rfl, h⟩ | ⟨rfl, h⟩
      · exact ⟨[.pv (.str _), .pv _], ⟨rfl, rfl, trivial⟩, ⟨trivial, trivial, trivial⟩, hK⟩
      · exact absurd (by decide) h
    rw [decide_eq_true hp] at hb
    rw [if_neg (by omega), if_neg h6] at hK
    rcases cmp hb with ⟨rfl, h⟩ | ⟨rfl, h⟩
    · exact absurd rfl h
    generalize hcn : wordV s % 4096 + 1 = c at *
    have htl : ((s.drop 2).take c).length = c := by rw [List.length_take, List.length_drop]; omega
    refine ⟨_, rfl, by rw [htl]; omega, ?_⟩
    rw [← resN_same gRef gPro g_same]
    refine fun b hb => ?_
    rcases cmp hb with ⟨rfl, h7⟩ | ⟨rfl, h7⟩
    · rw [if_pos h7] at hK
      exact ⟨[.pv (.str _), .pv _], ⟨rfl, rfl, trivial⟩, ⟨trivial, trivial, trivial⟩, hK⟩
    rw [if_neg h7] at hK
    have hok := resN_ok (Decidable.of_not_not h7)
    have hel := exp_len hok
    refine ⟨_, rfl, hok, ?_⟩
    generalize expN (resN gRef ((s.drop 2).take c)).1 = ex at *
    refine fun y hy => ?_
    rw [htl] at hy
    have hy := n64 hy (by omega)
    have hy : y = ((2 + c : Nat) : Int) := by omega
    subst hy
    have ecut2 : cut ((2 + c : Nat) : Int).toNat s.length s = s.drop (2 + c) := by rw [Int.toNat_natCast, cut_drop]
    refine ⟨by kernel_rfl, ?_⟩
    refine fun b1 hb1 => ?_
    refine ⟨_, ⟨b1, 10, rfl, rfl⟩, ?_⟩
    refine ⟨by omega, ?_⟩
    refine fun y hy => ?_
    have hy := n64 hy (by omega)
    have hy : y = ((s.length - (2 + c) : Nat) : Int) := by omega
    subst hy
    refine ⟨_, ⟨_, rfl, by omega, rfl⟩, ?_⟩
    refine fun b2 hb2 => ?_
    rw [ecut2, Int.toNat_natCast] at hb2
    have fin : ∀ b3 : Bool, (b3 = true ↔ ¬ (s.drop (2 + c) ≠ zerosL (s.length - (2 + c)) ∨ 256 ≤ s.length - (2 + c))) → (if firstZ [unlessZ b1 10, unlessZ b3 3] ≠ 0 then K (.tup [.pv (.str []), .pv (pI (firstZ [unlessZ b1 10, unlessZ b3 3]))]) else K (.tup [.pv (.str ex), .pv (pI 0)])) := by
      intro b3 hb3
      rcases cmp hb1 with ⟨rfl, h8⟩ | ⟨rfl, h8⟩
      · rw [if_neg (by omega)] at hK
        rcases cmp hb3 with ⟨rfl, h9⟩ | ⟨rfl, h9⟩
        · rw [if_neg h9] at hK
          rw [if_neg (by decide)]
          exact hK
        · rw [if_pos (Decidable.of_not_not h9)] at hK
          rw [if_pos (by decide)]
          exact hK
      · rw [if_pos (by omega)] at hK
        have e10 : firstZ [unlessZ false 10, unlessZ b3 3] = 10 := rfl
        rw [e10, if_pos (by decide)]
        exact hK
    rcases cmp hb2 with ⟨rfl, hz⟩ | ⟨rfl, hz⟩
    · refine ⟨_, ⟨_, rfl, by omega, rfl⟩, ?_⟩
      refine ⟨by decide, ?_⟩
      refine fun y hy => ?_
      rw [Int.tdiv_eq_ediv_of_nonneg (by omega)] at hy
      have hy := n64 hy (by omega)
      rw [hy]
      refine fun b3 hb3 => ?_
      have hf := fin b3 (by
        rw [hb3]
        constructor
        · rintro h (h' | h')
          · exact h' hz
          · omega
        · intro h
          have : ¬ 256 ≤ s.length - (2 + c) := fun h' => h (.inr h')
          omega)
      refine ⟨_, ⟨b3, 3, rfl, rfl⟩, ?_⟩
      refine ⟨rfl, ?_⟩
      refine ⟨_, ⟨[unlessZ b1 10, unlessZ b3 3], rfl, rfl⟩, ?_⟩
      refine fun b hb => ?_
      rcases cmp hb with ⟨rfl, h⟩ | ⟨rfl, h⟩
      · rw [if_pos h] at hf
        exact ⟨[.pv (.str _), .pv _], ⟨rfl, rfl, trivial⟩, ⟨trivial, trivial, trivial⟩, hf⟩
      · rw [if_neg h] at hf
        exact ⟨[.pv (.str _), .pv _], ⟨rfl, rfl, trivial⟩, ⟨trivial, trivial, trivial⟩, hf⟩
    · have hf := fin false (by
        constructor
        · intro h; cases h
        · intro h; exact absurd (.inl hz) h)
      refine ⟨_, ⟨false, 3, rfl, rfl⟩, ?_⟩
      refine ⟨rfl, ?_⟩
      refine ⟨_, ⟨[unlessZ b1 10, unlessZ false 3], rfl, rfl⟩, ?_⟩
      refine fun b hb => ?_
      rcases cmp hb with ⟨rfl, h⟩ | ⟨rfl, h⟩
      · rw [if_pos h] at hf
        exact ⟨[.pv (.str _), .pv _], ⟨rfl, rfl, trivial⟩, ⟨trivial, trivial, trivial⟩, hf⟩
      · rw [if_neg h] at hf
        exact ⟨[.pv (.str _), .pv _], ⟨rfl, rfl, trivial⟩, ⟨trivial, trivial, trivial⟩, hf⟩
end Go.Dv.Try
end
section
/-
  Contracts of chapter 6: a unit of a piece; the law of units.
-/
namespace Go.Dv.Try
open Go Go.Dv

abbrev pU (n : Int) : PV := .int .u16 n
def S_Unit : Spec := mkS true false fun ps K => ∃ (p : List UInt8) (c : List Int), ps = [.str p, .sl 1 (c.map pU)] ∧ (∀ n ∈ c, 0 ≤ n ∧ n < 65536) ∧ ∀ u : List UInt8, u.length = 4096 → K (.pv (.str u))
set_option maxHeartbeats 1000000 in
theorem meets_Unit : Meets (ctxOf [(n_base_Zeros, fnSpec R_Zeros)]) s_law06_Unit c_law06_Unit r_law06_Unit S_Unit := by
  rintro _ K ⟨p, c, rfl, hc, hK⟩
  refine ⟨_, ⟨4096, rfl, by omega, rfl⟩, ?_⟩
  have hz : (zerosL (Int.toNat 4096)).length = 4096 := zerosL_len _
  refine ⟨by rw [hz]; omega, ?_⟩
  refine fun b hb => ?_
  rcases cmp hb with ⟨rfl, h1⟩ | ⟨rfl, h1⟩
  · refine fun b hb => ?_
    rcases cmp hb with ⟨rfl, h2⟩ | ⟨rfl, h2⟩
    · refine ⟨fun m env σ => ∃ (n : Nat) (l : List UInt8), (n + m = 4096 ∧ l.length = 4096) ∧ σ = [.row 5 1 false (l.map byteP)] ∧ env = [(0, .pv (.str p)), (1, .pv (.sl 1 (c.map pU))), (5, .own 0), (6, .pv (pI n))], 4096, ⟨0, zerosL (Int.toNat 4096), ⟨rfl, hz⟩, rfl, rfl⟩, ?_⟩
      rintro m env σ ⟨n, l, ⟨hn, hl⟩, rfl, rfl⟩
      refine fun _ => ?_
      rw [List.length_map, hl]
      refine fun b hb => ?_
      rcases cmp hb with ⟨rfl, h3⟩ | ⟨rfl, h3⟩
      · refine ⟨by omega, ?_⟩
        refine fun x hx => ?_
        rw [Int.tmod_eq_emod_of_nonneg (by omega)] at hx
        have hx0 : 0 ≤ x ∧ x < p.length := by
          rw [hx]; exact ⟨Int.emod_nonneg _ (by omega), Int.emod_lt_of_pos _ (by omega)⟩
        obtain ⟨v, hv⟩ : ∃ v, p[x.toNat]? = some v := by rw [List.getElem?_eq_getElem (by omega)]; exact ⟨_, rfl⟩
        refine ⟨_, ⟨by omega, hv⟩, ?_⟩
        refine ⟨⟨by omega, by rw [List.length_map]; omega⟩, ?_⟩
        obtain ⟨ob, hob⟩ : ∃ o, l[n]? = some o := by rw [List.getElem?_eq_getElem (by omega)]; exact ⟨_, rfl⟩
        refine ⟨byteP ob, by rw [Int.toNat_natCast, List.getElem?_map, hob]; rfl, ?_⟩
        refine ⟨rfl, ?_⟩
        refine fun r hr => ?_
        have hr := n64 hr (by omega)
        rw [hr]
        refine ⟨m - 1, by omega, n + 1, l.set n v, ⟨by omega, by rw [List.length_set]; exact hl⟩, ?_, rfl⟩
        rw [List.map_set]
        rfl
      · clear hn h3 hb
        refine ⟨fun m env σ => ∃ (n : Nat) (l : List UInt8), (n + m = c.length ∧ l.length = 4096) ∧ σ = [.row 5 1 false (l.map byteP)] ∧ env = [(1, .pv (.sl 1 (c.map pU))), (5, .own 0), (7, .pv (pI n))], c.length, ⟨0, l, ⟨by omega, hl⟩, rfl, rfl⟩, ?_⟩
        rintro m env σ ⟨n, l, ⟨hn, hl⟩, rfl, rfl⟩
        refine fun _ => ?_
        rw [List.length_map]
        refine fun b hb => ?_
        have last : ∀ m2 : Nat, True := fun _ => trivial
        rcases cmp hb with ⟨rfl, h⟩ | ⟨rfl, h⟩
        · refine fun b hb => ?_
          rcases cmp hb with ⟨rfl, h2⟩ | ⟨rfl, h2⟩
          · obtain ⟨v, hv⟩ : ∃ v, c[n]? = some v := by rw [List.getElem?_eq_getElem (by omega)]; exact ⟨_, rfl⟩
            have hvr := hc v (List.mem_of_getElem? hv)
            have get : (c.map pU)[((n : Nat) : Int).toNat]? = some (pU v) := by rw [Int.toNat_natCast, List.getElem?_map, hv]; rfl
            refine ⟨by kernel_rfl, ?_⟩
            refine ⟨_, ⟨by omega, get⟩, ?_⟩
            refine fun x hx => ?_
            have hx := n64 hx (by omega)
            rw [hx]
            refine ⟨by rw [List.length_map, hl]; decide, ?_⟩
            refine fun y hy => ?_
            rw [List.length_map, hl, Int.tmod_eq_emod_of_nonneg (by omega)] at hy
            refine ⟨_, ⟨by omega, get⟩, ?_⟩
            refine ⟨by decide, ?_⟩
            refine fun z hz => ?_
            refine fun q hq => ?_
            rw [wrapU8] at hq
            rw [byteP_of (n := q) (by omega)]
            refine ⟨⟨by omega, by rw [List.length_map]; omega⟩, ?_⟩
            obtain ⟨o, ho⟩ : ∃ o, (l.map byteP)[y.toNat]? = some o := by rw [List.getElem?_eq_getElem (by rw [List.length_map]; omega)]; exact ⟨_, rfl⟩
            have hoi : ∃ ob : UInt8, o = byteP ob := by
              rw [List.getElem?_map] at ho
              cases hlo : l[y.toNat]? with
              | none => rw [hlo] at ho; cases ho
              | some ob => rw [hlo] at ho; injection ho with ho; exact ⟨ob, ho.symm⟩
            obtain ⟨ob, rfl⟩ := hoi
            refine ⟨_, ho, ?_⟩
            refine ⟨rfl, ?_⟩
            refine fun r hr => ?_
            have hr := n64 hr (by omega)
            rw [hr]
            refine ⟨m - 1, by omega, n + 1, l.set y.toNat (byteN q.toNat), ⟨by omega, by rw [List.length_set]; exact hl⟩, ?_, rfl⟩
            rw [List.map_set]
          · refine ⟨l, rfl, ?_⟩
            exact ⟨.pv (.str _), rfl, trivial, hK l hl⟩
        · refine ⟨l, rfl, ?_⟩
          exact ⟨.pv (.str _), rfl, trivial, hK l hl⟩
    · refine ⟨fun m env σ => ∃ (n : Nat) (l : List UInt8), (n + m = c.length ∧ l.length = 4096) ∧ σ = [.row 5 1 false (l.map byteP)] ∧ env = [(1, .pv (.sl 1 (c.map pU))), (5, .own 0), (7, .pv (pI n))], c.length, ⟨0, zerosL (Int.toNat 4096), ⟨by omega, hz⟩, rfl, rfl⟩, ?_⟩
      rintro m env σ ⟨n, l, ⟨hn, hl⟩, rfl, rfl⟩
      refine fun _ => ?_
      rw [List.length_map]
      refine fun b hb => ?_
      have last : ∀ m2 : Nat, True := fun _ => trivial
      rcases cmp hb with ⟨rfl, h⟩ | ⟨rfl, h⟩
      · refine fun b hb => ?_
        rcases cmp hb with ⟨rfl, h2⟩ | ⟨rfl, h2⟩
        · obtain ⟨v, hv⟩ : ∃ v, c[n]? = some v := by rw [List.getElem?_eq_getElem (by omega)]; exact ⟨_, rfl⟩
          have hvr := hc v (List.mem_of_getElem? hv)
          have get : (c.map pU)[((n : Nat) : Int).toNat]? = some (pU v) := by rw [Int.toNat_natCast, List.getElem?_map, hv]; rfl
          refine ⟨by kernel_rfl, ?_⟩
          refine ⟨_, ⟨by omega, get⟩, ?_⟩
          refine fun x hx => ?_
          have hx := n64 hx (by omega)
          rw [hx]
          refine ⟨by rw [List.length_map, hl]; decide, ?_⟩
          refine fun y hy => ?_
          rw [List.length_map, hl, Int.tmod_eq_emod_of_nonneg (by omega)] at hy
          refine ⟨_, ⟨by omega, get⟩, ?_⟩
          refine ⟨by decide, ?_⟩
          refine fun z hz => ?_
          refine fun q hq => ?_
          rw [wrapU8] at hq
          rw [byteP_of (n := q) (by omega)]
          refine ⟨⟨by omega, by rw [List.length_map]; omega⟩, ?_⟩
          obtain ⟨o, ho⟩ : ∃ o, (l.map byteP)[y.toNat]? = some o := by rw [List.getElem?_eq_getElem (by rw [List.length_map]; omega)]; exact ⟨_, rfl⟩
          have hoi : ∃ ob : UInt8, o = byteP ob := by
            rw [List.getElem?_map] at ho
            cases hlo : l[y.toNat]? with
            | none => rw [hlo] at ho; cases ho
            | some ob => rw [hlo] at ho; injection ho with ho; exact ⟨ob, ho.symm⟩
          obtain ⟨ob, rfl⟩ := hoi
          refine ⟨_, ho, ?_⟩
          refine ⟨rfl, ?_⟩
          refine fun r hr => ?_
          have hr := n64 hr (by omega)
          rw [hr]
          refine ⟨m - 1, by omega, n + 1, l.set y.toNat (byteN q.toNat), ⟨by omega, by rw [List.length_set]; exact hl⟩, ?_, rfl⟩
          rw [List.map_set]
        · refine ⟨l, rfl, ?_⟩
          exact ⟨.pv (.str _), rfl, trivial, hK l hl⟩
      · refine ⟨l, rfl, ?_⟩
        exact ⟨.pv (.str _), rfl, trivial, hK l hl⟩
  · refine ⟨fun m env σ => ∃ (n : Nat) (l : List UInt8), (n + m = c.length ∧ l.length = 4096) ∧ σ = [.row 5 1 false (l.map byteP)] ∧ env = [(1, .pv (.sl 1 (c.map pU))), (5, .own 0), (7, .pv (pI n))], c.length, ⟨0, zerosL (Int.toNat 4096), ⟨by omega, hz⟩, rfl, rfl⟩, ?_⟩
    rintro m env σ ⟨n, l, ⟨hn, hl⟩, rfl, rfl⟩
    refine fun _ => ?_
    rw [List.length_map]
    refine fun b hb => ?_
    have last : ∀ m2 : Nat, True := fun _ => trivial
    rcases cmp hb with ⟨rfl, h⟩ | ⟨rfl, h⟩
    · refine fun b hb => ?_
      rcases cmp hb with ⟨rfl, h2⟩ | ⟨rfl, h2⟩
      · obtain ⟨v, hv⟩ : ∃ v, c[n]? = some v := by rw [List.getElem?_eq_getElem (by omega)]; exact ⟨_, rfl⟩
        have hvr := hc v (List.mem_of_getElem? hv)
        have get : (c.map pU)[((n : Nat) : Int).toNat]? = some (pU v) := by rw [Int.toNat_natCast, List.getElem?_map, hv]; rfl
        refine ⟨by kernel_rfl, ?_⟩
        refine ⟨_, ⟨by omega, get⟩, ?_⟩
        refine fun x hx => ?_
        have hx := n64 hx (by omega)
        rw [hx]
        refine ⟨by rw [List.length_map, hl]; decide, ?_⟩
        refine fun y hy => ?_
        rw [List.length_map, hl, Int.tmod_eq_emod_of_nonneg (by omega)] at hy
        refine ⟨_, ⟨by omega, get⟩, ?_⟩
        refine ⟨by decide, ?_⟩
        refine fun z hz => ?_
        refine fun q hq => ?_
        rw [wrapU8] at hq
        rw [byteP_of (n := q) (by omega)]
        refine ⟨⟨by omega, by rw [List.length_map]; omega⟩, ?_⟩
        obtain ⟨o, ho⟩ : ∃ o, (l.map byteP)[y.toNat]? = some o := by rw [List.getElem?_eq_getElem (by rw [List.length_map]; omega)]; exact ⟨_, rfl⟩
        have hoi : ∃ ob : UInt8, o = byteP ob := by
          rw [List.getElem?_map] at ho
          cases hlo : l[y.toNat]? with
          | none => rw [hlo] at ho; cases ho
          | some ob => rw [hlo] at ho; injection ho with ho; exact ⟨ob, ho.symm⟩
        obtain ⟨ob, rfl⟩ := hoi
        refine ⟨_, ho, ?_⟩
        refine ⟨rfl, ?_⟩
        refine fun r hr => ?_
        have hr := n64 hr (by omega)
        rw [hr]
        refine ⟨m - 1, by omega, n + 1, l.set y.toNat (byteN q.toNat), ⟨by omega, by rw [List.length_set]; exact hl⟩, ?_, rfl⟩
        rw [List.map_set]
      · refine ⟨l, rfl, ?_⟩
        exact ⟨.pv (.str _), rfl, trivial, hK l hl⟩
    · refine ⟨l, rfl, ?_⟩
      exact ⟨.pv (.str _), rfl, trivial, hK l hl⟩

end Go.Dv.Try
end
section
/-
  Plain laws of chapter 6: the bytes of tokens are these tokens again.
-/
namespace Go.Dv.Try
open Go Go.Dv

theorem signN_up : ∀ (l : List Tok) (k : Nat), signN (k + 1) l = 2 * signN k l := by
  intro l
  induction l with
  | nil => intro k; rfl
  | cons t l ih =>
    intro k
    simp only [signN, ih]
    rw [Nat.pow_succ]
    split <;> omega

theorem word2_wordN (n : Nat) (h : n < 65536) (r : List UInt8) : word2 (wordN n ++ r) = n := by
  unfold wordN word2
  simp only [List.cons_append, List.getElem?_cons_zero, Option.getD_some, List.getElem?_cons_succ]
  rw [byteN_toNat (by omega), byteN_toNat (by omega)]
  omega

theorem tokB_copy {t : Tok} {a : Nat} (h : TokOk t a) (hd : t.d ≠ 0) (r : List UInt8) : copyT (gRef a) (word2 (tokB t a ++ r)) = t ∧ (tokB t a).length = 2 := by
  have hc := code_lt h hd
  have h' := h
  unfold TokOk at h'
  rw [if_pos hd] at h'
  have hg : gRef a = 16 - shiftN a := by unfold gRef; rw [if_pos (by omega)]
  have hl : t.l.toNat = t.l.toNat - 3 + 3 := by omega
  unfold tokB
  rw [if_pos hd]
  refine ⟨?_, rfl⟩
  rw [word2_wordN _ hc.1, hg]
  have hp := Nat.two_pow_pos (16 - shiftN a)
  have e : (t.d.toNat - 1) * 2 ^ (16 - shiftN a) + t.l.toNat - 3 = (t.l.toNat - 3) + 2 ^ (16 - shiftN a) * (t.d.toNat - 1) := by
    rw [Nat.mul_comm]; omega
  rw [e]
  unfold copyT
  rw [Nat.add_mul_div_left _ _ hp, Nat.div_eq_of_lt hc.2.2, Nat.add_mul_mod_self_left, Nat.mod_eq_of_lt hc.2.2]
  obtain ⟨d, l, b⟩ := t
  simp only at *
  congr 1
  · omega
  · omega
  · omega

theorem tokB_lit {t : Tok} {a : Nat} (h : TokOk t a) (hd : ¬ t.d ≠ 0) (r : List UInt8) : litT (tokB t a ++ r) = t ∧ (tokB t a).length = 1 := by
  unfold TokOk at h
  rw [if_neg hd] at h
  unfold tokB
  rw [if_neg hd]
  refine ⟨?_, rfl⟩
  unfold litT
  simp only [List.cons_append, List.getElem?_cons_zero, Option.getD_some]
  rw [byteN_toNat (by omega)]
  obtain ⟨d, l, b⟩ := t
  simp only at *
  congr 1
  · omega
  · omega
  · omega

/-- A group. -/
theorem group_back : ∀ (g : List Tok) (k : Nat) (r : List UInt8) (a : Nat), g.length ≤ k → ToksOk g a →
    tokN gRef k (signN 0 g) (bytesT g a ++ r) a = ((tokN gRef (k - g.length) 0 r (posT g a)).1, g ++ (tokN gRef (k - g.length) 0 r (posT g a)).2) := by
  intro g
  induction g with
  | nil => intro k r a _ _; simp [signN, bytesT, posT]
  | cons t g ih =>
    intro k r a hk hok
    obtain ⟨h1, h2⟩ := hok
    simp only [List.length_cons] at hk
    obtain ⟨k, rfl⟩ : ∃ j, k = j + 1 := ⟨k - 1, by omega⟩
    have hm := tok_made h1
    have hs : signN 0 (t :: g) = (if t.d ≠ 0 then 1 else 0) + 2 * signN 0 g := by
      simp only [signN]
      rw [signN_up]
    simp only [bytesT, posT, List.append_assoc, List.length_cons]
    rw [hs]
    by_cases hd : t.d ≠ 0
    · rw [if_pos hd]
      obtain ⟨e1, e2⟩ := tokB_copy h1 hd (bytesT g (a + t.made.toNat) ++ r)
      rw [tokN_copy gRef k (1 + 2 * signN 0 g) a (by rw [List.length_append, e2]; omega) (by omega), e1]
      have ed : (tokB t a ++ (bytesT g (a + t.made.toNat) ++ r)).drop 2 = bytesT g (a + t.made.toNat) ++ r := by rw [← e2, List.drop_left]
      rw [ed, show (1 + 2 * signN 0 g) / 2 = signN 0 g by omega, ih k r _ (by omega) h2, show k + 1 - (g.length + 1) = k - g.length by omega]
      rfl
    · rw [if_neg hd]
      obtain ⟨e1, e2⟩ := tokB_lit h1 hd (bytesT g (a + t.made.toNat) ++ r)
      have hmd : t.made = 1 := by unfold Tok.made; rw [if_neg hd]
      rw [tokN_lit gRef k (0 + 2 * signN 0 g) a (by rw [List.length_append, e2]; omega) (by omega), e1]
      have ed : (tokB t a ++ (bytesT g (a + t.made.toNat) ++ r)).drop 1 = bytesT g (a + t.made.toNat) ++ r := by rw [← e2, List.drop_left]
      rw [ed, show (0 + 2 * signN 0 g) / 2 = signN 0 g by omega]
      have h3 := ih k r (a + t.made.toNat) (by omega) h2
      rw [hmd, show Int.toNat 1 = 1 from rfl] at h3 ⊢
      rw [h3, show k + 1 - (g.length + 1) = k - g.length by omega]
      rfl

theorem bytesT_pos {l : List Tok} {a : Nat} (h : l ≠ []) : 1 ≤ (bytesT l a).length := by
  cases l with
  | nil => exact absurd rfl h
  | cons t l =>
    have : 1 ≤ (tokB t a).length := by unfold tokB wordN; split <;> simp
    simp only [bytesT, List.length_append]; omega

theorem body_back : ∀ (n : Nat) (l : List Tok) (f a : Nat), l.length ≤ n → ToksOk l a → tokN gRef 0 f (bodyRun n l a) a = (0, l) := by
  intro n
  induction n with
  | zero =>
    intro l f a h _
    have : l = [] := List.eq_nil_of_length_eq_zero (by omega)
    subst this
    exact tokN_nil0 _ _ _
  | succ n ih =>
    intro l f a h hok
    by_cases hl : l = []
    · subst hl; rw [bodyRun, if_pos rfl]; exact tokN_nil0 _ _ _
    rw [bodyRun, if_neg hl]
    have hpos : 0 < l.length := List.length_pos_iff.2 hl
    have hne : l.take 8 ≠ [] := by
      intro e
      have := congrArg List.length e
      rw [List.length_take] at this
      rw [List.length_nil] at this; omega
    have hsg := signN_lt (l.take 8) 0
    have hp8 : 2 ^ (l.take 8).length ≤ 2 ^ 8 := Nat.pow_le_pow_right (by omega) (by rw [List.length_take]; omega)
    rw [Nat.zero_add] at hsg
    have hok' := hok
    rw [← List.take_append_drop 8 l, toksOk_append] at hok'
    have hb := bytesT_pos (a := a) hne
    rw [tokN_group gRef f a (by rw [List.length_cons, List.length_append]; omega)]
    have e0 : ((byteN (signN 0 (l.take 8)) :: (bytesT (l.take 8) a ++ bodyRun n (l.drop 8) (posT (l.take 8) a)))[0]?.getD 0).toNat = signN 0 (l.take 8) := by
      simp only [List.getElem?_cons_zero, Option.getD_some]
      exact byteN_toNat (by omega)
    rw [e0, List.drop_succ_cons, List.drop_zero, group_back _ 8 _ a (by rw [List.length_take]; omega) hok'.1]
    have hlen : (l.take 8).length = min 8 l.length := List.length_take
    by_cases h8 : 8 ≤ l.length
    · rw [show 8 - (l.take 8).length = 0 by omega, ih (l.drop 8) 0 _ (by rw [List.length_drop]; omega) hok'.2]
      simp
    · have hd : l.drop 8 = [] := List.drop_eq_nil_of_le (by omega)
      have hb0 : bodyRun n (l.drop 8) (posT (l.take 8) a) = [] := by
        rw [hd]
        cases n with
        | zero => rfl
        | succ n => rw [bodyRun, if_pos rfl]
      obtain ⟨j, hj⟩ : ∃ j, 8 - (l.take 8).length = j + 1 := ⟨7 - (l.take 8).length, by omega⟩
      rw [hb0, hj, tokN_nil, if_neg (by omega)]
      simp [List.take_of_length_le (show l.length ≤ 8 by omega)]

theorem resN_body {l : List Tok} (hl : l ≠ []) (hok : ToksOk l 0) : resN gRef (bodyN l) = (l, 0) := by
  have h1 := body_back l.length l 0 0 (Nat.le_refl _) hok
  have h2 : (checkN l).2 = 0 := by
    unfold checkN
    rw [if_neg hl]
    exact (checkRun_ok _ _ _).2 hok
  rw [resN_tok]
  unfold bodyN
  rw [h1]
  simp [h2]

/-- The head of a chunk. -/
theorem head_word (n : Nat) (pk : Bool) (h : 1 ≤ n ∧ n ≤ 4096) (r : List UInt8) : word2 (headN n pk ++ r) = n - 1 + 12288 + (if pk then 32768 else 0) := by
  unfold headN
  rw [word2_wordN _ (by split <;> omega)]
end Go.Dv.Try
end
section
/-
  Plain laws of chapter 6: the tokens of data make the data.
-/
namespace Go.Dv.Try
open Go Go.Dv

theorem mrun_eq (d : List UInt8) (a k : Nat) : ∀ (m n b : Nat), n ≤ b → b < mrun d a k n m → d[a + b]? = d[a + b - k]? := by
  intro m
  induction m with
  | zero => intro n b h1 h2; simp only [mrun] at h2; omega
  | succ m ih =>
    intro n b h1 h2
    unfold mrun at h2
    split at h2
    · rename_i he
      by_cases hb : b = n
      · subst hb; exact he
      · exact ih _ _ (by omega) h2
    · omega

theorem copy_take (D : List UInt8) (a k : Nat) (hk : 1 ≤ k) (hka : k ≤ a) : ∀ n, n ≤ matchN D a k → a + n ≤ D.length → copyOut n k (D.take a) = D.take (a + n) := by
  intro n
  induction n with
  | zero => intro _ _; rfl
  | succ n ih =>
    intro h1 h2
    have h3 := ih (by omega) (by omega)
    have h4 := mrun_eq D a k (roomN D a) 0 n (Nat.zero_le _) (by unfold matchN at h1; omega)
    rw [copyOut_succ, h3]
    have hl : (D.take (a + n)).length = a + n := by rw [List.length_take]; omega
    rw [hl, List.getElem?_take, if_pos (by omega), ← h4, ← Nat.add_assoc, List.take_add_one, List.getElem?_eq_getElem (show a + n < D.length by omega)]
    rfl

def Mk2 (D : List UInt8) : List Tok → Nat → Prop
  | [], a => a = D.length
  | t :: l, a => a < D.length ∧ ((t.d ≠ 0 ∧ 1 ≤ t.d ∧ t.d.toNat ≤ a ∧ 0 ≤ t.l ∧ t.l.toNat ≤ matchN D a t.d.toNat) ∨ (t.d = 0 ∧ t = litN D a)) ∧ Mk2 D l (a + t.made.toNat)

theorem exp_back (D : List UInt8) : ∀ (l : List Tok) (a : Nat), Mk2 D l a → expRun l (D.take a) = D := by
  intro l
  induction l with
  | nil => intro a h; simp only [Mk2] at h; subst h; simp [expRun]
  | cons t l ih =>
    intro a h
    obtain ⟨h1, h2, h3⟩ := h
    simp only [expRun]
    have : expT t (D.take a) = D.take (a + t.made.toNat) := by
      rcases h2 with ⟨hd, h4, h5, h6, h7⟩ | ⟨hd0, h2⟩
      · have hd := hd
        have hm : t.made = t.l := by unfold Tok.made; rw [if_pos hd]
        have hr := matchN_le D a t.d.toNat
        have hr2 : roomN D a ≤ D.length - a := Nat.min_le_right _ _
        unfold expT
        rw [if_pos hd, hm]
        exact copy_take D a t.d.toNat (by omega) h5 _ h7 (by omega)
      · have hd : ¬ t.d ≠ 0 := fun h => h hd0
        have hm : t.made = 1 := by unfold Tok.made; rw [if_neg hd]
        unfold expT
        rw [if_neg hd, hm, h2]
        show D.take a ++ [byteN ((litN D a).b).toNat] = D.take (a + 1)
        rw [List.take_add_one, List.getElem?_eq_getElem h1]
        simp [litN, byteN, List.getElem?_eq_getElem h1]
    rw [this]
    exact ih _ h3

theorem opt_make (d : List UInt8) : ∀ (m a : Nat), a + m = d.length → Mk2 d (optRun d (costsN d) m a) a := by
  intro m
  induction m using Nat.strongRecOn with
  | _ m ih =>
    intro a hm
    cases m with
    | zero => show a = d.length; omega
    | succ m =>
      have hmade := optAt_made d a (by omega)
      rw [optRun_step d m a hm]
      refine ⟨by omega, ?_, ih _ (by omega) _ (by omega)⟩
      unfold optAt
      split
      · rename_i hne
        have h1 := opt_find d a (by omega) hne
        have h2 := near_pos d a _ (by omega) h1.2.1
        left
        simp only [copyN]
        refine ⟨by omega, by omega, by omega, by omega, ?_⟩
        rw [Int.toNat_natCast, Int.toNat_natCast]
        exact h2.2.2
      · exact .inr ⟨rfl, rfl⟩

theorem exp_opt (d : List UInt8) : expN (optN d) = d := by
  have := exp_back d (optN d) 0 (opt_make d _ 0 (by omega))
  simpa [expN] using this
end Go.Dv.Try
end
section
/-
  Plain laws of chapter 6: round trips.
-/
namespace Go.Dv.Try
open Go Go.Dv

theorem head_v (n : Nat) (pk : Bool) (h : 1 ≤ n ∧ n ≤ 4096) (r : List UInt8) : wordV (headN n pk ++ r) = n - 1 + 12288 + (if pk then 32768 else 0) := head_word n pk h r
theorem head_drop (n : Nat) (pk : Bool) (r : List UInt8) : (headN n pk ++ r).drop 2 = r := by
  rw [← headN_len n pk, List.drop_left]

theorem dec_enc {d : List UInt8} (h0 : 0 < d.length) (h1 : d.length ≤ 4096) : decN (encN d) = (d, 0) ∧ (encN d).length ≤ d.length + 2 := by
  have hl := opt_ne d h0
  have hok := opt_toks d h1
  have hb0 := body_ne _ hl
  have hr := resN_body hl hok
  have he := exp_opt d
  unfold encN
  split
  · rename_i hlt
    have hv := head_v (bodyN (optN d)).length true ⟨hb0, by omega⟩ (bodyN (optN d))
    rw [if_pos rfl] at hv
    have hlen : (headN (bodyN (optN d)).length true ++ bodyN (optN d)).length = (bodyN (optN d)).length + 2 := by rw [List.length_append, headN_len]; omega
    refine ⟨?_, by omega⟩
    unfold decN
    rw [if_neg (by omega), if_neg (by omega), if_neg (by omega), if_neg (by omega), head_drop, hr]
    dsimp only
    rw [if_neg (fun h => h rfl), he]
  · have hv := head_v d.length false ⟨h0, h1⟩ d
    rw [if_neg (by decide)] at hv
    have hlen : (headN d.length false ++ d).length = d.length + 2 := by rw [List.length_append, headN_len]; omega
    refine ⟨?_, by omega⟩
    unfold decN
    rw [if_neg (by omega), if_neg (by omega), if_neg (by omega), if_pos (by omega), head_drop]

theorem unpack_pack {u : List UInt8} (hu : u.length = 4096) : unpackN (packN u) = (u, 0) ∧ (packN u).length ≤ 4096 ∧ (packN u).length % 256 = 0 ∧ ((packN u).length = 4096 → packN u = u) := by
  have hl := opt_ne u (by omega)
  have hok := opt_toks u (by omega)
  have hb0 := body_ne _ hl
  have hr := resN_body hl hok
  have he := exp_opt u
  unfold packN
  split
  · rename_i hz
    refine ⟨?_, by simp, by simp, by simp⟩
    unfold unpackN
    have hzz : zerosL 4096 = u := by rw [← hu]; exact hz.symm
    rw [if_neg (by simp), if_pos (show ([] : List UInt8).length = 0 from rfl), hzz]
  · split
    · rename_i hz hb
      generalize hbd : bodyN (optN u) = bd at *
      have hpl := padN_len (headN bd.length true ++ bd)
      have hlen : (headN bd.length true ++ bd).length = bd.length + 2 := by rw [List.length_append, headN_len]; omega
      rw [hlen] at hpl
      have hpe : padN (headN bd.length true ++ bd) = headN bd.length true ++ (bd ++ zerosL ((-((bd.length + 2 : Nat) : Int)) % 256).toNat) := by
        unfold padN; rw [hlen, List.append_assoc]
      have hv := head_v bd.length true ⟨hb0, hb.1⟩ (bd ++ zerosL ((-((bd.length + 2 : Nat) : Int)) % 256).toNat)
      rw [if_pos rfl, ← hpe] at hv
      have hd := head_drop bd.length true (bd ++ zerosL ((-((bd.length + 2 : Nat) : Int)) % 256).toNat)
      rw [← hpe] at hd
      generalize padN (headN bd.length true ++ bd) = s at *
      have hc : wordV s % 4096 + 1 = bd.length := by omega
      have ht : (s.drop 2).take bd.length = bd := by rw [hd, List.take_left]
      have hd2 : s.drop (2 + bd.length) = zerosL (s.length - (2 + bd.length)) := by
        rw [← List.drop_drop, hd, List.drop_left, show ((-((bd.length + 2 : Nat) : Int)) % 256).toNat = s.length - (2 + bd.length) by omega]
      refine ⟨?_, by omega, by omega, fun h => by omega⟩
      unfold unpackN
      rw [if_neg (by omega), if_neg (by omega), if_neg (by omega), if_neg (by omega), if_neg (by omega), hc, if_neg (by omega), ht, hr]
      dsimp only
      rw [if_neg (fun h => h rfl), he, if_neg (by omega), if_neg (by rintro (h | h); exact h hd2; omega)]
    · refine ⟨?_, by omega, by omega, fun _ => rfl⟩
      unfold unpackN
      rw [if_neg (by omega), if_neg (by omega), if_pos hu]
end Go.Dv.Try
end
