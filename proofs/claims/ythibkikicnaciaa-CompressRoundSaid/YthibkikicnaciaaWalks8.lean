/-
  A part of the proof: own texts, laid together by a tool of our own: P06k G06l G06m G06n.
-/
import Derived.Test.YthibkikicnaciaaWalks5
import Derived.Test.YthibkikicnaciaaWalks6
import Derived.Test.YthibkikicnaciaaWalks7
section
/-
  Plain laws of chapter 6: the bytes of tokens are these tokens again.
-/
namespace Go.Dv.Try
open Go Go.Dv

theorem signN_up : ∀ (l : List Tok) (k : Nat), signN (k + 1) l = 2 * signN k l := by
  intro l
  induction l with
  | nil => intro k; rfl
  | cons t l ih =>
    intro k
    simp only [signN, ih]
    rw [Nat.pow_succ]
    split <;> omega

theorem word2_wordN (n : Nat) (h : n < 65536) (r : List UInt8) : word2 (wordN n ++ r) = n := by
  unfold wordN word2
  simp only [List.cons_append, List.getElem?_cons_zero, Option.getD_some, List.getElem?_cons_succ]
  rw [byteN_toNat (by omega), byteN_toNat (by omega)]
  omega

theorem tokB_copy {t : Tok} {a : Nat} (h : TokOk t a) (hd : t.d ≠ 0) (r : List UInt8) : copyT (gRef a) (word2 (tokB t a ++ r)) = t ∧ (tokB t a).length = 2 := by
  have hc := code_lt h hd
  have h' := h
  unfold TokOk at h'
  rw [if_pos hd] at h'
  have hg : gRef a = 16 - shiftN a := by unfold gRef; rw [if_pos (by omega)]
  have hl : t.l.toNat = t.l.toNat - 3 + 3 := by omega
  unfold tokB
  rw [if_pos hd]
  refine ⟨?_, rfl⟩
  rw [word2_wordN _ hc.1, hg]
  have hp := Nat.two_pow_pos (16 - shiftN a)
  have e : (t.d.toNat - 1) * 2 ^ (16 - shiftN a) + t.l.toNat - 3 = (t.l.toNat - 3) + 2 ^ (16 - shiftN a) * (t.d.toNat - 1) := by
    rw [Nat.mul_comm]; omega
  rw [e]
  unfold copyT
  rw [Nat.add_mul_div_left _ _ hp, Nat.div_eq_of_lt hc.2.2, Nat.add_mul_mod_self_left, Nat.mod_eq_of_lt hc.2.2]
  obtain ⟨d, l, b⟩ := t
  simp only at *
  congr 1
  · omega
  · omega
  · omega

theorem tokB_lit {t : Tok} {a : Nat} (h : TokOk t a) (hd : ¬ t.d ≠ 0) (r : List UInt8) : litT (tokB t a ++ r) = t ∧ (tokB t a).length = 1 := by
  unfold TokOk at h
  rw [if_neg hd] at h
  unfold tokB
  rw [if_neg hd]
  refine ⟨?_, rfl⟩
  unfold litT
  simp only [List.cons_append, List.getElem?_cons_zero, Option.getD_some]
  rw [byteN_toNat (by omega)]
  obtain ⟨d, l, b⟩ := t
  simp only at *
  congr 1
  · omega
  · omega
  · omega

/-- A group. -/
theorem group_back : ∀ (g : List Tok) (k : Nat) (r : List UInt8) (a : Nat), g.length ≤ k → ToksOk g a →
    tokN gRef k (signN 0 g) (bytesT g a ++ r) a = ((tokN gRef (k - g.length) 0 r (posT g a)).1, g ++ (tokN gRef (k - g.length) 0 r (posT g a)).2) := by
  intro g
  induction g with
  | nil => intro k r a _ _; simp [signN, bytesT, posT]
  | cons t g ih =>
    intro k r a hk hok
    obtain ⟨h1, h2⟩ := hok
    simp only [List.length_cons] at hk
    obtain ⟨k, rfl⟩ : ∃ j, k = j + 1 := ⟨k - 1, by omega⟩
    have hm := tok_made h1
    have hs : signN 0 (t :: g) = (if t.d ≠ 0 then 1 else 0) + 2 * signN 0 g := by
      simp only [signN]
      rw [signN_up]
    simp only [bytesT, posT, List.append_assoc, List.length_cons]
    rw [hs]
    by_cases hd : t.d ≠ 0
    · rw [if_pos hd]
      obtain ⟨e1, e2⟩ := tokB_copy h1 hd (bytesT g (a + t.made.toNat) ++ r)
      rw [tokN_copy gRef k (1 + 2 * signN 0 g) a (by rw [List.length_append, e2]; omega) (by omega), e1]
      have ed : (tokB t a ++ (bytesT g (a + t.made.toNat) ++ r)).drop 2 = bytesT g (a + t.made.toNat) ++ r := by rw [← e2, List.drop_left]
      rw [ed, show (1 + 2 * signN 0 g) / 2 = signN 0 g by omega, ih k r _ (by omega) h2, show k + 1 - (g.length + 1) = k - g.length by omega]
      rfl
    · rw [if_neg hd]
      obtain ⟨e1, e2⟩ := tokB_lit h1 hd (bytesT g (a + t.made.toNat) ++ r)
      have hmd : t.made = 1 := by unfold Tok.made; rw [if_neg hd]
      rw [tokN_lit gRef k (0 + 2 * signN 0 g) a (by rw [List.length_append, e2]; omega) (by omega), e1]
      have ed : (tokB t a ++ (bytesT g (a + t.made.toNat) ++ r)).drop 1 = bytesT g (a + t.made.toNat) ++ r := by rw [← e2, List.drop_left]
      rw [ed, show (0 + 2 * signN 0 g) / 2 = signN 0 g by omega]
      have h3 := ih k r (a + t.made.toNat) (by omega) h2
      rw [hmd, show Int.toNat 1 = 1 from rfl] at h3 ⊢
      rw [h3, show k + 1 - (g.length + 1) = k - g.length by omega]
      rfl

theorem bytesT_pos {l : List Tok} {a : Nat} (h : l ≠ []) : 1 ≤ (bytesT l a).length := by
  cases l with
  | nil => exact absurd rfl h
  | cons t l =>
    have : 1 ≤ (tokB t a).length := by unfold tokB wordN; split <;> simp
    simp only [bytesT, List.length_append]; omega

theorem body_back : ∀ (n : Nat) (l : List Tok) (f a : Nat), l.length ≤ n → ToksOk l a → tokN gRef 0 f (bodyRun n l a) a = (0, l) := by
  intro n
  induction n with
  | zero =>
    intro l f a h _
    have : l = [] := List.eq_nil_of_length_eq_zero (by omega)
    subst this
    exact tokN_nil0 _ _ _
  | succ n ih =>
    intro l f a h hok
    by_cases hl : l = []
    · subst hl; rw [bodyRun, if_pos rfl]; exact tokN_nil0 _ _ _
    rw [bodyRun, if_neg hl]
    have hpos : 0 < l.length := List.length_pos_iff.2 hl
    have hne : l.take 8 ≠ [] := by
      intro e
      have := congrArg List.length e
      rw [List.length_take] at this
      rw [List.length_nil] at this; omega
    have hsg := signN_lt (l.take 8) 0
    have hp8 : 2 ^ (l.take 8).length ≤ 2 ^ 8 := Nat.pow_le_pow_right (by omega) (by rw [List.length_take]; omega)
    rw [Nat.zero_add] at hsg
    have hok' := hok
    rw [← List.take_append_drop 8 l, toksOk_append] at hok'
    have hb := bytesT_pos (a := a) hne
    rw [tokN_group gRef f a (by rw [List.length_cons, List.length_append]; omega)]
    have e0 : ((byteN (signN 0 (l.take 8)) :: (bytesT (l.take 8) a ++ bodyRun n (l.drop 8) (posT (l.take 8) a)))[0]?.getD 0).toNat = signN 0 (l.take 8) := by
      simp only [List.getElem?_cons_zero, Option.getD_some]
      exact byteN_toNat (by omega)
    rw [e0, List.drop_succ_cons, List.drop_zero, group_back _ 8 _ a (by rw [List.length_take]; omega) hok'.1]
    have hlen : (l.take 8).length = min 8 l.length := List.length_take
    by_cases h8 : 8 ≤ l.length
    · rw [show 8 - (l.take 8).length = 0 by omega, ih (l.drop 8) 0 _ (by rw [List.length_drop]; omega) hok'.2]
      simp
    · have hd : l.drop 8 = [] := List.drop_eq_nil_of_le (by omega)
      have hb0 : bodyRun n (l.drop 8) (posT (l.take 8) a) = [] := by
        rw [hd]
        cases n with
        | zero => rfl
        | succ n => rw [bodyRun, if_pos rfl]
      obtain ⟨j, hj⟩ : ∃ j, 8 - (l.take 8).length = j + 1 := ⟨7 - (l.take 8).length, by omega⟩
      rw [hb0, hj, tokN_nil, if_neg (by omega)]
      simp [List.take_of_length_le (show l.length ≤ 8 by omega)]

theorem resN_body {l : List Tok} (hl : l ≠ []) (hok : ToksOk l 0) : resN gRef (bodyN l) = (l, 0) := by
  have h1 := body_back l.length l 0 0 (Nat.le_refl _) hok
  have h2 : (checkN l).2 = 0 := by
    unfold checkN
    rw [if_neg hl]
    exact (checkRun_ok _ _ _).2 hok
  rw [resN_tok]
  unfold bodyN
  rw [h1]
  simp [h2]

/-- The head of a chunk. -/
theorem head_word (n : Nat) (pk : Bool) (h : 1 ≤ n ∧ n ≤ 4096) (r : List UInt8) : word2 (headN n pk ++ r) = n - 1 + 12288 + (if pk then 32768 else 0) := by
  unfold headN
  rw [word2_wordN _ (by split <;> omega)]
end Go.Dv.Try
end
section
/-
  Plain laws of chapter 6: the tokens of data make the data.
-/
namespace Go.Dv.Try
open Go Go.Dv

theorem mrun_eq (d : List UInt8) (a k : Nat) : ∀ (m n b : Nat), n ≤ b → b < mrun d a k n m → d[a + b]? = d[a + b - k]? := by
  intro m
  induction m with
  | zero => intro n b h1 h2; simp only [mrun] at h2; omega
  | succ m ih =>
    intro n b h1 h2
    unfold mrun at h2
    split at h2
    · rename_i he
      by_cases hb : b = n
      · subst hb; exact he
      · exact ih _ _ (by omega) h2
    · omega

theorem copy_take (D : List UInt8) (a k : Nat) (hk : 1 ≤ k) (hka : k ≤ a) : ∀ n, n ≤ matchN D a k → a + n ≤ D.length → copyOut n k (D.take a) = D.take (a + n) := by
  intro n
  induction n with
  | zero => intro _ _; rfl
  | succ n ih =>
    intro h1 h2
    have h3 := ih (by omega) (by omega)
    have h4 := mrun_eq D a k (roomN D a) 0 n (Nat.zero_le _) (by unfold matchN at h1; omega)
    rw [copyOut_succ, h3]
    have hl : (D.take (a + n)).length = a + n := by rw [List.length_take]; omega
    rw [hl, List.getElem?_take, if_pos (by omega), ← h4, ← Nat.add_assoc, List.take_add_one, List.getElem?_eq_getElem (show a + n < D.length by omega)]
    rfl

def Mk2 (D : List UInt8) : List Tok → Nat → Prop
  | [], a => a = D.length
  | t :: l, a => a < D.length ∧ ((t.d ≠ 0 ∧ 1 ≤ t.d ∧ t.d.toNat ≤ a ∧ 0 ≤ t.l ∧ t.l.toNat ≤ matchN D a t.d.toNat) ∨ (t.d = 0 ∧ t = litN D a)) ∧ Mk2 D l (a + t.made.toNat)

theorem exp_back (D : List UInt8) : ∀ (l : List Tok) (a : Nat), Mk2 D l a → expRun l (D.take a) = D := by
  intro l
  induction l with
  | nil => intro a h; simp only [Mk2] at h; subst h; simp [expRun]
  | cons t l ih =>
    intro a h
    obtain ⟨h1, h2, h3⟩ := h
    simp only [expRun]
    have : expT t (D.take a) = D.take (a + t.made.toNat) := by
      rcases h2 with ⟨hd, h4, h5, h6, h7⟩ | ⟨hd0, h2⟩
      · have hd := hd
        have hm : t.made = t.l := by unfold Tok.made; rw [if_pos hd]
        have hr := matchN_le D a t.d.toNat
        have hr2 : roomN D a ≤ D.length - a := Nat.min_le_right _ _
        unfold expT
        rw [if_pos hd, hm]
        exact copy_take D a t.d.toNat (by omega) h5 _ h7 (by omega)
      · have hd : ¬ t.d ≠ 0 := fun h => h hd0
        have hm : t.made = 1 := by unfold Tok.made; rw [if_neg hd]
        unfold expT
        rw [if_neg hd, hm, h2]
        show D.take a ++ [byteN ((litN D a).b).toNat] = D.take (a + 1)
        rw [List.take_add_one, List.getElem?_eq_getElem h1]
        simp [litN, byteN, List.getElem?_eq_getElem h1]
    rw [this]
    exact ih _ h3

theorem best_match (d : List UInt8) (a : Nat) (h : 0 < (bestN d a).2) : 1 ≤ (bestN d a).1 ∧ (bestN d a).1 ≤ a ∧ (bestN d a).2 = matchN d a (bestN d a).1 := by
  have := recs_match d a a 1 0 _ (best_rec d a h)
  omega

theorem greedy_make (d : List UInt8) : ∀ (m a : Nat), d.length ≤ a + m → a ≤ d.length → Mk2 d (greedyRun d m a) a := by
  intro m
  induction m with
  | zero => intro a h1 h2; show a = d.length; omega
  | succ m ih =>
    intro a h1 h2
    have hm := greedyAt_made d a
    unfold greedyRun
    split
    · rename_i hlt
      refine ⟨hlt, ?_, ih _ (by omega) (by have := hm.2 hlt; omega)⟩
      unfold greedyAt
      split
      · rename_i h3
        have hb := best_match d a (by omega)
        left
        simp only [copyN]
        refine ⟨by omega, by omega, by omega, by omega, ?_⟩
        rw [Int.toNat_natCast, Int.toNat_natCast, ← hb.2.2]
        exact Nat.le_refl _
      · exact .inr ⟨rfl, rfl⟩
    · show a = d.length; omega

theorem greedy_toks (d : List UInt8) (h : d.length ≤ 4096) : ∀ (m a : Nat), d.length ≤ a + m → a ≤ d.length → ToksOk (greedyRun d m a) a := by
  intro m
  induction m with
  | zero => intro a _ _; trivial
  | succ m ih =>
    intro a h1 h2
    have hm := greedyAt_made d a
    unfold greedyRun
    split
    · rename_i hlt
      refine ⟨⟨by omega, ?_⟩, ih _ (by omega) (by have := hm.2 hlt; omega)⟩
      unfold greedyAt
      split
      · rename_i h3
        have hb := best_match d a (by omega)
        have hb2 := (bestN_le d a).1
        have hr2 : roomN d a ≤ d.length - a := Nat.min_le_right _ _
        have hr3 : roomN d a ≤ longN a := Nat.min_le_left _ _
        simp only [copyN]
        rw [if_pos (by omega)]
        refine ⟨trivial, ?_, ?_, ?_, ?_, ?_⟩ <;> omega
      · have := (d[a]?.getD 0).toNat_lt
        unfold litN
        simp only [ne_eq, not_true_eq_false, if_false, true_and]
        omega
    · trivial
theorem greedy_ne (d : List UInt8) (h : 0 < d.length) : greedyN d ≠ [] := by
  unfold greedyN
  obtain ⟨m, hm⟩ : ∃ m, d.length = m + 1 := ⟨d.length - 1, by omega⟩
  rw [hm]
  unfold greedyRun
  rw [if_pos h]
  simp

theorem opt_make (d : List UInt8) : ∀ (m a : Nat), a + m = d.length → Mk2 d (optRun d (costsN d) m a) a := by
  intro m
  induction m using Nat.strongRecOn with
  | _ m ih =>
    intro a hm
    cases m with
    | zero => show a = d.length; omega
    | succ m =>
      have hmade := optAt_made d a (by omega)
      rw [optRun_step d m a hm]
      refine ⟨by omega, ?_, ih _ (by omega) _ (by omega)⟩
      unfold optAt
      split
      · rename_i hne
        have h1 := opt_find d a (by omega) hne
        have h2 := near_pos d a _ (by omega) h1.2.1
        left
        simp only [copyN]
        refine ⟨by omega, by omega, by omega, by omega, ?_⟩
        rw [Int.toNat_natCast, Int.toNat_natCast]
        exact h2.2.2
      · exact .inr ⟨rfl, rfl⟩

theorem exp_greedy (d : List UInt8) : expN (greedyN d) = d := by
  have := exp_back d (greedyN d) 0 (greedy_make d _ 0 (by omega) (by omega))
  simpa [expN] using this
theorem exp_opt (d : List UInt8) : expN (optN d) = d := by
  have := exp_back d (optN d) 0 (opt_make d _ 0 (by omega))
  simpa [expN] using this
end Go.Dv.Try
end
section
/-
  Plain laws of chapter 6: round trips.
-/
namespace Go.Dv.Try
open Go Go.Dv

theorem toks_check {l : List Tok} (hl : l ≠ []) (hok : ToksOk l 0) : (checkN l).2 = 0 := by
  unfold checkN
  rw [if_neg hl]
  exact (checkRun_ok _ _ _).2 hok

theorem head_v (n : Nat) (pk : Bool) (h : 1 ≤ n ∧ n ≤ 4096) (r : List UInt8) : wordV (headN n pk ++ r) = n - 1 + 12288 + (if pk then 32768 else 0) := head_word n pk h r
theorem head_drop (n : Nat) (pk : Bool) (r : List UInt8) : (headN n pk ++ r).drop 2 = r := by
  rw [← headN_len n pk, List.drop_left]

theorem chunk_ok {l : List Tok} (hl : l ≠ []) (hok : ToksOk l 0) (hb : (bodyN l).length ≤ 4096) : chunkN l = (headN (bodyN l).length true ++ bodyN l, 0) := by
  unfold chunkN
  rw [if_neg (fun h => h (toks_check hl hok)), if_neg (by omega)]

theorem toksOf_chunk {l : List Tok} (hl : l ≠ []) (hok : ToksOk l 0) (hb : (bodyN l).length ≤ 4096) : toksOfN (chunkN l).1 = (l, 0) := by
  rw [chunk_ok hl hok hb]
  have h0 := body_ne l hl
  have hv := head_v (bodyN l).length true ⟨h0, hb⟩ (bodyN l)
  rw [if_pos rfl] at hv
  have hlen : (headN (bodyN l).length true ++ bodyN l).length = (bodyN l).length + 2 := by rw [List.length_append, headN_len]; omega
  have hr := resN_body hl hok
  unfold toksOfN
  dsimp only
  rw [if_neg (by omega), if_neg (by omega), if_neg (by omega), if_neg (by omega), head_drop, hr]

theorem dec_enc {d : List UInt8} (h0 : 0 < d.length) (h1 : d.length ≤ 4096) : decN (encN d) = (d, 0) ∧ (encN d).length ≤ d.length + 2 := by
  have hl := opt_ne d h0
  have hok := opt_toks d h1
  have hb0 := body_ne _ hl
  have hr := resN_body hl hok
  have he := exp_opt d
  unfold encN
  split
  · rename_i hlt
    have hv := head_v (bodyN (optN d)).length true ⟨hb0, by omega⟩ (bodyN (optN d))
    rw [if_pos rfl] at hv
    have hlen : (headN (bodyN (optN d)).length true ++ bodyN (optN d)).length = (bodyN (optN d)).length + 2 := by rw [List.length_append, headN_len]; omega
    refine ⟨?_, by omega⟩
    unfold decN
    rw [if_neg (by omega), if_neg (by omega), if_neg (by omega), if_neg (by omega), head_drop, hr]
    dsimp only
    rw [if_neg (fun h => h rfl), he]
  · have hv := head_v d.length false ⟨h0, h1⟩ d
    rw [if_neg (by decide)] at hv
    have hlen : (headN d.length false ++ d).length = d.length + 2 := by rw [List.length_append, headN_len]; omega
    refine ⟨?_, by omega⟩
    unfold decN
    rw [if_neg (by omega), if_neg (by omega), if_neg (by omega), if_pos (by omega), head_drop]

theorem unpack_pack {u : List UInt8} (hu : u.length = 4096) : unpackN (packN u) = (u, 0) ∧ (packN u).length ≤ 4096 ∧ (packN u).length % 256 = 0 ∧ ((packN u).length = 4096 → packN u = u) := by
  have hl := opt_ne u (by omega)
  have hok := opt_toks u (by omega)
  have hb0 := body_ne _ hl
  have hr := resN_body hl hok
  have he := exp_opt u
  unfold packN
  split
  · rename_i hz
    refine ⟨?_, by simp, by simp, by simp⟩
    unfold unpackN
    have hzz : zerosL 4096 = u := by rw [← hu]; exact hz.symm
    rw [if_neg (by simp), if_pos (show ([] : List UInt8).length = 0 from rfl), hzz]
  · split
    · rename_i hz hb
      generalize hbd : bodyN (optN u) = bd at *
      have hpl := padN_len (headN bd.length true ++ bd)
      have hlen : (headN bd.length true ++ bd).length = bd.length + 2 := by rw [List.length_append, headN_len]; omega
      rw [hlen] at hpl
      have hpe : padN (headN bd.length true ++ bd) = headN bd.length true ++ (bd ++ zerosL ((-((bd.length + 2 : Nat) : Int)) % 256).toNat) := by
        unfold padN; rw [hlen, List.append_assoc]
      have hv := head_v bd.length true ⟨hb0, hb.1⟩ (bd ++ zerosL ((-((bd.length + 2 : Nat) : Int)) % 256).toNat)
      rw [if_pos rfl, ← hpe] at hv
      have hd := head_drop bd.length true (bd ++ zerosL ((-((bd.length + 2 : Nat) : Int)) % 256).toNat)
      rw [← hpe] at hd
      generalize padN (headN bd.length true ++ bd) = s at *
      have hc : wordV s % 4096 + 1 = bd.length := by omega
      have ht : (s.drop 2).take bd.length = bd := by rw [hd, List.take_left]
      have hd2 : s.drop (2 + bd.length) = zerosL (s.length - (2 + bd.length)) := by
        rw [← List.drop_drop, hd, List.drop_left, show ((-((bd.length + 2 : Nat) : Int)) % 256).toNat = s.length - (2 + bd.length) by omega]
      refine ⟨?_, by omega, by omega, fun h => by omega⟩
      unfold unpackN
      rw [if_neg (by omega), if_neg (by omega), if_neg (by omega), if_neg (by omega), if_neg (by omega), hc, if_neg (by omega), ht, hr]
      dsimp only
      rw [if_neg (fun h => h rfl), he, if_neg (by omega), if_neg (by rintro (h | h); exact h hd2; omega)]
    · refine ⟨?_, by omega, by omega, fun _ => rfl⟩
      unfold unpackN
      rw [if_neg (by omega), if_neg (by omega), if_pos hu]
end Go.Dv.Try
end
section
/-
  Contracts of chapter 6: the law of round trips.
-/
namespace Go.Dv.Try
open Go Go.Dv

def R_lawRound (ps : List PV) (x : PV) : Prop := ∃ (d p : List UInt8) (c : List Int), ps = [.str d, .str p, .sl 1 (c.map pU)] ∧ (∀ n ∈ c, 0 ≤ n ∧ n < 65536) ∧ x = pB true
theorem good_greedy (d : List UInt8) (h0 : 0 < d.length) (h1 : d.length ≤ 4096) : ToksOk (greedyN d) 0 ∧ greedyN d ≠ [] ∧ (greedyN d).length ≤ d.length ∧ expN (greedyN d) = d :=
  ⟨greedy_toks d h1 _ 0 (by omega) (by omega), greedy_ne d h0, greedyRun_len d _ _, exp_greedy d⟩
theorem good_opt (d : List UInt8) (h0 : 0 < d.length) (h1 : d.length ≤ 4096) : ToksOk (optN d) 0 ∧ optN d ≠ [] ∧ (optN d).length ≤ d.length ∧ expN (optN d) = d :=
  ⟨opt_toks d h1, opt_ne d h0, optRun_len d _ _ _, exp_opt d⟩

set_option maxHeartbeats 1000000 in
theorem meets_lawRound : Meets (ctxOf [(n_law06_awake, fnSpec R_true0), (n_law06_Unit, S_Unit), (n_compress_PackUnit, S_PackUnit), (n_compress_UnpackUnit, S_unpack), (n_law06_few, fnSpec R_law06_few), (n_ref06_DataErr, fnSpec R_ref06_DataErr), (n_compress_Encode, S_Encode), (n_compress_Decode, S_decode), (n_compress_GreedyOf, S_GreedyOf), (n_compress_OptimalOf, S_OptimalOf), (n_compress_Expanded, S_Expanded), (n_ref06_CopyTokens, S_CopyTokens), (n_compress_ChunkOf, S_ChunkOf), (n_compress_TokensOf, S_toksOf), (n_ref06_SameTokens, fnSpec R_ref06_SameTokens)]) s_law06_CompressRound c_law06_CompressRound r_law06_CompressRound (fnSpec R_lawRound) := by
  rintro _ K ⟨_, ⟨d, p, c, rfl, hc, rfl⟩, hK⟩
  refine ⟨_, ⟨rfl, rfl⟩, ?_⟩
  refine NOT_t ?_
  refine ⟨p, c, rfl, hc, fun u hu => ?_⟩
  obtain ⟨hu1, hu2, hu3, hu4⟩ := unpack_pack hu
  refine ⟨u, rfl, by omega, fun h => absurd hu h, fun _ => ?_⟩
  refine ⟨packN u, rfl, by omega, ?_⟩
  rw [hu1]
  refine fun b hb => ?_
  rcases cmp hb with ⟨rfl, h⟩ | ⟨rfl, h⟩
  case inl => exact absurd rfl h
  refine fun b hb => ?_
  rcases cmp hb with ⟨rfl, h⟩ | ⟨rfl, h⟩
  case inl => exact absurd rfl h
  refine fun b hb => ?_
  rcases cmp hb with ⟨rfl, h⟩ | ⟨rfl, h⟩
  case inl => exact absurd rfl h
  refine fun b hb => ?_
  rcases cmp hb with ⟨rfl, h⟩ | ⟨rfl, h⟩
  case inl => omega
  refine ⟨by decide, ?_⟩
  refine fun y hy => ?_
  rw [Int.tmod_eq_emod_of_nonneg (by omega)] at hy
  rw [hy]
  refine fun b hb => ?_
  rcases cmp hb with ⟨rfl, h⟩ | ⟨rfl, h⟩
  case inl => omega
  have rest : ∀ (K1 : Prop), True := fun _ => trivial
  refine fun b hb => ?_
  rcases cmp hb with ⟨rfl, h46⟩ | ⟨rfl, h46⟩
  · refine fun b hb => ?_
    rcases cmp hb with ⟨rfl, h⟩ | ⟨rfl, h⟩
    case inl => exact absurd (hu4 (by omega)) h
    refine ⟨_, ⟨d, rfl, rfl⟩, ?_⟩
    refine fun b hb => ?_
    rcases cmp hb with ⟨rfl, hfew⟩ | ⟨rfl, hfew⟩
    · exact ⟨.pv (pB true), rfl, trivial, hK⟩
    rw [Bool.not_eq_false, fewB, decide_eq_true_eq] at hfew
    refine ⟨_, ⟨d, rfl, rfl⟩, ?_⟩
    refine fun b hb => ?_
    rcases cmp hb with ⟨rfl, h⟩ | ⟨rfl, h⟩
    · exact ⟨.pv (pB true), rfl, trivial, hK⟩
    have h0 := dErr_zero h
    have he := h0.2.2
    have hd3 : d.length ≤ 300 := by omega
    obtain ⟨hen1, hen2⟩ := dec_enc h0.2.1 h0.1
    refine ⟨d, rfl, fun hn => absurd he hn, fun _ => ?_⟩
    refine ⟨encN d, rfl, by omega, ?_⟩
    rw [hen1]
    refine fun b hb => ?_
    rcases cmp hb with ⟨rfl, h⟩ | ⟨rfl, h⟩
    case inl => exact absurd rfl h
    refine fun b hb => ?_
    rcases cmp hb with ⟨rfl, h⟩ | ⟨rfl, h⟩
    case inl => exact absurd rfl h
    refine fun b hb => ?_
    rcases cmp hb with ⟨rfl, h⟩ | ⟨rfl, h⟩
    case inl => exact absurd rfl h
    refine fun x hx => ?_
    have hx := n64 hx (by omega)
    rw [hx]
    refine fun b hb => ?_
    rcases cmp hb with ⟨rfl, h⟩ | ⟨rfl, h⟩
    case inl => omega
    refine ⟨fun m env σ => ∃ k : Nat, (k + m = 2) ∧ σ = [] ∧ env = [(0, .pv (.str d)), (16, .pv (pI k))], 2, ⟨0, rfl, rfl, rfl⟩, ?_⟩
    rintro m env σ ⟨k, hk, rfl, rfl⟩
    refine fun b hb => ?_
    rcases cmp hb with ⟨rfl, h⟩ | ⟨rfl, h⟩
    · refine ⟨d, rfl, fun hn => absurd he hn, fun _ => ?_⟩
      refine fun b hb => ?_
      rcases cmp hb with ⟨rfl, hk1⟩ | ⟨rfl, hk1⟩
      · refine ⟨d, rfl, fun hn => absurd he hn, fun _ => ?_⟩
        obtain ⟨hok, hne, hle, hex⟩ := good_opt d h0.2.1 h0.1
        have hbl := bodyRun_len (optN d).length (optN d) 0
        have ebl : bodyRun (optN d).length (optN d) 0 = bodyN (optN d) := rfl
        rw [ebl] at hbl
        have hb4 : (bodyN (optN d)).length ≤ 4096 := by omega
        have h0c := toks_check hne hok
        have hch := chunk_ok hne hok hb4
        have hto := toksOf_chunk hne hok hb4
        have hcl : (chunkN (optN d)).1.length ≤ 5000 := by rw [hch]; dsimp only; rw [List.length_append, headN_len]; omega
        refine ⟨optN d, rfl, by omega, ?_⟩
        refine ⟨optN d, rfl, by omega, fun hn => absurd h0c hn, fun _ => ?_⟩
        refine ⟨optN d, rfl, by omega, ?_⟩
        refine ⟨optN d, rfl, by omega, ?_⟩
        refine ⟨(chunkN (optN d)).1, rfl, hcl, ?_⟩
        refine fun b hb => ?_
        rcases cmp hb with ⟨rfl, h⟩ | ⟨rfl, h⟩
        case inl => exact absurd rfl h
        refine fun b hb => ?_
        rcases cmp hb with ⟨rfl, h⟩ | ⟨rfl, h⟩
        case inl => exact absurd rfl h
        refine fun b hb => ?_
        rcases cmp hb with ⟨rfl, h⟩ | ⟨rfl, h⟩
        case inl => exact absurd hex h
        refine fun b hb => ?_
        rcases cmp hb with ⟨rfl, h⟩ | ⟨rfl, h⟩
        case inl => exact absurd (by rw [hch]) h
        refine fun b hb => ?_
        rcases cmp hb with ⟨rfl, h⟩ | ⟨rfl, h⟩
        case inl => exact absurd (by rw [hto]) h
        refine ⟨pB true, ⟨(toksOfN (chunkN (optN d)).1).1, optN d, rfl, by rw [hto]; simp⟩, ?_⟩
        refine NOT_t ?_
        refine fun x hx => ?_
        have hx := n64 hx (by omega)
        rw [hx]
        exact ⟨m - 1, by omega, k + 1, by omega, rfl, rfl⟩
      · obtain ⟨hok, hne, hle, hex⟩ := good_greedy d h0.2.1 h0.1
        have hbl := bodyRun_len (greedyN d).length (greedyN d) 0
        have ebl : bodyRun (greedyN d).length (greedyN d) 0 = bodyN (greedyN d) := rfl
        rw [ebl] at hbl
        have hb4 : (bodyN (greedyN d)).length ≤ 4096 := by omega
        have h0c := toks_check hne hok
        have hch := chunk_ok hne hok hb4
        have hto := toksOf_chunk hne hok hb4
        have hcl : (chunkN (greedyN d)).1.length ≤ 5000 := by rw [hch]; dsimp only; rw [List.length_append, headN_len]; omega
        refine ⟨greedyN d, rfl, by omega, ?_⟩
        refine ⟨greedyN d, rfl, by omega, fun hn => absurd h0c hn, fun _ => ?_⟩
        refine ⟨greedyN d, rfl, by omega, ?_⟩
        refine ⟨greedyN d, rfl, by omega, ?_⟩
        refine ⟨(chunkN (greedyN d)).1, rfl, hcl, ?_⟩
        refine fun b hb => ?_
        rcases cmp hb with ⟨rfl, h⟩ | ⟨rfl, h⟩
        case inl => exact absurd rfl h
        refine fun b hb => ?_
        rcases cmp hb with ⟨rfl, h⟩ | ⟨rfl, h⟩
        case inl => exact absurd rfl h
        refine fun b hb => ?_
        rcases cmp hb with ⟨rfl, h⟩ | ⟨rfl, h⟩
        case inl => exact absurd hex h
        refine fun b hb => ?_
        rcases cmp hb with ⟨rfl, h⟩ | ⟨rfl, h⟩
        case inl => exact absurd (by rw [hch]) h
        refine fun b hb => ?_
        rcases cmp hb with ⟨rfl, h⟩ | ⟨rfl, h⟩
        case inl => exact absurd (by rw [hto]) h
        refine ⟨pB true, ⟨(toksOfN (chunkN (greedyN d)).1).1, greedyN d, rfl, by rw [hto]; simp⟩, ?_⟩
        refine NOT_t ?_
        refine fun x hx => ?_
        have hx := n64 hx (by omega)
        rw [hx]
        exact ⟨m - 1, by omega, k + 1, by omega, rfl, rfl⟩
    · exact ⟨.pv (pB true), rfl, trivial, hK⟩
  · refine ⟨_, ⟨d, rfl, rfl⟩, ?_⟩
    refine fun b hb => ?_
    rcases cmp hb with ⟨rfl, hfew⟩ | ⟨rfl, hfew⟩
    · exact ⟨.pv (pB true), rfl, trivial, hK⟩
    rw [Bool.not_eq_false, fewB, decide_eq_true_eq] at hfew
    refine ⟨_, ⟨d, rfl, rfl⟩, ?_⟩
    refine fun b hb => ?_
    rcases cmp hb with ⟨rfl, h⟩ | ⟨rfl, h⟩
    · exact ⟨.pv (pB true), rfl, trivial, hK⟩
    have h0 := dErr_zero h
    have he := h0.2.2
    have hd3 : d.length ≤ 300 := by omega
    obtain ⟨hen1, hen2⟩ := dec_enc h0.2.1 h0.1
    refine ⟨d, rfl, fun hn => absurd he hn, fun _ => ?_⟩
    refine ⟨encN d, rfl, by omega, ?_⟩
    rw [hen1]
    refine fun b hb => ?_
    rcases cmp hb with ⟨rfl, h⟩ | ⟨rfl, h⟩
    case inl => exact absurd rfl h
    refine fun b hb => ?_
    rcases cmp hb with ⟨rfl, h⟩ | ⟨rfl, h⟩
    case inl => exact absurd rfl h
    refine fun b hb => ?_
    rcases cmp hb with ⟨rfl, h⟩ | ⟨rfl, h⟩
    case inl => exact absurd rfl h
    refine fun x hx => ?_
    have hx := n64 hx (by omega)
    rw [hx]
    refine fun b hb => ?_
    rcases cmp hb with ⟨rfl, h⟩ | ⟨rfl, h⟩
    case inl => omega
    refine ⟨fun m env σ => ∃ k : Nat, (k + m = 2) ∧ σ = [] ∧ env = [(0, .pv (.str d)), (16, .pv (pI k))], 2, ⟨0, rfl, rfl, rfl⟩, ?_⟩
    rintro m env σ ⟨k, hk, rfl, rfl⟩
    refine fun b hb => ?_
    rcases cmp hb with ⟨rfl, h⟩ | ⟨rfl, h⟩
    · refine ⟨d, rfl, fun hn => absurd he hn, fun _ => ?_⟩
      refine fun b hb => ?_
      rcases cmp hb with ⟨rfl, hk1⟩ | ⟨rfl, hk1⟩
      · refine ⟨d, rfl, fun hn => absurd he hn, fun _ => ?_⟩
        obtain ⟨hok, hne, hle, hex⟩ := good_opt d h0.2.1 h0.1
        have hbl := bodyRun_len (optN d).length (optN d) 0
        have ebl : bodyRun (optN d).length (optN d) 0 = bodyN (optN d) := rfl
        rw [ebl] at hbl
        have hb4 : (bodyN (optN d)).length ≤ 4096 := by omega
        have h0c := toks_check hne hok
        have hch := chunk_ok hne hok hb4
        have hto := toksOf_chunk hne hok hb4
        have hcl : (chunkN (optN d)).1.length ≤ 5000 := by rw [hch]; dsimp only; rw [List.length_append, headN_len]; omega
        refine ⟨optN d, rfl, by omega, ?_⟩
        refine ⟨optN d, rfl, by omega, fun hn => absurd h0c hn, fun _ => ?_⟩
        refine ⟨optN d, rfl, by omega, ?_⟩
        refine ⟨optN d, rfl, by omega, ?_⟩
        refine ⟨(chunkN (optN d)).1, rfl, hcl, ?_⟩
        refine fun b hb => ?_
        rcases cmp hb with ⟨rfl, h⟩ | ⟨rfl, h⟩
        case inl => exact absurd rfl h
        refine fun b hb => ?_
        rcases cmp hb with ⟨rfl, h⟩ | ⟨rfl, h⟩
        case inl => exact absurd rfl h
        refine fun b hb => ?_
        rcases cmp hb with ⟨rfl, h⟩ | ⟨rfl, h⟩
        case inl => exact absurd hex h
        refine fun b hb => ?_
        rcases cmp hb with ⟨rfl, h⟩ | ⟨rfl, h⟩
        case inl => exact absurd (by rw [hch]) h
        refine fun b hb => ?_
        rcases cmp hb with ⟨rfl, h⟩ | ⟨rfl, h⟩
        case inl => exact absurd (by rw [hto]) h
        refine ⟨pB true, ⟨(toksOfN (chunkN (optN d)).1).1, optN d, rfl, by rw [hto]; simp⟩, ?_⟩
        refine NOT_t ?_
        refine fun x hx => ?_
        have hx := n64 hx (by omega)
        rw [hx]
        exact ⟨m - 1, by omega, k + 1, by omega, rfl, rfl⟩
      · obtain ⟨hok, hne, hle, hex⟩ := good_greedy d h0.2.1 h0.1
        have hbl := bodyRun_len (greedyN d).length (greedyN d) 0
        have ebl : bodyRun (greedyN d).length (greedyN d) 0 = bodyN (greedyN d) := rfl
        rw [ebl] at hbl
        have hb4 : (bodyN (greedyN d)).length ≤ 4096 := by omega
        have h0c := toks_check hne hok
        have hch := chunk_ok hne hok hb4
        have hto := toksOf_chunk hne hok hb4
        have hcl : (chunkN (greedyN d)).1.length ≤ 5000 := by rw [hch]; dsimp only; rw [List.length_append, headN_len]; omega
        refine ⟨greedyN d, rfl, by omega, ?_⟩
        refine ⟨greedyN d, rfl, by omega, fun hn => absurd h0c hn, fun _ => ?_⟩
        refine ⟨greedyN d, rfl, by omega, ?_⟩
        refine ⟨greedyN d, rfl, by omega, ?_⟩
        refine ⟨(chunkN (greedyN d)).1, rfl, hcl, ?_⟩
        refine fun b hb => ?_
        rcases cmp hb with ⟨rfl, h⟩ | ⟨rfl, h⟩
        case inl => exact absurd rfl h
        refine fun b hb => ?_
        rcases cmp hb with ⟨rfl, h⟩ | ⟨rfl, h⟩
        case inl => exact absurd rfl h
        refine fun b hb => ?_
        rcases cmp hb with ⟨rfl, h⟩ | ⟨rfl, h⟩
        case inl => exact absurd hex h
        refine fun b hb => ?_
        rcases cmp hb with ⟨rfl, h⟩ | ⟨rfl, h⟩
        case inl => exact absurd (by rw [hch]) h
        refine fun b hb => ?_
        rcases cmp hb with ⟨rfl, h⟩ | ⟨rfl, h⟩
        case inl => exact absurd (by rw [hto]) h
        refine ⟨pB true, ⟨(toksOfN (chunkN (greedyN d)).1).1, greedyN d, rfl, by rw [hto]; simp⟩, ?_⟩
        refine NOT_t ?_
        refine fun x hx => ?_
        have hx := n64 hx (by omega)
        rw [hx]
        exact ⟨m - 1, by omega, k + 1, by omega, rfl, rfl⟩
    · exact ⟨.pv (pB true), rfl, trivial, hK⟩
theorem run_round : ∀ xs, HasPs [(false, [.str]), (false, [.str]), (false, [.sl false [.int .u16]])] xs → (fnSpec R_lawRound).run xs fun r => r = .pv (.bool true) := by
  intro xs h
  simp only [HasPs] at h
  obtain ⟨y, _, rfl, _, h1, z, _, rfl, _, h2, u, _, rfl, _, h3, rfl⟩ := h
  obtain ⟨d, rfl, _⟩ := sig_str (h1 trivial)
  obtain ⟨p, rfl, _⟩ := sig_str (h2 trivial)
  obtain ⟨c, rfl, hc⟩ := sig_u16s (h3 trivial)
  exact ⟨_, ⟨d, p, c, rfl, hc, rfl⟩, rfl⟩
end Go.Dv.Try
end
