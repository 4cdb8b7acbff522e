/-
  A part of the proof: own texts, laid together by a tool of our own: P06i G06b.
-/
import Derived.Test.YthibkikicnaciaaWalks4
section
/-
  Plain laws of chapter 6: none is smaller.
-/
namespace Go.Dv.Try
open Go Go.Dv

/-- The bits that tokens take. -/
def bitsN : List Tok → Int
  | [] => 0
  | t :: l => (if t.d ≠ 0 then 17 else 9) + bitsN l

theorem bitsN_append : ∀ (l m : List Tok), bitsN (l ++ m) = bitsN l + bitsN m := by
  intro l
  induction l with
  | nil => intro m; simp [bitsN]
  | cons t l ih => intro m; simp only [List.cons_append, bitsN, ih]; omega
theorem bitsN_bound : ∀ (l : List Tok), 0 ≤ bitsN l ∧ bitsN l ≤ 17 * l.length := by
  intro l
  induction l with
  | nil => simp [bitsN]
  | cons t l ih => simp only [bitsN, List.length_cons]; split <;> omega

/-- Tokens whose copies are no longer than the best match, up to the end. -/
def Mk (D : List UInt8) : List Tok → Nat → Prop
  | [], a => a = D.length
  | t :: l, a => a < D.length ∧ (t.d ≠ 0 → 3 ≤ t.l ∧ t.l.toNat ≤ (bestN D a).2) ∧ Mk D l (a + t.made.toNat)

theorem minRun_at (t : List Int) : ∀ (m n k : Nat) (o : Int), n ≤ k → k < n + m → minRun t m n o ≤ 17 + t.getD (k - 1) 0 := by
  intro m
  induction m with
  | zero => intro n k o h1 h2; omega
  | succ m ih =>
    intro n k o h1 h2
    unfold minRun
    by_cases he : n = k
    · subst he
      have := minRun_le t m (n + 1) (min o (17 + t.getD (n - 1) 0)); omega
    · exact ih _ _ _ (by omega) (by omega)

theorem costs_end (d : List UInt8) : (costsN d).getD d.length 0 = 0 := by
  have h : ((costsN d).drop d.length)[0]? = (costsN d)[d.length]? := by simp
  rw [List.getD_eq_getElem?_getD, ← h]
  unfold costsN
  rw [costsT_drop d _ _ (Nat.le_refl _), Nat.sub_self]; rfl

theorem costs_get (d : List UInt8) (a : Nat) (h : a < d.length) : (costsN d).getD a 0 = costT d a ((costsN d).drop (a + 1)) := by
  rw [List.getD_eq_getElem?_getD, costsN_at d a h]; rfl

theorem cost_le (D : List UInt8) : ∀ (l : List Tok) (a : Nat), Mk D l a → (costsN D).getD a 0 ≤ bitsN l := by
  intro l
  induction l with
  | nil => intro a h; simp only [Mk] at h; subst h; rw [costs_end]; simp [bitsN]
  | cons t l ih =>
    intro a h
    obtain ⟨h1, h2, h3⟩ := h
    have h4 := ih _ h3
    rw [costs_get D a h1]
    unfold costT
    simp only [bitsN]
    by_cases hd : t.d ≠ 0
    · obtain ⟨h5, h6⟩ := h2 hd
      have hm : t.made = t.l := by unfold Tok.made; rw [if_pos hd]
      rw [hm] at h4
      have h7 := minRun_at ((costsN D).drop (a + 1)) ((bestN D a).2 - 2) 3 t.l.toNat (9 + ((costsN D).drop (a + 1)).getD 0 0) (by omega) (by omega)
      rw [getD_drop1 _ _ _ (by omega)] at h7
      rw [if_pos hd]; omega
    · have hm : t.made = 1 := by unfold Tok.made; rw [if_neg hd]
      rw [hm] at h4
      have h7 := minRun_le ((costsN D).drop (a + 1)) ((bestN D a).2 - 2) 3 (9 + ((costsN D).drop (a + 1)).getD 0 0)
      have h8 := getD_drop1 (costsN D) a 1 (Nat.le_refl _)
      rw [show (1 : Nat) - 1 = 0 from rfl] at h8
      rw [h8] at h7 ⊢
      rw [if_neg hd]
      rw [show a + Int.toNat 1 = a + 1 from rfl] at h4
      omega

theorem mrun_ge (d : List UInt8) (a k : Nat) : ∀ (m n q : Nat), q ≤ m → (∀ b, n ≤ b → b < n + q → d[a + b]? = d[a + b - k]?) → n + q ≤ mrun d a k n m := by
  intro m
  induction m with
  | zero => intro n q h _; have : q = 0 := by omega
            subst this; simp [mrun]
  | succ m ih =>
    intro n q h hb
    cases q with
    | zero => have := (mrun_le d a k (m + 1) n).1; omega
    | succ q =>
      unfold mrun
      rw [if_pos (hb n (Nat.le_refl _) (by omega))]
      have := ih (n + 1) q (by omega) (fun b h1 h2 => hb b (by omega) (by omega))
      omega

theorem bestRun_ge (d : List UInt8) (a : Nat) : ∀ (m k dist most : Nat), most ≤ roomN d a → most ≤ (bestRun d a m k dist most).2 ∧ ∀ q, k ≤ q → q < k + m → matchN d a q ≤ (bestRun d a m k dist most).2 := by
  intro m
  induction m with
  | zero => intro k dist most _; exact ⟨Nat.le_refl _, fun q h1 h2 => by omega⟩
  | succ m ih =>
    intro k dist most h
    unfold bestRun
    split
    · split
      · have h1 := ih (k + 1) k (matchN d a k) (matchN_le d a k)
        refine ⟨by omega, fun q hq1 hq2 => ?_⟩
        by_cases he : q = k
        · subst he; exact h1.1
        · exact h1.2 q (by omega) (by omega)
      · have h1 := ih (k + 1) dist most h
        refine ⟨h1.1, fun q hq1 hq2 => ?_⟩
        by_cases he : q = k
        · subst he; omega
        · exact h1.2 q (by omega) (by omega)
    · refine ⟨Nat.le_refl _, fun q _ _ => ?_⟩
      have := matchN_le d a q
      simp only; omega

theorem bestN_ge (d : List UInt8) (a k : Nat) (h1 : 1 ≤ k) (h2 : k ≤ a) : matchN d a k ≤ (bestN d a).2 := (bestRun_ge d a a 1 0 0 (Nat.zero_le _)).2 k h1 (by omega)

/-- What is there stays in front. -/
theorem copyOut_get : ∀ (n d : Nat) (out : List UInt8), (∀ i, i < out.length → (copyOut n d out)[i]? = out[i]?) ∧ (1 ≤ d → d ≤ out.length → ∀ j, j < n → (copyOut n d out)[out.length + j]? = (copyOut n d out)[out.length + j - d]?) := by
  intro n
  induction n with
  | zero => intro d out; exact ⟨fun _ _ => rfl, fun _ _ j hj => by omega⟩
  | succ n ih =>
    intro d out
    have h := ih d (out ++ [out[out.length - d]?.getD 0])
    rw [List.length_append, List.length_cons, List.length_nil] at h
    refine ⟨fun i hi => ?_, fun hd hdo j hj => ?_⟩
    · show (copyOut n d (out ++ [out[out.length - d]?.getD 0]))[i]? = _
      rw [h.1 i (by omega), List.getElem?_append_left hi]
    · show (copyOut n d (out ++ [out[out.length - d]?.getD 0]))[out.length + j]? = (copyOut n d (out ++ [out[out.length - d]?.getD 0]))[out.length + j - d]?
      cases j with
      | zero =>
        rw [h.1 _ (by omega), h.1 _ (by omega), Nat.add_zero, List.getElem?_append_right (Nat.le_refl _), Nat.sub_self, List.getElem?_append_left (by omega), List.getElem?_eq_getElem (show out.length - d < out.length by omega)]
        rfl
      | succ j =>
        have := h.2 hd (by omega) j (by omega)
        rw [show out.length + (j + 1) = out.length + (0 + 1) + j by omega]
        exact this

theorem expT_get {t : Tok} (out : List UInt8) : ∀ i, i < out.length → (expT t out)[i]? = out[i]? := by
  intro i hi
  unfold expT
  split
  · exact (copyOut_get _ _ _).1 i hi
  · exact List.getElem?_append_left hi
theorem expRun_get : ∀ (l : List Tok) (out : List UInt8) (a : Nat), ToksOk l a → ∀ i, i < out.length → (expRun l out)[i]? = out[i]? := by
  intro l
  induction l with
  | nil => intro out a _ i _; rfl
  | cons t l ih =>
    intro out a h i hi
    simp only [expRun]
    rw [ih _ _ h.2 i (by rw [expT_len h.1]; omega), expT_get out i hi]

/-- Valid tokens. -/
theorem mk_toks : ∀ (l : List Tok) (out : List UInt8), ToksOk l out.length → Mk (expRun l out) l out.length := by
  intro l
  induction l with
  | nil => intro out _; rfl
  | cons t l ih =>
    intro out h
    obtain ⟨h1, h2⟩ := h
    have hm := tok_made h1
    have hl := expT_len h1 out
    have h2' : ToksOk l (expT t out).length := by rw [hl]; exact h2
    have h3 := ih (expT t out) h2'
    have hlen := expRun_len l (expT t out) _ h2'
    have hpos : (expT t out).length ≤ posT l (expT t out).length := by
      have : ∀ (l : List Tok) (a : Nat), a ≤ posT l a := by
        intro l
        induction l with
        | nil => intro a; exact Nat.le_refl _
        | cons t l ih => intro a; have := ih (a + t.made.toNat); simp only [posT]; omega
      exact this _ _
    show Mk (expRun l (expT t out)) (t :: l) out.length
    refine ⟨by omega, fun hd => ?_, by rw [← hl]; exact h3⟩
    have h1' := h1
    unfold TokOk at h1'
    rw [if_pos hd] at h1'
    have hmd : t.made = t.l := by unfold Tok.made; rw [if_pos hd]
    refine ⟨by omega, Nat.le_trans ?_ (bestN_ge _ _ t.d.toNat (by omega) (by omega))⟩
    unfold matchN
    have he : expT t out = copyOut t.l.toNat t.d.toNat out := by unfold expT; rw [if_pos hd]
    have := mrun_ge (expRun l (expT t out)) out.length t.d.toNat (roomN (expRun l (expT t out)) out.length) 0 t.l.toNat (by unfold roomN; omega) (fun b _ hb => ?_)
    · omega
    · rw [expRun_get l _ _ h2' _ (by omega), expRun_get l _ _ h2' _ (by omega), he]
      exact (copyOut_get _ _ _).2 (by omega) (by omega) b (by omega)

theorem costs_min (l : List Tok) (h : ToksOk l 0) : (costsN (expN l)).getD 0 0 ≤ bitsN l := cost_le _ _ _ (mk_toks l [] h)

theorem mk_greedy (d : List UInt8) : ∀ (m a : Nat), d.length ≤ a + m → a ≤ d.length → Mk d (greedyRun d m a) a := by
  intro m
  induction m with
  | zero => intro a h1 h2; show a = d.length; omega
  | succ m ih =>
    intro a h1 h2
    have hm := greedyAt_made d a
    unfold greedyRun
    split
    · rename_i hlt
      refine ⟨hlt, fun hd => ?_, ih _ (by omega) (by have := hm.2 hlt; omega)⟩
      unfold greedyAt at hd ⊢
      split
      · exact ⟨by simp [copyN]; omega, by simp [copyN]⟩
      · rename_i h3; rw [if_neg h3] at hd; simp [litN] at hd
    · show a = d.length; omega
theorem costs_greedy (d : List UInt8) : (costsN d).getD 0 0 ≤ bitsN (greedyN d) := cost_le _ _ _ (mk_greedy d _ 0 (by omega) (by omega))

theorem bits_opt (d : List UInt8) : ∀ (m a : Nat), a + m = d.length → bitsN (optRun d (costsN d) m a) = (costsN d).getD a 0 := by
  intro m
  induction m using Nat.strongRecOn with
  | _ m ih =>
    intro a hm
    cases m with
    | zero =>
      have : a = d.length := by omega
      subst this
      rw [costs_end]; rfl
    | succ m =>
      have hmade := optAt_made d a (by omega)
      rw [optRun_step d m a hm]
      simp only [bitsN]
      rw [ih _ (by omega) _ (by omega)]
      unfold optAt
      by_cases hne : 9 + (costsN d).getD (a + 1) 0 ≠ (costsN d).getD a 0
      · rw [if_pos hne]
        have h1 := opt_find d a (by omega) hne
        have h2 := near_pos d a _ (by omega) h1.2.1
        have hd : (copyN (nearN d a (findRun (costsN d) a (d.length - a) 3), findRun (costsN d) a (d.length - a) 3)).d ≠ 0 := by simp only [copyN]; omega
        have hml : (copyN (nearN d a (findRun (costsN d) a (d.length - a) 3), findRun (costsN d) a (d.length - a) 3)).made = (findRun (costsN d) a (d.length - a) 3 : Nat) := by
          unfold Tok.made; rw [if_pos hd]; rfl
        rw [if_pos hd, hml, Int.toNat_natCast]
        exact h1.2.2.2
      · rw [if_neg hne]
        have hd : ¬ (litN d a).d ≠ 0 := by simp [litN]
        have hml : (litN d a).made = 1 := by unfold Tok.made; rw [if_neg hd]
        rw [if_neg hd, hml]
        exact Decidable.of_not_not hne
theorem costs_opt (d : List UInt8) : bitsN (optN d) = (costsN d).getD 0 0 := bits_opt d _ 0 (by omega)
end Go.Dv.Try
end
section
/-
  Contracts of chapter 6: bits of tokens; none is smaller.
-/
namespace Go.Dv.Try
open Go Go.Dv

def R_Bits (ps : List PV) (x : PV) : Prop := ∃ l : List Tok, ps = [.sl 3 (l.map Tok.pv)] ∧ l.length ≤ 5000 ∧ x = pI (bitsN l)
theorem meets_Bits : Meets (ctxOf [(n_ref06_Copy, fnSpec R_compress_isCopy)]) s_ref06_Bits c_ref06_Bits r_ref06_Bits (fnSpec R_Bits) := by
  rintro _ K ⟨_, ⟨l, rfl, hl, rfl⟩, hK⟩
  refine ⟨fun m env σ => ∃ (g1 g2 : List Tok), (g1 ++ g2 = l ∧ g2.length = m) ∧ σ = [] ∧ env = [(0, .pv (.sl 3 (l.map Tok.pv))), (3, .pv (pI (bitsN g1))), (4, .pv (pI g1.length))], l.length, ⟨[], l, ⟨rfl, rfl⟩, rfl, rfl⟩, ?_⟩
  rintro m env σ ⟨g1, g2, ⟨hg, hm⟩, rfl, rfl⟩
  have hgl : g1.length + g2.length = l.length := by rw [← hg, List.length_append]
  have hbb := bitsN_bound g1
  refine fun _ => ?_
  refine fun b hb => ?_
  rw [List.length_map] at hb
  rcases cmp hb with ⟨rfl, h2⟩ | ⟨rfl, h2⟩
  · cases g2 with
    | nil => simp at hgl; omega
    | cons t g2 =>
    simp only [List.length_cons] at hgl hm
    refine fun x hx => ?_
    obtain rfl := n64 hx (by omega)
    refine ⟨_, ⟨by omega, getTok hg rfl⟩, ?_⟩
    cases hc : t.copy with
    | true =>
      have hd : t.d ≠ 0 := by unfold Tok.copy at hc; simpa using hc
      refine ⟨pB true, ⟨t, rfl, by rw [hc]⟩, ?_⟩
      refine fun x hx => ?_
      obtain rfl := n64 hx (by omega)
      refine fun x hx => ?_
      obtain rfl := n64 hx (by omega)
      refine fun x hx => ?_
      obtain rfl := n64 hx (by omega)
      refine ⟨g2.length, by omega, g1 ++ [t], g2, ⟨by simp [hg], rfl⟩, rfl, ?_⟩
      rw [bitsN_append, List.length_append]
      simp only [bitsN, if_pos hd]
      rw [show bitsN g1 + 9 + 17 - 9 = bitsN g1 + (17 + 0) by omega]; rfl
    | false =>
      have hd : ¬ t.d ≠ 0 := by unfold Tok.copy at hc; simpa using hc
      refine ⟨pB false, ⟨t, rfl, by rw [hc]⟩, ?_⟩
      refine fun x hx => ?_
      obtain rfl := n64 hx (by omega)
      refine ⟨g2.length, by omega, g1 ++ [t], g2, ⟨by simp [hg], rfl⟩, rfl, ?_⟩
      rw [bitsN_append, List.length_append]
      simp only [bitsN, if_neg hd]
      rw [show bitsN g1 + (9 + 0) = bitsN g1 + 9 by omega]; rfl
  · have : g2 = [] := List.eq_nil_of_length_eq_zero (by omega)
    subst this
    rw [List.append_nil] at hg
    subst hg
    exact ⟨.pv (pI _), rfl, trivial, hK⟩

def R_lawBest (ps : List PV) (x : PV) : Prop := ∃ (l : List Tok) (n m : Int), ps = [.sl 3 (l.map Tok.pv), .int .u16 n, .int .i8 m] ∧ (0 ≤ n ∧ n < 65536 ∧ -128 ≤ m ∧ m ≤ 127) ∧ x = pB true
theorem optRun_len (d : List UInt8) (c : List Int) : ∀ (m a : Nat), (optRun d c m a).length ≤ m := by
  intro m
  induction m with
  | zero => intro a; simp [optRun]
  | succ m ih => intro a; unfold optRun; split <;> simp [ih]
theorem greedyRun_len (d : List UInt8) : ∀ (m a : Nat), (greedyRun d m a).length ≤ m := by
  intro m
  induction m with
  | zero => intro a; simp [greedyRun]
  | succ m ih => intro a; unfold greedyRun; split <;> simp [ih]

theorem meets_lawBest : Meets (ctxOf [(n_law06_awake, fnSpec R_true0), (n_ref06_TokensErr, S_TokensErr), (n_ref06_Expanded, S_expanded), (n_law06_few, fnSpec R_law06_few), (n_ref06_DataErr, fnSpec R_ref06_DataErr), (n_compress_CostsOf, S_CostsOf), (n_compress_OptimalOf, S_OptimalOf), (n_compress_GreedyOf, S_GreedyOf), (n_ref06_Bits, fnSpec R_Bits), (n_base_CopyInts, S_CopyInts), (n_compress_CheckCosts, S_CheckCosts)]) s_law06_CompressBest c_law06_CompressBest r_law06_CompressBest (fnSpec R_lawBest) := by
  rintro _ K ⟨_, ⟨l, n, m, rfl, hnm, rfl⟩, hK⟩
  refine ⟨_, ⟨rfl, rfl⟩, ?_⟩
  refine NOT_t ?_
  refine fun _ => ?_
  refine fun b hb => ?_
  rw [List.length_map] at hb
  rcases cmp hb with ⟨rfl, h⟩ | ⟨rfl, h⟩
  · exact ⟨.pv (pB true), rfl, trivial, hK⟩
  have hl : l.length ≤ 300 := by omega
  refine ⟨l, rfl, by omega, ?_⟩
  refine fun b hb => ?_
  rcases cmp hb with ⟨rfl, h⟩ | ⟨rfl, h⟩
  · exact ⟨.pv (pB true), rfl, trivial, hK⟩
  have hz := checkN_zero (Decidable.of_not_not h)
  have hmin := costs_min l hz.2.2
  refine ⟨l, rfl, hz.2.2, ?_⟩
  generalize expN l = d at hmin
  refine ⟨_, ⟨d, rfl, rfl⟩, ?_⟩
  refine fun b hb => ?_
  rcases cmp hb with ⟨rfl, hfew⟩ | ⟨rfl, hfew⟩
  · exact ⟨.pv (pB true), rfl, trivial, hK⟩
  have hd : d.length ≤ 5000 := by
    rw [Bool.not_eq_false, fewB, decide_eq_true_eq] at hfew; omega
  refine ⟨_, ⟨d, rfl, rfl⟩, ?_⟩
  refine fun b hb => ?_
  rcases cmp hb with ⟨rfl, h⟩ | ⟨rfl, h⟩
  · exact ⟨.pv (pB true), rfl, trivial, hK⟩
  have h0 := dErr_zero h
  have he : dErr d.length = 0 := h0.2.2
  have hel : (costsN d).length = d.length + 1 := costsT_len d _
  obtain ⟨c0, hc0⟩ : ∃ c0, (costsN d)[0]? = some c0 := by rw [List.getElem?_eq_getElem (by omega)]; exact ⟨_, rfl⟩
  have eg : (costsN d).getD 0 0 = c0 := by rw [List.getD_eq_getElem?_getD, hc0]; rfl
  have hgr := costs_greedy d
  have hop := costs_opt d
  rw [eg] at hmin hgr hop
  have get0 : ((costsN d).map pI)[0]? = some (pI c0) := by rw [List.getElem?_map, hc0]; rfl
  refine ⟨d, rfl, fun hn => absurd he hn, fun _ => ?_⟩
  refine ⟨d, rfl, fun hn => absurd he hn, fun _ => ?_⟩
  refine ⟨d, rfl, fun hn => absurd he hn, fun _ => ?_⟩
  refine fun b hb => ?_
  rcases cmp hb with ⟨rfl, h⟩ | ⟨rfl, h⟩
  case inl => exact absurd rfl h
  refine fun b hb => ?_
  rcases cmp hb with ⟨rfl, h⟩ | ⟨rfl, h⟩
  case inl => exact absurd rfl h
  refine fun b hb => ?_
  rcases cmp hb with ⟨rfl, h⟩ | ⟨rfl, h⟩
  case inl => exact absurd rfl h
  refine fun _ => ?_
  refine fun x hx => ?_
  obtain rfl := n64 hx (by omega)
  refine fun b hb => ?_
  rw [List.length_map] at hb
  rcases cmp hb with ⟨rfl, h⟩ | ⟨rfl, h⟩
  case inl => exact absurd (by omega) h
  have hlo : (optN d).length ≤ d.length := optRun_len d _ _ _
  have hlg : (greedyN d).length ≤ d.length := greedyRun_len d _ _
  refine ⟨by kernel_rfl, ?_⟩
  refine ⟨_, ⟨l, rfl, by omega, rfl⟩, ?_⟩
  refine ⟨⟨by omega, by rw [List.length_map]; show 0 < _; omega⟩, _, get0, ?_⟩
  refine fun b hb => ?_
  rcases cmp hb with ⟨rfl, h⟩ | ⟨rfl, h⟩
  case inl => omega
  refine ⟨_, ⟨optN d, rfl, by omega, rfl⟩, ?_⟩
  refine ⟨⟨by omega, by rw [List.length_map]; show 0 < _; omega⟩, _, get0, ?_⟩
  refine fun b hb => ?_
  rcases cmp hb with ⟨rfl, h⟩ | ⟨rfl, h⟩
  case inl => omega
  refine ⟨_, ⟨greedyN d, rfl, by omega, rfl⟩, ?_⟩
  refine ⟨⟨by omega, by rw [List.length_map]; show 0 < _; omega⟩, _, get0, ?_⟩
  refine fun b hb => ?_
  rcases cmp hb with ⟨rfl, h⟩ | ⟨rfl, h⟩
  case inl => omega
  refine ⟨costsN d, rfl, by omega, ?_⟩
  refine ⟨d, costsN d, rfl, hd, fun p e hs => ?_⟩
  have hpe : p = 0 ∧ e = 0 := by
    rcases (hs.2 he).2 hel with ⟨_, h1, h2⟩ | ⟨k, _, _, hk, _⟩
    · exact ⟨h1, h2⟩
    · exact absurd rfl hk
  obtain ⟨rfl, rfl⟩ := hpe
  refine fun x hx => ?_
  obtain rfl := n64 hx (by omega)
  refine fun _ => ?_
  rw [List.length_map]
  refine ⟨by omega, ?_⟩
  refine fun x hx => ?_
  rw [Int.tmod_eq_emod_of_nonneg (by omega)] at hx
  have hx0 : 0 ≤ x ∧ x < (costsN d).length := by
    rw [hx]; exact ⟨Int.emod_nonneg _ (by omega), Int.emod_lt_of_pos _ (by omega)⟩
  obtain ⟨i, rfl⟩ : ∃ i : Nat, x = i := ⟨x.toNat, by omega⟩
  obtain ⟨v, hv⟩ : ∃ v, (costsN d)[i]? = some v := by rw [List.getElem?_eq_getElem (by omega)]; exact ⟨_, rfl⟩
  have hvb := costsT_bounds d d.length v (List.mem_of_getElem? hv)
  have geti : ((costsN d).map pI)[((i : Nat) : Int).toNat]? = some (pI v) := by rw [Int.toNat_natCast, List.getElem?_map, hv]; rfl
  refine ⟨⟨by omega, by rw [List.length_map]; omega⟩, _, geti, ?_⟩
  refine fun y hy => ?_
  have hy := n64 hy (by omega)
  rw [hy]
  refine fun z hz => ?_
  have hz := n64 hz (by omega)
  rw [hz]
  refine ⟨⟨by omega, by rw [List.length_map]; omega⟩, _, geti, ?_⟩
  refine ⟨rfl, ?_⟩
  refine ⟨d, (costsN d).set i (v + m), ?_, hd, fun p e hs2 => ?_⟩
  · show [PV.str d, PV.sl 1 (((costsN d).map pI).set (i : Int).toNat (pI (v + m)))] = _
    rw [List.map_set, Int.toNat_natCast]
  have hs3 := (hs2.2 he).2 (by rw [List.length_set]; exact hel)
  refine fun b hb => ?_
  rcases cmp hb with ⟨rfl, h⟩ | ⟨rfl, h⟩
  case inr => exact absurd rfl h
  refine fun b hb => ?_
  rcases cmp hb with ⟨rfl, h⟩ | ⟨rfl, h⟩
  case inr => exact absurd rfl h
  refine fun b1 hb1 => ?_
  refine fun b2 hb2 => ?_
  have hee : b1 = b2 := by
    have key : e = 0 ↔ m = 0 := by
      constructor
      · intro h0
        rcases hs3 with ⟨h1, _⟩ | ⟨_, _, _, _, _, h1⟩
        · have h2 : ((costsN d).set i (v + m))[i]? = (costsN d)[i]? := by rw [h1]
          rw [List.getElem?_set_self (by omega), hv] at h2
          injection h2 with h2
          omega
        · omega
      · intro h0
        rcases hs3 with ⟨_, _, h1⟩ | ⟨k, _, _, hk, _, _⟩
        · exact h1
        · exfalso
          apply hk
          rw [h0, Int.add_zero]
          by_cases hki : i = k
          · subst hki; rw [List.getElem?_set_self (by omega), hv]
          · rw [List.getElem?_set_ne hki]
    rw [Bool.eq_iff_iff, hb1, hb2]
    exact key
  subst hee
  refine fun b hb => ?_
  rcases cmp hb with ⟨rfl, h⟩ | ⟨rfl, h⟩
  case inr => exact absurd rfl h
  exact ⟨.pv (pB true), rfl, trivial, hK⟩

theorem run_best : ∀ xs, HasPs [(false, [.sl true [.int .i64, .int .i64, .int .i64]]), (false, [.int .u16]), (false, [.int .i8])] xs → (fnSpec R_lawBest).run xs fun r => r = .pv (.bool true) := by
  intro xs h
  simp only [HasPs] at h
  obtain ⟨y, _, rfl, _, h1, z, _, rfl, _, h2, u, _, rfl, _, h3, rfl⟩ := h
  obtain ⟨d, rfl, _⟩ := sig_toks (h1 trivial)
  obtain ⟨n, rfl, hn⟩ := sig_int (h2 trivial)
  obtain ⟨m, rfl, hm⟩ := sig_int (h3 trivial)
  simp only [Lit.wf, Bool.and_eq_true, decide_eq_true_eq] at hn hm
  exact ⟨_, ⟨d, n, m, rfl, ⟨hn.1, Int.lt_of_le_of_lt hn.2 (by decide), hm.1, Int.le_trans hm.2 (by decide)⟩, rfl⟩, rfl⟩
end Go.Dv.Try
end
