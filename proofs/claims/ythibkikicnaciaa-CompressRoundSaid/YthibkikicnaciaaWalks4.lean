/-
  A part of the proof: own texts, laid together by a tool of our own: P06h F06w F06x F06y F06z G06a.
-/
import Derived.Test.YthibkikicnaciaaWalks3
section
/-
  Plain laws of chapter 6: errors of tokens; what tokens make.
-/
namespace Go.Dv.Try
open Go Go.Dv

/-- The error of a token at a position. -/
def tokErr (t : Tok) (a : Nat) : Int :=
  if 4096 ≤ a then 8
  else if t.d ≠ 0 then
    (if t.b ≠ 0 then 3 else if ¬ (1 ≤ t.d ∧ t.d ≤ a ∧ 3 ≤ t.l ∧ t.l ≤ longN a) then 2 else if 4096 < a + t.l then 8 else 0)
  else (if t.l ≠ 0 then 3 else if ¬ (0 ≤ t.b ∧ t.b ≤ 255) then 2 else 0)

theorem tokErr_ok {t : Tok} {a : Nat} : tokErr t a = 0 ↔ TokOk t a := by
  unfold tokErr TokOk
  by_cases h : 4096 ≤ a
  · rw [if_pos h]; constructor
    · intro h; cases h
    · intro h'; omega
  · rw [if_neg h]
    by_cases hd : t.d ≠ 0
    · rw [if_pos hd, if_pos hd]
      split
      · constructor
        · intro h; cases h
        · intro h'; omega
      · split
        · constructor
          · intro h; cases h
          · intro h'; omega
        · split
          · constructor
            · intro h; cases h
            · intro h'; omega
          · constructor
            · intro _; omega
            · intro _; rfl
    · rw [if_neg hd, if_neg hd]
      split
      · constructor
        · intro h; cases h
        · intro h'; omega
      · split
        · constructor
          · intro h; cases h
          · intro h'; omega
        · constructor
          · intro _; omega
          · intro _; rfl

/-- The first token that may not stand, by its number; its error. -/
def checkRun : List Tok → Nat → Nat → Int × Int
  | [], _, _ => (0, 0)
  | t :: l, i, a => if tokErr t a ≠ 0 then ((i : Int), tokErr t a) else checkRun l (i + 1) (a + t.made.toNat)
def checkN (l : List Tok) : Int × Int := if l = [] then (0, 17) else checkRun l 0 0

theorem checkRun_ok : ∀ (l : List Tok) (i a : Nat), (checkRun l i a).2 = 0 ↔ ToksOk l a := by
  intro l
  induction l with
  | nil => intro i a; simp [checkRun, ToksOk]
  | cons t l ih =>
    intro i a
    unfold checkRun ToksOk
    split
    · rename_i h
      constructor
      · intro h'; exact absurd h' h
      · intro h'; exact absurd (tokErr_ok.2 h'.1) h
    · rename_i h
      rw [ih]
      have := tokErr_ok.1 (Decidable.of_not_not h)
      simp [this]
theorem checkRun_zero : ∀ (l : List Tok) (i a : Nat), (checkRun l i a).2 = 0 → (checkRun l i a).1 = 0 := by
  intro l
  induction l with
  | nil => intro i a _; rfl
  | cons t l ih =>
    intro i a h
    unfold checkRun at h ⊢
    split
    · rename_i h'
      rw [if_pos h'] at h; exact absurd h h'
    · rename_i h'
      rw [if_neg h'] at h; exact ih _ _ h
theorem checkN_zero {l : List Tok} (h : (checkN l).2 = 0) : (checkN l).1 = 0 ∧ l ≠ [] ∧ ToksOk l 0 := by
  unfold checkN at h ⊢
  split at h
  · cases h
  · rename_i hl
    rw [if_neg hl]
    exact ⟨checkRun_zero _ _ _ h, hl, (checkRun_ok _ _ _).1 h⟩
theorem checkN_ne {l : List Tok} (h : (checkN l).2 ≠ 0) : ¬ (l ≠ [] ∧ ToksOk l 0) := by
  rintro ⟨hl, hok⟩
  apply h
  unfold checkN
  rw [if_neg hl]
  exact (checkRun_ok _ _ _).2 hok

/-- Bytes copied from so far behind. -/
def copyOut : Nat → Nat → List UInt8 → List UInt8
  | 0, _, out => out
  | n + 1, d, out => copyOut n d (out ++ [out[out.length - d]?.getD 0])
theorem copyOut_len : ∀ (n d : Nat) (out : List UInt8), (copyOut n d out).length = out.length + n := by
  intro n
  induction n with
  | zero => intro d out; rfl
  | succ n ih => intro d out; simp only [copyOut, ih, List.length_append, List.length_cons, List.length_nil]; omega
/-- What a token makes, behind what is there. -/
def expT (t : Tok) (out : List UInt8) : List UInt8 := if t.d ≠ 0 then copyOut t.l.toNat t.d.toNat out else out ++ [byteN t.b.toNat]
def expRun : List Tok → List UInt8 → List UInt8
  | [], out => out
  | t :: l, out => expRun l (expT t out)
def expN (l : List Tok) : List UInt8 := expRun l []

theorem expT_len {t : Tok} {a : Nat} (h : TokOk t a) (out : List UInt8) : (expT t out).length = out.length + t.made.toNat := by
  unfold TokOk at h
  unfold expT Tok.made
  split
  · rw [copyOut_len]
  · simp
theorem expRun_len : ∀ (l : List Tok) (out : List UInt8) (a : Nat), ToksOk l a → (expRun l out).length + a = out.length + posT l a := by
  intro l
  induction l with
  | nil => intro out a _; simp [expRun, posT]
  | cons t l ih =>
    intro out a h
    obtain ⟨h1, h2⟩ := h
    have h3 := ih (expT t out) _ h2
    have h4 := expT_len h1 out
    simp only [expRun, posT]
    omega
theorem expRun_append : ∀ (l m : List Tok) (out : List UInt8), expRun (l ++ m) out = expRun m (expRun l out) := by
  intro l
  induction l with
  | nil => intro m out; rfl
  | cons t l ih => intro m out; simp only [List.cons_append, expRun, ih]
theorem posT_le : ∀ (l : List Tok) (a : Nat), ToksOk l a → a ≤ 4096 → posT l a ≤ 4096 := by
  intro l
  induction l with
  | nil => intro a _ h; exact h
  | cons t l ih =>
    intro a h _
    have := tok_made h.1
    exact ih _ h.2 (by omega)
end Go.Dv.Try
end
section
/-
  Contracts of chapter 6: errors of tokens.
-/
namespace Go.Dv.Try
open Go Go.Dv

theorem NOT_t {K : Bool → Prop} (k : K false) : ∀ r : Bool, (r = true ↔ true = false) → K r := fun r hr => by
  cases r with
  | false => exact k
  | true => exact absurd (hr.1 rfl) (by decide)
theorem NOT_f {K : Bool → Prop} (k : K true) : ∀ r : Bool, (r = true ↔ false = false) → K r := fun r hr => by
  cases r with
  | false => exact absurd (hr.2 rfl) (by decide)
  | true => exact k

def R_tokenErr (ps : List PV) (x : PV) : Prop := ∃ (t : Tok) (a : Nat), ps = [t.pv, pI a] ∧ a ≤ 4096 ∧ x = pI (tokErr t a)

theorem first2 (a b : Int) : firstZ [a, b] = if a = 0 then b else a := by
  show (if a = 0 then (if b = 0 then 0 else b) else a) = _
  by_cases h : b = 0
  · rw [if_pos h, h]
  · rw [if_neg h]
theorem unless_t (e : Int) : unlessZ true e = 0 := rfl
theorem unless_f (e : Int) : unlessZ false e = e := rfl

theorem meets_refTokenErr : Meets (ctxOf [(n_ref06_Copy, fnSpec R_compress_isCopy), (n_base_Within, fnSpec R_compress_within), (n_ref06_Longest, fnSpec R_compress_longest)]) s_ref06_TokenErr c_ref06_TokenErr r_ref06_TokenErr (fnSpec R_tokenErr) := by
  rintro _ K ⟨_, ⟨t, a, rfl, ha, rfl⟩, hK⟩
  have fin : ∀ e : Int, e = tokErr t a → (∃ r : RV, r = RV.pv (pI e) ∧ r = RV.pv (pI (tokErr t a))) := fun e h => ⟨_, rfl, by rw [h]⟩
  refine fun b hb => ?_
  rcases cmp hb with ⟨rfl, h⟩ | ⟨rfl, h⟩
  · refine ⟨.pv (pI _), pI_eq ?_, trivial, hK⟩
    unfold tokErr; rw [if_pos (by omega)]
  have ha' : ¬ 4096 ≤ a := by omega
  cases hc : t.copy with
  | true =>
    have hd : t.d ≠ 0 := by unfold Tok.copy at hc; simpa using hc
    refine ⟨pB true, ⟨t, rfl, by rw [hc]⟩, ?_⟩
    refine NOT_t ?_
    refine ⟨pB true, ⟨t, rfl, by rw [hc]⟩, ?_⟩
    refine fun b hb => ?_
    rcases cmp hb with ⟨rfl, h1⟩ | ⟨rfl, h1⟩
    · refine ⟨.pv (pI _), pI_eq ?_, trivial, hK⟩
      unfold tokErr; rw [if_neg ha', if_pos hd, if_pos h1]
    refine ⟨pB true, ⟨t, rfl, by rw [hc]⟩, ?_⟩
    refine NOT_t ?_
    refine ⟨by kernel_rfl, ?_⟩
    refine ⟨pB true, ⟨t, rfl, by rw [hc]⟩, ?_⟩
    by_cases h2 : 1 ≤ t.d ∧ t.d ≤ a
    · refine ⟨pB true, ⟨_, _, _, rfl, pB_eq (by simpa using h2)⟩, ?_⟩
      refine NOT_t ?_
      refine ⟨_, ⟨a, rfl, by omega, rfl⟩, ?_⟩
      by_cases h3 : 3 ≤ t.l ∧ t.l ≤ longZ a
      · refine ⟨pB true, ⟨_, _, _, rfl, pB_eq (by simpa using h3)⟩, ?_⟩
        refine NOT_t ?_
        unfold longZ at h3
        rw [Int.toNat_natCast] at h3
        refine ⟨pB true, ⟨t, rfl, by rw [hc]⟩, ?_⟩
        refine fun x hx => ?_
        obtain rfl := n64 hx (by omega)
        refine fun b hb => ?_
        rcases cmp hb with ⟨rfl, h4⟩ | ⟨rfl, h4⟩
        · refine ⟨.pv (pI _), pI_eq ?_, trivial, hK⟩
          unfold tokErr; rw [if_neg ha', if_pos hd, if_neg h1, if_neg (by omega), if_pos (by omega)]
        · refine ⟨.pv (pI _), pI_eq ?_, trivial, hK⟩
          unfold tokErr; rw [if_neg ha', if_pos hd, if_neg h1, if_neg (by omega), if_neg (by omega)]
      · refine ⟨pB false, ⟨_, _, _, rfl, pB_eq (by simpa using h3)⟩, ?_⟩
        refine NOT_f ?_
        unfold longZ at h3
        rw [Int.toNat_natCast] at h3
        refine ⟨.pv (pI _), pI_eq ?_, trivial, hK⟩
        unfold tokErr; rw [if_neg ha', if_pos hd, if_neg h1, if_pos (by omega)]
    · refine ⟨pB false, ⟨_, _, _, rfl, pB_eq (by simpa using h2)⟩, ?_⟩
      refine NOT_f ?_
      refine ⟨.pv (pI _), pI_eq ?_, trivial, hK⟩
      unfold tokErr; rw [if_neg ha', if_pos hd, if_neg h1, if_pos (by omega)]
  | false =>
    have hd : ¬ t.d ≠ 0 := by unfold Tok.copy at hc; simpa using hc
    refine ⟨pB false, ⟨t, rfl, by rw [hc]⟩, ?_⟩
    refine NOT_f ?_
    refine fun b hb => ?_
    rcases cmp hb with ⟨rfl, h1⟩ | ⟨rfl, h1⟩
    · trace_state
      refine ⟨.pv (pI _), pI_eq ?_, trivial, hK⟩
      unfold tokErr; rw [if_neg ha', if_neg hd, if_pos h1]
    refine ⟨pB false, ⟨t, rfl, by rw [hc]⟩, ?_⟩
    refine ⟨pB false, ⟨t, rfl, by rw [hc]⟩, ?_⟩
    refine NOT_f ?_
    by_cases h2 : 0 ≤ t.b ∧ t.b ≤ 255
    · refine ⟨pB true, ⟨_, _, _, rfl, pB_eq (by simpa using h2)⟩, ?_⟩
      refine NOT_t ?_
      refine ⟨by kernel_rfl, ?_⟩
      refine ⟨pB false, ⟨t, rfl, by rw [hc]⟩, ?_⟩
      refine ⟨pB false, ⟨t, rfl, by rw [hc]⟩, ?_⟩
      refine ⟨.pv (pI _), pI_eq ?_, trivial, hK⟩
      unfold tokErr; rw [if_neg ha', if_neg hd, if_neg h1, if_neg (by omega)]
    · refine ⟨pB false, ⟨_, _, _, rfl, pB_eq (by simpa using h2)⟩, ?_⟩
      refine NOT_f ?_
      refine ⟨.pv (pI _), pI_eq ?_, trivial, hK⟩
      unfold tokErr; rw [if_neg ha', if_neg hd, if_neg h1, if_pos h2]
end Go.Dv.Try
end
section
/-
  Contracts of chapter 6: errors of tokens in the program.
-/
namespace Go.Dv.Try
open Go Go.Dv

theorem tokErr_big {t : Tok} {a : Nat} (h : ¬ (a : Int) < 4096) : tokErr t a = 8 := by unfold tokErr; rw [if_pos (by omega)]
theorem tokErr_c3 {t : Tok} {a : Nat} (h : (a : Int) < 4096) (hd : t.d ≠ 0) (hb : t.b ≠ 0) : tokErr t a = 3 := by unfold tokErr; rw [if_neg (by omega), if_pos hd, if_pos hb]
theorem tokErr_c {t : Tok} {a : Nat} (h : (a : Int) < 4096) (hd : t.d ≠ 0) (hb : t.b = 0) : tokErr t a = if ¬ (1 ≤ t.d ∧ t.d ≤ a ∧ 3 ≤ t.l ∧ t.l ≤ longN a) then 2 else if 4096 < a + t.l then 8 else 0 := by unfold tokErr; rw [if_neg (by omega), if_pos hd, if_neg (by omega)]
theorem tokErr_l3 {t : Tok} {a : Nat} (h : (a : Int) < 4096) (hd : ¬ t.d ≠ 0) (hb : t.l ≠ 0) : tokErr t a = 3 := by unfold tokErr; rw [if_neg (by omega), if_neg hd, if_pos hb]
theorem tokErr_l {t : Tok} {a : Nat} (h : (a : Int) < 4096) (hd : ¬ t.d ≠ 0) (hb : t.l = 0) : tokErr t a = if ¬ (0 ≤ t.b ∧ t.b ≤ 255) then 2 else 0 := by unfold tokErr; rw [if_neg (by omega), if_neg hd, if_neg (by omega)]

theorem meets_tokenErr : Meets (ctxOf [(n_compress_isCopy, fnSpec R_compress_isCopy), (n_compress_unless, fnSpec R_compress_unless), (n_compress_first, fnSpec R_compress_first), (n_compress_within, fnSpec R_compress_within), (n_compress_longest, fnSpec R_compress_longest), (n_compress_made, fnSpec R_compress_made)]) s_compress_tokenErr c_compress_tokenErr r_compress_tokenErr (fnSpec R_tokenErr) := by
  rintro _ K ⟨_, ⟨t, a, rfl, ha, rfl⟩, hK⟩
  refine ⟨by kernel_rfl, ?_⟩
  refine fun b hb => ?_
  refine ⟨_, ⟨b, 8, rfl, rfl⟩, ?_⟩
  have big := @tokErr_big t a
  cases hc : t.copy with
  | true =>
    have hd : t.d ≠ 0 := by unfold Tok.copy at hc; simpa using hc
    refine ⟨pB true, ⟨t, rfl, by rw [hc]⟩, ?_⟩
    refine fun e he => ?_
    rcases cmp he with ⟨rfl, h1⟩ | ⟨rfl, h1⟩
    · refine ⟨_, ⟨true, 3, rfl, rfl⟩, ?_⟩
      refine ⟨rfl, ?_⟩
      refine ⟨_, ⟨[unlessZ b 8, unlessZ true 3], rfl, rfl⟩, ?_⟩
      rcases cmp hb with ⟨rfl, h⟩ | ⟨rfl, h⟩
      · refine fun q hq => ?_
        rcases cmp hq with ⟨rfl, h2⟩ | ⟨rfl, h2⟩
        · exact absurd rfl h2
        refine ⟨_, ⟨_, _, _, rfl, rfl⟩, ?_⟩
        refine ⟨pB true, ⟨t, rfl, by rw [hc]⟩, ?_⟩
        refine ⟨by kernel_rfl, ?_⟩
        by_cases h2 : 1 ≤ t.d ∧ t.d ≤ a
        · refine ⟨pB true, ⟨_, _, _, rfl, pB_eq (by simpa using h2)⟩, ?_⟩
          refine ⟨_, ⟨a, rfl, by omega, rfl⟩, ?_⟩
          refine ⟨_, ⟨_, _, _, rfl, rfl⟩, ?_⟩
          refine ⟨by kernel_rfl, ?_⟩
          refine ⟨_, ⟨decide (3 ≤ t.l ∧ t.l ≤ longZ a), 2, rfl, rfl⟩, ?_⟩
          refine ⟨_, ⟨t, rfl, rfl⟩, ?_⟩
          refine fun x hx => ?_
          obtain rfl := n64 hx (by omega)
          refine fun c hc2 => ?_
          refine ⟨_, ⟨c, 8, rfl, rfl⟩, ?_⟩
          refine ⟨rfl, ?_⟩
          refine ⟨_, ⟨[unlessZ (decide (3 ≤ t.l ∧ t.l ≤ longZ a)) 2, unlessZ c 8], rfl, rfl⟩, ?_⟩
          refine ⟨.pv (pI _), pI_eq ?_, trivial, hK⟩
          rw [first2, tokErr_c h hd h1]
          have hm : t.made = t.l := by unfold Tok.made; rw [if_pos hd]
          rw [hm] at hc2
          unfold longZ
          rw [Int.toNat_natCast]
          by_cases h3 : 3 ≤ t.l ∧ t.l ≤ (longN a : Int)
          · rw [decide_eq_true h3, unless_t, if_pos rfl, if_neg (fun hn => hn ⟨h2.1, h2.2, h3⟩)]
            rcases cmp hc2 with ⟨rfl, h4⟩ | ⟨rfl, h4⟩
            · rw [if_neg (by omega)]; rfl
            · rw [if_pos (by omega)]; rfl
          · rw [decide_eq_false h3, unless_f, if_neg (show ¬ (2 : Int) = 0 by decide), if_pos (fun hn => h3 hn.2.2)]
        · refine ⟨pB false, ⟨_, _, _, rfl, pB_eq (by simpa using h2)⟩, ?_⟩
          refine ⟨by kernel_rfl, ?_⟩
          refine ⟨_, ⟨false, 2, rfl, rfl⟩, ?_⟩
          refine ⟨_, ⟨t, rfl, rfl⟩, ?_⟩
          refine fun x hx => ?_
          obtain rfl := n64 hx (by omega)
          refine fun c hc2 => ?_
          refine ⟨_, ⟨c, 8, rfl, rfl⟩, ?_⟩
          refine ⟨rfl, ?_⟩
          refine ⟨_, ⟨[unlessZ false 2, unlessZ c 8], rfl, rfl⟩, ?_⟩
          refine ⟨.pv (pI _), pI_eq ?_, trivial, hK⟩
          rw [first2, unless_f, if_neg (by decide)]
          rw [tokErr_c h hd h1, if_pos (fun hn => h2 ⟨hn.1, hn.2.1⟩)]
      · refine fun q hq => ?_
        rcases cmp hq with ⟨rfl, h2⟩ | ⟨rfl, h2⟩
        · refine ⟨.pv (pI _), pI_eq ?_, trivial, hK⟩
          rw [big h]; rfl
        · exact absurd (by decide) h2
    · refine ⟨pB true, ⟨t, rfl, by rw [hc]⟩, ?_⟩
      refine NOT_t ?_
      refine ⟨_, ⟨false, 3, rfl, rfl⟩, ?_⟩
      refine ⟨rfl, ?_⟩
      refine ⟨_, ⟨[unlessZ b 8, unlessZ false 3], rfl, rfl⟩, ?_⟩
      refine fun q hq => ?_
      rcases cmp hb with ⟨rfl, h⟩ | ⟨rfl, h⟩
      · rcases cmp hq with ⟨rfl, h2⟩ | ⟨rfl, h2⟩
        · refine ⟨.pv (pI _), pI_eq ?_, trivial, hK⟩
          rw [tokErr_c3 h hd h1]; rfl
        · exact absurd (by decide) h2
      · rcases cmp hq with ⟨rfl, h2⟩ | ⟨rfl, h2⟩
        · refine ⟨.pv (pI _), pI_eq ?_, trivial, hK⟩
          rw [big h]; rfl
        · exact absurd (by decide) h2
  | false =>
    have hd : ¬ t.d ≠ 0 := by unfold Tok.copy at hc; simpa using hc
    have hm : t.made = 1 := by unfold Tok.made; rw [if_neg hd]
    refine ⟨pB false, ⟨t, rfl, by rw [hc]⟩, ?_⟩
    refine ⟨pB false, ⟨t, rfl, by rw [hc]⟩, ?_⟩
    refine NOT_f ?_
    refine fun e he => ?_
    refine ⟨_, ⟨e, 3, rfl, rfl⟩, ?_⟩
    refine ⟨rfl, ?_⟩
    refine ⟨_, ⟨[unlessZ b 8, unlessZ e 3], rfl, rfl⟩, ?_⟩
    refine fun q hq => ?_
    rcases cmp hb with ⟨rfl, h⟩ | ⟨rfl, h⟩
    · rcases cmp he with ⟨rfl, h1⟩ | ⟨rfl, h1⟩
      · rcases cmp hq with ⟨rfl, h2⟩ | ⟨rfl, h2⟩
        · exact absurd rfl h2
        refine ⟨_, ⟨_, _, _, rfl, rfl⟩, ?_⟩
        refine ⟨pB false, ⟨t, rfl, by rw [hc]⟩, ?_⟩
        refine ⟨by kernel_rfl, ?_⟩
        refine ⟨_, ⟨decide (0 ≤ t.b ∧ t.b ≤ 255), 2, rfl, rfl⟩, ?_⟩
        refine ⟨_, ⟨t, rfl, rfl⟩, ?_⟩
        refine fun x hx => ?_
        obtain rfl := n64 hx (by omega)
        refine fun c hc2 => ?_
        refine ⟨_, ⟨c, 8, rfl, rfl⟩, ?_⟩
        refine ⟨rfl, ?_⟩
        refine ⟨_, ⟨[unlessZ (decide (0 ≤ t.b ∧ t.b ≤ 255)) 2, unlessZ c 8], rfl, rfl⟩, ?_⟩
        refine ⟨.pv (pI _), pI_eq ?_, trivial, hK⟩
        rw [hm] at hc2
        rw [first2, tokErr_l h hd h1]
        by_cases h3 : 0 ≤ t.b ∧ t.b ≤ 255
        · rw [decide_eq_true h3, unless_t, if_pos rfl, if_neg (fun hn => hn h3)]
          rcases cmp hc2 with ⟨rfl, h4⟩ | ⟨rfl, h4⟩
          · rfl
          · omega
        · rw [decide_eq_false h3, unless_f, if_neg (show ¬ (2 : Int) = 0 by decide), if_pos h3]
      · rcases cmp hq with ⟨rfl, h2⟩ | ⟨rfl, h2⟩
        · refine ⟨.pv (pI _), pI_eq ?_, trivial, hK⟩
          rw [tokErr_l3 h hd h1]; rfl
        · exact absurd (by decide) h2
    · have h8 : firstZ [unlessZ false 8, unlessZ e 3] = 8 := rfl
      rcases cmp hq with ⟨rfl, h2⟩ | ⟨rfl, h2⟩
      · refine ⟨.pv (pI _), pI_eq ?_, trivial, hK⟩
        rw [big h, h8]
      · exact absurd (by rw [h8]; decide) h2
end Go.Dv.Try
end
section
/-
  Contracts of chapter 6: tokens checked.
-/
namespace Go.Dv.Try
open Go Go.Dv

def S_CheckTokens : Spec := mkS true false fun ps K => ∃ l : List Tok, ps = [.sl 3 (l.map Tok.pv)] ∧ l.length ≤ 5000 ∧ K (.tup [.pv (pI (checkN l).1), .pv (pI (checkN l).2)])

def S_CopyTokens : Spec := mkS true false fun ps K => ∃ l : List Tok, ps = [.sl 3 (l.map Tok.pv)] ∧ l.length ≤ 1000000 ∧ K (.fresh 68 3 (l.map Tok.pv))
theorem meets_CopyTokens : Meets (ctxOf []) s_ref06_CopyTokens c_ref06_CopyTokens r_ref06_CopyTokens S_CopyTokens := by
  rintro _ K ⟨l, rfl, hl, hK⟩
  refine ⟨rfl, ?_⟩
  refine ⟨⟨by simp; omega, by simp; omega⟩, ?_⟩
  exact ⟨.fresh _ _ _, ⟨rfl, rfl, rfl, rfl⟩, flat_toks _, hK⟩

theorem meets_refCheckTokens : Meets (ctxOf [(n_ref06_TokenErr, fnSpec R_tokenErr), (n_ref06_Makes, fnSpec R_compress_made)]) s_ref06_CheckTokens c_ref06_CheckTokens r_ref06_CheckTokens S_CheckTokens := by
  rintro _ K ⟨l, rfl, hl, hK⟩
  refine fun _ => ?_
  refine fun b hb => ?_
  rw [List.length_map] at hb
  rcases cmp hb with ⟨rfl, h⟩ | ⟨rfl, h⟩
  · have : l = [] := List.eq_nil_of_length_eq_zero (by omega)
    subst this
    exact ⟨[.pv (pI _), .pv (pI _)], ⟨rfl, rfl, trivial⟩, ⟨trivial, trivial, trivial⟩, hK⟩
  have hne : l ≠ [] := by intro e; subst e; exact h rfl
  have hc : checkN l = checkRun l 0 0 := by unfold checkN; rw [if_neg hne]
  rw [hc] at hK
  refine ⟨fun m env σ => ∃ (g1 g2 : List Tok) (a : Nat), (g1 ++ g2 = l ∧ g2.length = m ∧ a ≤ 4096 ∧ checkRun l 0 0 = checkRun g2 g1.length a) ∧ σ = [] ∧ env = [(0, .pv (.sl 3 (l.map Tok.pv))), (4, .pv (pI a)), (5, .pv (pI g1.length))], l.length, ⟨[], l, 0, ⟨rfl, rfl, by omega, rfl⟩, rfl, rfl⟩, ?_⟩
  rintro m env σ ⟨g1, g2, a, ⟨hg, hm, ha, hrun⟩, rfl, rfl⟩
  have hgl : g1.length + g2.length = l.length := by rw [← hg, List.length_append]
  refine fun _ => ?_
  refine fun b hb => ?_
  rw [List.length_map] at hb
  rcases cmp hb with ⟨rfl, h2⟩ | ⟨rfl, h2⟩
  · cases g2 with
    | nil => simp at hgl; omega
    | cons t g2 =>
    simp only [List.length_cons] at hgl hm
    refine ⟨_, ⟨by omega, getTok hg rfl⟩, ?_⟩
    refine ⟨_, ⟨t, a, rfl, ha, rfl⟩, ?_⟩
    refine fun b hb => ?_
    rcases cmp hb with ⟨rfl, h3⟩ | ⟨rfl, h3⟩
    · refine ⟨[.pv (pI _), .pv (pI _)], ⟨rfl, rfl, trivial⟩, ⟨trivial, trivial, trivial⟩, ?_⟩
      rw [hrun, checkRun, if_pos h3] at hK
      exact hK
    · have hok := tokErr_ok.1 (Decidable.of_not_not h3)
      have hmt := tok_made hok
      refine ⟨_, ⟨by omega, getTok hg rfl⟩, ?_⟩
      refine ⟨_, ⟨t, rfl, rfl⟩, ?_⟩
      refine fun x hx => ?_
      obtain rfl := n64 hx (by omega)
      refine fun x hx => ?_
      obtain rfl := n64 hx (by omega)
      refine ⟨g2.length, by omega, g1 ++ [t], g2, a + t.made.toNat, ⟨by simp [hg], rfl, by omega, ?_⟩, rfl, ?_⟩
      · rw [hrun, checkRun, if_neg h3]; simp
      · rw [show ((a + t.made.toNat : Nat) : Int) = (a : Int) + t.made by omega, List.length_append]; rfl
  · have : g2 = [] := List.eq_nil_of_length_eq_zero (by omega)
    subst this
    rw [hrun] at hK
    exact ⟨[.pv (pI _), .pv (pI _)], ⟨rfl, rfl, trivial⟩, ⟨trivial, trivial, trivial⟩, hK⟩

theorem meets_CheckTokens : Meets (ctxOf [(n_compress_tokenErr, fnSpec R_tokenErr), (n_compress_made, fnSpec R_compress_made)]) s_compress_CheckTokens c_compress_CheckTokens r_compress_CheckTokens S_CheckTokens := by
  rintro _ K ⟨l, rfl, hl, hK⟩
  refine fun _ => ?_
  refine fun b hb => ?_
  rw [List.length_map] at hb
  rcases cmp hb with ⟨rfl, h⟩ | ⟨rfl, h⟩
  · have : l = [] := List.eq_nil_of_length_eq_zero (by omega)
    subst this
    exact ⟨[.pv (pI _), .pv (pI _)], ⟨rfl, rfl, trivial⟩, ⟨trivial, trivial, trivial⟩, hK⟩
  have hne : l ≠ [] := by intro e; subst e; exact h rfl
  have hc : checkN l = checkRun l 0 0 := by unfold checkN; rw [if_neg hne]
  rw [hc] at hK
  refine fun _ => ?_
  rw [List.length_map]
  refine ⟨fun m env σ => ∃ (g1 g2 : List Tok) (a : Nat), (g1 ++ g2 = l ∧ g2.length = m ∧ a ≤ 4096 ∧ checkRun l 0 0 = checkRun g2 g1.length a) ∧ σ = [] ∧ env = [(4, .pv (pI a)), (11, .pv (.sl 3 (l.map Tok.pv))), (12, .pv (pI l.length)), (13, .pv (pI g1.length))], l.length, ⟨[], l, 0, ⟨rfl, rfl, by omega, rfl⟩, rfl, rfl⟩, ?_⟩
  rintro m env σ ⟨g1, g2, a, ⟨hg, hm, ha, hrun⟩, rfl, rfl⟩
  have hgl : g1.length + g2.length = l.length := by rw [← hg, List.length_append]
  refine fun b hb => ?_
  rcases cmp hb with ⟨rfl, h2⟩ | ⟨rfl, h2⟩
  · cases g2 with
    | nil => simp at hgl; omega
    | cons t g2 =>
    simp only [List.length_cons] at hgl hm
    refine ⟨_, ⟨by omega, getTok hg rfl⟩, ?_⟩
    refine ⟨rfl, ?_⟩
    refine ⟨_, ⟨t, a, rfl, ha, rfl⟩, ?_⟩
    refine fun b hb => ?_
    rcases cmp hb with ⟨rfl, h3⟩ | ⟨rfl, h3⟩
    · refine ⟨[.pv (pI _), .pv (pI _)], ⟨rfl, rfl, trivial⟩, ⟨trivial, trivial, trivial⟩, ?_⟩
      rw [hrun, checkRun, if_pos h3] at hK
      exact hK
    · have hok := tokErr_ok.1 (Decidable.of_not_not h3)
      have hmt := tok_made hok
      refine ⟨_, ⟨t, rfl, rfl⟩, ?_⟩
      refine fun x hx => ?_
      obtain rfl := n64 hx (by omega)
      refine fun x hx => ?_
      obtain rfl := n64 hx (by omega)
      refine ⟨g2.length, by omega, g1 ++ [t], g2, a + t.made.toNat, ⟨by simp [hg], rfl, by omega, ?_⟩, rfl, ?_⟩
      · rw [hrun, checkRun, if_neg h3]; simp
      · rw [show ((a + t.made.toNat : Nat) : Int) = (a : Int) + t.made by omega, List.length_append]; rfl
  · have : g2 = [] := List.eq_nil_of_length_eq_zero (by omega)
    subst this
    rw [hrun] at hK
    exact ⟨[.pv (pI _), .pv (pI _)], ⟨rfl, rfl, trivial⟩, ⟨trivial, trivial, trivial⟩, hK⟩

def S_TokensErr : Spec := mkS true false fun ps K => ∃ l : List Tok, ps = [.sl 3 (l.map Tok.pv)] ∧ l.length ≤ 5000 ∧ K (.pv (pI (checkN l).2))
theorem meets_TokensErr : Meets (ctxOf [(n_ref06_CheckTokens, S_CheckTokens)]) s_ref06_TokensErr c_ref06_TokensErr r_ref06_TokensErr S_TokensErr := by
  rintro _ K ⟨l, rfl, hl, hK⟩
  refine ⟨l, rfl, hl, ?_⟩
  exact ⟨.pv (pI _), rfl, trivial, hK⟩
end Go.Dv.Try
end
section
/-
  Contracts of chapter 6: what tokens make.
-/
namespace Go.Dv.Try
open Go Go.Dv

theorem copyOut_succ : ∀ (k d : Nat) (out : List UInt8), copyOut (k + 1) d out = copyOut k d out ++ [(copyOut k d out)[(copyOut k d out).length - d]?.getD 0] := by
  intro k
  induction k with
  | zero => intro d out; rfl
  | succ k ih =>
    intro d out
    show copyOut (k + 1) d (out ++ [out[out.length - d]?.getD 0]) = _
    rw [ih]
    rfl

def S_expanded : Spec := mkS true false fun ps K => ∃ l : List Tok, ps = [.sl 3 (l.map Tok.pv)] ∧ ToksOk l 0 ∧ K (.pv (.str (expN l)))

theorem meets_refExpanded : Meets (ctxOf [(n_ref06_Copy, fnSpec R_compress_isCopy)]) s_ref06_Expanded c_ref06_Expanded r_ref06_Expanded S_expanded := by
  rintro _ K ⟨l, rfl, hok, hK⟩
  have hlen : l.length ≤ 4096 := by
    by_cases h : l = []
    · subst h; simp
    · have := toksOk_len l 0 hok h; omega
  refine ⟨fun m env σ => ∃ (g1 g2 : List Tok) (out : List UInt8), (g1 ++ g2 = l ∧ g2.length = m ∧ ToksOk g2 out.length ∧ out.length ≤ 4096 ∧ expN l = expRun g2 out) ∧ σ = [.row 5 1 true (out.map byteP)] ∧ env = [(0, .pv (.sl 3 (l.map Tok.pv))), (3, .own 0), (4, .pv (pI g1.length))], l.length, ⟨[], l, [], ⟨rfl, rfl, hok, by simp, rfl⟩, rfl, rfl⟩, ?_⟩
  rintro m env σ ⟨g1, g2, out, ⟨hg, hm, hok2, hout, hrun⟩, rfl, rfl⟩
  have hgl : g1.length + g2.length = l.length := by rw [← hg, List.length_append]
  refine fun _ => ?_
  refine fun b hb => ?_
  rw [List.length_map] at hb
  rcases cmp hb with ⟨rfl, h2⟩ | ⟨rfl, h2⟩
  · cases g2 with
    | nil => simp at hgl; omega
    | cons t g2 =>
    simp only [List.length_cons] at hgl hm
    obtain ⟨hokt, hokr⟩ := hok2
    have hmt := tok_made hokt
    have hto := hokt
    unfold TokOk at hto
    refine ⟨_, ⟨by omega, getTok hg rfl⟩, ?_⟩
    cases hc : t.copy with
    | false =>
      have hd : ¬ t.d ≠ 0 := by unfold Tok.copy at hc; simpa using hc
      have hm1 : t.made = 1 := by unfold Tok.made; rw [if_neg hd]
      rw [if_neg hd] at hto
      refine ⟨pB false, ⟨t, rfl, by rw [hc]⟩, ?_⟩
      refine NOT_f ?_
      refine ⟨_, ⟨by omega, getTok hg rfl⟩, ?_⟩
      refine fun x hx => ?_
      rw [wrapU8] at hx
      refine ⟨rfl, ?_⟩
      refine ⟨⟨by simp; omega, by simp; omega⟩, ?_⟩
      refine fun y hy => ?_
      obtain rfl := n64 hy (by omega)
      have e : expT t out = out ++ [byteN t.b.toNat] := by unfold expT; rw [if_neg hd]
      refine ⟨g2.length, by omega, g1 ++ [t], g2, expT t out, ⟨by simp [hg], rfl, ?_, ?_, ?_⟩, ?_, ?_⟩
      · rw [expT_len hokt]; exact hokr
      · rw [expT_len hokt]; omega
      · rw [hrun]; rfl
      · rw [e, byteP_of (n := x) (by omega), List.map_append, show x.toNat = t.b.toNat by omega]; rfl
      · rw [List.length_append]; rfl
    | true =>
      have hd : t.d ≠ 0 := by unfold Tok.copy at hc; simpa using hc
      have hm1 : t.made = t.l := by unfold Tok.made; rw [if_pos hd]
      rw [if_pos hd] at hto
      refine ⟨pB true, ⟨t, rfl, by rw [hc]⟩, ?_⟩
      refine NOT_t ?_
      refine ⟨fun m2 env σ => ∃ k : Nat, (k + m2 = t.l) ∧ σ = [.row 5 1 true ((copyOut k t.d.toNat out).map byteP)] ∧ env = [(0, .pv (.sl 3 (l.map Tok.pv))), (3, .own 0), (4, .pv (pI g1.length)), (5, .pv (pI k))], t.l.toNat, ⟨0, by omega, rfl, rfl⟩, ?_⟩
      rintro m2 env σ ⟨k, hk, rfl, rfl⟩
      have hcl := copyOut_len k t.d.toNat out
      refine ⟨_, ⟨by omega, getTok hg rfl⟩, ?_⟩
      refine fun b hb => ?_
      rcases cmp hb with ⟨rfl, h3⟩ | ⟨rfl, h3⟩
      · refine fun _ => ?_
        rw [List.length_map]
        refine ⟨_, ⟨by omega, getTok hg rfl⟩, ?_⟩
        refine fun x hx => ?_
        obtain rfl := n64 hx (by omega)
        obtain ⟨v, hv⟩ : ∃ v, (copyOut k t.d.toNat out)[(copyOut k t.d.toNat out).length - t.d.toNat]? = some v := by rw [List.getElem?_eq_getElem (by omega)]; exact ⟨_, rfl⟩
        refine ⟨⟨by omega, by rw [List.length_map]; omega⟩, byteP v, ?_, ?_⟩
        · rw [List.getElem?_map, show (((copyOut k t.d.toNat out).length : Int) - t.d).toNat = (copyOut k t.d.toNat out).length - t.d.toNat by omega, hv]; rfl
        refine ⟨rfl, ?_⟩
        refine ⟨⟨by simp; omega, by simp; omega⟩, ?_⟩
        refine fun y hy => ?_
        obtain rfl := n64 hy (by omega)
        refine ⟨m2 - 1, by omega, k + 1, by omega, ?_, rfl⟩
        rw [copyOut_succ, hv, List.map_append]; rfl
      · have ek : k = t.l.toNat := by omega
        subst ek
        have e : expT t out = copyOut t.l.toNat t.d.toNat out := by unfold expT; rw [if_pos hd]
        refine fun y hy => ?_
        obtain rfl := n64 hy (by omega)
        refine ⟨g2.length, by omega, g1 ++ [t], g2, expT t out, ⟨by simp [hg], rfl, ?_, ?_, ?_⟩, ?_, ?_⟩
        · rw [expT_len hokt]; exact hokr
        · rw [expT_len hokt]; omega
        · rw [hrun]; rfl
        · rw [e]
        · rw [List.length_append]; rfl
  · have : g2 = [] := List.eq_nil_of_length_eq_zero (by omega)
    subst this
    rw [hrun] at hK
    refine ⟨out, rfl, ?_⟩
    exact ⟨.pv (.str _), rfl, trivial, hK⟩

theorem meets_expanded : Meets (ctxOf [(n_compress_isCopy, fnSpec R_compress_isCopy)]) s_compress_expanded c_compress_expanded r_compress_expanded S_expanded := by
  rintro _ K ⟨l, rfl, hok, hK⟩
  have hlen : l.length ≤ 4096 := by
    by_cases h : l = []
    · subst h; simp
    · have := toksOk_len l 0 hok h; omega
  refine fun _ => ?_
  rw [List.length_map]
  refine ⟨fun m env σ => ∃ (g1 g2 : List Tok) (out : List UInt8), (g1 ++ g2 = l ∧ g2.length = m ∧ ToksOk g2 out.length ∧ out.length ≤ 4096 ∧ expN l = expRun g2 out) ∧ σ = [.row 5 1 true (out.map byteP)] ∧ env = [(3, .own 0), (6, .pv (.sl 3 (l.map Tok.pv))), (7, .pv (pI l.length)), (8, .pv (pI g1.length))], l.length, ⟨[], l, [], ⟨rfl, rfl, hok, by simp, rfl⟩, rfl, rfl⟩, ?_⟩
  rintro m env σ ⟨g1, g2, out, ⟨hg, hm, hok2, hout, hrun⟩, rfl, rfl⟩
  have hgl : g1.length + g2.length = l.length := by rw [← hg, List.length_append]
  refine fun b hb => ?_
  rcases cmp hb with ⟨rfl, h2⟩ | ⟨rfl, h2⟩
  · cases g2 with
    | nil => simp at hgl; omega
    | cons t g2 =>
    simp only [List.length_cons] at hgl hm
    obtain ⟨hokt, hokr⟩ := hok2
    have hmt := tok_made hokt
    have hto := hokt
    unfold TokOk at hto
    refine ⟨_, ⟨by omega, getTok hg rfl⟩, ?_⟩
    refine ⟨rfl, ?_⟩
    cases hc : t.copy with
    | false =>
      have hd : ¬ t.d ≠ 0 := by unfold Tok.copy at hc; simpa using hc
      have hm1 : t.made = 1 := by unfold Tok.made; rw [if_neg hd]
      rw [if_neg hd] at hto
      refine ⟨pB false, ⟨t, rfl, by rw [hc]⟩, ?_⟩
      refine NOT_f ?_
      refine fun x hx => ?_
      rw [wrapU8] at hx
      refine ⟨rfl, ?_⟩
      refine ⟨⟨by simp; omega, by simp; omega⟩, ?_⟩
      refine fun y hy => ?_
      obtain rfl := n64 hy (by omega)
      have e : expT t out = out ++ [byteN t.b.toNat] := by unfold expT; rw [if_neg hd]
      refine ⟨g2.length, by omega, g1 ++ [t], g2, expT t out, ⟨by simp [hg], rfl, ?_, ?_, ?_⟩, ?_, ?_⟩
      · rw [expT_len hokt]; exact hokr
      · rw [expT_len hokt]; omega
      · rw [hrun]; rfl
      · rw [e, byteP_of (n := x) (by omega), List.map_append, show x.toNat = t.b.toNat by omega]; rfl
      · rw [List.length_append]; rfl
    | true =>
      have hd : t.d ≠ 0 := by unfold Tok.copy at hc; simpa using hc
      have hm1 : t.made = t.l := by unfold Tok.made; rw [if_pos hd]
      rw [if_pos hd] at hto
      refine ⟨pB true, ⟨t, rfl, by rw [hc]⟩, ?_⟩
      refine NOT_t ?_
      refine ⟨fun m2 env σ => ∃ k : Nat, (k + m2 = t.l) ∧ σ = [.row 5 1 true ((copyOut k t.d.toNat out).map byteP), .box 68 [.pv (pI t.d), .pv (pI t.l), .pv (pI t.b)]] ∧ env = [(3, .own 0), (5, .ref 1 0 0), (6, .pv (.sl 3 (l.map Tok.pv))), (7, .pv (pI l.length)), (8, .pv (pI g1.length)), (22, .pv (pI t.l)), (23, .pv (pI k))], t.l.toNat, ⟨0, by omega, rfl, rfl⟩, ?_⟩
      rintro m2 env σ ⟨k, hk, rfl, rfl⟩
      have hcl := copyOut_len k t.d.toNat out
      refine fun b hb => ?_
      rcases cmp hb with ⟨rfl, h3⟩ | ⟨rfl, h3⟩
      · refine fun _ => ?_
        rw [List.length_map]
        refine fun x hx => ?_
        obtain rfl := n64 hx (by omega)
        obtain ⟨v, hv⟩ : ∃ v, (copyOut k t.d.toNat out)[(copyOut k t.d.toNat out).length - t.d.toNat]? = some v := by rw [List.getElem?_eq_getElem (by omega)]; exact ⟨_, rfl⟩
        refine ⟨⟨by omega, by rw [List.length_map]; omega⟩, byteP v, ?_, ?_⟩
        · rw [List.getElem?_map, show (((copyOut k t.d.toNat out).length : Int) - t.d).toNat = (copyOut k t.d.toNat out).length - t.d.toNat by omega, hv]; rfl
        refine ⟨rfl, ?_⟩
        refine ⟨⟨by simp; omega, by simp; omega⟩, ?_⟩
        refine fun y hy => ?_
        obtain rfl := n64 hy (by omega)
        refine ⟨m2 - 1, by omega, k + 1, by omega, ?_, rfl⟩
        rw [copyOut_succ, hv, List.map_append]; rfl
      · have ek : k = t.l.toNat := by omega
        subst ek
        have e : expT t out = copyOut t.l.toNat t.d.toNat out := by unfold expT; rw [if_pos hd]
        refine fun y hy => ?_
        obtain rfl := n64 hy (by omega)
        refine ⟨g2.length, by omega, g1 ++ [t], g2, expT t out, ⟨by simp [hg], rfl, ?_, ?_, ?_⟩, ?_, ?_⟩
        · rw [expT_len hokt]; exact hokr
        · rw [expT_len hokt]; omega
        · rw [hrun]; rfl
        · rw [e]
        · rw [List.length_append]; rfl
  · have : g2 = [] := List.eq_nil_of_length_eq_zero (by omega)
    subst this
    rw [hrun] at hK
    refine ⟨out, rfl, ?_⟩
    exact ⟨.pv (.str _), rfl, trivial, hK⟩
end Go.Dv.Try
end
section
/-
  Contracts of chapter 6: chunks of tokens; the law of tokens.
-/
namespace Go.Dv.Try
open Go Go.Dv

def S_Expanded : Spec := mkS true false fun ps K => ∃ l : List Tok, ps = [.sl 3 (l.map Tok.pv)] ∧ l.length ≤ 5000 ∧ ((checkN l).2 ≠ 0 → K (.tup [.pv (.str []), .pv (pI (checkN l).2)])) ∧ ((checkN l).2 = 0 → K (.tup [.pv (.str (expN l)), .pv (pI 0)]))
theorem meets_Expanded : Meets (ctxOf [(n_compress_CheckTokens, S_CheckTokens), (n_compress_expanded, S_expanded)]) s_compress_Expanded c_compress_Expanded r_compress_Expanded S_Expanded := by
  rintro _ K ⟨l, rfl, hl, hK1, hK2⟩
  refine ⟨l, rfl, hl, ?_⟩
  refine fun b hb => ?_
  rcases cmp hb with ⟨rfl, h⟩ | ⟨rfl, h⟩
  · exact ⟨[.pv (.str _), .pv _], ⟨rfl, rfl, trivial⟩, ⟨trivial, trivial, trivial⟩, hK1 h⟩
  · have h0 : (checkN l).2 = 0 := Decidable.of_not_not h
    refine ⟨l, rfl, (checkN_zero h0).2.2, ?_⟩
    exact ⟨[.pv (.str _), .pv _], ⟨rfl, rfl, trivial⟩, ⟨trivial, trivial, trivial⟩, hK2 h0⟩

/-- The chunk of tokens, or the error. -/
def chunkN (l : List Tok) : List UInt8 × Int := if (checkN l).2 ≠ 0 then ([], (checkN l).2) else if 4096 < (bodyN l).length then ([], 8) else (headN (bodyN l).length true ++ bodyN l, 0)

def S_ChunkOf : Spec := mkS true false fun ps K => ∃ l : List Tok, ps = [.sl 3 (l.map Tok.pv)] ∧ l.length ≤ 5000 ∧ K (.tup [.pv (.str (chunkN l).1), .pv (pI (chunkN l).2)])
theorem meets_ChunkOf : Meets (ctxOf [(n_compress_CheckTokens, S_CheckTokens), (n_compress_chunk, S_chunk)]) s_compress_ChunkOf c_compress_ChunkOf r_compress_ChunkOf S_ChunkOf := by
  rintro _ K ⟨l, rfl, hl, hK⟩
  refine ⟨l, rfl, hl, ?_⟩
  unfold chunkN at hK
  refine fun b hb => ?_
  rcases cmp hb with ⟨rfl, h⟩ | ⟨rfl, h⟩
  · rw [if_pos h] at hK
    exact ⟨[.pv (.str _), .pv _], ⟨rfl, rfl, trivial⟩, ⟨trivial, trivial, trivial⟩, hK⟩
  · have h0 : (checkN l).2 = 0 := Decidable.of_not_not h
    rw [if_neg h] at hK
    refine ⟨l, rfl, (checkN_zero h0).2, fun hb => ?_, fun hb => ?_⟩
    · rw [if_pos hb] at hK
      exact ⟨[.pv (.str _), .pv _], ⟨rfl, rfl, trivial⟩, ⟨trivial, trivial, trivial⟩, hK⟩
    · rw [if_neg (by omega)] at hK
      exact ⟨[.pv (.str _), .pv _], ⟨rfl, rfl, trivial⟩, ⟨trivial, trivial, trivial⟩, hK⟩

def S_refChunk : Spec := mkS true false fun ps K => ∃ l : List Tok, ps = [.sl 3 (l.map Tok.pv)] ∧ (checkN l).2 = 0 ∧ K (.tup [.pv (.str (chunkN l).1), .pv (pI (chunkN l).2)])
theorem meets_refChunk : Meets (ctxOf [(n_ref06_Body, S_refBody), (n_ref06_Head, fnSpec R_Head)]) s_ref06_Chunk c_ref06_Chunk r_ref06_Chunk S_refChunk := by
  rintro _ K ⟨l, rfl, h0, hK⟩
  have hz := checkN_zero h0
  have hb0 := body_ne l hz.2.1
  unfold chunkN at hK
  rw [if_neg (fun h => h h0)] at hK
  refine ⟨l, rfl, hz.2.2, ?_⟩
  refine fun b hb => ?_
  rcases cmp hb with ⟨rfl, h⟩ | ⟨rfl, h⟩
  · rw [if_pos (by omega)] at hK
    exact ⟨[.pv (.str _), .pv _], ⟨rfl, rfl, trivial⟩, ⟨trivial, trivial, trivial⟩, hK⟩
  · rw [if_neg (by omega)] at hK
    refine ⟨_, ⟨_, true, rfl, by omega, rfl⟩, ?_⟩
    rw [Int.toNat_natCast]
    refine ⟨by rw [headN_len]; omega, ?_⟩
    exact ⟨[.pv (.str _), .pv _], ⟨rfl, rfl, trivial⟩, ⟨trivial, trivial, trivial⟩, hK⟩

def R_lawToks (ps : List PV) (x : PV) : Prop := ∃ l : List Tok, ps = [.sl 3 (l.map Tok.pv)] ∧ x = pB true
theorem meets_lawTokens : Meets (ctxOf [(n_law06_awake, fnSpec R_true0), (n_compress_CheckTokens, S_CheckTokens), (n_ref06_CopyTokens, S_CopyTokens), (n_compress_Expanded, S_Expanded), (n_compress_ChunkOf, S_ChunkOf), (n_ref06_CheckTokens, S_CheckTokens), (n_ref06_Chunk, S_refChunk), (n_ref06_Expanded, S_expanded)]) s_law06_CompressTokens c_law06_CompressTokens r_law06_CompressTokens (fnSpec R_lawToks) := by
  rintro _ K ⟨_, ⟨l, rfl, rfl⟩, hK⟩
  refine ⟨_, ⟨rfl, rfl⟩, ?_⟩
  refine fun b hb => ?_
  rcases cmp hb with ⟨rfl, h⟩ | ⟨rfl, h⟩
  · cases h
  refine fun _ => ?_
  refine fun b hb => ?_
  rw [List.length_map] at hb
  rcases cmp hb with ⟨rfl, h⟩ | ⟨rfl, h⟩
  · exact ⟨.pv (pB true), rfl, trivial, hK⟩
  have hl : l.length ≤ 5000 := by omega
  refine ⟨l, rfl, by omega, ?_⟩
  refine ⟨l, rfl, hl, ?_⟩
  refine ⟨l, rfl, by omega, ?_⟩
  refine ⟨l, rfl, hl, fun hn => ?_, fun hy => ?_⟩
  · refine ⟨l, rfl, by omega, ?_⟩
    refine ⟨l, rfl, hl, ?_⟩
    refine ⟨l, rfl, hl, ?_⟩
    have hc : chunkN l = ([], (checkN l).2) := by unfold chunkN; rw [if_pos hn]
    rw [hc]
    refine fun b hb => ?_
    rcases cmp hb with ⟨rfl, h⟩ | ⟨rfl, h⟩
    case inr => exact absurd hn h
    refine fun b hb => ?_
    rcases cmp hb with ⟨rfl, h⟩ | ⟨rfl, h⟩
    case inr => exact absurd rfl h
    refine fun b hb => ?_
    rcases cmp hb with ⟨rfl, h⟩ | ⟨rfl, h⟩
    case inr => exact absurd rfl h
    refine fun b hb => ?_
    rcases cmp hb with ⟨rfl, h⟩ | ⟨rfl, h⟩
    case inr => exact absurd rfl h
    refine fun b hb => ?_
    rcases cmp hb with ⟨rfl, h⟩ | ⟨rfl, h⟩
    case inr => exact absurd rfl h
    refine fun b hb => ?_
    rcases cmp hb with ⟨rfl, h⟩ | ⟨rfl, h⟩
    case inr => exact absurd rfl h
    refine fun b hb => ?_
    rcases cmp hb with ⟨rfl, h⟩ | ⟨rfl, h⟩
    case inr => exact absurd rfl h
    exact ⟨.pv (pB true), rfl, trivial, hK⟩
  · have hz := checkN_zero hy
    refine ⟨l, rfl, by omega, ?_⟩
    refine ⟨l, rfl, hl, ?_⟩
    refine ⟨l, rfl, hl, ?_⟩
    refine fun b hb => ?_
    rcases cmp hb with ⟨rfl, h⟩ | ⟨rfl, h⟩
    case inl => exact absurd hy h
    refine ⟨l, rfl, hy, ?_⟩
    refine fun b hb => ?_
    rcases cmp hb with ⟨rfl, h⟩ | ⟨rfl, h⟩
    case inr => exact absurd hy h
    refine fun b hb => ?_
    rcases cmp hb with ⟨rfl, h⟩ | ⟨rfl, h⟩
    case inr => exact absurd hz.1 h
    refine fun b hb => ?_
    rcases cmp hb with ⟨rfl, h⟩ | ⟨rfl, h⟩
    case inr => exact absurd rfl h
    refine ⟨l, rfl, hz.2.2, ?_⟩
    refine fun b hb => ?_
    rcases cmp hb with ⟨rfl, h⟩ | ⟨rfl, h⟩
    case inr => exact absurd rfl h
    refine fun b hb => ?_
    rcases cmp hb with ⟨rfl, h⟩ | ⟨rfl, h⟩
    case inr => exact absurd rfl h
    refine fun b hb => ?_
    rcases cmp hb with ⟨rfl, h⟩ | ⟨rfl, h⟩
    case inr => exact absurd rfl h
    exact ⟨.pv (pB true), rfl, trivial, hK⟩

theorem run_toks : ∀ xs, HasPs [(false, [.sl true [.int .i64, .int .i64, .int .i64]])] xs → (fnSpec R_lawToks).run xs fun r => r = .pv (.bool true) := by
  intro xs h
  simp only [HasPs] at h
  obtain ⟨y, _, rfl, _, h1, rfl⟩ := h
  obtain ⟨d, rfl, _⟩ := sig_toks (h1 trivial)
  exact ⟨_, ⟨d, rfl, rfl⟩, rfl⟩
end Go.Dv.Try
end
