/-
  A part of the proof: own texts, laid together by a tool of our own: P04a P04b P04c F04a F04b F04c F04d F04e F04f F04g F04h F04i F04j F04k F04l.
-/
import Derived.Test.YteiglmkppgjcbaaDv4
import Derived.Test.YteiglmkppgjcbaaCd
import Derived.KernelRfl
section
/-
  Plain laws of chapter 4: runs of what holds; bytes and their bits.
-/
namespace Go.Dv.Try

/-- A run: where it begins, how long it is. -/
structure Rn where
  s : Int
  n : Int
deriving DecidableEq

/-- A number put behind runs. -/
def addRun (l : List Rn) (i : Int) : List Rn :=
  match l[l.length - 1]? with
  | some r => if r.s + r.n = i then l.set (l.length - 1) ⟨r.s, r.n + 1⟩ else l ++ [⟨i, 1⟩]
  | none => l ++ [⟨i, 1⟩]
/-- The longest runs of numbers for which something holds. -/
def runsP (p : Nat → Bool) : Nat → List Rn
  | 0 => []
  | n + 1 => if p n then addRun (runsP p n) n else runsP p n

theorem addRun_nil (i : Int) : addRun [] i = [⟨i, 1⟩] := rfl
theorem addRun_snoc (l : List Rn) (r : Rn) (i : Int) : addRun (l ++ [r]) i = if r.s + r.n = i then l ++ [⟨r.s, r.n + 1⟩] else l ++ [r] ++ [⟨i, 1⟩] := by
  unfold addRun
  simp only [List.length_append, List.length_singleton, Nat.add_sub_cancel, List.getElem?_concat_length]
  split
  · rw [List.set_append_right _ _ (by omega)]; simp
  · rfl

theorem snoc_or (l : List Rn) : l = [] ∨ ∃ a r, l = a ++ [r] := by
  rcases List.eq_nil_or_concat l with h | ⟨a, r, h⟩
  · exact .inl h
  · exact .inr ⟨a, r, by simpa using h⟩

/-- What is true of all runs, and of the last one. -/
theorem runsP_ok (p : Nat → Bool) : ∀ n : Nat, (∀ r ∈ runsP p n, 0 ≤ r.s ∧ 1 ≤ r.n ∧ r.s + r.n ≤ n) ∧ (runsP p n).length ≤ n ∧
    ((∃ a r, runsP p n = a ++ [r] ∧ r.s + r.n = (n : Int)) ↔ 0 < n ∧ p (n - 1) = true) := by
  intro n
  induction n with
  | zero => refine ⟨by simp [runsP], Nat.le_refl _, ?_⟩; simp [runsP]
  | succ n ih =>
    obtain ⟨h1, h2, h3⟩ := ih
    unfold runsP
    cases hp : p n with
    | false =>
      simp only [Bool.false_eq_true, if_false]
      refine ⟨fun r hr => by have := h1 r hr; omega, by omega, ?_⟩
      simp only [Nat.add_sub_cancel, hp, Bool.false_eq_true, and_false, iff_false]
      rintro ⟨a, r, e, h⟩
      have := h1 r (by rw [e]; simp)
      omega
    | true =>
      simp only [if_true]
      simp only [Nat.add_sub_cancel, hp, and_true, Nat.zero_lt_succ, iff_true]
      rcases snoc_or (runsP p n) with e | ⟨a, r, e⟩
      · rw [e, addRun_nil]
        refine ⟨fun r hr => ?_, by simp, [], _, rfl, by simp⟩
        simp at hr; subst hr; simp
      · rw [e, addRun_snoc]
        have hr := h1 r (by rw [e]; simp)
        have hl : (a ++ [r]).length ≤ n := by rw [← e]; exact h2
        simp at hl
        split
        · refine ⟨fun x hx => ?_, by simp; omega, a, _, rfl, by simp; omega⟩
          rcases List.mem_append.1 hx with hx | hx
          · have := h1 x (by rw [e]; simp [hx]); omega
          · simp at hx; subst hx; simp; omega
        · refine ⟨fun x hx => ?_, by simp; omega, a ++ [r], _, rfl, by simp⟩
          rcases List.mem_append.1 hx with hx | hx
          · have := h1 x (by rw [e]; exact hx); omega
          · simp at hx; subst hx; simp

theorem runsP_congr {p q : Nat → Bool} : ∀ n, (∀ i, i < n → p i = q i) → runsP p n = runsP q n := by
  intro n
  induction n with
  | zero => intro _; rfl
  | succ n ih =>
    intro h
    unfold runsP
    rw [ih fun i hi => h i (by omega), h n (by omega)]

/-- A number that a list has last is put in place. -/
theorem addRun_set {l : List Rn} {r : Rn} {i : Int} (h : l[l.length - 1]? = some r) (he : r.s + r.n = i) : addRun l i = l.set (l.length - 1) ⟨r.s, r.n + 1⟩ := by
  unfold addRun; rw [h]; simp [he]
theorem addRun_app {l : List Rn} {i : Int} (h : ∀ r, l[l.length - 1]? = some r → r.s + r.n ≠ i) : addRun l i = l ++ [⟨i, 1⟩] := by
  unfold addRun
  split
  · rename_i r e; rw [if_neg (h r e)]
  · rfl
theorem runsP_last {p : Nat → Bool} {n : Nat} {r : Rn} (h : (runsP p n)[(runsP p n).length - 1]? = some r) : (r.s + r.n = n ↔ 0 < n ∧ p (n - 1) = true) := by
  rw [← (runsP_ok p n).2.2]
  rcases snoc_or (runsP p n) with e | ⟨a, x, e⟩
  · rw [e] at h; simp at h
  · rw [e] at h
    simp at h
    subst h
    constructor
    · intro h; exact ⟨a, x, e, h⟩
    · rintro ⟨b, y, e2, h⟩
      rw [e] at e2
      have := (List.append_inj' e2 rfl).2
      simp at this; subst this; exact h
theorem runsP_nil {p : Nat → Bool} {n : Nat} (h : 0 < n) (hp : p (n - 1) = true) : 0 < (runsP p n).length := by
  obtain ⟨a, r, e, _⟩ := (runsP_ok p n).2.2.2 ⟨h, hp⟩
  rw [e]; simp

/-- A bit of a string. -/
def bitN (s : List UInt8) (i : Nat) : Nat := (s[i / 8]?.getD 0).toNat / 2 ^ (i % 8) % 2
theorem bitN_le (s : List UInt8) (i : Nat) : bitN s i ≤ 1 := by unfold bitN; omega

theorem bits_byte : ∀ n : Nat, n < 256 → n = n / 2 ^ 0 % 2 * 1 + n / 2 ^ 1 % 2 * 2 + n / 2 ^ 2 % 2 * 4 + n / 2 ^ 3 % 2 * 8 + n / 2 ^ 4 % 2 * 16 + n / 2 ^ 5 % 2 * 32 + n / 2 ^ 6 % 2 * 64 + n / 2 ^ 7 % 2 * 128 := by
  intro n hn; simp only [Nat.reducePow]; omega

theorem bytes_ext {a b : List UInt8} (hl : a.length = b.length) (h : ∀ i, i < 8 * a.length → bitN a i = bitN b i) : a = b := by
  apply List.ext_getElem?
  intro i
  by_cases hi : i < a.length
  case neg => rw [List.getElem?_eq_none (by omega), List.getElem?_eq_none (by omega)]
  rw [List.getElem?_eq_getElem hi, List.getElem?_eq_getElem (by omega)]
  congr 1
  apply UInt8.toNat_inj.1
  have hk : ∀ k, k < 8 → a[i].toNat / 2 ^ k % 2 = b[i].toNat / 2 ^ k % 2 := by
    intro k hk
    have := h (8 * i + k) (by omega)
    unfold bitN at this
    rw [show (8 * i + k) / 8 = i by omega, show (8 * i + k) % 8 = k by omega, List.getElem?_eq_getElem hi, List.getElem?_eq_getElem (by omega)] at this
    simpa using this
  rw [bits_byte _ a[i].toNat_lt, bits_byte _ b[i].toNat_lt, hk 0 (by omega), hk 1 (by omega), hk 2 (by omega), hk 3 (by omega), hk 4 (by omega), hk 5 (by omega), hk 6 (by omega), hk 7 (by omega)]

/-- A byte in which a bit has a value. -/
def setBit (x : UInt8) (k v : Nat) : UInt8 := UInt8.ofNat (x.toNat - x.toNat / 2 ^ k % 2 * 2 ^ k + v * 2 ^ k)
theorem setBit_toNat (x : UInt8) {k v : Nat} (hk : k < 8) (hv : v ≤ 1) : (setBit x k v).toNat = x.toNat - x.toNat / 2 ^ k % 2 * 2 ^ k + v * 2 ^ k := by
  have hx := x.toNat_lt
  unfold setBit
  rw [UInt8.toNat_ofNat']
  apply Nat.mod_eq_of_lt
  generalize x.toNat = n at *
  have h1 : k = 0 ∨ k = 1 ∨ k = 2 ∨ k = 3 ∨ k = 4 ∨ k = 5 ∨ k = 6 ∨ k = 7 := by omega
  have h2 : v = 0 ∨ v = 1 := by omega
  rcases h1 with rfl | rfl | rfl | rfl | rfl | rfl | rfl | rfl <;> rcases h2 with rfl | rfl <;> simp only [Nat.reducePow] <;> omega
theorem setBit_bit (x : UInt8) {k v j : Nat} (hk : k < 8) (hv : v ≤ 1) (hj : j < 8) : (setBit x k v).toNat / 2 ^ j % 2 = if j = k then v else x.toNat / 2 ^ j % 2 := by
  have hx := x.toNat_lt
  rw [setBit_toNat x hk hv]
  generalize x.toNat = n at *
  have h1 : k = 0 ∨ k = 1 ∨ k = 2 ∨ k = 3 ∨ k = 4 ∨ k = 5 ∨ k = 6 ∨ k = 7 := by omega
  have h2 : v = 0 ∨ v = 1 := by omega
  have h3 : j = 0 ∨ j = 1 ∨ j = 2 ∨ j = 3 ∨ j = 4 ∨ j = 5 ∨ j = 6 ∨ j = 7 := by omega
  rcases h1 with rfl | rfl | rfl | rfl | rfl | rfl | rfl | rfl <;> rcases h2 with rfl | rfl <;> rcases h3 with rfl | rfl | rfl | rfl | rfl | rfl | rfl | rfl <;> simp only [Nat.reducePow] <;> simp <;> omega

/-- Bytes in which a bit has a value. -/
def setB (b : List UInt8) (i v : Nat) : List UInt8 := b.set (i / 8) (setBit (b[i / 8]?.getD 0) (i % 8) v)
@[simp] theorem setB_len (b : List UInt8) (i v : Nat) : (setB b i v).length = b.length := by simp [setB]
theorem setB_bit {b : List UInt8} {i v : Nat} (hi : i < 8 * b.length) (hv : v ≤ 1) (j : Nat) : bitN (setB b i v) j = if j = i then v else bitN b j := by
  unfold bitN setB
  by_cases h : j / 8 = i / 8
  · rw [h, List.getElem?_set_self (by omega), Option.getD_some, setBit_bit _ (by omega) hv (by omega)]
    by_cases h2 : j = i
    · subst h2; simp
    · rw [if_neg (by omega), if_neg h2]
  · rw [List.getElem?_set_ne (by omega), if_neg (by omega)]

/-- How many of the first bits are 1. -/
def cntN (s : List UInt8) : Nat → Nat
  | 0 => 0
  | n + 1 => cntN s n + bitN s n
theorem cntN_le (s : List UInt8) : ∀ n, cntN s n ≤ n := by
  intro n
  induction n with
  | zero => exact Nat.le_refl _
  | succ n ih => have := bitN_le s n; simp only [cntN]; omega

/-- The first bits of a string, as numbers. -/
def bitsL (s : List UInt8) (n : Nat) : List Int := (List.range n).map fun i => ((bitN s i : Nat) : Int)
@[simp] theorem bitsL_len (s : List UInt8) (n : Nat) : (bitsL s n).length = n := by simp [bitsL]
theorem bitsL_succ (s : List UInt8) (n : Nat) : bitsL s (n + 1) = bitsL s n ++ [((bitN s n : Nat) : Int)] := by simp [bitsL, List.range_succ]
theorem bitsL_get {s : List UInt8} {n i : Nat} (h : i < n) : (bitsL s n)[i]? = some ((bitN s i : Nat) : Int) := by simp [bitsL, h]

def zerosL (n : Nat) : List UInt8 := List.replicate n 0
theorem bitN_zeros (n i : Nat) : bitN (zerosL n) i = 0 := by
  unfold bitN zerosL
  rw [List.getElem?_replicate]
  split <;> simp
end Go.Dv.Try
end
section
/-
  Plain laws of chapter 4: bitmaps of what holds; runs of a bitmap and their errors.
-/
namespace Go.Dv.Try
open Go.Dv

/-- The bytes whose first bits are these. -/
def bmGo (f : Nat → Nat) (z : List UInt8) : Nat → List UInt8
  | 0 => z
  | k + 1 => setB (bmGo f z k) k (f k)
def len8 (n : Nat) : Nat := (n + 7) / 8
def bmOf (f : Nat → Nat) (n : Nat) : List UInt8 := bmGo f (zerosL (len8 n)) n
theorem bmGo_len (f : Nat → Nat) (z : List UInt8) : ∀ k, (bmGo f z k).length = z.length := by
  intro k
  induction k with
  | zero => rfl
  | succ k ih => simp [bmGo, ih]
theorem bmOf_len (f : Nat → Nat) (n : Nat) : (bmOf f n).length = len8 n := by simp [bmOf, bmGo_len, zerosL]
theorem bmGo_bit {f : Nat → Nat} {z : List UInt8} (hf : ∀ i, f i ≤ 1) : ∀ k, k ≤ 8 * z.length → ∀ j, bitN (bmGo f z k) j = if j < k then f j else bitN z j := by
  intro k
  induction k with
  | zero => intro _ j; simp [bmGo]
  | succ k ih =>
    intro hk j
    simp only [bmGo]
    rw [setB_bit (by rw [bmGo_len]; omega) (hf k), ih (by omega)]
    by_cases h : j = k
    · subst h; simp
    · rw [if_neg h]
      by_cases h2 : j < k
      · rw [if_pos h2, if_pos (by omega)]
      · rw [if_neg h2, if_neg (by omega)]
theorem bmOf_bit {f : Nat → Nat} (hf : ∀ i, f i ≤ 1) (n j : Nat) : bitN (bmOf f n) j = if j < n then f j else 0 := by
  unfold bmOf
  rw [bmGo_bit hf n (by simp [zerosL, len8]; omega), bitN_zeros]
theorem bm_eq {B : List UInt8} {f : Nat → Nat} {n : Nat} (hf : ∀ i, f i ≤ 1) (hl : B.length = len8 n) (h : ∀ j, j < n → bitN B j = f j) (h0 : ∀ j, n ≤ j → j < 8 * B.length → bitN B j = 0) : B = bmOf f n := by
  apply bytes_ext (by rw [hl, bmOf_len])
  intro j hj
  rw [bmOf_bit hf]
  split
  · exact h j (by assumption)
  · exact h0 j (by omega) hj
theorem bmOf_congr {f g : Nat → Nat} {n : Nat} (hf : ∀ i, f i ≤ 1) (hg : ∀ i, g i ≤ 1) (h : ∀ i, i < n → f i = g i) : bmOf f n = bmOf g n := by
  apply bm_eq hg (bmOf_len f n)
  · intro j hj; rw [bmOf_bit hf, if_pos hj]; exact h j hj
  · intro j hj _; rw [bmOf_bit hf, if_neg (by omega)]

/-- Whether a run has a number. -/
def inR (r : Rn) (i : Nat) : Bool := decide (r.s ≤ i ∧ (i : Int) < r.s + r.n)
def runOk (n : Int) (r : Rn) : Prop := (0 ≤ r.s ∧ r.s ≤ n - 1) ∧ 1 ≤ r.n ∧ r.n ≤ n - r.s
instance (n : Int) (r : Rn) : Decidable (runOk n r) := by unfold runOk; infer_instance
/-- Whether one of so many numbers from one on is taken. -/
def hits (t : Nat → Bool) (s : Nat) : Nat → Bool
  | 0 => false
  | k + 1 => hits t s k || t (s + k)
theorem hits_iff {t : Nat → Bool} {s : Nat} : ∀ {k : Nat}, hits t s k = true ↔ ∃ j, s ≤ j ∧ j < s + k ∧ t j = true := by
  intro k
  induction k with
  | zero => simp [hits]; omega
  | succ k ih =>
    simp only [hits, Bool.or_eq_true, ih]
    constructor
    · rintro (⟨j, h1, h2, h3⟩ | h)
      · exact ⟨j, h1, by omega, h3⟩
      · exact ⟨s + k, by omega, by omega, h⟩
    · rintro ⟨j, h1, h2, h3⟩
      by_cases h : j = s + k
      · subst h; exact .inr h3
      · exact .inl ⟨j, h1, by omega, h3⟩
def orR (t : Nat → Bool) (r : Rn) : Nat → Bool := fun i => t i || inR r i
/-- The error of runs, where some numbers are taken. -/
def runsGo (n : Int) : (Nat → Bool) → List Rn → Int
  | _, [] => 0
  | t, r :: l => if runOk n r then (if hits t r.s.toNat r.n.toNat then 23 else runsGo n (orR t r) l) else 2
def runsErr (l : List Rn) (n : Int) : Int := if 64 < l.length then 8 else runsGo n (fun _ => false) l
/-- Whether one of some runs has a number. -/
def inRs (l : List Rn) (i : Nat) : Bool := l.any fun r => inR r i
def takenOf (l : List Rn) : Nat → Bool := inRs l
theorem inRs_snoc (l : List Rn) (r : Rn) (i : Nat) : inRs (l ++ [r]) i = (inRs l i || inR r i) := by simp [inRs]
theorem orR_taken (l : List Rn) (r : Rn) : orR (inRs l) r = inRs (l ++ [r]) := by
  funext i; rw [inRs_snoc]; rfl
theorem inRs_nil : inRs [] = fun _ => false := by funext i; rfl
/-- What the rest of the runs comes to. -/
theorem runsGo_at {n : Int} {l : List Rn} {i : Nat} {r : Rn} (h : l[i]? = some r) : runsGo n (inRs (l.take i)) (l.drop i) = if runOk n r then (if hits (inRs (l.take i)) r.s.toNat r.n.toNat then 23 else runsGo n (inRs (l.take (i + 1))) (l.drop (i + 1))) else 2 := by
  have hi : i < l.length := by
    by_cases hi : i < l.length
    · exact hi
    · rw [List.getElem?_eq_none (by omega)] at h; cases h
  have e : l[i] = r := by rw [List.getElem?_eq_getElem hi] at h; exact Option.some.inj h
  rw [List.drop_eq_getElem_cons hi, e]
  simp only [runsGo]
  rw [orR_taken, List.take_add_one, h]; rfl
theorem runsGo_end {n : Int} {l : List Rn} {i : Nat} (h : l.length ≤ i) (t : Nat → Bool) : runsGo n t (l.drop i) = 0 := by
  rw [List.drop_eq_nil_of_le h]; rfl
/-- The error of marks: one of the bits has the value already. -/
def markErr (f : Nat → Nat) (n : Int) (l : List Rn) (v : Nat) : Int :=
  if runsErr l n ≠ 0 then runsErr l n else if l.any (fun r => hits (fun i => decide (f i = v)) r.s.toNat r.n.toNat) then 18 else 0
def markF (f : Nat → Nat) (l : List Rn) (v : Nat) (i : Nat) : Nat := if inRs l i then v else f i
theorem markF_le {f : Nat → Nat} (hf : ∀ i, f i ≤ 1) {l : List Rn} {v : Nat} (hv : v ≤ 1) (i : Nat) : markF f l v i ≤ 1 := by
  unfold markF; split
  · exact hv
  · exact hf i
/-- Runs without an error: each is in range, and none meets one ahead of it. -/
theorem runsGo_ok {n : Int} : ∀ {l : List Rn} {t : Nat → Bool}, runsGo n t l = 0 → (∀ r ∈ l, runOk n r) ∧ (∀ r ∈ l, ∀ i, inR r i = true → t i = false) ∧ l.Pairwise (fun a b => ∀ i, ¬ (inR a i = true ∧ inR b i = true)) := by
  intro l
  induction l with
  | nil => intro t _; exact ⟨fun _ h => (by cases h), fun _ h => (by cases h), .nil⟩
  | cons r l ih =>
    intro t h
    simp only [runsGo] at h
    by_cases hr : runOk n r
    case neg => rw [if_neg hr] at h; cases h
    rw [if_pos hr] at h
    by_cases hh : hits t r.s.toNat r.n.toNat = true
    case pos => rw [if_pos hh] at h; cases h
    rw [if_neg hh] at h
    obtain ⟨h1, h2, h3⟩ := ih h
    refine ⟨fun x hx => ?_, fun x hx i hi => ?_, .cons (fun b hb i hi => ?_) h3⟩
    · rcases List.mem_cons.1 hx with rfl | hx
      · exact hr
      · exact h1 x hx
    · rcases List.mem_cons.1 hx with rfl | hx
      · cases ht : t i with
        | false => rfl
        | true =>
          refine absurd (hits_iff.2 ⟨i, ?_, ?_, ht⟩) hh <;> (simp [inR, runOk] at hi hr; omega)
      · have := h2 x hx i hi
        simp [orR] at this
        exact this.1
    · have := h2 b hb i hi.2
      simp [orR, hi.1] at this
theorem runsErr_ok {n : Int} {l : List Rn} (h : runsErr l n = 0) : l.length ≤ 64 ∧ (∀ r ∈ l, runOk n r) ∧ l.Pairwise (fun a b => ∀ i, ¬ (inR a i = true ∧ inR b i = true)) := by
  unfold runsErr at h
  split at h
  · cases h
  · obtain ⟨h1, _, h3⟩ := runsGo_ok h
    exact ⟨by omega, h1, h3⟩
end Go.Dv.Try
end
section
/-
  Plain laws of chapter 4: what runs have together; the order in which they are gathered.
-/
namespace Go.Dv.Try
open Go.Dv

def sumN (l : List Rn) : Int := (l.map fun r => r.n).sum
@[simp] theorem sumN_nil : sumN [] = 0 := rfl
theorem sumN_cons (r : Rn) (l : List Rn) : sumN (r :: l) = r.n + sumN l := by simp [sumN]
theorem sumN_app (l m : List Rn) : sumN (l ++ m) = sumN l + sumN m := by simp [sumN]
theorem sumN_perm {l m : List Rn} (h : l.Perm m) : sumN l = sumN m := by
  unfold sumN
  induction h with
  | nil => rfl
  | cons x _ ih => simp [ih]
  | swap x y l => simp; omega
  | trans _ _ h1 h2 => exact h1.trans h2
def cntP (p : Nat → Bool) : Nat → Nat
  | 0 => 0
  | n + 1 => cntP p n + (p n).toNat
theorem sumN_runs (p : Nat → Bool) : ∀ n, sumN (runsP p n) = cntP p n := by
  intro n
  induction n with
  | zero => rfl
  | succ n ih =>
    unfold runsP cntP
    cases hp : p n with
    | false => simp [ih]
    | true =>
      simp only [if_true]
      rcases snoc_or (runsP p n) with e | ⟨a, r, e⟩
      · rw [e] at ih ⊢
        rw [addRun_nil, sumN_cons]; simp at ih ⊢; omega
      · rw [e] at ih ⊢
        rw [addRun_snoc]
        rw [sumN_app, sumN_cons] at ih
        split
        · rw [sumN_app, sumN_cons]; simp at ih ⊢; omega
        · rw [sumN_app, sumN_app, sumN_cons, sumN_cons]; simp at ih ⊢; omega
theorem cntP_zero (s : List UInt8) : ∀ n, (cntP (fun i => decide ((bitN s i : Int) = 0)) n : Int) = n - cntN s n := by
  intro n
  induction n with
  | zero => rfl
  | succ n ih =>
    have hle := bitN_le s n
    by_cases h : bitN s n = 0
    · have hf : decide ((bitN s n : Int) = 0) = true := by rw [h]; rfl
      simp only [cntP, cntN, hf, Bool.toNat_true, Bool.toNat_false]
      omega
    · have h1 : bitN s n = 1 := by omega
      have hf : decide ((bitN s n : Int) = 0) = false := by rw [h1]; rfl
      simp only [cntP, cntN, hf, Bool.toNat_true, Bool.toNat_false]
      omega
theorem cntP_one (s : List UInt8) : ∀ n, (cntP (fun i => decide ((bitN s i : Int) = 1)) n : Int) = cntN s n := by
  intro n
  induction n with
  | zero => rfl
  | succ n ih =>
    have hle := bitN_le s n
    by_cases h : bitN s n = 0
    · have hf : decide ((bitN s n : Int) = 1) = false := by rw [h]; rfl
      simp only [cntP, cntN, hf, Bool.toNat_true, Bool.toNat_false]
      omega
    · have h1 : bitN s n = 1 := by omega
      have hf : decide ((bitN s n : Int) = 1) = true := by rw [h1]; rfl
      simp only [cntP, cntN, hf, Bool.toNat_true, Bool.toNat_false]
      omega

/-- Runs lie one after the other. -/
theorem runsP_apart (p : Nat → Bool) : ∀ n, (runsP p n).Pairwise (fun a b => a.s + a.n < b.s) ∧ ((∃ a r, runsP p n = a ++ [r] ∧ r.s + r.n = (n : Int)) ∨ ∀ r ∈ runsP p n, r.s + r.n < n) := by
  intro n
  induction n with
  | zero => exact ⟨.nil, .inr fun _ h => (by cases h)⟩
  | succ n ih =>
    obtain ⟨h1, h2⟩ := ih
    have h0 := (runsP_ok p n).1
    unfold runsP
    cases hp : p n with
    | false =>
      simp only [Bool.false_eq_true, if_false]
      exact ⟨h1, .inr fun r hr => by have := h0 r hr; omega⟩
    | true =>
      simp only [if_true]
      rcases snoc_or (runsP p n) with e | ⟨a, r, e⟩
      · rw [e, addRun_nil]
        exact ⟨List.pairwise_singleton _ _, .inl ⟨[], _, rfl, by simp⟩⟩
      · rw [e] at h1 h2 h0
        rw [e, addRun_snoc]
        rw [List.pairwise_append] at h1
        obtain ⟨h3, h4, h5⟩ := h1
        split
        · rename_i he
          refine ⟨?_, .inl ⟨a, _, rfl, by simp; omega⟩⟩
          rw [List.pairwise_append]
          exact ⟨h3, List.pairwise_singleton _ _, fun x hx y hy => by simp at hy; subst hy; exact h5 x hx r (by simp)⟩
        · rename_i he
          have hall : ∀ x ∈ a ++ [r], x.s + x.n < n := by
            rcases h2 with ⟨a', r', e', h'⟩ | h2
            · have := List.append_inj_right' e' rfl
              simp at this; subst this
              exact absurd h' he
            · exact h2
          refine ⟨?_, .inl ⟨a ++ [r], _, rfl, by simp⟩⟩
          rw [List.pairwise_append]
          refine ⟨?_, List.pairwise_singleton _ _, fun x hx y hy => by simp at hy; subst hy; exact hall x hx⟩
          rw [List.pairwise_append]
          exact ⟨h3, h4, h5⟩
end Go.Dv.Try
end
section
/-
  Contracts of the small functions of chapter 4.
-/
namespace Go.Dv.Try
open Go Go.Dv


/-! ### How many bits -/
theorem wrapU8 (n : Int) : IntKind.u8.wrap n = n % 256 := by
  have hb : IntKind.u8.bits = 8 := rfl
  simp only [IntKind.wrap, IntKind.signed, hb]
  simp

theorem wrapU64 {n : Int} (h : 0 ≤ n ∧ n < 18446744073709551616) : IntKind.u64.wrap n = n := by
  have hb : IntKind.u64.bits = 64 := rfl
  simp only [IntKind.wrap, IntKind.signed, hb]
  have : (2 : Int) ^ 64 = 18446744073709551616 := by decide
  simp_all
  omega

/-- Two bounds. -/
def R_bitmap_within (ps : List PV) (x : PV) : Prop := ∃ n lo hi : Int, ps = [pI n, pI lo, pI hi] ∧ x = pB (decide (lo ≤ n ∧ n ≤ hi))
/-- The same as a question. -/
def Q_within (ps : List PV) (p : Prop) : Prop := ∃ n lo hi : Int, ps = [pI n, pI lo, pI hi] ∧ p = (lo ≤ n ∧ n ≤ hi)
theorem meets_bitmap_within : Meets (ctxOf []) s_bitmap_within c_bitmap_within r_bitmap_within (fnSpec R_bitmap_within) := by
  rintro _ K ⟨_, ⟨n, lo, hi, rfl, rfl⟩, hK⟩
  refine fun b hb => ?_
  rcases cmp hb with ⟨rfl, h⟩ | ⟨rfl, h⟩
  · refine fun b hb => ?_
    refine ⟨.pv (pB _), pB_eq ?_, trivial, hK⟩
    rw [decide_eq_true_iff, hb]
    omega
  · refine ⟨.pv (pB _), pB_eq ?_, trivial, hK⟩
    rw [decide_eq_true_iff]
    simp only [Bool.false_eq_true, iff_false]
    omega
theorem meets_base_Within : Meets (ctxOf []) s_base_Within c_base_Within r_base_Within (fnSpec R_bitmap_within) := by
  rintro _ K ⟨_, ⟨n, lo, hi, rfl, rfl⟩, hK⟩
  refine fun b hb => ?_
  rcases cmp hb with ⟨rfl, h⟩ | ⟨rfl, h⟩
  · refine fun b hb => ?_
    refine ⟨.pv (pB _), pB_eq ?_, trivial, hK⟩
    rw [decide_eq_true_iff, hb]
    omega
  · refine ⟨.pv (pB _), pB_eq ?_, trivial, hK⟩
    rw [decide_eq_true_iff]
    simp only [Bool.false_eq_true, iff_false]
    omega

def unlessZ (ok : Bool) (e : Int) : Int := match ok with | true => 0 | false => e
def R_bitmap_unless (ps : List PV) (x : PV) : Prop := ∃ (ok : Bool) (e : Int), ps = [pB ok, pI e] ∧ x = pI (unlessZ ok e)
theorem meets_bitmap_unless : Meets (ctxOf []) s_bitmap_unless c_bitmap_unless r_bitmap_unless (fnSpec R_bitmap_unless) := by
  rintro _ K ⟨_, ⟨ok, e, rfl, rfl⟩, hK⟩
  cases ok with
  | true => exact ⟨.pv (pI _), rfl, trivial, hK⟩
  | false => exact ⟨.pv (pI _), rfl, trivial, hK⟩

def firstZ : List Int → Int
  | [] => 0
  | e :: l => if e = 0 then firstZ l else e
def R_bitmap_first (ps : List PV) (x : PV) : Prop := ∃ l : List Int, ps = [.sl 1 (l.map pI)] ∧ x = pI (firstZ l)

theorem firstZ_drop (l : List Int) (n : Nat) (h : ∀ j, j < n → l[j]? = some 0) : firstZ l = firstZ (l.drop n) := by
  induction n generalizing l with
  | zero => rfl
  | succ n ih =>
    cases l with
    | nil => rfl
    | cons e l =>
      have := h 0 (by omega)
      simp at this
      subst this
      exact ih l fun j hj => by simpa using h (j + 1) (by omega)

theorem meets_bitmap_first : Meets (ctxOf []) s_bitmap_first c_bitmap_first r_bitmap_first (fnSpec R_bitmap_first) := by
  rintro _ K ⟨_, ⟨l, rfl, rfl⟩, hK⟩
  refine fun hl => ?_
  rw [List.length_map] at hl
  refine ⟨fun m env σ => ∃ n : Nat, (n + m = l.length ∧ ∀ j, j < n → l[j]? = some 0) ∧ σ = [] ∧ env = [(5, .pv (.sl 1 (l.map pI))), (6, .pv (pI ((l.map pI).length : Nat))), (7, .pv (pI n))], l.length, ⟨0, ⟨by omega, fun j hj => by omega⟩, rfl, rfl⟩, ?_⟩
  rintro m env σ ⟨n, ⟨hn, h0⟩, rfl, rfl⟩
  refine fun b hb => ?_
  rw [List.length_map] at hb
  rcases cmp hb with ⟨rfl, h⟩ | ⟨rfl, h⟩
  · have hlt : n < l.length := by omega
    refine ⟨pI l[n], ⟨by omega, ?_⟩, ?_⟩
    · show (l.map pI)[n]? = some (pI l[n])
      simp [hlt]
    refine fun b hb => ?_
    rcases cmp hb with ⟨rfl, h⟩ | ⟨rfl, h⟩
    · refine ⟨.pv (pI _), pI_eq ?_, trivial, hK⟩
      rw [firstZ_drop l n h0, List.drop_eq_getElem_cons hlt]
      simp [firstZ, h]
    · refine fun x hx => ?_
      replace hx := n64 hx (by omega)
      subst hx
      refine ⟨m - 1, by omega, n + 1, ⟨by omega, fun j hj => ?_⟩, rfl, rfl⟩
      by_cases hjn : j < n
      · exact h0 j hjn
      · have : j = n := by omega
        subst this
        rw [List.getElem?_eq_getElem hlt]
        simpa using h
  · refine ⟨.pv (pI _), pI_eq ?_, trivial, hK⟩
    rw [firstZ_drop l n h0, List.drop_eq_nil_of_le (by omega)]
    rfl
theorem shl1 {s : Int} (h : 0 ≤ s ∧ s ≤ 62) : IntKind.i64.wrap (1 * 2 ^ min s.toNat IntKind.i64.bits) = ((2 ^ s.toNat : Nat) : Int) := by
  have hb : IntKind.i64.bits = 64 := rfl
  have : min s.toNat IntKind.i64.bits = s.toNat := by omega
  rw [this, Int.one_mul]
  have hp : 2 ^ s.toNat ≤ 2 ^ 62 := Nat.pow_le_pow_right (by omega) (by omega)
  have e : ((2 : Int) ^ s.toNat) = ((2 ^ s.toNat : Nat) : Int) := by simp
  rw [e]
  generalize 2 ^ s.toNat = p at hp
  exact wrap64 (by omega)

def R_base_Power (ps : List PV) (x : PV) : Prop := ∃ s : Int, ps = [pI s] ∧ (0 ≤ s ∧ s ≤ 62) ∧ x = pI ((2 ^ s.toNat : Nat) : Int)
theorem meets_base_Power : Meets (ctxOf []) s_base_Power c_base_Power r_base_Power (fnSpec R_base_Power) := by
  rintro _ K ⟨_, ⟨s, rfl, h, rfl⟩, hK⟩
  refine ⟨h.1, ?_⟩
  refine fun y hy => ?_
  rw [shl1 h] at hy
  exact ⟨.pv (pI _), pI_eq hy.symm, trivial, hK⟩

def R_base_Mod (ps : List PV) (x : PV) : Prop := ∃ n m : Int, ps = [pI n, pI m] ∧ (0 < m ∧ m ≤ 4611686018427387904) ∧ x = pI (n % m)
theorem meets_base_Mod : Meets (ctxOf []) s_base_Mod c_base_Mod r_base_Mod (fnSpec R_base_Mod) := by
  rintro _ K ⟨_, ⟨n, m, rfl, ⟨h1, h2⟩, rfl⟩, hK⟩
  refine ⟨by omega, ?_⟩
  refine fun x hx => ?_
  have hx2 : x = if 0 ≤ n ∨ n % m = 0 then n % m else n % m - m := by
    rw [hx, Int.tmod_eq_emod]
    have hd : (m ∣ n) ↔ n % m = 0 := ⟨fun h => Int.emod_eq_zero_of_dvd h, fun h => Int.dvd_of_emod_eq_zero h⟩
    have : (m.natAbs : Int) = m := by omega
    split
    · rename_i h; rw [hd] at h; rw [if_pos h]; omega
    · rename_i h; rw [hd] at h; rw [if_neg h]; omega
  have hm1 := Int.emod_nonneg n (show m ≠ 0 by omega)
  have hm2 := Int.emod_lt_of_pos n h1
  clear hx
  generalize n % m = q at *
  refine fun b hb => ?_
  rcases cmp hb with ⟨rfl, h⟩ | ⟨rfl, h⟩
  · refine fun y hy => ?_
    replace hy := n64 hy (by split at hx2 <;> omega)
    refine ⟨.pv (pI _), pI_eq ?_, trivial, hK⟩
    split at hx2 <;> omega
  · refine ⟨.pv (pI _), pI_eq ?_, trivial, hK⟩
    split at hx2 <;> omega


end Go.Dv.Try
end
section
/-
  Contracts of chapter 4: sizes.
-/
namespace Go.Dv.Try
open Go Go.Dv

def R_Floor (ps : List PV) (x : PV) : Prop := ∃ n m : Int, ps = [pI n, pI m] ∧ (0 < m ∧ m ≤ 1000000 ∧ -4611686018427387904 ≤ n ∧ n ≤ 4611686018427387904) ∧ x = pI (n / m)
theorem meets_Floor : Meets (ctxOf []) s_base_Floor c_base_Floor r_base_Floor (fnSpec R_Floor) := by
  rintro _ K ⟨_, ⟨n, m, rfl, ⟨h1, h2, h3, h4⟩, rfl⟩, hK⟩
  have hd : n.tdiv m = if 0 ≤ n ∨ m ∣ n then n / m else n / m + 1 := by
    rw [Int.tdiv_eq_ediv]
    have : m.sign = 1 := Int.sign_eq_one_of_pos h1
    rw [this]
    split <;> omega
  have hr : n.tmod m = if 0 ≤ n ∨ m ∣ n then n % m else n % m - m := by
    rw [Int.tmod_eq_emod]
    have : (m.natAbs : Int) = m := by omega
    split <;> omega
  have hm1 := Int.emod_nonneg n (show m ≠ 0 by omega)
  have hm2 := Int.emod_lt_of_pos n h1
  have hdv : (m ∣ n) ↔ n % m = 0 := ⟨fun h => Int.emod_eq_zero_of_dvd h, fun h => Int.dvd_of_emod_eq_zero h⟩
  have hb1 : -4611686018427387904 ≤ n / m := by
    rw [Int.le_ediv_iff_mul_le h1]
    have : -4611686018427387904 * m ≤ -4611686018427387904 * 1 := Int.mul_le_mul_of_nonpos_left (by omega) (by omega)
    omega
  have hb2 : n / m ≤ 4611686018427387904 := by
    by_cases hn : 0 ≤ n
    · have := Int.ediv_le_self m hn; omega
    · have := Int.ediv_neg_of_neg_of_pos (show n < 0 by omega) h1; omega
  refine ⟨by omega, ?_⟩
  refine fun x hx => ?_
  rw [hd] at hx
  have hx := n64 hx (by split <;> omega)
  rw [hx]
  refine ⟨by omega, ?_⟩
  refine fun y hy => ?_
  rw [hr] at hy
  rw [hy]
  refine fun b hb => ?_
  rcases cmp hb with ⟨rfl, h⟩ | ⟨rfl, h⟩
  · refine fun z hz => ?_
    have hz := n64 hz (by split <;> omega)
    rw [hz]
    refine ⟨.pv (pI _), pI_eq ?_, trivial, hK⟩
    split at h
    · omega
    · rename_i hc; rw [if_neg hc]; omega
  · refine ⟨.pv (pI _), pI_eq ?_, trivial, hK⟩
    split at h
    · rename_i hc; rw [if_pos hc]
    · omega

/-- How many eighths. -/
def ceil8 (n : Int) : Int := (n + 7) / 8
def R_Ceil8 (ps : List PV) (x : PV) : Prop := ∃ n : Int, ps = [pI n, pI 8] ∧ (-1000000000 ≤ n ∧ n ≤ 1000000000) ∧ x = pI (ceil8 n)
theorem meets_Ceil8 : Meets (ctxOf [(n_base_Floor, fnSpec R_Floor)]) s_base_Ceil c_base_Ceil r_base_Ceil (fnSpec R_Ceil8) := by
  rintro _ K ⟨_, ⟨n, rfl, h, rfl⟩, hK⟩
  refine fun x hx => ?_
  have hx := n64 hx (by omega)
  rw [hx]
  refine ⟨_, ⟨_, 8, rfl, by omega, rfl⟩, ?_⟩
  refine fun x hx => ?_
  have hx := n64 hx (by omega)
  rw [hx]
  refine ⟨.pv (pI _), pI_eq ?_, trivial, hK⟩
  unfold ceil8; omega

def R_size (ps : List PV) (x : PV) : Prop := ∃ n : Int, ps = [pI n] ∧ (0 ≤ n ∧ n ≤ 1000000000) ∧ x = pI (ceil8 n)
theorem meets_size : Meets (ctxOf []) s_bitmap_size c_bitmap_size r_bitmap_size (fnSpec R_size) := by
  rintro _ K ⟨_, ⟨n, rfl, h, rfl⟩, hK⟩
  refine fun x hx => ?_
  have hx := n64 hx (by omega)
  rw [hx]
  refine fun x hx => ?_
  have hx := n64 hx (by omega)
  rw [hx]
  refine ⟨by decide, ?_⟩
  refine fun x hx => ?_
  rw [Int.tdiv_eq_ediv_of_nonneg (by omega)] at hx
  have hx := n64 hx (by omega)
  rw [hx]
  refine ⟨.pv (pI _), pI_eq ?_, trivial, hK⟩
  unfold ceil8; omega

/-- The error of a number of bits. -/
def sizeErr (n : Int) : Int := if 0 ≤ n ∧ n ≤ 4096 then 0 else 2
def R_SizeErr (ps : List PV) (x : PV) : Prop := ∃ n : Int, ps = [pI n] ∧ x = pI (sizeErr n)
theorem meets_SizeErr : Meets (ctxOf [(n_base_Within, fnSpec R_bitmap_within)]) s_ref04_SizeErr c_ref04_SizeErr r_ref04_SizeErr (fnSpec R_SizeErr) := by
  rintro _ K ⟨_, ⟨n, rfl, rfl⟩, hK⟩
  by_cases h : 0 ≤ n ∧ n ≤ 4096
  · refine ⟨pB true, ⟨_, _, _, rfl, pB_eq (by simpa using h)⟩, ?_⟩
    refine fun b hb => ?_
    rcases cmp hb with ⟨rfl, h2⟩ | ⟨rfl, h2⟩
    · cases h2
    refine ⟨.pv (pI _), pI_eq ?_, trivial, hK⟩
    unfold sizeErr; rw [if_pos h]
  · refine ⟨pB false, ⟨_, _, _, rfl, pB_eq (by simpa using h)⟩, ?_⟩
    refine fun b hb => ?_
    rcases cmp hb with ⟨rfl, h2⟩ | ⟨rfl, h2⟩
    case inr => exact absurd rfl h2
    refine ⟨.pv (pI _), pI_eq ?_, trivial, hK⟩
    unfold sizeErr; rw [if_neg h]

def R_Zeros (ps : List PV) (x : PV) : Prop := ∃ n : Int, ps = [pI n] ∧ (0 ≤ n ∧ n ≤ 200000) ∧ x = .str (zerosL n.toNat)
theorem meets_Zeros : Meets (ctxOf []) s_base_Zeros c_base_Zeros r_base_Zeros (fnSpec R_Zeros) := by
  rintro _ K ⟨_, ⟨n, rfl, h, rfl⟩, hK⟩
  refine fun x hx => ?_
  refine fun y hy => ?_
  have hy : y = n := by omega
  rw [hy]
  refine ⟨by omega, ?_⟩
  refine ⟨zerosL n.toNat, ?_, ?_⟩
  · unfold zerosL; rw [List.map_replicate]; rfl
  exact ⟨.pv (.str _), rfl, trivial, hK⟩
end Go.Dv.Try
end
section
/-
  Contracts of chapter 4: single bits, which strings are bitmaps.
-/
namespace Go.Dv.Try
open Go Go.Dv


def R_Bit04 (ps : List PV) (x : PV) : Prop := ∃ (s : List UInt8) (i : Nat), ps = [.str s, pI i] ∧ (i < 8 * s.length ∧ s.length ≤ 1000000) ∧ x = pI (bitN s i)
theorem meets_refBit : Meets (ctxOf [(n_base_Power, fnSpec R_base_Power)]) s_ref04_Bit c_ref04_Bit r_ref04_Bit (fnSpec R_Bit04) := by
  rintro _ K ⟨_, ⟨s, i, rfl, ⟨h1, h2⟩, rfl⟩, hK⟩
  obtain ⟨v, hv⟩ : ∃ v, s[i / 8]? = some v := by rw [List.getElem?_eq_getElem (by omega)]; exact ⟨_, rfl⟩
  have hvl := v.toNat_lt
  have hp := Nat.two_pow_pos (i % 8)
  refine ⟨by kernel_rfl, ?_⟩
  refine ⟨by decide, ?_⟩
  refine fun x hx => ?_
  rw [Int.tdiv_eq_ediv_of_nonneg (by omega)] at hx
  have hx := n64 hx (by omega)
  rw [hx]
  refine ⟨_, ⟨by omega, by rw [show ((i : Int) / 8).toNat = i / 8 by omega]; exact hv⟩, ?_⟩
  refine fun x hx => ?_
  have hx := n64 hx (by omega)
  rw [hx]
  refine ⟨by decide, ?_⟩
  refine fun y hy => ?_
  rw [Int.tmod_eq_emod_of_nonneg (by omega)] at hy
  have hy : y = ((i % 8 : Nat) : Int) := by omega
  subst hy
  refine ⟨_, ⟨_, rfl, by omega, rfl⟩, ?_⟩
  rw [Int.toNat_natCast]
  refine ⟨by omega, ?_⟩
  refine fun z hz => ?_
  have e : ((v.toNat : Nat) : Int).tdiv ((2 ^ (i % 8) : Nat) : Int) = ((v.toNat / 2 ^ (i % 8) : Nat) : Int) := by rw [Int.tdiv_eq_ediv_of_nonneg (by omega)]; rfl
  have hq : v.toNat / 2 ^ (i % 8) ≤ v.toNat := Nat.div_le_self _ _
  have eb : bitN s i = v.toNat / 2 ^ (i % 8) % 2 := by unfold bitN; rw [hv]; rfl
  rw [e] at hz
  generalize v.toNat / 2 ^ (i % 8) = q at *
  have hz := n64 hz (by omega)
  rw [hz]
  refine ⟨by decide, ?_⟩
  refine fun u hu => ?_
  rw [Int.tmod_eq_emod_of_nonneg (by omega)] at hu
  rw [hu]
  refine ⟨.pv (pI _), pI_eq ?_, trivial, hK⟩
  rw [eb]; omega

/-- The error of a string as a bitmap of so many bits. -/
def bmErr (s : List UInt8) (n : Int) : Int :=
  if sizeErr n ≠ 0 then sizeErr n else if (s.length : Int) ≠ ceil8 n then 10 else if ∀ i, i < 8 * s.length → n.toNat ≤ i → bitN s i = 0 then 0 else 3

def R_Err04 (ps : List PV) (x : PV) : Prop := ∃ (s : List UInt8) (n : Int), ps = [.str s, pI n] ∧ s.length ≤ 1000000 ∧ x = pI (bmErr s n)
theorem meets_refErr : Meets (ctxOf [(n_ref04_SizeErr, fnSpec R_SizeErr), (n_base_Ceil, fnSpec R_Ceil8), (n_ref04_Bit, fnSpec R_Bit04)]) s_ref04_Err c_ref04_Err r_ref04_Err (fnSpec R_Err04) := by
  rintro _ K ⟨_, ⟨s, n, rfl, hs, rfl⟩, hK⟩
  unfold bmErr at hK
  refine ⟨_, ⟨n, rfl, rfl⟩, ?_⟩
  refine fun b hb => ?_
  rcases cmp hb with ⟨rfl, h⟩ | ⟨rfl, h⟩
  · rw [if_pos h] at hK
    exact ⟨.pv (pI _), rfl, trivial, hK⟩
  rw [if_neg h] at hK
  have hn : 0 ≤ n ∧ n ≤ 4096 := by
    refine Decidable.of_not_not fun h2 => h ?_
    unfold sizeErr; rw [if_neg h2]; decide
  refine ⟨_, ⟨n, rfl, by omega, rfl⟩, ?_⟩
  refine fun b hb => ?_
  rcases cmp hb with ⟨rfl, h2⟩ | ⟨rfl, h2⟩
  · rw [if_pos h2] at hK
    exact ⟨.pv (pI _), rfl, trivial, hK⟩
  rw [if_neg h2] at hK
  have hl : (s.length : Int) = ceil8 n := Decidable.of_not_not h2
  unfold ceil8 at hl
  refine ⟨fun m env σ => ∃ i : Nat, (i + m = 8 * s.length ∧ n ≤ i ∧ ∀ j, j < i → n.toNat ≤ j → bitN s j = 0) ∧ σ = [] ∧ env = [(0, .pv (.str s)), (6, .pv (pI i))], 8 * s.length - n.toNat, ⟨n.toNat, ⟨by omega, by omega, fun j hj hj2 => by omega⟩, rfl, by rw [show ((n.toNat : Nat) : Int) = n by omega]⟩, ?_⟩
  rintro m env σ ⟨i, ⟨hi, hni, h0⟩, rfl, rfl⟩
  refine fun x hx => ?_
  have hx := n64 hx (by omega)
  rw [hx]
  refine fun b hb => ?_
  rcases cmp hb with ⟨rfl, h3⟩ | ⟨rfl, h3⟩
  · refine ⟨_, ⟨s, i, rfl, by omega, rfl⟩, ?_⟩
    refine fun b hb => ?_
    rcases cmp hb with ⟨rfl, h4⟩ | ⟨rfl, h4⟩
    · rw [if_neg (fun h5 => h4 (by rw [h5 i (by omega) (by omega)]; rfl))] at hK
      exact ⟨.pv (pI _), rfl, trivial, hK⟩
    · refine fun y hy => ?_
      have hy := n64 hy (by omega)
      rw [hy]
      refine ⟨m - 1, by omega, i + 1, ⟨by omega, by omega, fun j hj hj2 => ?_⟩, rfl, rfl⟩
      by_cases hji : j < i
      · exact h0 j hji hj2
      · have : j = i := by omega
        subst this
        have := Decidable.of_not_not h4
        omega
  · rw [if_pos (fun j hj hj2 => h0 j (by omega) hj2)] at hK
    exact ⟨.pv (pI _), rfl, trivial, hK⟩
end Go.Dv.Try
end
section
/-
  Contracts of chapter 4: bitmaps checked in the program.
-/
namespace Go.Dv.Try
open Go Go.Dv

theorem top_zero {v : Nat} (hv : v < 256) : ∀ m k : Nat, k + m = 8 → (∀ r, k ≤ r → r < 8 → v / 2 ^ r % 2 = 0) → v / 2 ^ k = 0 := by
  intro m
  induction m with
  | zero =>
    intro k hk _
    have : k = 8 := by omega
    subst this
    exact Nat.div_eq_of_lt (by omega)
  | succ m ih =>
    intro k hk h
    have h1 := ih (k + 1) (by omega) (fun r h1 h2 => h r (by omega) h2)
    have h2 := h k (Nat.le_refl _) (by omega)
    rw [Nat.pow_succ, ← Nat.div_div_eq_div_mul] at h1
    omega

theorem bm_last {s : List UInt8} {n : Nat} (hl : s.length = (n + 7) / 8) : (∀ i, i < 8 * s.length → n ≤ i → bitN s i = 0) ↔ (n % 8 = 0 ∨ (s[s.length - 1]?.getD 0).toNat / 2 ^ (n % 8) = 0) := by
  have hv := (s[s.length - 1]?.getD 0).toNat_lt
  constructor
  · intro h
    by_cases h8 : n % 8 = 0
    · exact .inl h8
    refine .inr (top_zero hv (8 - n % 8) (n % 8) (by omega) fun r h1 h2 => ?_)
    have := h (n / 8 * 8 + r) (by omega) (by omega)
    unfold bitN at this
    rw [show (n / 8 * 8 + r) / 8 = s.length - 1 by omega, show (n / 8 * 8 + r) % 8 = r by omega] at this
    exact this
  · intro h i hi hni
    rcases h with h | h
    · omega
    by_cases h8 : n % 8 = 0
    · omega
    unfold bitN
    rw [show i / 8 = s.length - 1 by omega]
    have e : 2 ^ (i % 8) = 2 ^ (n % 8) * 2 ^ (i % 8 - n % 8) := by rw [← Nat.pow_add]; congr 1; omega
    rw [e, ← Nat.div_div_eq_div_mul, h]
    simp

theorem meets_CheckBitmap : Meets (ctxOf [(n_bitmap_within, fnSpec R_bitmap_within), (n_bitmap_size, fnSpec R_size), (n_bitmap_unless, fnSpec R_bitmap_unless)]) s_bitmap_CheckBitmap c_bitmap_CheckBitmap r_bitmap_CheckBitmap (fnSpec R_Err04) := by
  rintro _ K ⟨_, ⟨s, n, rfl, hs, rfl⟩, hK⟩
  unfold bmErr at hK
  by_cases hn : 0 ≤ n ∧ n ≤ 4096
  case neg =>
    refine ⟨pB false, ⟨_, _, _, rfl, pB_eq (by simpa using hn)⟩, ?_⟩
    refine fun b hb => ?_
    rcases cmp hb with ⟨rfl, h⟩ | ⟨rfl, h⟩
    case inr => exact absurd rfl h
    have e : sizeErr n = 2 := by unfold sizeErr; rw [if_neg hn]
    rw [e, if_pos (by decide)] at hK
    exact ⟨.pv (pI _), rfl, trivial, hK⟩
  refine ⟨pB true, ⟨_, _, _, rfl, pB_eq (by simpa using hn)⟩, ?_⟩
  refine fun b hb => ?_
  rcases cmp hb with ⟨rfl, h⟩ | ⟨rfl, h⟩
  · cases h
  have e : sizeErr n = 0 := by unfold sizeErr; rw [if_pos hn]
  rw [e, if_neg (by decide)] at hK
  refine ⟨_, ⟨n, rfl, by omega, rfl⟩, ?_⟩
  refine fun b hb => ?_
  rcases cmp hb with ⟨rfl, h2⟩ | ⟨rfl, h2⟩
  · rw [if_pos h2] at hK
    exact ⟨.pv (pI _), rfl, trivial, hK⟩
  rw [if_neg h2] at hK
  have hl : (s.length : Int) = ceil8 n := Decidable.of_not_not h2
  unfold ceil8 at hl
  have hbl := bm_last (s := s) (n := n.toNat) (by omega)
  refine ⟨by decide, ?_⟩
  refine fun x hx => ?_
  rw [Int.tmod_eq_emod_of_nonneg (by omega)] at hx
  have hx : x = ((n.toNat % 8 : Nat) : Int) := by omega
  subst hx
  refine fun b hb => ?_
  rcases cmp hb with ⟨rfl, h3⟩ | ⟨rfl, h3⟩
  · rw [if_pos (hbl.2 (.inl (by omega)))] at hK
    refine ⟨_, ⟨true, 3, rfl, rfl⟩, ?_⟩
    exact ⟨.pv (pI _), rfl, trivial, hK⟩
  · obtain ⟨v, hv⟩ : ∃ v, s[s.length - 1]? = some v := by rw [List.getElem?_eq_getElem (by omega)]; exact ⟨_, rfl⟩
    rw [hv] at hbl
    simp only [Option.getD_some] at hbl
    refine fun x hx => ?_
    have hx := n64 hx (by omega)
    rw [hx]
    refine ⟨_, ⟨by omega, by rw [show ((s.length : Int) - 1).toNat = s.length - 1 by omega]; exact hv⟩, ?_⟩
    refine ⟨by omega, ?_⟩
    refine fun y hy => ?_
    have hy : y = ((v.toNat / 2 ^ (n.toNat % 8) : Nat) : Int) := by
      rw [hy]
      have e8 : min ((n.toNat % 8 : Nat) : Int).toNat IntKind.u8.bits = n.toNat % 8 := by
        have : IntKind.u8.bits = 8 := rfl
        omega
      rw [e8, show ((2 : Int) ^ (n.toNat % 8)) = ((2 ^ (n.toNat % 8) : Nat) : Int) by simp, Int.fdiv_eq_ediv_of_nonneg _ (Int.natCast_nonneg _)]; rfl
    subst hy
    refine fun b hb => ?_
    rcases cmp hb with ⟨rfl, h4⟩ | ⟨rfl, h4⟩
    · rw [if_pos (hbl.2 (.inr (by omega)))] at hK
      refine ⟨_, ⟨true, 3, rfl, rfl⟩, ?_⟩
      exact ⟨.pv (pI _), rfl, trivial, hK⟩
    · rw [if_neg (fun h5 => by rcases hbl.1 h5 with h6 | h6; omega; exact h4 (by rw [h6]; rfl))] at hK
      refine ⟨_, ⟨false, 3, rfl, rfl⟩, ?_⟩
      exact ⟨.pv (pI _), rfl, trivial, hK⟩
end Go.Dv.Try
end
section
/-
  Contracts of chapter 4: counts in the reference.
-/
namespace Go.Dv.Try
open Go Go.Dv

def R_refCount (ps : List PV) (x : PV) : Prop := ∃ (s : List UInt8) (n : Nat), ps = [.str s, pI n] ∧ (n ≤ 8 * s.length ∧ s.length ≤ 1000000) ∧ x = pI (cntN s n)
theorem meets_refCount : Meets (ctxOf [(n_ref04_Bit, fnSpec R_Bit04)]) s_ref04_Count c_ref04_Count r_ref04_Count (fnSpec R_refCount) := by
  rintro _ K ⟨_, ⟨s, n, rfl, ⟨h1, h2⟩, rfl⟩, hK⟩
  refine ⟨fun m env σ => ∃ i : Nat, (i + m = n) ∧ σ = [] ∧ env = [(0, .pv (.str s)), (1, .pv (pI n)), (5, .pv (pI (cntN s i))), (6, .pv (pI i))], n, ⟨0, by omega, rfl, rfl⟩, ?_⟩
  rintro m env σ ⟨i, hi, rfl, rfl⟩
  have hc := cntN_le s i
  have hb1 := bitN_le s i
  refine fun b hb => ?_
  rcases cmp hb with ⟨rfl, h⟩ | ⟨rfl, h⟩
  · refine ⟨_, ⟨s, i, rfl, by omega, rfl⟩, ?_⟩
    refine fun x hx => ?_
    have hx := n64 hx (by omega)
    rw [hx]
    refine fun y hy => ?_
    have hy := n64 hy (by omega)
    rw [hy]
    refine ⟨m - 1, by omega, i + 1, by omega, rfl, rfl⟩
  · have : i = n := by omega
    subst this
    exact ⟨.pv (pI _), rfl, trivial, hK⟩
end Go.Dv.Try
end
section
/-
  Contracts of chapter 4: runs copied and compared.
-/
namespace Go.Dv.Try
open Go Go.Dv

def Rn.pv (r : Rn) : PV := .agg [pI r.s, pI r.n]

theorem flat_runs (l : List Rn) : ∀ x ∈ l.map Rn.pv, x.flat := by
  intro x hx
  obtain ⟨t, _, rfl⟩ := List.mem_map.1 hx
  simp [Rn.pv, PV.flat, PV.one, PV.prim]

def S_CopyRuns : Spec := mkS true false fun ps K => ∃ l : List Rn, ps = [.sl 2 (l.map Rn.pv)] ∧ l.length ≤ 1000000 ∧ K (.fresh T_api_Run 2 (l.map Rn.pv))
theorem meets_CopyRuns : Meets (ctxOf []) s_base_CopyRuns c_base_CopyRuns r_base_CopyRuns S_CopyRuns := by
  rintro _ K ⟨l, rfl, hl, hK⟩
  refine ⟨rfl, ?_⟩
  refine ⟨⟨by simp; omega, by simp; omega⟩, ?_⟩
  exact ⟨.fresh _ _ _, ⟨rfl, rfl, rfl, rfl⟩, flat_runs _, hK⟩

theorem run_eq (t u : Rn) : ([pI t.s, pI t.n] ≠ [pI u.s, pI u.n]) ↔ t ≠ u := by
  obtain ⟨a, b⟩ := t
  obtain ⟨d, e⟩ := u
  simp

def R_SameRuns (ps : List PV) (x : PV) : Prop := ∃ a b : List Rn, ps = [.sl 2 (a.map Rn.pv), .sl 2 (b.map Rn.pv)] ∧ x = pB (decide (a = b))
theorem meets_SameRuns : Meets (ctxOf []) s_base_SameRuns c_base_SameRuns r_base_SameRuns (fnSpec R_SameRuns) := by
  rintro _ K ⟨_, ⟨p, q, rfl, rfl⟩, hK⟩
  refine fun hl1 => ?_
  refine fun hl2 => ?_
  rw [List.length_map] at hl1 hl2
  refine fun b hb => ?_
  rw [List.length_map, List.length_map] at hb
  rcases cmp hb with ⟨rfl, h⟩ | ⟨rfl, h⟩
  · refine ⟨.pv (pB _), pB_eq ?_, trivial, hK⟩
    have : p ≠ q := fun e => h (by rw [e])
    simp [this]
  · refine ⟨fun m env σ => ∃ n : Nat, (n + m = p.length ∧ ∀ j, j < n → p[j]? = q[j]?) ∧ σ = [] ∧ env = [(0, .pv (.sl 2 (p.map Rn.pv))), (1, .pv (.sl 2 (q.map Rn.pv))), (5, .pv (pI n))], p.length, ⟨0, ⟨by omega, fun j hj => by omega⟩, rfl, rfl⟩, ?_⟩
    rintro m env σ ⟨n, ⟨hn, h0⟩, rfl, rfl⟩
    refine fun _ => ?_
    refine fun b hb => ?_
    rw [List.length_map] at hb
    rcases cmp hb with ⟨rfl, h2⟩ | ⟨rfl, h2⟩
    · have hlt : n < p.length := by omega
      have hlt2 : n < q.length := by omega
      refine ⟨by kernel_rfl, ?_⟩
      refine ⟨p[n].pv, ⟨by omega, by show (p.map Rn.pv)[n]? = _; simp [hlt]⟩, ?_⟩
      refine ⟨q[n].pv, ⟨by omega, by show (q.map Rn.pv)[n]? = _; simp [hlt2]⟩, ?_⟩
      refine fun b hb => ?_
      rw [run_eq] at hb
      rcases cmp hb with ⟨rfl, h3⟩ | ⟨rfl, h3⟩
      · refine ⟨.pv (pB _), pB_eq ?_, trivial, hK⟩
        have : p ≠ q := fun e => h3 (by subst e; rfl)
        simp [this]
      · refine fun x hx => ?_
        replace hx := n64 hx (by omega)
        subst hx
        refine ⟨m - 1, by omega, n + 1, ⟨by omega, fun j hj => ?_⟩, rfl, rfl⟩
        by_cases hjn : j < n
        · exact h0 j hjn
        · have : j = n := by omega
          subst this
          rw [List.getElem?_eq_getElem hlt, List.getElem?_eq_getElem hlt2]
          exact congrArg some (Decidable.of_not_not h3)
    · refine ⟨.pv (pB _), pB_eq ?_, trivial, hK⟩
      have : p = q := eq_of_gets (by omega) fun j hj => h0 j (by omega)
      simp [this]
end Go.Dv.Try
end
section
/-
  Contracts of chapter 4: the bits of a bitmap, in the reference and in the program.
-/
namespace Go.Dv.Try
open Go Go.Dv

theorem meets_Qwithin : Meets (ctxOf []) s_bitmap_within c_bitmap_within r_bitmap_within (fnB Q_within) := by
  rintro _ K ⟨_, ⟨n, lo, hi, rfl, rfl⟩, hK⟩
  (repeat' ((conv => whnf); (fail_if_success (refine ⟨(?_ : Nat), (?_ : _ < _), ?_⟩)); (fail_if_success (refine ⟨(?_ : RV), ?_⟩)); (fail_if_success (refine ⟨(?_ : List RV), ?_⟩)); first | refine CMP (fun _ => ?_) (fun _ => ?_) | fail)) <;> try (conv => whnf)
  all_goals exact ⟨.pv (.bool _), rfl, trivial, hK _ (by first | (simp; omega) | simp)⟩
theorem meets_QWithin : Meets (ctxOf []) s_base_Within c_base_Within r_base_Within (fnB Q_within) := by
  rintro _ K ⟨_, ⟨n, lo, hi, rfl, rfl⟩, hK⟩
  (repeat' ((conv => whnf); (fail_if_success (refine ⟨(?_ : Nat), (?_ : _ < _), ?_⟩)); (fail_if_success (refine ⟨(?_ : RV), ?_⟩)); (fail_if_success (refine ⟨(?_ : List RV), ?_⟩)); first | refine CMP (fun _ => ?_) (fun _ => ?_) | fail)) <;> try (conv => whnf)
  all_goals exact ⟨.pv (.bool _), rfl, trivial, hK _ (by first | (simp; omega) | simp)⟩

def S_Bits : Spec := mkS true false fun ps K => ∃ (s : List UInt8) (n : Nat), ps = [.str s, pI n] ∧ (n ≤ 8 * s.length ∧ s.length ≤ 1000000) ∧ K (.fresh T_int 1 ((bitsL s n).map pI))
theorem meets_refBits : Meets (ctxOf [(n_ref04_Bit, fnSpec R_Bit04)]) s_ref04_Bits c_ref04_Bits r_ref04_Bits S_Bits := by
  rintro _ K ⟨s, n, rfl, ⟨h1, h2⟩, hK⟩
  refine ⟨fun m env σ => ∃ i : Nat, i + m = n ∧ σ = [.row T_int 1 true ((bitsL s i).map pI)] ∧ env = [(0, .pv (.str s)), (1, .pv (pI n)), (5, .own 0), (6, .pv (pI i))], n, ⟨0, by omega, rfl, rfl⟩, ?_⟩
  rintro m env σ ⟨i, hi, rfl, rfl⟩
  (repeat' ((conv => whnf); (fail_if_success (refine ⟨(?_ : Nat), (?_ : _ < _), ?_⟩)); (fail_if_success (refine ⟨(?_ : RV), ?_⟩)); (fail_if_success (refine ⟨(?_ : List RV), ?_⟩)); first | refine N64 (by omega) ?_ | refine CMP (fun _ => ?_) (fun _ => ?_) | refine And.intro rfl ?_ | refine ⟨_, ⟨_, _, rfl, (by repeat' (first | omega | assumption | exact trivial | refine And.intro ?_ ?_)), rfl⟩, ?_⟩ | refine And.intro (by (simp; omega)) ?_ | fail)) <;> try (conv => whnf)
  · refine ⟨m - 1, by omega, i + 1, by omega, ?_, rfl⟩
    rw [bitsL_succ, List.map_append]; rfl
  · have : i = n := by omega
    subst this
    exact ⟨.fresh _ _ _, ⟨rfl, rfl, rfl, rfl⟩, flat_pI _, hK⟩

def R_at (ps : List PV) (x : PV) : Prop := ∃ (B : List UInt8) (n i : Int), ps = [.agg [.sl 1 (B.map byteP), pI n], pI i] ∧ (0 ≤ i ∧ i < 8 * B.length ∧ B.length ≤ 1000000) ∧ x = pI (bitN B i.toNat)
theorem meets_at : Meets (ctxOf []) s_bitmap_bitmap_at c_bitmap_bitmap_at r_bitmap_bitmap_at (fnSpec R_at) := by
  rintro _ K ⟨_, ⟨B, n, i, rfl, ⟨h1, h2, h3⟩, rfl⟩, hK⟩
  (repeat' ((conv => whnf); (fail_if_success (refine ⟨(?_ : Nat), (?_ : _ < _), ?_⟩)); (fail_if_success (refine ⟨(?_ : RV), ?_⟩)); (fail_if_success (refine ⟨(?_ : List RV), ?_⟩)); first | refine N64 (by omega) ?_ | refine QUO (by omega) ?_ | refine REM (by omega) ?_ | refine SHR (by decide) (by omega) (fun _ => ?_) | refine IDXb (by omega) (fun _ _ _ => ?_) | refine AND1 (by omega) ?_ | fail)) <;> try (conv => whnf)
  rename_i x hx hx2 hq
  have e : bitN B i.toNat = x.toNat / 2 ^ (i % 8).toNat % 2 := by
    unfold bitN
    rw [show i.toNat / 8 = (i / 8).toNat by omega, show i.toNat % 8 = (i % 8).toNat by omega, hx]
    rfl
  rw [e] at hK
  exact ⟨.pv (pI _), rfl, trivial, hK⟩

def S_open : Spec := mkS false false fun ps K => ∃ (s : List UInt8) (n : Int), ps = [.str s, pI n] ∧ s.length ≤ 1000000 ∧ K (.tup [.agg [.row T_uint8 1 (s.map byteP), .pv (pI n)], .pv (pI (bmErr s n))])
theorem meets_open : Meets (ctxOf [(n_bitmap_CheckBitmap, fnSpec R_Err04)]) s_bitmap_open c_bitmap_open r_bitmap_open S_open := by
  rintro _ K ⟨s, n, rfl, h, hK⟩
  (repeat' ((conv => whnf); (fail_if_success (refine ⟨(?_ : Nat), (?_ : _ < _), ?_⟩)); (fail_if_success (refine ⟨(?_ : RV), ?_⟩)); (fail_if_success (refine ⟨(?_ : List RV), ?_⟩)); first | refine And.intro rfl ?_ | refine ⟨_, ⟨_, _, rfl, (by repeat' (first | omega | assumption | exact trivial | refine And.intro ?_ ?_)), rfl⟩, ?_⟩ | refine And.intro (by omega) ?_ | fail)) <;> try (conv => whnf)
  exact ⟨[.agg [.row _ _ _, .pv _], .pv (pI _)], ⟨⟨⟨rfl, rfl, rfl⟩, rfl, trivial⟩, rfl, trivial⟩, trivial, hK⟩

def Q_short (ps : List PV) (p : Prop) : Prop := ∃ s : List UInt8, ps = [.str s] ∧ p = (s.length ≤ 600)
theorem meets_short : Meets (ctxOf []) s_law04_short c_law04_short r_law04_short (fnB Q_short) := by
  rintro _ K ⟨_, ⟨s, rfl, rfl⟩, hK⟩
  (repeat' ((conv => whnf); (fail_if_success (refine ⟨(?_ : Nat), (?_ : _ < _), ?_⟩)); (fail_if_success (refine ⟨(?_ : RV), ?_⟩)); (fail_if_success (refine ⟨(?_ : List RV), ?_⟩)); first | refine CMP (fun _ => ?_) (fun _ => ?_) | fail)) <;> try (conv => whnf)
  all_goals exact ⟨.pv (.bool _), rfl, trivial, hK _ (by first | (simp; omega) | simp)⟩

def R_OnesCount8 (ps : List PV) (x : PV) : Prop := ∃ b : UInt8, ps = [byteP b] ∧ x = pI ((cntN [b] 8 : Nat) : Int)
def onesT : List UInt8 := [0,1,1,2,1,2,2,3,1,2,2,3,2,3,3,4,1,2,2,3,2,3,3,4,2,3,3,4,3,4,4,5,1,2,2,3,2,3,3,4,2,3,3,4,3,4,4,5,2,3,3,4,3,4,4,5,3,4,4,5,4,5,5,6,1,2,2,3,2,3,3,4,2,3,3,4,3,4,4,5,2,3,3,4,3,4,4,5,3,4,4,5,4,5,5,6,2,3,3,4,3,4,4,5,3,4,4,5,4,5,5,6,3,4,4,5,4,5,5,6,4,5,5,6,5,6,6,7,1,2,2,3,2,3,3,4,2,3,3,4,3,4,4,5,2,3,3,4,3,4,4,5,3,4,4,5,4,5,5,6,2,3,3,4,3,4,4,5,3,4,4,5,4,5,5,6,3,4,4,5,4,5,5,6,4,5,5,6,5,6,6,7,2,3,3,4,3,4,4,5,3,4,4,5,4,5,5,6,3,4,4,5,4,5,5,6,4,5,5,6,5,6,6,7,3,4,4,5,4,5,5,6,4,5,5,6,5,6,6,7,4,5,5,6,5,6,6,7,5,6,6,7,6,7,7,8]
theorem ones_tab : ∀ n : Fin 256, onesT[n.val]? = some (UInt8.ofNat (cntN [UInt8.ofNat n.val] 8)) ∧ (UInt8.ofNat (cntN [UInt8.ofNat n.val] 8)).toNat = cntN [UInt8.ofNat n.val] 8 := by decide +kernel
theorem meets_OnesCount8 : Meets (ctxOf []) s_math_bits_OnesCount8 c_math_bits_OnesCount8 r_math_bits_OnesCount8 (fnSpec R_OnesCount8) := by
  rintro _ K ⟨_, ⟨b, rfl, rfl⟩, hK⟩
  have ht := ones_tab ⟨b.toNat, b.toNat_lt⟩
  have hc := cntN_le [b] 8
  simp only [UInt8.ofNat_toNat] at ht
  refine ⟨UInt8.ofNat (cntN [b] 8), ⟨by omega, ht.1⟩, ?_⟩
  rw [← ht.2] at hK hc
  refine N64 (by omega) ?_
  exact ⟨.pv (pI _), rfl, trivial, hK⟩
end Go.Dv.Try
end
section
/-
  Contracts of chapter 4: runs of bits.
-/
namespace Go.Dv.Try
open Go Go.Dv

def bmP (B : List UInt8) (n : Int) : PV := .agg [.sl 1 (B.map byteP), pI n]

def Q_extents_f1 (ps : List PV) (p : Prop) : Prop := ∃ (B : List UInt8) (n i v : Int), ps = [pI i, .cptr (bmP B n), .cptr (pI v)] ∧ (0 ≤ i ∧ i < 8 * B.length ∧ B.length ≤ 1000000) ∧ p = ((bitN B i.toNat : Int) = v)
theorem meets_extents_f1 : Meets (ctxOf [(n_bitmap_bitmap_at, fnSpec R_at)]) s_bitmap_bitmap_extents_f1 c_bitmap_bitmap_extents_f1 r_bitmap_bitmap_extents_f1 (fnB Q_extents_f1) := by
  rintro _ K ⟨_, ⟨B, n, i, v, rfl, ⟨h1, h2, h3⟩, rfl⟩, hK⟩
  (repeat' ((conv => whnf); (fail_if_success (refine ⟨(?_ : Nat), (?_ : _ < _), ?_⟩)); (fail_if_success (refine ⟨(?_ : RV), ?_⟩)); (fail_if_success (refine ⟨(?_ : List RV), ?_⟩)); first | refine CMP (fun _ => ?_) (fun _ => ?_) | refine And.intro rfl ?_ | refine ⟨_, ⟨_, _, _, rfl, (by repeat' (first | omega | assumption | exact trivial | refine And.intro ?_ ?_)), rfl⟩, ?_⟩ | fail)) <;> try (conv => whnf)
  all_goals exact ⟨.pv (.bool _), rfl, trivial, hK _ (by first | (simp; omega) | simp)⟩
def Q_difference_f1 (ps : List PV) (p : Prop) : Prop := ∃ (A B : List UInt8) (n m i : Int), ps = [pI i, .cptr (bmP A n), .cptr (bmP B m)] ∧ (0 ≤ i ∧ i < 8 * A.length ∧ A.length ≤ 1000000 ∧ i < 8 * B.length ∧ B.length ≤ 1000000) ∧ p = (bitN A i.toNat ≠ bitN B i.toNat)
theorem meets_difference_f1 : Meets (ctxOf [(n_bitmap_bitmap_at, fnSpec R_at)]) s_bitmap_DifferenceOf_f1 c_bitmap_DifferenceOf_f1 r_bitmap_DifferenceOf_f1 (fnB Q_difference_f1) := by
  rintro _ K ⟨_, ⟨A, B, n, m, i, rfl, ⟨h1, h2, h3, h4, h5⟩, rfl⟩, hK⟩
  (repeat' ((conv => whnf); (fail_if_success (refine ⟨(?_ : Nat), (?_ : _ < _), ?_⟩)); (fail_if_success (refine ⟨(?_ : RV), ?_⟩)); (fail_if_success (refine ⟨(?_ : List RV), ?_⟩)); first | refine CMP (fun _ => ?_) (fun _ => ?_) | refine And.intro rfl ?_ | refine ⟨_, ⟨_, _, _, rfl, (by repeat' (first | omega | assumption | exact trivial | refine And.intro ?_ ?_)), rfl⟩, ?_⟩ | fail)) <;> try (conv => whnf)
  all_goals exact ⟨.pv (.bool _), rfl, trivial, hK _ (by first | (simp; omega) | simp)⟩

def extP (B : List UInt8) (v : Int) (i : Nat) : Bool := decide ((bitN B i : Int) = v)
def diffP (A B : List UInt8) (i : Nat) : Bool := decide (bitN A i ≠ bitN B i)
def runsPv (p : Nat → Bool) (n : Nat) : List PV := (runsP p n).map Rn.pv

theorem runs_bump {p : Nat → Bool} {n : Nat} {x y : Rn} (hp : p n = true) (h : (runsP p n)[(((runsP p n).length : Nat) : Int).toNat - 1]? = some x) (he : x.s + x.n = n) (hy : x = y) : ((runsP p n).map Rn.pv).set ((((runsP p n).length : Nat) : Int) - 1).toNat (.agg [pI y.s, pI (y.n + 1)]) = runsPv p (n + 1) := by
  subst hy
  rw [Int.toNat_natCast] at h
  have e : runsP p (n + 1) = (runsP p n).set ((runsP p n).length - 1) ⟨x.s, x.n + 1⟩ := by
    show (if p n then addRun (runsP p n) n else runsP p n) = _
    rw [if_pos hp, addRun_set h he]
  unfold runsPv
  rw [e, show ((((runsP p n).length : Nat) : Int) - 1).toNat = (runsP p n).length - 1 by omega, List.map_set]
  rfl
theorem runs_new {p : Nat → Bool} {n : Nat} (hp : p n = true) (h : ∀ x, (runsP p n)[(runsP p n).length - 1]? = some x → x.s + x.n ≠ n) : (runsP p n).map Rn.pv ++ [.agg [pI n, pI 1]] = runsPv p (n + 1) := by
  have e : runsP p (n + 1) = runsP p n ++ [⟨n, 1⟩] := by
    show (if p n then addRun (runsP p n) n else runsP p n) = _
    rw [if_pos hp, addRun_app h]
  unfold runsPv
  rw [e, List.map_append]
  rfl
theorem runs_no {p : Nat → Bool} {n : Nat} (hp : p n = false) : runsP p (n + 1) = runsP p n := by
  show (if p n then addRun (runsP p n) n else runsP p n) = _
  rw [hp]; rfl
theorem flat_runsPv (p : Nat → Bool) (n : Nat) : ∀ x ∈ runsPv p n, x.flat := flat_runs _

def S_runs : Spec := mkS true false fun ps K =>
  (∃ (B : List UInt8) (n : Nat) (v : Int), ps = [bmP B n, .clo n_bitmap_bitmap_extents_f1 [.cptr (bmP B n), .cptr (pI v)]] ∧ (n ≤ 8 * B.length ∧ B.length ≤ 1000000) ∧ K (.fresh T_api_Run 2 (runsPv (extP B v) n))) ∨
  (∃ (A B : List UInt8) (n : Nat), ps = [bmP A n, .clo n_bitmap_DifferenceOf_f1 [.cptr (bmP A n), .cptr (bmP B n)]] ∧ (n ≤ 8 * A.length ∧ A.length ≤ 1000000 ∧ n ≤ 8 * B.length ∧ B.length ≤ 1000000) ∧ K (.fresh T_api_Run 2 (runsPv (diffP A B) n)))
theorem meets_runs : Meets (ctxOf [(n_bitmap_bitmap_extents_f1, fnB Q_extents_f1), (n_bitmap_DifferenceOf_f1, fnB Q_difference_f1)]) s_bitmap_bitmap_runs c_bitmap_bitmap_runs r_bitmap_bitmap_runs S_runs := by
  rintro _ K (⟨B, n, v, rfl, ⟨h1, h2⟩, hK⟩ | ⟨A, B, n, rfl, ⟨h1, h2, h3, h4⟩, hK⟩)
  · refine ⟨fun m env σ => ∃ i : Nat, i + m = n ∧ σ = [.row T_api_Run 2 true (runsPv (extP B v) i)] ∧ env = [(1, .pv (.clo n_bitmap_bitmap_extents_f1 [.cptr (bmP B n), .cptr (pI v)])), (5, .own 0), (9, .pv (pI n)), (10, .pv (pI i))], n, ⟨0, by omega, rfl, rfl⟩, ?_⟩
    rintro m env σ ⟨i, hi, rfl, rfl⟩
    obtain ⟨hr, hl, _⟩ := runsP_ok (extP B v) i
    unfold runsPv
    (repeat' ((conv => whnf); (fail_if_success (refine ⟨(?_ : Nat), (?_ : _ < _), ?_⟩)); (fail_if_success (refine ⟨(?_ : RV), ?_⟩)); (fail_if_success (refine ⟨(?_ : List RV), ?_⟩)); first | refine N64 (by omega) ?_ | refine NOT_t ?_ | refine NOT_f ?_ | refine CMP (fun _ => ?_) (fun _ => ?_) | (show _ ≤ (9223372036854775807 : Nat) → _; first | rw [List.length_map, tab_len] | rw [List.length_map] | rw [List.length_replicate] | skip; intro _) | refine OWN (by omega) ?_ | refine GETp (by assumption) (by omega) (fun _ _ _ => ?_) | refine And.intro rfl ?_ | refine ⟨_, ⟨_, _, _, _, rfl, (by repeat' (first | omega | assumption | exact trivial | refine And.intro ?_ ?_)), rfl⟩, ?_⟩ | refine And.intro (by (simp; omega)) ?_ | fail)) <;> try (conv => whnf)
    · rename_i hb hn x hx _ y hy _ he z hz _ u hu _
      have e1 : x = y := Option.some.inj (hx.symm.trans hy)
      have e2 : x = z := Option.some.inj (hx.symm.trans hz)
      have e3 : x = u := Option.some.inj (hx.symm.trans hu)
      subst e1 e2 e3
      have hp : extP B v i = true := by simpa [extP] using hb
      exact ⟨m - 1, by omega, i + 1, by omega, congrArg (fun l => [Blk.row _ _ _ l]) (runs_bump hp (by rw [← hx]; congr 1; omega) he rfl), rfl⟩
    · rename_i hb hn x hx _ y hy _ he
      have e1 : x = y := Option.some.inj (hx.symm.trans hy)
      subst e1
      have hp : extP B v i = true := by simpa [extP] using hb
      refine ⟨m - 1, by omega, i + 1, by omega, congrArg (fun l => [Blk.row _ _ _ l]) (runs_new hp fun u hu => ?_), rfl⟩
      rw [show (runsP (extP B v) i).length - 1 = (((runsP (extP B v) i).length : Int) - 1).toNat by omega, hx] at hu
      rw [← Option.some.inj hu]; exact he
    · rename_i hb hn
      have hp : extP B v i = true := by simpa [extP] using hb
      refine ⟨m - 1, by omega, i + 1, by omega, congrArg (fun l => [Blk.row _ _ _ l]) (runs_new hp fun u hu => ?_), rfl⟩
      rw [List.getElem?_eq_none (by omega)] at hu
      cases hu
    · rename_i hb
      have hp : extP B v i = false := by simpa [extP] using hb
      refine ⟨m - 1, by omega, i + 1, by omega, ?_, rfl⟩
      rw [runs_no hp]
    · have : i = n := by omega
      subst this
      exact ⟨.fresh _ _ _, ⟨rfl, rfl, rfl, rfl⟩, flat_runs _, hK⟩
  · refine ⟨fun m env σ => ∃ i : Nat, i + m = n ∧ σ = [.row T_api_Run 2 true (runsPv (diffP A B) i)] ∧ env = [(1, .pv (.clo n_bitmap_DifferenceOf_f1 [.cptr (bmP A n), .cptr (bmP B n)])), (5, .own 0), (9, .pv (pI n)), (10, .pv (pI i))], n, ⟨0, by omega, rfl, rfl⟩, ?_⟩
    rintro m env σ ⟨i, hi, rfl, rfl⟩
    obtain ⟨hr, hl, _⟩ := runsP_ok (diffP A B) i
    unfold runsPv
    (repeat' ((conv => whnf); (fail_if_success (refine ⟨(?_ : Nat), (?_ : _ < _), ?_⟩)); (fail_if_success (refine ⟨(?_ : RV), ?_⟩)); (fail_if_success (refine ⟨(?_ : List RV), ?_⟩)); first | refine N64 (by omega) ?_ | refine NOT_t ?_ | refine NOT_f ?_ | refine CMP (fun _ => ?_) (fun _ => ?_) | (show _ ≤ (9223372036854775807 : Nat) → _; first | rw [List.length_map, tab_len] | rw [List.length_map] | rw [List.length_replicate] | skip; intro _) | refine OWN (by omega) ?_ | refine GETp (by assumption) (by omega) (fun _ _ _ => ?_) | refine And.intro rfl ?_ | refine ⟨_, ⟨_, _, _, _, _, rfl, (by repeat' (first | omega | assumption | exact trivial | refine And.intro ?_ ?_)), rfl⟩, ?_⟩ | refine And.intro (by (simp; omega)) ?_ | fail)) <;> try (conv => whnf)
    · rename_i hb hn x hx _ y hy _ he z hz _ u hu _
      have e1 : x = y := Option.some.inj (hx.symm.trans hy)
      have e2 : x = z := Option.some.inj (hx.symm.trans hz)
      have e3 : x = u := Option.some.inj (hx.symm.trans hu)
      subst e1 e2 e3
      have hp : diffP A B i = true := by simpa [diffP] using hb
      exact ⟨m - 1, by omega, i + 1, by omega, congrArg (fun l => [Blk.row _ _ _ l]) (runs_bump hp (by rw [← hx]; congr 1; omega) he rfl), rfl⟩
    · rename_i hb hn x hx _ y hy _ he
      have e1 : x = y := Option.some.inj (hx.symm.trans hy)
      subst e1
      have hp : diffP A B i = true := by simpa [diffP] using hb
      refine ⟨m - 1, by omega, i + 1, by omega, congrArg (fun l => [Blk.row _ _ _ l]) (runs_new hp fun u hu => ?_), rfl⟩
      rw [show (runsP (diffP A B) i).length - 1 = (((runsP (diffP A B) i).length : Int) - 1).toNat by omega, hx] at hu
      rw [← Option.some.inj hu]; exact he
    · rename_i hb hn
      have hp : diffP A B i = true := by simpa [diffP] using hb
      refine ⟨m - 1, by omega, i + 1, by omega, congrArg (fun l => [Blk.row _ _ _ l]) (runs_new hp fun u hu => ?_), rfl⟩
      rw [List.getElem?_eq_none (by omega)] at hu
      cases hu
    · rename_i hb
      have hp : diffP A B i = false := by simpa [diffP] using hb
      refine ⟨m - 1, by omega, i + 1, by omega, ?_, rfl⟩
      rw [runs_no hp]
    · have : i = n := by omega
      subst this
      exact ⟨.fresh _ _ _, ⟨rfl, rfl, rfl, rfl⟩, flat_runs _, hK⟩

def S_extents : Spec := mkS true false fun ps K => ∃ (B : List UInt8) (n v : Int), ps = [bmP B n, pI v] ∧ (0 ≤ n ∧ n ≤ 8 * B.length ∧ B.length ≤ 1000000) ∧ K (.fresh T_api_Run 2 (runsPv (extP B v) n.toNat))
theorem meets_extents : Meets (ctxOf [(n_bitmap_bitmap_runs, S_runs), (n_bitmap_bitmap_extents_f1, fnB Q_extents_f1)]) s_bitmap_bitmap_extents c_bitmap_bitmap_extents r_bitmap_bitmap_extents S_extents := by
  rintro _ K ⟨B, n, v, rfl, ⟨h0, h1, h2⟩, hK⟩
  obtain ⟨n, rfl⟩ : ∃ k : Nat, n = k := ⟨n.toNat, by omega⟩
  (conv => whnf)
  refine .inl ⟨B, n, v, rfl, by omega, ?_⟩
  (conv => whnf)
  exact ⟨.fresh _ _ _, ⟨rfl, rfl, rfl, rfl⟩, flat_runs _, hK⟩

def S_RunsOf : Spec := mkS true false fun ps K => ∃ (l : List Int) (v : Int) (p : Nat → Bool), ps = [.sl 1 (l.map pI), pI v] ∧ (l.length ≤ 8000000 ∧ ∀ i x, l[i]? = some x → (p i = true ↔ x = v)) ∧ K (.fresh T_api_Run 2 (runsPv p l.length))
theorem meets_RunsOf : Meets (ctxOf []) s_ref04_RunsOf c_ref04_RunsOf r_ref04_RunsOf S_RunsOf := by
  rintro _ K ⟨l, v, p, rfl, ⟨hl, hp⟩, hK⟩
  refine ⟨fun m env σ => ∃ i : Nat, i + m = l.length ∧ σ = [.row T_api_Run 2 true (runsPv p i)] ∧ env = [(0, .pv (.sl 1 (l.map pI))), (1, .pv (pI v)), (5, .own 0), (6, .pv (pI i))], l.length, ⟨0, by omega, rfl, rfl⟩, ?_⟩
  rintro m env σ ⟨i, hi, rfl, rfl⟩
  obtain ⟨hr, hl2, h3⟩ := runsP_ok p i
  clear h3
  unfold runsPv
  (repeat' ((conv => whnf); (fail_if_success (refine ⟨(?_ : Nat), (?_ : _ < _), ?_⟩)); (fail_if_success (refine ⟨(?_ : RV), ?_⟩)); (fail_if_success (refine ⟨(?_ : List RV), ?_⟩)); first | refine N64 (by omega) ?_ | refine CMP (fun _ => ?_) (fun _ => ?_) | (show _ ≤ (9223372036854775807 : Nat) → _; first | rw [List.length_map, tab_len] | rw [List.length_map] | rw [List.length_replicate] | skip; intro _) | refine IDXn (by omega) (fun _ _ => ?_) | refine IDX (by omega) (fun _ _ => ?_) | refine And.intro rfl ?_ | refine And.intro (by (simp; omega)) ?_ | fail)) <;> try (conv => whnf)
  · rename_i x hx hb
    have hp : p i = false := by have := hp i x hx; cases h : p i <;> simp_all
    exact ⟨m - 1, by omega, i + 1, by omega, by rw [← runs_no hp], rfl⟩
  · rename_i x hx hb hi0 y hy hv hln
    have h0 : 0 < (runsP p i).length := runsP_nil (by omega) ((hp (i - 1) y (by rw [← hy]; congr 1; omega)).2 hv)
    (repeat' ((conv => whnf); (fail_if_success (refine ⟨(?_ : Nat), (?_ : _ < _), ?_⟩)); (fail_if_success (refine ⟨(?_ : RV), ?_⟩)); (fail_if_success (refine ⟨(?_ : List RV), ?_⟩)); first | refine N64 (by omega) ?_ | refine OWN (by omega) ?_ | refine GETp (by assumption) (by omega) (fun _ _ _ => ?_) | refine And.intro rfl ?_ | fail)) <;> try (conv => whnf)
    rename_i z hz hz2 u hu hu2
    have e1 : z = u := Option.some.inj (hz.symm.trans hu)
    subst e1
    have hz' : (runsP p i)[(runsP p i).length - 1]? = some z := by rw [← hz]; congr 1; omega
    have hp1 : p i = true := (hp i x hx).2 (by simpa using hb)
    refine ⟨m - 1, by omega, i + 1, by omega, congrArg (fun l => [Blk.row _ _ _ l]) (runs_bump hp1 hz' ((runsP_last hz').2 ⟨by omega, (hp (i - 1) y (by rw [← hy]; congr 1; omega)).2 hv⟩) rfl), rfl⟩
  · rename_i x hx hb hi0 y hy hv
    have hp1 : p i = true := (hp i x hx).2 (by simpa using hb)
    refine ⟨m - 1, by omega, i + 1, by omega, congrArg (fun l => [Blk.row _ _ _ l]) (runs_new hp1 fun u hu he => ?_), rfl⟩
    exact hv ((hp (i - 1) y (by rw [← hy]; congr 1; omega)).1 ((runsP_last hu).1 he).2)
  · rename_i x hx hb hi0
    have hp1 : p i = true := (hp i x hx).2 (by simpa using hb)
    refine ⟨m - 1, by omega, i + 1, by omega, congrArg (fun l => [Blk.row _ _ _ l]) (runs_new hp1 fun u hu he => ?_), rfl⟩
    have := ((runsP_last hu).1 he).1
    omega
  · have : i = l.length := by omega
    subst this
    exact ⟨.fresh _ _ _, ⟨rfl, rfl, rfl, rfl⟩, flat_runs _, hK⟩
end Go.Dv.Try
end
section
/-
  Contracts of chapter 4: extents and differences.
-/
namespace Go.Dv.Try
open Go Go.Dv

/-- The first of two errors. -/
def S_first2 : Spec := mkS true true fun ps K => ∃ a b : Int, ps = [.sl 1 [pI a, pI b]] ∧ (a ≠ 0 → K (.pv (pI a))) ∧ (a = 0 → K (.pv (pI b)))
theorem first2_ok : FnOk S_first2 := by
  refine ⟨fun _ => ⟨rfl, fun ps K h => ?_⟩, fun _ _ h => h, rfl⟩
  obtain ⟨a, b, rfl, h1, h2⟩ := h
  by_cases ha : a = 0
  · exact ⟨pI b, h2 ha, fun K' h => ⟨a, b, rfl, fun h' => absurd ha h', fun _ => h⟩⟩
  · exact ⟨pI a, h1 ha, fun K' h => ⟨a, b, rfl, fun _ => h, fun h' => absurd h' ha⟩⟩
theorem meets_first2 : Meets (ctxOf []) s_bitmap_first c_bitmap_first r_bitmap_first S_first2 := by
  rintro _ K ⟨a, b, rfl, h1, h2⟩
  refine meets_bitmap_first _ K ⟨_, ⟨[a, b], rfl, rfl⟩, ?_⟩
  by_cases ha : a = 0
  · subst ha; by_cases hb : b = 0 <;> simpa [firstZ, hb] using h2 rfl
  · simpa [firstZ, ha] using h1 ha
def Q_SameRuns (ps : List PV) (p : Prop) : Prop := ∃ a b : List Rn, ps = [.sl 2 (a.map Rn.pv), .sl 2 (b.map Rn.pv)] ∧ p = (a = b)
theorem meets_QSameRuns : Meets (ctxOf []) s_base_SameRuns c_base_SameRuns r_base_SameRuns (fnB Q_SameRuns) := by
  rintro _ K ⟨_, ⟨a, b, rfl, rfl⟩, hK⟩
  exact meets_SameRuns _ K ⟨_, ⟨a, b, rfl, rfl⟩, hK _ (by simp)⟩

/-- The error of a question about a bitmap, where something besides must hold. -/
def andE (e : Int) (p : Prop) [Decidable p] : Int := if e ≠ 0 then e else if p then 0 else 2
def extR (s : List UInt8) (n v : Int) : List Rn := if andE (bmErr s n) (0 ≤ v ∧ v ≤ 1) = 0 then runsP (extP s v) n.toNat else []
def S_ExtentsOf : Spec := mkS true false fun ps K => ∃ (s : List UInt8) (n v : Int), ps = [.str s, pI n, pI v] ∧ s.length ≤ 1000000 ∧
  K (.tup [.fresh T_api_Run 2 ((extR s n v).map Rn.pv), .pv (pI (andE (bmErr s n) (0 ≤ v ∧ v ≤ 1)))])

theorem bmErr_ok {s : List UInt8} {n : Int} (h : bmErr s n = 0) : 0 ≤ n ∧ n ≤ 4096 ∧ n ≤ 8 * s.length ∧ (s.length : Int) = ceil8 n ∧ ∀ i, i < 8 * s.length → n.toNat ≤ i → bitN s i = 0 := by
  unfold bmErr sizeErr at h
  by_cases h1 : 0 ≤ n ∧ n ≤ 4096
  case neg => simp [h1] at h
  rw [if_pos h1] at h
  simp only [ne_eq, not_true_eq_false, if_false] at h
  by_cases h2 : (s.length : Int) ≠ ceil8 n
  · rw [if_pos h2] at h; cases h
  rw [if_neg h2] at h
  have h3 : (s.length : Int) = ceil8 n := Decidable.of_not_not h2
  refine ⟨h1.1, h1.2, by unfold ceil8 at h3; omega, h3, ?_⟩
  split at h
  · assumption
  · cases h

theorem meets_ExtentsOf : Meets (ctxOf [(n_bitmap_open, S_open), (n_bitmap_first, S_first2), (n_bitmap_unless, fnSpec R_bitmap_unless), (n_bitmap_within, fnB Q_within), (n_bitmap_bitmap_extents, S_extents)]) s_bitmap_ExtentsOf c_bitmap_ExtentsOf r_bitmap_ExtentsOf S_ExtentsOf := by
  rintro _ K ⟨s, n, v, rfl, h, hK⟩
  unfold extR at hK
  have hok := @bmErr_ok s n
  by_cases he : bmErr s n = 0
  · obtain ⟨h1, h2, h3, h4, h5⟩ := hok he
    (repeat' ((conv => whnf); (fail_if_success (refine ⟨(?_ : Nat), (?_ : _ < _), ?_⟩)); (fail_if_success (refine ⟨(?_ : RV), ?_⟩)); (fail_if_success (refine ⟨(?_ : List RV), ?_⟩)); first | refine CMP_t (by decide) ?_ | refine CMP_f (by decide) ?_ | refine CMP (fun _ => ?_) (fun _ => ?_) | refine And.intro rfl ?_ | refine ⟨_, ⟨_, _, rfl, rfl⟩, ?_⟩ | refine ⟨_, ⟨_, _, _, rfl, rfl⟩, ?_⟩ | refine ⟨_, _, rfl, fun h => absurd h (by omega), fun _ => ?_⟩ | refine ⟨_, _, rfl, (by repeat' (first | omega | assumption | exact trivial | refine And.intro ?_ ?_)), ?_⟩ | refine ⟨_, _, _, rfl, (by repeat' (first | omega | assumption | exact trivial | refine And.intro ?_ ?_)), ?_⟩ | fail)) <;> try (conv => whnf)
    all_goals simp [andE, *] at hK
    all_goals (refine ⟨_, ?_, ?_, hK⟩ <;> repeat' (first | exact rfl | exact trivial | exact flat_runs _ | exact flat_pI _ | exact (fun _ h => by cases h) | refine ⟨?_, ?_⟩))
  · (repeat' ((conv => whnf); (fail_if_success (refine ⟨(?_ : Nat), (?_ : _ < _), ?_⟩)); (fail_if_success (refine ⟨(?_ : RV), ?_⟩)); (fail_if_success (refine ⟨(?_ : List RV), ?_⟩)); first | refine CMP_t (by omega) ?_ | refine CMP (fun _ => ?_) (fun _ => ?_) | refine And.intro rfl ?_ | refine ⟨_, ⟨_, _, rfl, rfl⟩, ?_⟩ | refine ⟨_, ⟨_, _, _, rfl, rfl⟩, ?_⟩ | refine ⟨_, _, rfl, fun _ => ?_, fun h => absurd h (by omega)⟩ | refine ⟨_, _, rfl, (by repeat' (first | omega | assumption | exact trivial | refine And.intro ?_ ?_)), ?_⟩ | fail)) <;> try (conv => whnf)
    all_goals simp [andE, *] at hK
    all_goals (refine ⟨_, ?_, ?_, hK⟩ <;> repeat' (first | exact rfl | exact trivial | exact flat_runs _ | exact flat_pI _ | exact (fun _ h => by cases h) | refine ⟨?_, ?_⟩))

/-- The error of two bitmaps. -/
def bm2Err (a b : List UInt8) (n : Int) : Int := if bmErr a n ≠ 0 then bmErr a n else bmErr b n
def diffR (a b : List UInt8) (n : Int) : List Rn := if bm2Err a b n = 0 then runsP (diffP a b) n.toNat else []
def S_DifferenceOf : Spec := mkS true false fun ps K => ∃ (a b : List UInt8) (n : Int), ps = [.str a, .str b, pI n] ∧ (a.length ≤ 1000000 ∧ b.length ≤ 1000000) ∧
  K (.tup [.fresh T_api_Run 2 ((diffR a b n).map Rn.pv), .pv (pI (bm2Err a b n))])
theorem meets_DifferenceOf : Meets (ctxOf [(n_bitmap_open, S_open), (n_bitmap_first, S_first2), (n_bitmap_bitmap_runs, S_runs), (n_bitmap_DifferenceOf_f1, fnB Q_difference_f1)]) s_bitmap_DifferenceOf c_bitmap_DifferenceOf r_bitmap_DifferenceOf S_DifferenceOf := by
  rintro _ K ⟨a, b, n, rfl, ⟨ha, hb⟩, hK⟩
  unfold diffR at hK
  have hoa := @bmErr_ok a n
  have hob := @bmErr_ok b n
  by_cases he : bmErr a n = 0
  · obtain ⟨h1, h2, h3, h4, h5⟩ := hoa he
    by_cases hf : bmErr b n = 0
    · obtain ⟨g1, g2, g3, g4, g5⟩ := hob hf
      obtain ⟨n, rfl⟩ : ∃ k : Nat, n = k := ⟨n.toNat, by omega⟩
      (repeat' ((conv => whnf); (fail_if_success (refine ⟨(?_ : Nat), (?_ : _ < _), ?_⟩)); (fail_if_success (refine ⟨(?_ : RV), ?_⟩)); (fail_if_success (refine ⟨(?_ : List RV), ?_⟩)); first | refine CMP_f (by omega) ?_ | refine And.intro rfl ?_ | refine ⟨_, _, rfl, fun h => absurd h (by omega), fun _ => ?_⟩ | refine ⟨_, _, rfl, (by repeat' (first | omega | assumption | exact trivial | refine And.intro ?_ ?_)), ?_⟩ | fail)) <;> try (conv => whnf)
      refine .inr ⟨a, b, n, rfl, by omega, ?_⟩
      (conv => whnf)
      simp [bm2Err, he, hf] at hK
      (refine ⟨_, ?_, ?_, hK⟩ <;> repeat' (first | exact rfl | exact trivial | exact flat_runs _ | exact flat_pI _ | exact (fun _ h => by cases h) | refine ⟨?_, ?_⟩))
    · (repeat' ((conv => whnf); (fail_if_success (refine ⟨(?_ : Nat), (?_ : _ < _), ?_⟩)); (fail_if_success (refine ⟨(?_ : RV), ?_⟩)); (fail_if_success (refine ⟨(?_ : List RV), ?_⟩)); first | refine CMP_t (by omega) ?_ | refine And.intro rfl ?_ | refine ⟨_, _, rfl, fun h => absurd h (by omega), fun _ => ?_⟩ | refine ⟨_, _, rfl, (by repeat' (first | omega | assumption | exact trivial | refine And.intro ?_ ?_)), ?_⟩ | fail)) <;> try (conv => whnf)
      simp [bm2Err, he, hf] at hK
      (refine ⟨_, ?_, ?_, hK⟩ <;> repeat' (first | exact rfl | exact trivial | exact flat_runs _ | exact flat_pI _ | exact (fun _ h => by cases h) | refine ⟨?_, ?_⟩))
  · (repeat' ((conv => whnf); (fail_if_success (refine ⟨(?_ : Nat), (?_ : _ < _), ?_⟩)); (fail_if_success (refine ⟨(?_ : RV), ?_⟩)); (fail_if_success (refine ⟨(?_ : List RV), ?_⟩)); first | refine CMP_t (by omega) ?_ | refine And.intro rfl ?_ | refine ⟨_, _, rfl, fun _ => ?_, fun h => absurd h (by omega)⟩ | refine ⟨_, _, rfl, (by repeat' (first | omega | assumption | exact trivial | refine And.intro ?_ ?_)), ?_⟩ | fail)) <;> try (conv => whnf)
    simp [bm2Err, he] at hK
    (refine ⟨_, ?_, ?_, hK⟩ <;> repeat' (first | exact rfl | exact trivial | exact flat_runs _ | exact flat_pI _ | exact (fun _ h => by cases h) | refine ⟨?_, ?_⟩))

def R_CountOf (s : List UInt8) (n : Int) : Int := if bmErr s n = 0 then cntN s n.toNat else 0
theorem cnt_bytes (s : List UInt8) : ∀ k, k ≤ s.length → cntN s (8 * (k + 1)) = cntN s (8 * k) + cntN [s[k]?.getD 0] 8 := by
  intro k _
  rw [show 8 * (k + 1) = 8 * k + 1 + 1 + 1 + 1 + 1 + 1 + 1 + 1 by omega]
  simp only [cntN, bitN, show (8 * k + 1) / 8 = k by omega, show (8 * k + 1 + 1) / 8 = k by omega, show (8 * k + 1 + 1 + 1) / 8 = k by omega, show (8 * k + 1 + 1 + 1 + 1) / 8 = k by omega, show (8 * k + 1 + 1 + 1 + 1 + 1) / 8 = k by omega, show (8 * k + 1 + 1 + 1 + 1 + 1 + 1) / 8 = k by omega, show (8 * k + 1 + 1 + 1 + 1 + 1 + 1 + 1) / 8 = k by omega, show 8 * k / 8 = k by omega, show 8 * k % 8 = 0 by omega,
    show (8 * k + 1) % 8 = 1 by omega, show (8 * k + 1 + 1) % 8 = 2 by omega, show (8 * k + 1 + 1 + 1) % 8 = 3 by omega, show (8 * k + 1 + 1 + 1 + 1) % 8 = 4 by omega, show (8 * k + 1 + 1 + 1 + 1 + 1) % 8 = 5 by omega, show (8 * k + 1 + 1 + 1 + 1 + 1 + 1) % 8 = 6 by omega, show (8 * k + 1 + 1 + 1 + 1 + 1 + 1 + 1) % 8 = 7 by omega]
  simp
  omega
theorem cnt_rest (s : List UInt8) (n : Nat) : ∀ k, n ≤ k → (∀ i, i < k → n ≤ i → bitN s i = 0) → cntN s k = cntN s n := by
  intro k
  induction k with
  | zero => intro h _; rw [show n = 0 by omega]
  | succ k ih =>
    intro h hz
    by_cases hk : n = k + 1
    · rw [hk]
    · show cntN s k + bitN s k = _
      rw [ih (by omega) fun i hi hn => hz i (by omega) hn, hz k (by omega) (by omega)]; rfl
def S_CountOf : Spec := mkS true false fun ps K => ∃ (s : List UInt8) (n : Int), ps = [.str s, pI n] ∧ s.length ≤ 1000000 ∧ K (.tup [.pv (pI (R_CountOf s n)), .pv (pI (bmErr s n))])
theorem meets_CountOf : Meets (ctxOf [(n_bitmap_open, S_open), (n_math_bits_OnesCount8, fnSpec R_OnesCount8)]) s_bitmap_CountOf c_bitmap_CountOf r_bitmap_CountOf S_CountOf := by
  rintro _ K ⟨s, n, rfl, h, hK⟩
  unfold R_CountOf at hK
  by_cases he : bmErr s n = 0
  · obtain ⟨h1, h2, h3, h4, h5⟩ := bmErr_ok he
    rw [he] at hK
    rw [if_pos rfl, ← cnt_rest s n.toNat (8 * s.length) (by omega) h5] at hK
    (repeat' ((conv => whnf); (fail_if_success (refine ⟨(?_ : Nat), (?_ : _ < _), ?_⟩)); (fail_if_success (refine ⟨(?_ : RV), ?_⟩)); (fail_if_success (refine ⟨(?_ : List RV), ?_⟩)); first | refine CMP_f (by omega) ?_ | (show _ ≤ (9223372036854775807 : Nat) → _; first | rw [List.length_map, tab_len] | rw [List.length_map] | rw [List.length_replicate] | skip; intro _) | refine And.intro rfl ?_ | refine ⟨_, _, rfl, (by repeat' (first | omega | assumption | exact trivial | refine And.intro ?_ ?_)), ?_⟩ | fail)) <;> try (conv => whnf)
    refine ⟨fun m env σ => ∃ i : Nat, i + m = s.length ∧ σ = [.row T_uint8 1 false (s.map byteP)] ∧ env = [(8, .pv (pI (cntN s (8 * i) : Nat))), (21, .own 0), (22, .pv (pI s.length)), (23, .pv (pI i))], s.length, ⟨0, by omega, rfl, rfl⟩, ?_⟩
    rintro m env σ ⟨i, hi, rfl, rfl⟩
    have hc := cntN_le s (8 * i)
    (repeat' ((conv => whnf); (fail_if_success (refine ⟨(?_ : Nat), (?_ : _ < _), ?_⟩)); (fail_if_success (refine ⟨(?_ : RV), ?_⟩)); (fail_if_success (refine ⟨(?_ : List RV), ?_⟩)); first | refine CMP (fun _ => ?_) (fun _ => ?_) | refine OWN (by omega) ?_ | refine GETbn (by omega) (fun _ _ _ => ?_) | refine ⟨_, ⟨_, rfl, rfl⟩, ?_⟩ | fail)) <;> try (conv => whnf)
    · rename_i x hx _
      have hc2 := cntN_le [x] 8
      have hb := cnt_bytes s i (by omega)
      rw [show s[i]? = some x from hx] at hb
      (repeat' ((conv => whnf); (fail_if_success (refine ⟨(?_ : Nat), (?_ : _ < _), ?_⟩)); (fail_if_success (refine ⟨(?_ : RV), ?_⟩)); (fail_if_success (refine ⟨(?_ : List RV), ?_⟩)); first | refine N64 (by omega) ?_ | fail)) <;> try (conv => whnf)
      exact ⟨m - 1, by omega, i + 1, by omega, rfl, by rw [hb]; rfl⟩
    · have : i = s.length := by omega
      subst this
      (refine ⟨_, ?_, ?_, hK⟩ <;> repeat' (first | exact rfl | exact trivial | exact flat_runs _ | exact flat_pI _ | exact (fun _ h => by cases h) | refine ⟨?_, ?_⟩))
  · (repeat' ((conv => whnf); (fail_if_success (refine ⟨(?_ : Nat), (?_ : _ < _), ?_⟩)); (fail_if_success (refine ⟨(?_ : RV), ?_⟩)); (fail_if_success (refine ⟨(?_ : List RV), ?_⟩)); first | refine CMP_t (by omega) ?_ | refine And.intro rfl ?_ | refine ⟨_, _, rfl, (by repeat' (first | omega | assumption | exact trivial | refine And.intro ?_ ?_)), ?_⟩ | fail)) <;> try (conv => whnf)
    rw [if_neg he] at hK
    (refine ⟨_, ?_, ?_, hK⟩ <;> repeat' (first | exact rfl | exact trivial | exact flat_runs _ | exact flat_pI _ | exact (fun _ h => by cases h) | refine ⟨?_, ?_⟩))
end Go.Dv.Try
end
section
/-
  Contracts of chapter 4: new bitmaps, single bits, errors of runs.
-/
namespace Go.Dv.Try
open Go Go.Dv

def bitR (s : List UInt8) (n a : Int) : Int := if andE (bmErr s n) (0 ≤ a ∧ a ≤ n - 1) = 0 then bitN s a.toNat else 0
def S_BitAt : Spec := mkS true false fun ps K => ∃ (s : List UInt8) (n a : Int), ps = [.str s, pI n, pI a] ∧ s.length ≤ 1000000 ∧ K (.tup [.pv (pI (bitR s n a)), .pv (pI (andE (bmErr s n) (0 ≤ a ∧ a ≤ n - 1)))])
theorem meets_BitAt : Meets (ctxOf [(n_bitmap_open, S_open), (n_bitmap_first, S_first2), (n_bitmap_unless, fnSpec R_bitmap_unless), (n_bitmap_within, fnB Q_within), (n_bitmap_bitmap_at, fnSpec R_at)]) s_bitmap_BitAt c_bitmap_BitAt r_bitmap_BitAt S_BitAt := by
  rintro _ K ⟨s, n, a, rfl, h, hK⟩
  unfold bitR at hK
  have hok := @bmErr_ok s n
  by_cases he : bmErr s n = 0
  · obtain ⟨h1, h2, h3, h4, h5⟩ := hok he
    (repeat' ((conv => whnf); (fail_if_success (refine ⟨(?_ : Nat), (?_ : _ < _), ?_⟩)); (fail_if_success (refine ⟨(?_ : RV), ?_⟩)); (fail_if_success (refine ⟨(?_ : List RV), ?_⟩)); first | refine N64 (by omega) ?_ | refine CMP_t (by decide) ?_ | refine CMP_f (by decide) ?_ | refine CMP (fun _ => ?_) (fun _ => ?_) | refine And.intro rfl ?_ | refine ⟨_, ⟨_, _, rfl, rfl⟩, ?_⟩ | refine ⟨_, ⟨_, _, _, rfl, rfl⟩, ?_⟩ | refine ⟨_, ⟨_, _, _, rfl, (by repeat' (first | omega | assumption | exact trivial | refine And.intro ?_ ?_)), rfl⟩, ?_⟩ | refine ⟨_, _, rfl, fun h => absurd h (by omega), fun _ => ?_⟩ | refine ⟨_, _, rfl, (by repeat' (first | omega | assumption | exact trivial | refine And.intro ?_ ?_)), ?_⟩ | fail)) <;> try (conv => whnf)
    all_goals simp [andE, *] at hK
    all_goals (refine ⟨_, ?_, ?_, hK⟩ <;> repeat' (first | exact rfl | exact trivial | exact flat_runs _ | exact flat_pI _ | exact (fun _ h => by cases h) | refine ⟨?_, ?_⟩))
  · (repeat' ((conv => whnf); (fail_if_success (refine ⟨(?_ : Nat), (?_ : _ < _), ?_⟩)); (fail_if_success (refine ⟨(?_ : RV), ?_⟩)); (fail_if_success (refine ⟨(?_ : List RV), ?_⟩)); first | refine CMP_t (by omega) ?_ | refine CMP (fun _ => ?_) (fun _ => ?_) | refine And.intro rfl ?_ | refine ⟨_, ⟨_, _, rfl, rfl⟩, ?_⟩ | refine ⟨_, ⟨_, _, _, rfl, rfl⟩, ?_⟩ | refine ⟨_, _, rfl, fun _ => ?_, fun h => absurd h (by omega)⟩ | refine ⟨_, _, rfl, (by repeat' (first | omega | assumption | exact trivial | refine And.intro ?_ ?_)), ?_⟩ | refine WRAP (fun _ => ?_) | fail)) <;> try (conv => whnf)
    all_goals simp [andE, *] at hK
    all_goals (refine ⟨_, ?_, ?_, hK⟩ <;> repeat' (first | exact rfl | exact trivial | exact flat_runs _ | exact flat_pI _ | exact (fun _ h => by cases h) | refine ⟨?_, ?_⟩))

def S_fresh : Spec := mkS false false fun ps K => ∃ n : Int, ps = [pI n] ∧ (sizeErr n = 0 → K (.tup [.agg [.row T_uint8 1 ((zerosL (len8 n.toNat)).map byteP), .pv (pI n)], .pv (pI 0)])) ∧ (sizeErr n ≠ 0 → K (.tup [.pv (.agg [.nil 1, pI 0]), .pv (pI 2)]))
theorem zeros_row (n : Nat) : List.replicate n (PV.int .u8 0) = (zerosL n).map byteP := by
  unfold zerosL; rw [List.map_replicate]; rfl
theorem sizeErr0 {n : Int} (h : sizeErr n = 0) : 0 ≤ n ∧ n ≤ 4096 := by
  unfold sizeErr at h
  split at h
  · assumption
  · cases h
theorem ceil8_len8 {n : Int} (h : 0 ≤ n) : ceil8 n = (len8 n.toNat : Nat) := by unfold ceil8 len8; omega
theorem meets_fresh : Meets (ctxOf [(n_bitmap_within, fnB Q_within), (n_bitmap_size, fnSpec R_size)]) s_bitmap_fresh c_bitmap_fresh r_bitmap_fresh S_fresh := by
  rintro _ K ⟨n, rfl, h1, h2⟩
  by_cases h : sizeErr n = 0
  · have hn := sizeErr0 h
    have hK := h1 h
    have hc := ceil8_len8 hn.1
    have hl : len8 n.toNat ≤ 512 := by unfold len8; omega
    rw [← zeros_row] at hK
    (repeat' ((conv => whnf); (fail_if_success (refine ⟨(?_ : Nat), (?_ : _ < _), ?_⟩)); (fail_if_success (refine ⟨(?_ : RV), ?_⟩)); (fail_if_success (refine ⟨(?_ : List RV), ?_⟩)); first | refine NOT_t ?_ | refine CMP_t (by omega) ?_ | refine And.intro rfl ?_ | refine ⟨_, ⟨_, _, _, rfl, rfl⟩, ?_⟩ | refine ⟨_, ⟨_, rfl, (by repeat' (first | omega | assumption | exact trivial | refine And.intro ?_ ?_)), rfl⟩, ?_⟩ | refine And.intro (by omega) ?_ | fail)) <;> try (conv => whnf)
    rw [hc, Int.toNat_natCast]
    refine ⟨[.agg [.row _ _ _, .pv _], .pv (pI _)], ⟨⟨⟨rfl, rfl, rfl⟩, rfl, trivial⟩, rfl, trivial⟩, trivial, hK⟩
  · have hn : ¬ (0 ≤ n ∧ n ≤ 4096) := by
      intro h'; apply h; unfold sizeErr; rw [if_pos h']
    have hK := h2 h
    (repeat' ((conv => whnf); (fail_if_success (refine ⟨(?_ : Nat), (?_ : _ < _), ?_⟩)); (fail_if_success (refine ⟨(?_ : RV), ?_⟩)); (fail_if_success (refine ⟨(?_ : List RV), ?_⟩)); first | refine NOT_f ?_ | refine CMP_f (by omega) ?_ | refine And.intro rfl ?_ | refine ⟨_, ⟨_, _, _, rfl, rfl⟩, ?_⟩ | fail)) <;> try (conv => whnf)
    exact ⟨[.pv _, .pv (pI _)], ⟨rfl, rfl, trivial⟩, trivial, hK⟩

def newR (n : Int) : List UInt8 := if sizeErr n = 0 then zerosL (len8 n.toNat) else []
def S_NewBitmap : Spec := mkS true false fun ps K => ∃ n : Int, ps = [pI n] ∧ K (.tup [.pv (.str (newR n)), .pv (pI (sizeErr n))])
theorem meets_NewBitmap : Meets (ctxOf [(n_bitmap_fresh, S_fresh)]) s_bitmap_NewBitmap c_bitmap_NewBitmap r_bitmap_NewBitmap S_NewBitmap := by
  rintro _ K ⟨n, rfl, hK⟩
  unfold newR at hK
  refine ⟨n, rfl, fun h => ?_, fun h => ?_⟩
  · rw [if_pos h, h] at hK
    (repeat' ((conv => whnf); (fail_if_success (refine ⟨(?_ : Nat), (?_ : _ < _), ?_⟩)); (fail_if_success (refine ⟨(?_ : RV), ?_⟩)); (fail_if_success (refine ⟨(?_ : List RV), ?_⟩)); first | refine BTS ?_ | refine And.intro rfl ?_ | fail)) <;> try (conv => whnf)
    (refine ⟨_, ?_, ?_, hK⟩ <;> repeat' (first | exact rfl | exact trivial | exact flat_runs _ | exact flat_pI _ | exact (fun _ h => by cases h) | refine ⟨?_, ?_⟩))
  · have e : sizeErr n = 2 := by
      unfold sizeErr at h ⊢
      split
      · rename_i h'; rw [if_pos h'] at h; exact absurd rfl h
      · rfl
    rw [if_neg h, e] at hK
    (repeat' ((conv => whnf); (fail_if_success (refine ⟨(?_ : Nat), (?_ : _ < _), ?_⟩)); (fail_if_success (refine ⟨(?_ : RV), ?_⟩)); (fail_if_success (refine ⟨(?_ : List RV), ?_⟩)); first | refine BTS0 ?_ | refine And.intro rfl ?_ | fail)) <;> try (conv => whnf)
    (refine ⟨_, ?_, ?_, hK⟩ <;> repeat' (first | exact rfl | exact trivial | exact flat_runs _ | exact flat_pI _ | exact (fun _ h => by cases h) | refine ⟨?_, ?_⟩))

def S_IndexB : Spec := mkS true false fun ps K => ∃ (l : List Bool) (v : Bool), ps = [.sl 1 (l.map pB), pB v] ∧ l.length ≤ 1000000 ∧ ∀ r : Int, (0 ≤ r ↔ v ∈ l) → -1 ≤ r → K (.pv (pI r))
theorem meets_IndexB : Meets (ctxOf []) s_slices_Index_bool_bool c_slices_Index_bool_bool r_slices_Index_bool_bool S_IndexB := by
  rintro _ K ⟨l, v, rfl, hl, hK⟩
  (repeat' ((conv => whnf); (fail_if_success (refine ⟨(?_ : Nat), (?_ : _ < _), ?_⟩)); (fail_if_success (refine ⟨(?_ : RV), ?_⟩)); (fail_if_success (refine ⟨(?_ : List RV), ?_⟩)); first | (show _ ≤ (9223372036854775807 : Nat) → _; first | rw [List.length_map, tab_len] | rw [List.length_map] | rw [List.length_replicate] | skip; intro _) | fail)) <;> try (conv => whnf)
  refine ⟨fun m env σ => ∃ i : Nat, (i + m = l.length ∧ ∀ j, j < i → l[j]? ≠ some v) ∧ σ = [] ∧ env = [(0, .pv (.sl 1 (l.map pB))), (1, .pv (pB v)), (7, .pv (pI l.length)), (8, .pv (pI i))], l.length, ⟨0, ⟨by omega, fun j hj => by omega⟩, rfl, rfl⟩, ?_⟩
  rintro m env σ ⟨i, ⟨hi, h0⟩, rfl, rfl⟩
  (repeat' ((conv => whnf); (fail_if_success (refine ⟨(?_ : Nat), (?_ : _ < _), ?_⟩)); (fail_if_success (refine ⟨(?_ : RV), ?_⟩)); (fail_if_success (refine ⟨(?_ : List RV), ?_⟩)); first | refine N64 (by omega) ?_ | refine CMP (fun _ => ?_) (fun _ => ?_) | refine IDXn (by omega) (fun _ _ => ?_) | fail)) <;> try (conv => whnf)
  · rename_i x hx h
    subst h
    have hK := hK i ⟨fun _ => mem_get.2 ⟨i, hx⟩, fun _ => by omega⟩ (by omega)
    (refine ⟨_, ?_, ?_, hK⟩ <;> repeat' (first | exact rfl | exact trivial | exact flat_runs _ | exact flat_pI _ | exact (fun _ h => by cases h) | refine ⟨?_, ?_⟩))
  · rename_i x hx h
    refine ⟨m - 1, by omega, i + 1, ⟨by omega, fun j hj e => ?_⟩, rfl, rfl⟩
    by_cases hji : j < i
    · exact h0 j hji e
    · have : j = i := by omega
      subst this
      rw [hx] at e
      exact h (Option.some.inj e).symm
  · have hK := hK (-1) ⟨fun h => by omega, fun h => ?_⟩ (by omega)
    · (refine ⟨_, ?_, ?_, hK⟩ <;> repeat' (first | exact rfl | exact trivial | exact flat_runs _ | exact flat_pI _ | exact (fun _ h => by cases h) | refine ⟨?_, ?_⟩))
    · obtain ⟨j, e⟩ := mem_get.1 h
      have hj : j < l.length := by
        by_cases hj : j < l.length
        · exact hj
        · rw [List.getElem?_eq_none (by omega)] at e; cases e
      exact absurd e (h0 j (by omega))
def S_ContainsB : Spec := mkS true false fun ps K => ∃ (l : List Bool) (v : Bool), ps = [.sl 1 (l.map pB), pB v] ∧ l.length ≤ 1000000 ∧ ∀ r : Bool, (r = true ↔ v ∈ l) → K (.pv (pB r))
theorem meets_ContainsB : Meets (ctxOf [(n_slices_Index_bool_bool, S_IndexB)]) s_slices_Contains_bool_bool c_slices_Contains_bool_bool r_slices_Contains_bool_bool S_ContainsB := by
  rintro _ K ⟨l, v, rfl, hl, hK⟩
  refine ⟨l, v, rfl, hl, fun r hr hr1 => ?_⟩
  (repeat' ((conv => whnf); (fail_if_success (refine ⟨(?_ : Nat), (?_ : _ < _), ?_⟩)); (fail_if_success (refine ⟨(?_ : RV), ?_⟩)); (fail_if_success (refine ⟨(?_ : List RV), ?_⟩)); first | refine CMP (fun _ => ?_) (fun _ => ?_) | fail)) <;> try (conv => whnf)
  · have hK := hK true (by simp; exact hr.1 (by assumption))
    (refine ⟨_, ?_, ?_, hK⟩ <;> repeat' (first | exact rfl | exact trivial | exact flat_runs _ | exact flat_pI _ | exact (fun _ h => by cases h) | refine ⟨?_, ?_⟩))
  · have hK := hK false (by simp; exact fun h => by have := hr.2 h; omega)
    (refine ⟨_, ?_, ?_, hK⟩ <;> repeat' (first | exact rfl | exact trivial | exact flat_runs _ | exact flat_pI _ | exact (fun _ h => by cases h) | refine ⟨?_, ?_⟩))
end Go.Dv.Try
end
section
/-
  Contracts of chapter 4: errors of runs, in the program and in the reference.
-/
namespace Go.Dv.Try
open Go Go.Dv

def S_runsErr : Spec := mkS true false fun ps K => ∃ (x : PV) (n : Int) (l : List Rn), ps = [.agg [x, pI n], .sl 2 (l.map Rn.pv)] ∧ (0 ≤ n ∧ n ≤ 4096) ∧ K (.pv (pI (runsErr l n)))
theorem meets_runsErr : Meets (ctxOf [(n_bitmap_within, fnB Q_within), (n_slices_Contains_bool_bool, S_ContainsB)]) s_bitmap_bitmap_runsErr c_bitmap_bitmap_runsErr r_bitmap_bitmap_runsErr S_runsErr := by
  rintro _ K ⟨x, n, l, rfl, ⟨hn0, hn⟩, hK⟩
  unfold runsErr at hK
  by_cases hl : 64 < l.length
  · rw [if_pos hl] at hK
    (repeat' ((conv => whnf); (fail_if_success (refine ⟨(?_ : Nat), (?_ : _ < _), ?_⟩)); (fail_if_success (refine ⟨(?_ : RV), ?_⟩)); (fail_if_success (refine ⟨(?_ : List RV), ?_⟩)); first | refine CMP_t (by omega) ?_ | (show _ ≤ (9223372036854775807 : Nat) → _; first | rw [List.length_map, tab_len] | rw [List.length_map] | rw [List.length_replicate] | skip; intro _) | fail)) <;> try (conv => whnf)
    (refine ⟨_, ?_, ?_, hK⟩ <;> repeat' (first | exact rfl | exact trivial | exact flat_runs _ | exact flat_pI _ | exact (fun _ h => by cases h) | refine ⟨?_, ?_⟩))
  · rw [if_neg hl] at hK
    (repeat' ((conv => whnf); (fail_if_success (refine ⟨(?_ : Nat), (?_ : _ < _), ?_⟩)); (fail_if_success (refine ⟨(?_ : RV), ?_⟩)); (fail_if_success (refine ⟨(?_ : List RV), ?_⟩)); first | refine CMP_f (by omega) ?_ | (show _ ≤ (9223372036854775807 : Nat) → _; first | rw [List.length_map, tab_len] | rw [List.length_map] | rw [List.length_replicate] | skip; intro _) | refine And.intro (by omega) ?_ | fail)) <;> try (conv => whnf)
    refine ⟨fun m env σ => ∃ i : Nat, (i + m = l.length ∧ runsGo n (fun _ => false) l = runsGo n (inRs (l.take i)) (l.drop i)) ∧ σ = [.box 76 [.pv x, .pv (pI n)], .row T_bool 1 true ((tab (inRs (l.take i)) n.toNat).map pB)] ∧ env = [(2, .ref 0 0 0), (5, .own 1), (16, .pv (.sl 2 (l.map Rn.pv))), (17, .pv (pI l.length)), (18, .pv (pI i))], l.length, ⟨0, ⟨by omega, by rw [List.take_zero, inRs_nil]; rfl⟩, by rw [List.take_zero, inRs_nil, ← tab_const, repl_map], rfl⟩, ?_⟩
    rintro m env σ ⟨i, ⟨hi, he⟩, rfl, rfl⟩
    (repeat' ((conv => whnf); (fail_if_success (refine ⟨(?_ : Nat), (?_ : _ < _), ?_⟩)); (fail_if_success (refine ⟨(?_ : RV), ?_⟩)); (fail_if_success (refine ⟨(?_ : List RV), ?_⟩)); first | refine N64 (by omega) ?_ | refine NOT_t ?_ | refine NOT_f ?_ | refine CMP (fun _ => ?_) (fun _ => ?_) | refine IDXn (by omega) (fun _ _ => ?_) | refine And.intro rfl ?_ | refine ⟨_, ⟨_, _, _, rfl, rfl⟩, ?_⟩ | refine And.intro (by omega) ?_ | refine And.intro (by (simp; omega)) ?_ | refine .inr ?_ | fail)) <;> try (conv => whnf)
    rotate_left
    · rw [he, runsGo_at (by assumption)] at hK
      simp [runOk, *] at hK
      (refine ⟨_, ?_, ?_, hK⟩ <;> repeat' (first | exact rfl | exact trivial | exact flat_runs _ | exact flat_pI _ | exact (fun _ h => by cases h) | refine ⟨?_, ?_⟩))
    · rw [he, runsGo_at (by assumption)] at hK
      simp only [runOk, *, false_and, if_false] at hK
      (refine ⟨_, ?_, ?_, hK⟩ <;> repeat' (first | exact rfl | exact trivial | exact flat_runs _ | exact flat_pI _ | exact (fun _ h => by cases h) | refine ⟨?_, ?_⟩))
    · rw [he, runsGo_end (by omega)] at hK
      (refine ⟨_, ?_, ?_, hK⟩ <;> repeat' (first | exact rfl | exact trivial | exact flat_runs _ | exact flat_pI _ | exact (fun _ h => by cases h) | refine ⟨?_, ?_⟩))
    rename_i _ r hr h1 h2
    have e0 : (r.s.toNat + ((r.s + r.n).toNat - r.s.toNat)) = r.s.toNat + r.n.toNat := by omega
    rw [e0]
    have hcl : (cut r.s.toNat (r.s.toNat + r.n.toNat) (tab (inRs (l.take i)) n.toNat)).length = r.n.toNat := by rw [cut_len (by simp; omega)]; omega
    refine ⟨cut r.s.toNat (r.s.toNat + r.n.toNat) (tab (inRs (l.take i)) n.toNat), true, by rw [cut_map], by omega, fun b hb => ?_⟩
    have hb : b = true ↔ hits (inRs (l.take i)) r.s.toNat r.n.toNat = true := by
      rw [hb, hits_iff, mem_get]
      constructor
      · rintro ⟨j, hj⟩
        have hlt := lt_of_get hj
        rw [cut_get (by omega), tab_get (by omega)] at hj
        exact ⟨r.s.toNat + j, by omega, by omega, Option.some.inj hj⟩
      · rintro ⟨j, h3, h4, h5⟩
        refine ⟨j - r.s.toNat, ?_⟩
        rw [cut_get (by omega), tab_get (by omega), show r.s.toNat + (j - r.s.toNat) = j by omega, h5]
    cases b with
    | true =>
      rw [he, runsGo_at (by assumption), if_pos ⟨h1, h2⟩, if_pos (hb.1 rfl)] at hK
      (conv => whnf)
      (refine ⟨_, ?_, ?_, hK⟩ <;> repeat' (first | exact rfl | exact trivial | exact flat_runs _ | exact flat_pI _ | exact (fun _ h => by cases h) | refine ⟨?_, ?_⟩))
    | false =>
      have hb : ¬ hits (inRs (l.take i)) r.s.toNat r.n.toNat = true := fun h => by have := hb.2 h; cases this
      (repeat' ((conv => whnf); (fail_if_success (refine ⟨(?_ : Nat), (?_ : _ < _), ?_⟩)); (fail_if_success (refine ⟨(?_ : RV), ?_⟩)); (fail_if_success (refine ⟨(?_ : List RV), ?_⟩)); first | (show _ ≤ (9223372036854775807 : Nat) → _; first | rw [List.length_map, tab_len] | rw [List.length_map] | rw [List.length_replicate] | skip; intro _) | refine And.intro (by (simp; omega)) ?_ | fail)) <;> try (conv => whnf)
      have hlen : (cut r.s.toNat (r.s.toNat + ((r.s + r.n).toNat - r.s.toNat)) ((tab (inRs (l.take i)) n.toNat).map pB)).length = r.n.toNat := by rw [e0, cut_map, List.length_map, hcl]
      refine ⟨fun m' env σ => ∃ k : Nat, (k + m' = r.n.toNat) ∧ σ = [.box 76 [.pv x, .pv (pI n)], .row T_bool 1 true ((tab (fun j => inRs (l.take i) j || decide (r.s ≤ j ∧ (j : Int) < r.s + k)) n.toNat).map pB)] ∧ env = [(2, .ref 0 0 0), (5, .own 1), (8, .sub 1 1 r.s.toNat ((r.s + r.n).toNat - r.s.toNat)), (16, .pv (.sl 2 (l.map Rn.pv))), (17, .pv (pI l.length)), (18, .pv (pI i)), (52, .pv (pI (r.n.toNat : Nat))), (53, .pv (pI k))], r.n.toNat, ⟨0, by omega, ?_, by rw [← hlen]; rfl⟩, ?_⟩
      · have : tab (fun j => inRs (l.take i) j || decide (r.s ≤ j ∧ (j : Int) < r.s + (0 : Nat))) n.toNat = tab (inRs (l.take i)) n.toNat := tab_ext fun j _ => by
          have : ¬ (r.s ≤ j ∧ (j : Int) < r.s + (0 : Nat)) := by omega
          rw [decide_eq_false this, Bool.or_false]
        rw [this]
      · rintro m' env σ ⟨k, hk, rfl, rfl⟩
        (repeat' ((conv => whnf); (fail_if_success (refine ⟨(?_ : Nat), (?_ : _ < _), ?_⟩)); (fail_if_success (refine ⟨(?_ : RV), ?_⟩)); (fail_if_success (refine ⟨(?_ : List RV), ?_⟩)); first | refine N64 (by omega) ?_ | refine CMP (fun _ => ?_) (fun _ => ?_) | refine GETt (by omega) ?_ | refine And.intro rfl ?_ | refine And.intro (by (simp; omega)) ?_ | fail)) <;> try (conv => whnf)
        · have hlt : r.s.toNat + k < n.toNat := by omega
          refine ⟨m' - 1, by omega, k + 1, by omega, ?_, rfl⟩
          rw [Int.toNat_natCast, set_map, tab_set]
          refine congrArg (fun t => [_, Blk.row _ _ _ (List.map pB t)]) (tab_ext fun j _ => ?_)
          by_cases hj : j = r.s.toNat + k
          · subst hj; simp; omega
          · rw [if_neg hj]
            have : (r.s ≤ (j : Int) ∧ (j : Int) < r.s + (k : Nat)) ↔ (r.s ≤ (j : Int) ∧ (j : Int) < r.s + (k + 1 : Nat)) := by omega
            rw [decide_eq_decide.2 this]
        · refine ⟨m - 1, by omega, i + 1, ⟨by omega, ?_⟩, ?_, rfl⟩
          · rw [he, runsGo_at hr, if_pos ⟨h1, h2⟩, if_neg hb]
          · refine congrArg (fun t => [_, Blk.row _ _ _ (List.map pB t)]) (tab_ext fun j _ => ?_)
            have : inRs (l.take (i + 1)) j = (inRs (l.take i) j || inR r j) := by
              rw [List.take_add_one, hr]; exact inRs_snoc _ _ _
            rw [this]
            have : (r.s ≤ (j : Int) ∧ (j : Int) < r.s + (k : Nat)) ↔ (r.s ≤ (j : Int) ∧ (j : Int) < r.s + r.n) := by omega
            unfold inR
            rw [decide_eq_decide.2 this]

def S_RunsErr : Spec := mkS true true fun ps K => ∃ (n : Int) (l : List Rn), ps = [.sl 2 (l.map Rn.pv), pI n] ∧ (0 ≤ n ∧ n ≤ 4096) ∧ K (.pv (pI (runsErr l n)))
theorem ok_RunsErr : FnOk S_RunsErr := by
  refine ⟨fun _ => ⟨rfl, fun ps K h => ?_⟩, fun _ _ h => h, rfl⟩
  obtain ⟨n, l, rfl, hp, hK⟩ := h
  exact ⟨_, hK, fun K' h => ⟨n, l, rfl, hp, h⟩⟩
theorem meets_RunsErr : Meets (ctxOf [(n_base_Within, fnB Q_within)]) s_ref04_RunsErr c_ref04_RunsErr r_ref04_RunsErr S_RunsErr := by
  rintro _ K ⟨n, l, rfl, ⟨hn0, hn⟩, hK⟩
  unfold runsErr at hK
  by_cases hl : 64 < l.length
  · rw [if_pos hl] at hK
    (repeat' ((conv => whnf); (fail_if_success (refine ⟨(?_ : Nat), (?_ : _ < _), ?_⟩)); (fail_if_success (refine ⟨(?_ : RV), ?_⟩)); (fail_if_success (refine ⟨(?_ : List RV), ?_⟩)); first | refine CMP_t (by omega) ?_ | (show _ ≤ (9223372036854775807 : Nat) → _; first | rw [List.length_map, tab_len] | rw [List.length_map] | rw [List.length_replicate] | skip; intro _) | fail)) <;> try (conv => whnf)
    (refine ⟨_, ?_, ?_, hK⟩ <;> repeat' (first | exact rfl | exact trivial | exact flat_runs _ | exact flat_pI _ | exact (fun _ h => by cases h) | refine ⟨?_, ?_⟩))
  · rw [if_neg hl] at hK
    (repeat' ((conv => whnf); (fail_if_success (refine ⟨(?_ : Nat), (?_ : _ < _), ?_⟩)); (fail_if_success (refine ⟨(?_ : RV), ?_⟩)); (fail_if_success (refine ⟨(?_ : List RV), ?_⟩)); first | refine CMP_f (by omega) ?_ | refine MAX ?_ | (show _ ≤ (9223372036854775807 : Nat) → _; first | rw [List.length_map, tab_len] | rw [List.length_map] | rw [List.length_replicate] | skip; intro _) | refine And.intro (by omega) ?_ | fail)) <;> try (conv => whnf)
    refine ⟨fun m env σ => ∃ i : Nat, (i + m = l.length ∧ runsGo n (fun _ => false) l = runsGo n (inRs (l.take i)) (l.drop i)) ∧ σ = [.row T_int 1 true ((tab (fun j => if inRs (l.take i) j = true then (1 : Int) else 0) (max n 0).toNat).map pI)] ∧ env = [(0, .pv (.sl 2 (l.map Rn.pv))), (1, .pv (pI n)), (5, .own 0), (6, .pv (pI i))], l.length, ⟨0, ⟨by omega, by rw [List.take_zero, inRs_nil]; rfl⟩, by rw [List.take_zero, inRs_nil, ← tab_const, repl_map]; rfl, rfl⟩, ?_⟩
    rintro m env σ ⟨i, ⟨hi, he⟩, rfl, rfl⟩
    (repeat' ((conv => whnf); (fail_if_success (refine ⟨(?_ : Nat), (?_ : _ < _), ?_⟩)); (fail_if_success (refine ⟨(?_ : RV), ?_⟩)); (fail_if_success (refine ⟨(?_ : List RV), ?_⟩)); first | refine N64 (by omega) ?_ | refine NOT_t ?_ | refine NOT_f ?_ | refine CMP (fun _ => ?_) (fun _ => ?_) | (show _ ≤ (9223372036854775807 : Nat) → _; first | rw [List.length_map, tab_len] | rw [List.length_map] | rw [List.length_replicate] | skip; intro _) | refine IDXh (by assumption) ?_ | refine IDXn (by omega) (fun _ _ => ?_) | refine And.intro rfl ?_ | refine ⟨_, ⟨_, _, _, rfl, rfl⟩, ?_⟩ | fail)) <;> try (conv => whnf)
    rotate_left
    · rw [he, runsGo_at (by assumption)] at hK
      simp [runOk, *] at hK
      (refine ⟨_, ?_, ?_, hK⟩ <;> repeat' (first | exact rfl | exact trivial | exact flat_runs _ | exact flat_pI _ | exact (fun _ h => by cases h) | refine ⟨?_, ?_⟩))
    · rw [he, runsGo_at (by assumption)] at hK
      simp only [runOk, *, false_and, if_false] at hK
      (refine ⟨_, ?_, ?_, hK⟩ <;> repeat' (first | exact rfl | exact trivial | exact flat_runs _ | exact flat_pI _ | exact (fun _ h => by cases h) | refine ⟨?_, ?_⟩))
    · rw [he, runsGo_end (by omega)] at hK
      (refine ⟨_, ?_, ?_, hK⟩ <;> repeat' (first | exact rfl | exact trivial | exact flat_runs _ | exact flat_pI _ | exact (fun _ h => by cases h) | refine ⟨?_, ?_⟩))
    rename_i _ r hr h1 h2
    refine ⟨fun m' env σ => ∃ k : Nat, (k + m' = r.n.toNat ∧ ∀ j, r.s.toNat ≤ j → j < r.s.toNat + k → inRs (l.take i) j = false) ∧ σ = [.row T_int 1 true ((tab (fun j => if inRs (l.take i) j = true ∨ (r.s ≤ j ∧ (j : Int) < r.s + k) then (1 : Int) else 0) (max n 0).toNat).map pI)] ∧ env = [(0, .pv (.sl 2 (l.map Rn.pv))), (1, .pv (pI n)), (5, .own 0), (6, .pv (pI i)), (7, .pv (pI (r.s + (k : Nat))))], r.n.toNat, ⟨0, ⟨by omega, fun j h1 h2 => by omega⟩, ?_, ?_⟩, ?_⟩
    · refine congrArg (fun t => [Blk.row _ _ _ (List.map pI t)]) (tab_ext fun j _ => ?_)
      have : (inRs (l.take i) j = true ∨ (r.s ≤ j ∧ (j : Int) < r.s + (0 : Nat))) ↔ inRs (l.take i) j = true := by
        constructor
        · rintro (h | h)
          · exact h
          · omega
        · exact .inl
      simp only [this]
    · rw [show r.s + ((0 : Nat) : Int) = r.s by omega]
    · rintro m' env σ ⟨k, ⟨hk, hf⟩, rfl, rfl⟩
      (repeat' ((conv => whnf); (fail_if_success (refine ⟨(?_ : Nat), (?_ : _ < _), ?_⟩)); (fail_if_success (refine ⟨(?_ : RV), ?_⟩)); (fail_if_success (refine ⟨(?_ : List RV), ?_⟩)); first | refine N64 (by omega) ?_ | refine CMP (fun _ => ?_) (fun _ => ?_) | refine IDXh (by assumption) ?_ | refine GETt (by omega) ?_ | refine OWNt (by omega) ?_ | refine And.intro rfl ?_ | fail)) <;> try (conv => whnf)
      · rename_i hc
        have hh : hits (inRs (l.take i)) r.s.toNat r.n.toNat = true := by
          refine hits_iff.2 ⟨(r.s + k).toNat, by omega, by omega, ?_⟩
          by_cases h : inRs (l.take i) (r.s + k).toNat = true
          · exact h
          · rw [if_neg (by rintro (h' | h'); exact h h'; omega)] at hc
            cases hc
        rw [he, runsGo_at (by assumption), if_pos ⟨h1, h2⟩, if_pos hh] at hK
        (refine ⟨_, ?_, ?_, hK⟩ <;> repeat' (first | exact rfl | exact trivial | exact flat_runs _ | exact flat_pI _ | exact (fun _ h => by cases h) | refine ⟨?_, ?_⟩))
      · rename_i hc
        have hc : inRs (l.take i) (r.s + k).toNat = false := by
          cases h : inRs (l.take i) (r.s + k).toNat with
          | false => rfl
          | true => rw [if_pos (.inl h)] at hc; exact absurd rfl hc
        refine ⟨m' - 1, by omega, k + 1, ⟨by omega, fun j h3 h4 => ?_⟩, ?_, ?_⟩
        · by_cases h : j = (r.s + k).toNat
          · rw [h]; exact hc
          · exact hf j h3 (by omega)
        · rw [set_map, tab_set]
          refine congrArg (fun t => [Blk.row _ _ _ (List.map pI t)]) (tab_ext fun j _ => ?_)
          by_cases hj : j = (r.s + k).toNat
          · rw [if_pos hj, if_pos (.inr (by omega))]
          · rw [if_neg hj]
            have : (inRs (l.take i) j = true ∨ r.s ≤ (j : Int) ∧ (j : Int) < r.s + (k : Nat)) ↔ (inRs (l.take i) j = true ∨ r.s ≤ (j : Int) ∧ (j : Int) < r.s + (k + 1 : Nat)) := by
              refine or_congr_right ?_
              omega
            simp only [this]
        · rw [show r.s + ((k + 1 : Nat) : Int) = r.s + k + 1 by omega]
      · refine ⟨m - 1, by omega, i + 1, ⟨by omega, ?_⟩, ?_, rfl⟩
        · rw [he, runsGo_at hr, if_pos ⟨h1, h2⟩, if_neg]
          intro hh
          obtain ⟨j, h3, h4, h5⟩ := hits_iff.1 hh
          rw [hf j h3 (by omega)] at h5
          cases h5
        · refine congrArg (fun t => [Blk.row _ _ _ (List.map pI t)]) (tab_ext fun j _ => ?_)
          have : inRs (l.take (i + 1)) j = (inRs (l.take i) j || inR r j) := by
            rw [List.take_add_one, hr]; exact inRs_snoc _ _ _
          rw [this]
          have : ((inRs (l.take i) j || inR r j) = true) ↔ (inRs (l.take i) j = true ∨ r.s ≤ (j : Int) ∧ (j : Int) < r.s + k) := by
            simp only [Bool.or_eq_true, inR, decide_eq_true_eq]
            refine or_congr_right ?_
            omega
          simp only [this]
end Go.Dv.Try
end
section
/-
  Contracts of chapter 4: bits that are set, in a row that is handed in.
-/
namespace Go.Dv.Try
open Go Go.Dv

theorem clr_tab : ∀ x : Fin 256, ∀ k : Fin 8, bitsOp .andNot .u8 (x.val : Int) ((2 ^ k.val : Nat) : Int) = (((setBit (UInt8.ofNat x.val) k.val 0).toNat : Nat) : Int) := by decide +kernel
theorem set_tab : ∀ x : Fin 256, ∀ k : Fin 8, bitsOp .or .u8 (((setBit (UInt8.ofNat x.val) k.val 0).toNat : Nat) : Int) ((2 ^ k.val : Nat) : Int) = (((setBit (UInt8.ofNat x.val) k.val 1).toNat : Nat) : Int) := by decide +kernel
theorem clr_bit (b : UInt8) {k : Nat} (h : k < 8) : bitsOp .andNot .u8 (b.toNat : Int) ((2 ^ k : Nat) : Int) = ((setBit b k 0).toNat : Int) := by
  have := clr_tab ⟨b.toNat, b.toNat_lt⟩ ⟨k, h⟩
  simpa using this
theorem set_bit (b : UInt8) {k : Nat} (h : k < 8) : bitsOp .or .u8 ((setBit b k 0).toNat : Int) ((2 ^ k : Nat) : Int) = ((setBit b k 1).toNat : Int) := by
  have := set_tab ⟨b.toNat, b.toNat_lt⟩ ⟨k, h⟩
  simpa using this
theorem SHL8 {a : Int} {K : Int → Prop} (h : 0 ≤ a ∧ a < 8) (k : K ((2 ^ a.toNat : Nat) : Int)) : 0 ≤ a ∧ ∀ r : Int, r = IntKind.u8.wrap (1 * 2 ^ min a.toNat IntKind.u8.bits) → K r := by
  refine ⟨h.1, fun r hr => ?_⟩
  have e : IntKind.u8.wrap (1 * 2 ^ min a.toNat IntKind.u8.bits) = ((2 ^ a.toNat : Nat) : Int) := by
    have h1 : a = 0 ∨ a = 1 ∨ a = 2 ∨ a = 3 ∨ a = 4 ∨ a = 5 ∨ a = 6 ∨ a = 7 := by omega
    rcases h1 with rfl | rfl | rfl | rfl | rfl | rfl | rfl | rfl <;> decide
  rw [hr, e]; exact k

def M_set (xs : List AV) (σ : Sto) (K : AV → Sto → Prop) : Prop :=
  ∃ (ap : Bool) (B : List UInt8) (n i v : Int), xs = [.agg [.own 0, .pv (pI n)], .pv (pI i), .pv (pI v)] ∧ σ = [.row T_uint8 1 ap (B.map byteP)] ∧ (0 ≤ i ∧ i < 8 * B.length ∧ B.length ≤ 1000000 ∧ 0 ≤ v ∧ v ≤ 1) ∧ K (.tup []) [.row T_uint8 1 ap ((setB B i.toNat v.toNat).map byteP)]
theorem meets_set : MeetsM (ctxOf []) s_bitmap_bitmap_set c_bitmap_bitmap_set r_bitmap_bitmap_set (mkM M_set) := by
  rintro _ _ K ⟨ap, B, n, i, v, rfl, rfl, ⟨h0, h1, h2, h3, h4⟩, hK⟩
  have e1 : (i / 8).toNat = i.toNat / 8 := by omega
  have e2 : (i % 8).toNat = i.toNat % 8 := by omega
  have hB : ∀ x, B[(i / 8).toNat]? = some x → (B.map byteP).set (i / 8).toNat (.int .u8 (bitsOp .andNot .u8 (x.toNat : Int) ((2 ^ (i % 8).toNat : Nat) : Int))) = (setB B i.toNat 0).map byteP := by
    intro x hx
    rw [e1] at hx
    unfold setB
    rw [e1, e2, clr_bit x (by omega), hx]
    exact set_map
  (repeat' ((conv => whnf); (fail_if_success (refine ⟨(?_ : Nat), (?_ : _ < _), ?_⟩)); (fail_if_success (refine ⟨(?_ : RV), ?_⟩)); (fail_if_success (refine ⟨(?_ : List RV), ?_⟩)); first | refine SHL8 (by omega) ?_ | refine BITS ?_ | refine CMP (fun _ => ?_) (fun _ => ?_) | refine QUO (by omega) ?_ | refine REM (by omega) ?_ | refine GEThn (by assumption) ?_ | refine OWN (by omega) ?_ | refine GETb (by omega) (fun _ _ _ => ?_) | refine And.intro rfl ?_ | refine And.intro (by (simp; omega)) ?_ | fail)) <;> try (conv => whnf)
  · rename_i x hx _ hv
    have hv : v = 1 := by omega
    subst hv
    rw [hB x hx]
    have hl := setB_len B i.toNat 0
    rw [e1] at hx
    have h0 : (setB B i.toNat 0)[(i / 8).toNat]? = some (setBit x (i.toNat % 8) 0) := by
      unfold setB; rw [e1, hx, List.getElem?_set_self (by omega)]; rfl
    (repeat' ((conv => whnf); (fail_if_success (refine ⟨(?_ : Nat), (?_ : _ < _), ?_⟩)); (fail_if_success (refine ⟨(?_ : RV), ?_⟩)); (fail_if_success (refine ⟨(?_ : List RV), ?_⟩)); first | refine BITS ?_ | refine GEThn (by assumption) ?_ | refine OWN (by omega) ?_ | refine And.intro rfl ?_ | fail)) <;> try (conv => whnf)
    have e3 : ((setB B i.toNat 0).map byteP).set (i / 8).toNat (.int .u8 (bitsOp .or .u8 ((setBit x (i.toNat % 8) 0).toNat : Int) ((2 ^ (i % 8).toNat : Nat) : Int))) = (setB B i.toNat 1).map byteP := by
      unfold setB
      rw [e1, e2, set_bit x (by omega), hx]
      rw [show PV.int .u8 ((setBit x (i.toNat % 8) 1).toNat : Int) = byteP (setBit x (i.toNat % 8) 1) from rfl, set_map, List.set_set]
      rfl
    rw [e3]
    exact hK
  · rename_i x hx _ hv
    have hv : v = 0 := by omega
    subst hv
    rw [hB x hx]
    exact hK

/-- What a bitmap is after marks. -/
def M_put (xs : List AV) (σ : Sto) (K : AV → Sto → Prop) : Prop :=
  ∃ (ap : Bool) (B : List UInt8) (n : Int) (l : List Rn) (v : Nat), xs = [.agg [.own 0, .pv (pI n)], .pv (.sl 2 (l.map Rn.pv)), .pv (pI v)] ∧ σ = [.row T_uint8 1 ap (B.map byteP)] ∧ (0 ≤ n ∧ n ≤ 4096 ∧ n ≤ 8 * B.length ∧ B.length ≤ 1000000 ∧ v ≤ 1) ∧
    ∀ B' : List UInt8, B'.length = B.length → (markErr (bitN B) n l v = 0 → ∀ j, bitN B' j = markF (bitN B) l v j) → K (.pv (pI (markErr (bitN B) n l v))) [.row T_uint8 1 ap (B'.map byteP)]
theorem meets_put : MeetsM (ctxOf [(n_bitmap_bitmap_runsErr, S_runsErr), (n_bitmap_bitmap_at, fnSpec R_at), (n_bitmap_bitmap_set, mkM M_set)]) s_bitmap_bitmap_put c_bitmap_bitmap_put r_bitmap_bitmap_put (mkM M_put) := by
  rintro _ _ K ⟨ap, B, n, l, v, rfl, rfl, ⟨h0, h1, h2, h3, h4⟩, hK⟩
  unfold markErr at hK
  by_cases he : runsErr l n = 0
  case neg =>
    rw [if_pos he] at hK
    (repeat' ((conv => whnf); (fail_if_success (refine ⟨(?_ : Nat), (?_ : _ < _), ?_⟩)); (fail_if_success (refine ⟨(?_ : RV), ?_⟩)); (fail_if_success (refine ⟨(?_ : List RV), ?_⟩)); first | refine CMP_t (by omega) ?_ | refine ⟨_, _, _, rfl, (by repeat' (first | omega | assumption | exact trivial | refine And.intro ?_ ?_)), ?_⟩ | fail)) <;> try (conv => whnf)
    exact hK B rfl fun h => absurd h he
  rw [if_neg (fun h => h he)] at hK
  obtain ⟨hl, hok, hpw⟩ := runsErr_ok he
  (repeat' ((conv => whnf); (fail_if_success (refine ⟨(?_ : Nat), (?_ : _ < _), ?_⟩)); (fail_if_success (refine ⟨(?_ : RV), ?_⟩)); (fail_if_success (refine ⟨(?_ : List RV), ?_⟩)); first | refine CMP_f (by omega) ?_ | (show _ ≤ (9223372036854775807 : Nat) → _; first | rw [List.length_map, tab_len] | rw [List.length_map] | rw [List.length_replicate] | skip; intro _) | refine ⟨_, _, _, rfl, (by repeat' (first | omega | assumption | exact trivial | refine And.intro ?_ ?_)), ?_⟩ | fail)) <;> try (conv => whnf)
  refine ⟨fun m env σ => ∃ (i : Nat) (B1 : List UInt8), (i + m = l.length ∧ B1.length = B.length ∧ (∀ r ∈ l.take i, hits (fun j => decide (bitN B j = v)) r.s.toNat r.n.toNat = false) ∧ ∀ j, bitN B1 j = markF (bitN B) (l.take i) v j) ∧ σ = [.row T_uint8 1 ap (B1.map byteP), .box 76 [.own 0, .pv (pI n)]] ∧ env = [(2, .pv (pI v)), (3, .ref 1 0 0), (17, .pv (.sl 2 (l.map Rn.pv))), (18, .pv (pI l.length)), (19, .pv (pI i))], l.length, ⟨0, B, ⟨by omega, rfl, fun r h => (by cases h), fun j => by simp [markF, inRs]⟩, rfl, rfl⟩, ?_⟩
  rintro m env σ ⟨i, B1, ⟨hi, hB, hh, hb⟩, rfl, rfl⟩
  (repeat' ((conv => whnf); (fail_if_success (refine ⟨(?_ : Nat), (?_ : _ < _), ?_⟩)); (fail_if_success (refine ⟨(?_ : RV), ?_⟩)); (fail_if_success (refine ⟨(?_ : List RV), ?_⟩)); first | refine CMP (fun _ => ?_) (fun _ => ?_) | refine IDXn (by omega) (fun _ _ => ?_) | refine And.intro rfl ?_ | fail)) <;> try (conv => whnf)
  · rename_i r hr
    obtain ⟨hr1, hr2⟩ := hok r (List.mem_of_getElem? hr)
    refine ⟨fun m' env σ => ∃ (k : Nat) (B2 : List UInt8), (k + m' = r.n.toNat ∧ B2.length = B.length ∧ hits (fun j => decide (bitN B j = v)) r.s.toNat k = false ∧ ∀ j, bitN B2 j = if r.s.toNat ≤ j ∧ j < r.s.toNat + k then v else markF (bitN B) (l.take i) v j) ∧ σ = [.row T_uint8 1 ap (B2.map byteP), .box 76 [.own 0, .pv (pI n)], .box 48 [.pv (pI r.s), .pv (pI r.n)]] ∧ env = [(2, .pv (pI v)), (3, .ref 1 0 0), (9, .ref 2 0 0), (17, .pv (.sl 2 (l.map Rn.pv))), (18, .pv (pI l.length)), (19, .pv (pI i)), (24, .pv (pI r.n)), (25, .pv (pI k))], r.n.toNat, ⟨0, B1, ⟨by omega, hB, rfl, fun j => by rw [hb, if_neg (by omega)]⟩, rfl, rfl⟩, ?_⟩
    rintro m' env σ ⟨k, B2, ⟨hk, hB2, hf, hb2⟩, rfl, rfl⟩
    have hnot : inRs (l.take i) (r.s.toNat + k) = true → ¬ ((k : Int) < r.n) := by
      intro h hlt
      unfold inRs at h
      rw [List.any_eq_true] at h
      obtain ⟨a, ha, h'⟩ := h
      obtain ⟨q, hq⟩ := mem_get.1 ha
      have hqi : q < i := by
        have := lt_of_get hq
        simp at this; omega
      rw [List.getElem?_take_of_lt hqi] at hq
      have hlt1 := lt_of_get hq
      have hlt2 := lt_of_get hr
      have := (List.pairwise_iff_getElem.1 hpw) q i hlt1 hlt2 hqi
      rw [List.getElem?_eq_getElem hlt1] at hq
      rw [List.getElem?_eq_getElem hlt2] at hr
      rw [Option.some.inj hq, Option.some.inj hr] at this
      refine this (r.s.toNat + k) ⟨h', ?_⟩
      simp only [inR, decide_eq_true_eq]; omega
    have ei : (r.s + (k : Int)).toNat = r.s.toNat + k := by omega
    have hbk : (k : Int) < r.n → bitN B2 (r.s + (k : Int)).toNat = bitN B (r.s.toNat + k) := by
      intro hlt
      rw [ei, hb2, if_neg (by omega)]
      unfold markF
      rw [if_neg fun h => hnot h hlt]
    (repeat' ((conv => whnf); (fail_if_success (refine ⟨(?_ : Nat), (?_ : _ < _), ?_⟩)); (fail_if_success (refine ⟨(?_ : RV), ?_⟩)); (fail_if_success (refine ⟨(?_ : List RV), ?_⟩)); first | refine N64 (by omega) ?_ | refine CMP (fun _ => ?_) (fun _ => ?_) | refine ⟨_, ⟨_, _, _, rfl, (by repeat' (first | omega | assumption | exact trivial | refine And.intro ?_ ?_)), rfl⟩, ?_⟩ | refine ⟨_, _, _, _, _, rfl, rfl, (by repeat' (first | omega | assumption | exact trivial | refine And.intro ?_ ?_)), ?_⟩ | fail)) <;> try (conv => whnf)
    · rename_i hlt hc
      rw [hbk hlt] at hc
      have hh : hits (fun j => decide (bitN B j = v)) r.s.toNat r.n.toNat = true := hits_iff.2 ⟨r.s.toNat + k, by omega, by omega, by simp; omega⟩
      have ha : (l.any fun r => hits (fun i => decide (bitN B i = v)) r.s.toNat r.n.toNat) = true := List.any_eq_true.2 ⟨r, List.mem_of_getElem? hr, hh⟩
      rw [if_pos ha] at hK
      exact hK B2 hB2 fun h => by cases h
    · rename_i hlt hc
      rw [hbk hlt] at hc
      refine ⟨m' - 1, by omega, k + 1, setB B2 (r.s + (k : Int)).toNat v, ⟨by omega, by simp [hB2], ?_, fun j => ?_⟩, rfl, rfl⟩
      · simp only [hits, hf, Bool.false_or, decide_eq_false_iff_not]; omega
      · rw [setB_bit (by omega) h4, hb2]
        by_cases hj : j = (r.s + (k : Int)).toNat
        · rw [if_pos hj, if_pos (by omega)]
        · rw [if_neg hj]
          by_cases hj2 : r.s.toNat ≤ j ∧ j < r.s.toNat + k
          · rw [if_pos hj2, if_pos (by omega)]
          · rw [if_neg hj2, if_neg (by omega)]
    · refine ⟨m - 1, by omega, i + 1, B2, ⟨by omega, hB2, fun x hx => ?_, fun j => ?_⟩, rfl, rfl⟩
      · rw [List.take_add_one, hr] at hx
        rcases List.mem_append.1 hx with hx | hx
        · exact hh x hx
        · simp at hx; subst hx
          rw [show x.n.toNat = k by omega]; exact hf
      · rw [hb2]
        unfold markF
        have : inRs (l.take (i + 1)) j = (inRs (l.take i) j || inR r j) := by
          rw [List.take_add_one, hr]; exact inRs_snoc _ _ _
        rw [this]
        have e : (r.s.toNat ≤ j ∧ j < r.s.toNat + k) ↔ inR r j = true := by
          simp only [inR, decide_eq_true_eq]; omega
        by_cases h : inR r j = true
        · rw [if_pos (e.2 h), if_pos (by simp [h])]
        · rw [if_neg (fun h' => h (e.1 h'))]
          have : inR r j = false := by simpa using h
          simp [this]
  · have ei : i = l.length := by omega
    subst ei
    rw [List.take_length] at hh hb
    have ha : (l.any fun r => hits (fun i => decide (bitN B i = v)) r.s.toNat r.n.toNat) = false := by
      rw [List.any_eq_false]
      intro r hr
      rw [hh r hr]; simp
    rw [ha] at hK
    exact hK B1 hB fun _ => hb

def changeE (s : List UInt8) (n : Int) (l : List Rn) (v : Nat) : Int := if bmErr s n ≠ 0 then bmErr s n else markErr (bitN s) n l v
def changeR (s : List UInt8) (n : Int) (l : List Rn) (v : Nat) : List UInt8 := if changeE s n l v = 0 then bmOf (markF (bitN s) l v) n.toNat else []
def S_changed : Spec := mkS true false fun ps K => ∃ (s : List UInt8) (n : Int) (l : List Rn) (v : Nat), ps = [.str s, pI n, .sl 2 (l.map Rn.pv), pI v] ∧ (s.length ≤ 1000000 ∧ v ≤ 1) ∧ K (.tup [.pv (.str (changeR s n l v)), .pv (pI (changeE s n l v))])
theorem mark_out {n : Int} {f : Nat → Nat} {l : List Rn} {v : Nat} (h : markErr f n l v = 0) (j : Nat) (hj : n.toNat ≤ j) : inRs l j = false := by
  unfold markErr at h
  split at h
  · rename_i h'; exact absurd h h'
  · rename_i h'
    obtain ⟨_, h1, _⟩ := runsErr_ok (Decidable.of_not_not h')
    cases hc : inRs l j with
    | false => rfl
    | true =>
      unfold inRs at hc
      obtain ⟨r, hr, hi⟩ := List.any_eq_true.1 hc
      obtain ⟨h2, h3⟩ := h1 r hr
      simp only [inR, decide_eq_true_eq] at hi
      omega
theorem meets_changed : Meets (ctxOf [(n_bitmap_open, S_open), (n_bitmap_bitmap_put, mkM M_put)]) s_bitmap_changed c_bitmap_changed r_bitmap_changed S_changed := by
  rintro _ K ⟨s, n, l, v, rfl, ⟨hs, hv⟩, hK⟩
  unfold changeR changeE at hK
  by_cases he : bmErr s n = 0
  case neg =>
    rw [if_pos he, if_neg he] at hK
    (repeat' ((conv => whnf); (fail_if_success (refine ⟨(?_ : Nat), (?_ : _ < _), ?_⟩)); (fail_if_success (refine ⟨(?_ : RV), ?_⟩)); (fail_if_success (refine ⟨(?_ : List RV), ?_⟩)); first | refine CMP_t (by omega) ?_ | refine CMP_f (by omega) ?_ | refine And.intro rfl ?_ | refine ⟨_, _, rfl, (by repeat' (first | omega | assumption | exact trivial | refine And.intro ?_ ?_)), ?_⟩ | fail)) <;> try (conv => whnf)
    (refine ⟨_, ?_, ?_, hK⟩ <;> repeat' (first | exact rfl | exact trivial | exact flat_runs _ | exact flat_pI _ | exact (fun _ h => by cases h) | refine ⟨?_, ?_⟩))
  obtain ⟨h1, h2, h3, h4, h5⟩ := bmErr_ok he
  simp only [he, ne_eq, not_true_eq_false, if_false] at hK
  (repeat' ((conv => whnf); (fail_if_success (refine ⟨(?_ : Nat), (?_ : _ < _), ?_⟩)); (fail_if_success (refine ⟨(?_ : RV), ?_⟩)); (fail_if_success (refine ⟨(?_ : List RV), ?_⟩)); first | refine CMP_t (by omega) ?_ | refine And.intro rfl ?_ | refine ⟨_, _, rfl, (by repeat' (first | omega | assumption | exact trivial | refine And.intro ?_ ?_)), ?_⟩ | refine ⟨_, _, _, _, _, rfl, rfl, (by repeat' (first | omega | assumption | exact trivial | refine And.intro ?_ ?_)), ?_⟩ | fail)) <;> try (conv => whnf)
  refine fun B' hB hb => ?_
  by_cases hm : markErr (bitN s) n l v = 0
  · have e : B' = bmOf (markF (bitN s) l v) n.toNat := by
      refine bm_eq (markF_le (bitN_le s) hv) ?_ (fun j _ => hb hm j) fun j hj hj2 => ?_
      · have := ceil8_len8 h1; omega
      · rw [hb hm]; unfold markF; rw [mark_out hm j hj]; exact h5 j (by omega) hj
    rw [if_pos hm, ← e, hm] at hK
    rw [hm]
    (repeat' ((conv => whnf); (fail_if_success (refine ⟨(?_ : Nat), (?_ : _ < _), ?_⟩)); (fail_if_success (refine ⟨(?_ : RV), ?_⟩)); (fail_if_success (refine ⟨(?_ : List RV), ?_⟩)); first | refine CMP_f (by omega) ?_ | refine BTS ?_ | fail)) <;> try (conv => whnf)
    (refine ⟨_, ?_, ?_, hK⟩ <;> repeat' (first | exact rfl | exact trivial | exact flat_runs _ | exact flat_pI _ | exact (fun _ h => by cases h) | refine ⟨?_, ?_⟩))
  · rw [if_neg hm] at hK
    (repeat' ((conv => whnf); (fail_if_success (refine ⟨(?_ : Nat), (?_ : _ < _), ?_⟩)); (fail_if_success (refine ⟨(?_ : RV), ?_⟩)); (fail_if_success (refine ⟨(?_ : List RV), ?_⟩)); first | refine CMP_t (by omega) ?_ | fail)) <;> try (conv => whnf)
    (refine ⟨_, ?_, ?_, hK⟩ <;> repeat' (first | exact rfl | exact trivial | exact flat_runs _ | exact flat_pI _ | exact (fun _ h => by cases h) | refine ⟨?_, ?_⟩))
def S_Marked (v : Nat) : Spec := mkS true false fun ps K => ∃ (s : List UInt8) (n : Int) (l : List Rn), ps = [.str s, pI n, .sl 2 (l.map Rn.pv)] ∧ (s.length ≤ 1000000) ∧ K (.tup [.pv (.str (changeR s n l v)), .pv (pI (changeE s n l v))])
theorem meets_Marked : Meets (ctxOf [(n_bitmap_changed, S_changed)]) s_bitmap_Marked c_bitmap_Marked r_bitmap_Marked (S_Marked 1) := by
  rintro _ K ⟨s, n, l, rfl, hs, hK⟩
  refine ⟨s, n, l, 1, rfl, by omega, ?_⟩
  (conv => whnf)
  (refine ⟨_, ?_, ?_, hK⟩ <;> repeat' (first | exact rfl | exact trivial | exact flat_runs _ | exact flat_pI _ | exact (fun _ h => by cases h) | refine ⟨?_, ?_⟩))
theorem meets_Cleared : Meets (ctxOf [(n_bitmap_changed, S_changed)]) s_bitmap_Cleared c_bitmap_Cleared r_bitmap_Cleared (S_Marked 0) := by
  rintro _ K ⟨s, n, l, rfl, hs, hK⟩
  refine ⟨s, n, l, 0, rfl, by omega, ?_⟩
  (conv => whnf)
  (refine ⟨_, ?_, ?_, hK⟩ <;> repeat' (first | exact rfl | exact trivial | exact flat_runs _ | exact flat_pI _ | exact (fun _ h => by cases h) | refine ⟨?_, ?_⟩))
def ofE (l : List Rn) (n : Int) : Int := if sizeErr n ≠ 0 then sizeErr n else markErr (fun _ => 0) n l 1
def ofR (l : List Rn) (n : Int) : List UInt8 := if ofE l n = 0 then bmOf (markF (fun _ => 0) l 1) n.toNat else []
def S_BitmapOf : Spec := mkS true false fun ps K => ∃ (l : List Rn) (n : Int), ps = [.sl 2 (l.map Rn.pv), pI n] ∧ K (.tup [.pv (.str (ofR l n)), .pv (pI (ofE l n))])
theorem sizeErr2 {n : Int} (h : sizeErr n ≠ 0) : sizeErr n = 2 := by
  unfold sizeErr at h ⊢
  split
  · rename_i h'; rw [if_pos h'] at h; exact absurd rfl h
  · rfl
theorem meets_BitmapOf : Meets (ctxOf [(n_bitmap_fresh, S_fresh), (n_bitmap_bitmap_put, mkM M_put)]) s_bitmap_BitmapOf c_bitmap_BitmapOf r_bitmap_BitmapOf S_BitmapOf := by
  rintro _ K ⟨l, n, rfl, hK⟩
  unfold ofR ofE at hK
  refine ⟨n, rfl, fun h => ?_, fun h => ?_⟩
  · have hn := sizeErr0 h
    simp only [h, ne_eq, not_true_eq_false, if_false] at hK
    have hz : (zerosL (len8 n.toNat)).length = len8 n.toNat := by simp [zerosL]
    have hz2 : bitN (zerosL (len8 n.toNat)) = fun _ => 0 := by funext i; exact bitN_zeros _ i
    have hl8 : len8 n.toNat ≤ 512 ∧ n.toNat ≤ 8 * len8 n.toNat := by unfold len8; omega
    (repeat' ((conv => whnf); (fail_if_success (refine ⟨(?_ : Nat), (?_ : _ < _), ?_⟩)); (fail_if_success (refine ⟨(?_ : RV), ?_⟩)); (fail_if_success (refine ⟨(?_ : List RV), ?_⟩)); first | refine CMP_t (by omega) ?_ | refine And.intro rfl ?_ | fail)) <;> try (conv => whnf)
    refine ⟨false, zerosL (len8 n.toNat), n, l, 1, rfl, rfl, by omega, fun B' hB hb => ?_⟩
    rw [hz2] at hb ⊢
    by_cases hm : markErr (fun _ => 0) n l 1 = 0
    · have e : B' = bmOf (markF (fun _ => 0) l 1) n.toNat := by
        refine bm_eq (markF_le (fun _ => Nat.zero_le _) (Nat.le_refl _)) (by omega) (fun j _ => hb hm j) fun j hj hj2 => ?_
        rw [hb hm]; unfold markF; rw [mark_out hm j hj]; rfl
      rw [if_pos hm, ← e, hm] at hK
      rw [hm]
      (repeat' ((conv => whnf); (fail_if_success (refine ⟨(?_ : Nat), (?_ : _ < _), ?_⟩)); (fail_if_success (refine ⟨(?_ : RV), ?_⟩)); (fail_if_success (refine ⟨(?_ : List RV), ?_⟩)); first | refine CMP_f (by omega) ?_ | refine BTS ?_ | fail)) <;> try (conv => whnf)
      (refine ⟨_, ?_, ?_, hK⟩ <;> repeat' (first | exact rfl | exact trivial | exact flat_runs _ | exact flat_pI _ | exact (fun _ h => by cases h) | refine ⟨?_, ?_⟩))
    · rw [if_neg hm] at hK
      (repeat' ((conv => whnf); (fail_if_success (refine ⟨(?_ : Nat), (?_ : _ < _), ?_⟩)); (fail_if_success (refine ⟨(?_ : RV), ?_⟩)); (fail_if_success (refine ⟨(?_ : List RV), ?_⟩)); first | refine CMP_t (by omega) ?_ | fail)) <;> try (conv => whnf)
      (refine ⟨_, ?_, ?_, hK⟩ <;> repeat' (first | exact rfl | exact trivial | exact flat_runs _ | exact flat_pI _ | exact (fun _ h => by cases h) | refine ⟨?_, ?_⟩))
  · rw [if_pos h, if_neg h, sizeErr2 h] at hK
    (repeat' ((conv => whnf); (fail_if_success (refine ⟨(?_ : Nat), (?_ : _ < _), ?_⟩)); (fail_if_success (refine ⟨(?_ : RV), ?_⟩)); (fail_if_success (refine ⟨(?_ : List RV), ?_⟩)); first | refine CMP_t (by omega) ?_ | refine CMP_f (by omega) ?_ | refine And.intro rfl ?_ | fail)) <;> try (conv => whnf)
    (refine ⟨_, ?_, ?_, hK⟩ <;> repeat' (first | exact rfl | exact trivial | exact flat_runs _ | exact flat_pI _ | exact (fun _ h => by cases h) | refine ⟨?_, ?_⟩))
end Go.Dv.Try
end
