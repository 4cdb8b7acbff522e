/-
  A part of the proof: own texts, laid together by a tool of our own: P06a P06b P06c P06d P06e P06f F06a F06b F06c F06d F06e F06f I83a I83b I83c F06g F06h F06i F06j F06k F06l F06m.
-/
import Derived.Test.YtklihepoaoceoaaDv4
import Derived.Test.YtklihepoaoceoaaCd
import Derived.KernelRfl
import Derived.Shelf.Abstract
section
/-
  Plain laws of chapter 6: shifts and lengths of copies.
-/
namespace Go.Dv.Try
open Go Go.Dv

/-- How many bits a number has. -/
def blen (n : Nat) : Nat := if n = 0 then 0 else Nat.log2 n + 1

theorem blen_le {n k : Nat} : blen n ≤ k ↔ n < 2 ^ k := by
  unfold blen
  split
  · rename_i h; subst h; simp [Nat.two_pow_pos]
  · rename_i h
    rw [Nat.succ_le_iff]
    exact Nat.log2_lt h

def shiftN (a : Nat) : Nat := max 4 (blen (a - 1))
def shiftZ (a : Int) : Int := (shiftN a.toNat : Int)
def longN (a : Nat) : Nat := 2 ^ (16 - shiftN a) + 2
def longZ (a : Int) : Int := (longN a.toNat : Int)

theorem shiftN_le {a : Nat} (h : a ≤ 4096) : shiftN a ≤ 12 := by
  unfold shiftN
  rw [Nat.max_le]
  exact ⟨by omega, blen_le.2 (by omega)⟩
theorem shiftN_ge (a : Nat) : 4 ≤ shiftN a := Nat.le_max_left ..

theorem shift_bounds {a : Int} (h : a ≤ 4096) : 4 ≤ shiftZ a ∧ shiftZ a ≤ 12 := by
  have := shiftN_le (a := a.toNat) (by omega)
  have := shiftN_ge a.toNat
  unfold shiftZ; omega

theorem long_bounds {a : Int} (h : a ≤ 4096) : 18 ≤ longZ a ∧ longZ a ≤ 4098 := by
  have h1 := shiftN_le (a := a.toNat) (by omega)
  have h2 := shiftN_ge a.toNat
  unfold longZ longN
  have h3 : 2 ^ 4 ≤ 2 ^ (16 - shiftN a.toNat) := Nat.pow_le_pow_right (by omega) (by omega)
  have h4 : 2 ^ (16 - shiftN a.toNat) ≤ 2 ^ 12 := Nat.pow_le_pow_right (by omega) (by omega)
  omega

/-- The least shift, by trying. -/
theorem shift_up {a s : Nat} (h : 4 ≤ s) : shiftN a ≤ s ↔ a ≤ 2 ^ s := by
  unfold shiftN
  rw [Nat.max_le, blen_le]
  have := Nat.two_pow_pos s
  omega
end Go.Dv.Try
end
section
/-
  Plain laws of chapter 6: tokens and matches.
-/
namespace Go.Dv.Try
open Go Go.Dv

abbrev pI (n : Int) : PV := .int .i64 n
abbrev pB (b : Bool) : PV := .bool b

/-- A token: distance, length, byte. -/
structure Tok where
  d : Int
  l : Int
  b : Int
deriving DecidableEq

def Tok.pv (t : Tok) : PV := .agg [pI t.d, pI t.l, pI t.b]
def Tok.copy (t : Tok) : Bool := decide (t.d ≠ 0)
def Tok.made (t : Tok) : Int := if t.d ≠ 0 then t.l else 1

/-- How many bytes match, from n on, at most m more. -/
def mrun (d : List UInt8) (a k n : Nat) : Nat → Nat
  | 0 => n
  | m + 1 => if d[a + n]? = d[a + n - k]? then mrun d a k (n + 1) m else n

def roomN (d : List UInt8) (a : Nat) : Nat := min (longN a) (d.length - a)
def matchN (d : List UInt8) (a k : Nat) : Nat := mrun d a k 0 (roomN d a)

theorem mrun_le (d : List UInt8) (a k : Nat) : ∀ (m n : Nat), n ≤ mrun d a k n m ∧ mrun d a k n m ≤ n + m := by
  intro m
  induction m with
  | zero => intro n; simp [mrun]
  | succ m ih =>
    intro n
    unfold mrun
    split
    · have := ih (n + 1); omega
    · omega

theorem matchN_le (d : List UInt8) (a k : Nat) : matchN d a k ≤ roomN d a := by
  have := mrun_le d a k (roomN d a) 0
  unfold matchN; omega
end Go.Dv.Try
end
section
/-
  Plain laws of chapter 6: the best match and the greedy tokens.
-/
namespace Go.Dv.Try
open Go Go.Dv

def litN (d : List UInt8) (a : Nat) : Tok := ⟨0, 0, ((d[a]?.getD 0).toNat : Int)⟩

/-- The best match with the distances from k on, m of them. -/
def bestRun (d : List UInt8) (a : Nat) : Nat → Nat → Nat → Nat → Nat × Nat
  | 0, _, dist, most => (dist, most)
  | m + 1, k, dist, most =>
    if most < roomN d a then (if most < matchN d a k then bestRun d a m (k + 1) k (matchN d a k) else bestRun d a m (k + 1) dist most)
    else (dist, most)
def bestN (d : List UInt8) (a : Nat) : Nat × Nat := bestRun d a a 1 0 0

def copyN (p : Nat × Nat) : Tok := ⟨(p.1 : Int), (p.2 : Int), 0⟩
theorem bestRun_le (d : List UInt8) (a : Nat) : ∀ (m k dist most : Nat), most ≤ roomN d a → (most = 0 ∨ 1 ≤ dist) → 1 ≤ k → (bestRun d a m k dist most).2 ≤ roomN d a ∧ ((bestRun d a m k dist most).2 = 0 ∨ 1 ≤ (bestRun d a m k dist most).1) := by
  intro m
  induction m with
  | zero => intro k dist most h1 h2 _; exact ⟨h1, h2⟩
  | succ m ih =>
    intro k dist most h1 h2 h3
    unfold bestRun
    split
    · split
      · exact ih _ _ _ (matchN_le d a k) (.inr h3) (by omega)
      · exact ih _ _ _ h1 h2 (by omega)
    · exact ⟨h1, h2⟩

theorem bestN_le (d : List UInt8) (a : Nat) : (bestN d a).2 ≤ roomN d a ∧ ((bestN d a).2 = 0 ∨ 1 ≤ (bestN d a).1) := bestRun_le d a a 1 0 0 (Nat.zero_le _) (.inl rfl) (Nat.le_refl _)

end Go.Dv.Try
end
section
/-
  Plain laws of chapter 6: the matches that have more bytes than all before them.
-/
namespace Go.Dv.Try
open Go Go.Dv

/-- The matches with the distances from k on, m of them, that have more than 'most' bytes and more than all before. -/
def recsRun (d : List UInt8) (a : Nat) : Nat → Nat → Nat → List (Nat × Nat)
  | 0, _, _ => []
  | m + 1, k, most => if most < roomN d a then (if most < matchN d a k then (k, matchN d a k) :: recsRun d a m (k + 1) (matchN d a k) else recsRun d a m (k + 1) most) else []
def recsN (d : List UInt8) (a : Nat) : List (Nat × Nat) := recsRun d a a 1 0

/-- The last of them is the best match. -/
theorem bestRun_recs (d : List UInt8) (a : Nat) : ∀ (m k dist most : Nat), bestRun d a m k dist most = ((dist, most) :: recsRun d a m k most).getLast (by simp) := by
  intro m
  induction m with
  | zero => intro k dist most; rfl
  | succ m ih =>
    intro k dist most
    unfold bestRun recsRun
    split
    · split
      · rw [ih]
        exact (List.getLast_cons (a := (dist, most)) (by simp)).symm
      · exact ih _ _ _
    · rfl

theorem mrun_stop (d : List UInt8) (a k : Nat) : ∀ (m n b : Nat), n ≤ b → b < n + m → d[a + b]? ≠ d[a + b - k]? → mrun d a k n m ≤ b := by
  intro m
  induction m with
  | zero => intro n b h1 h2; omega
  | succ m ih =>
    intro n b h1 h2 h3
    unfold mrun
    split
    · rename_i he
      by_cases hb : n = b
      · subst hb; exact absurd he h3
      · exact ih _ _ (by omega) (by omega) h3
    · omega

/-- A match that differs at place b has at most b bytes. -/
theorem matchN_stop (d : List UInt8) (a k b : Nat) (h : b < roomN d a) (h3 : d[a + b]? ≠ d[a + b - k]?) : matchN d a k ≤ b := mrun_stop d a k _ 0 b (Nat.zero_le _) (by omega) h3
end Go.Dv.Try
end
section
/-
  Plain laws of chapter 6: costs, and the optimal tokens.
-/
namespace Go.Dv.Try
open Go Go.Dv

/-- The least of o and of the copies' costs, from so many bytes on, m of them; t: the costs behind. -/
def minRun (t : List Int) : Nat → Nat → Int → Int
  | 0, _, o => o
  | m + 1, n, o => minRun t m (n + 1) (min o (17 + t.getD (n - 1) 0))
def costT (d : List UInt8) (a : Nat) (t : List Int) : Int := minRun t ((bestN d a).2 - 2) 3 (9 + t.getD 0 0)
def costsT (d : List UInt8) : Nat → List Int
  | 0 => [0]
  | m + 1 => costT d (d.length - (m + 1)) (costsT d m) :: costsT d m
def costsN (d : List UInt8) : List Int := costsT d d.length

theorem costsT_len (d : List UInt8) : ∀ m, (costsT d m).length = m + 1
  | 0 => rfl
  | m + 1 => by simp [costsT, costsT_len d m]

theorem minRun_le (t : List Int) : ∀ (m n : Nat) (o : Int), minRun t m n o ≤ o := by
  intro m
  induction m with
  | zero => intro n o; exact Int.le_refl _
  | succ m ih => intro n o; have := ih (n + 1) (min o (17 + t.getD (n - 1) 0)); unfold minRun; omega

theorem minRun_ge (t : List Int) (b : Int) : ∀ (m n : Nat) (o : Int), b ≤ o → (∀ k, n ≤ k → k < n + m → b ≤ 17 + t.getD (k - 1) 0) → b ≤ minRun t m n o := by
  intro m
  induction m with
  | zero => intro n o h _; exact h
  | succ m ih =>
    intro n o h1 h2
    unfold minRun
    refine ih (n + 1) _ ?_ (fun k hk hk2 => h2 k (by omega) (by omega))
    have := h2 n (Nat.le_refl _) (by omega)
    omega

/-- The least is one of them. -/
theorem minRun_is (t : List Int) : ∀ (m n : Nat) (o : Int), minRun t m n o = o ∨ ∃ k, n ≤ k ∧ k < n + m ∧ minRun t m n o = 17 + t.getD (k - 1) 0 := by
  intro m
  induction m with
  | zero => intro n o; exact .inl rfl
  | succ m ih =>
    intro n o
    unfold minRun
    rcases ih (n + 1) (min o (17 + t.getD (n - 1) 0)) with h | ⟨k, h1, h2, h3⟩
    · rw [h]
      rcases Int.le_total o (17 + t.getD (n - 1) 0) with h' | h'
      · exact .inl (by omega)
      · exact .inr ⟨n, Nat.le_refl _, by omega, by omega⟩
    · exact .inr ⟨k, by omega, by omega, h3⟩

theorem getD_nonneg {t : List Int} (h : ∀ x ∈ t, 0 ≤ x) (i : Nat) : 0 ≤ t.getD i 0 := by
  rw [List.getD_eq_getElem?_getD]
  cases hx : t[i]? with
  | none => simp
  | some x => exact h x (List.mem_of_getElem? hx)

theorem costT_bounds (d : List UInt8) (a : Nat) (t : List Int) (h : ∀ x ∈ t, 0 ≤ x) : 0 ≤ costT d a t ∧ costT d a t ≤ 9 + t.getD 0 0 := by
  unfold costT
  refine ⟨minRun_ge _ _ _ _ _ (by have := getD_nonneg h 0; omega) (fun k _ _ => by have := getD_nonneg h (k - 1); omega), minRun_le _ _ _ _⟩

theorem costsT_bounds (d : List UInt8) : ∀ m, ∀ x ∈ costsT d m, 0 ≤ x ∧ x ≤ 9 * m := by
  intro m
  induction m with
  | zero => intro x hx; simp [costsT] at hx; omega
  | succ m ih =>
    intro x hx
    simp only [costsT, List.mem_cons] at hx
    rcases hx with rfl | hx
    · have h1 := costT_bounds d (d.length - (m + 1)) (costsT d m) (fun x hx => (ih x hx).1)
      have h2 : (costsT d m).getD 0 0 ≤ 9 * m := by
        cases hc : costsT d m with
        | nil => simp; omega
        | cons y ys => have := ih y (by rw [hc]; simp); simp; omega
      omega
    · have := ih x hx; omega

/-- The costs from a position on. -/
theorem costsT_drop (d : List UInt8) : ∀ m k, k ≤ m → (costsT d m).drop k = costsT d (m - k) := by
  intro m
  induction m with
  | zero => intro k h; have : k = 0 := by omega
            subst this; rfl
  | succ m ih =>
    intro k h
    cases k with
    | zero => rfl
    | succ k => simp only [costsT, List.drop_succ_cons]; rw [ih k (by omega)]; congr 1; omega

theorem costsN_at (d : List UInt8) (a : Nat) (h : a < d.length) : (costsN d)[a]? = some (costT d a ((costsN d).drop (a + 1))) := by
  unfold costsN
  have h1 := costsT_drop d d.length a (by omega)
  have h2 := costsT_drop d d.length (a + 1) (by omega)
  rw [h2]
  have h3 : (costsT d d.length)[a]? = ((costsT d d.length).drop a)[0]? := by simp
  rw [h3, h1]
  obtain ⟨m, hm⟩ : ∃ m, d.length - a = m + 1 := ⟨d.length - a - 1, by omega⟩
  rw [hm]
  simp only [costsT, List.getElem?_cons_zero]
  congr 2
  · omega
  · congr 1; omega

/-! ### The optimal tokens -/
/-- The least number of bytes, from n on, whose copy has the cost of the position. -/
def findRun (c : List Int) (a : Nat) : Nat → Nat → Nat
  | 0, n => n
  | m + 1, n => if 17 + c.getD (a + n) 0 ≠ c.getD a 0 then findRun c a m (n + 1) else n

/-- The smallest distance, from k on, whose match has so many bytes. -/
def nearRun (d : List UInt8) (a n : Nat) : Nat → Nat → Nat
  | 0, k => k
  | m + 1, k => if matchN d a k < n then nearRun d a n m (k + 1) else k

theorem findRun_spec (c : List Int) (a : Nat) : ∀ (m n k : Nat), n ≤ k → k < n + m → 17 + c.getD (a + k) 0 = c.getD a 0 → n ≤ findRun c a m n ∧ findRun c a m n ≤ k ∧ 17 + c.getD (a + findRun c a m n) 0 = c.getD a 0 := by
  intro m
  induction m with
  | zero => intro n k h1 h2; omega
  | succ m ih =>
    intro n k h1 h2 h3
    unfold findRun
    split
    · rename_i h
      by_cases he : n = k
      · subst he; exact absurd h3 h
      · have := ih (n + 1) k (by omega) (by omega) h3
        omega
    · rename_i h
      have : 17 + c.getD (a + n) 0 = c.getD a 0 := Decidable.of_not_not h
      exact ⟨Nat.le_refl _, h1, this⟩

theorem getD_drop1 (c : List Int) (a n : Nat) (h : 1 ≤ n) : (c.drop (a + 1)).getD (n - 1) 0 = c.getD (a + n) 0 := by
  rw [List.getD_eq_getElem?_getD, List.getD_eq_getElem?_getD, List.getElem?_drop]
  congr 2; omega

/-- Where a literal does not have the cost, a copy of at most the best match's bytes has it. -/
theorem cost_copy (d : List UInt8) (a : Nat) (h : a < d.length) (hne : 9 + (costsN d).getD (a + 1) 0 ≠ (costsN d).getD a 0) : ∃ k, 3 ≤ k ∧ k ≤ (bestN d a).2 ∧ 17 + (costsN d).getD (a + k) 0 = (costsN d).getD a 0 := by
  have h1 := costsN_at d a h
  have h2 : (costsN d).getD a 0 = costT d a ((costsN d).drop (a + 1)) := by rw [List.getD_eq_getElem?_getD, h1]; rfl
  have h3 := getD_drop1 (costsN d) a 1 (Nat.le_refl _)
  unfold costT at h2
  rcases minRun_is ((costsN d).drop (a + 1)) ((bestN d a).2 - 2) 3 (9 + ((costsN d).drop (a + 1)).getD 0 0) with h4 | ⟨k, h4, h5, h6⟩
  · rw [h4] at h2; rw [h2, ← h3] at hne; exact absurd rfl hne
  · refine ⟨k, h4, by omega, ?_⟩
    rw [h2, h6, getD_drop1 _ _ _ (by omega)]

theorem recs_near (d : List UInt8) (a n : Nat) : ∀ (m k most : Nat), (∃ p ∈ recsRun d a m k most, n ≤ p.2) → ((recsRun d a m k most).find? fun p => decide (n ≤ p.2)).elim 0 (·.1) = nearRun d a n m k ∨ n ≤ most := by
  intro m
  induction m with
  | zero => intro k most ⟨p, hp, _⟩; simp [recsRun] at hp
  | succ m ih =>
    intro k most hp
    by_cases hn : n ≤ most
    · exact .inr hn
    refine .inl ?_
    unfold recsRun at hp ⊢
    unfold nearRun
    split at hp
    · rename_i hr
      rw [if_pos hr]
      split at hp
      · rename_i hm
        rw [if_pos hm]
        by_cases h : n ≤ matchN d a k
        · rw [List.find?_cons_of_pos (by simpa using h), if_neg (by omega)]; rfl
        · rw [List.find?_cons_of_neg (by simpa using h), if_pos (by omega)]
          obtain ⟨p, hp, hpn⟩ := hp
          rcases List.mem_cons.1 hp with rfl | hp
          · exact absurd hpn h
          · rcases ih (k + 1) (matchN d a k) ⟨p, hp, hpn⟩ with h' | h'
            · exact h'
            · exact absurd h' h
      · rename_i hm
        rw [if_neg hm, if_pos (by omega)]
        rcases ih (k + 1) most hp with h' | h'
        · exact h'
        · exact absurd h' hn
    · obtain ⟨p, hp, _⟩ := hp; simp at hp

/-- The nearest match with so many bytes. -/
def nearN (d : List UInt8) (a n : Nat) : Nat := ((recsN d a).find? fun p => decide (n ≤ p.2)).elim 0 (·.1)

theorem best_rec (d : List UInt8) (a : Nat) (h : 0 < (bestN d a).2) : bestN d a ∈ recsN d a := by
  unfold bestN at h ⊢
  rw [bestRun_recs] at h ⊢
  show _ ∈ recsRun d a a 1 0
  generalize recsRun d a a 1 0 = l at h
  cases l with
  | nil => simp at h
  | cons x l => rw [List.getLast_cons (by simp)]; exact List.getLast_mem _

theorem near_eq (d : List UInt8) (a n : Nat) (h1 : 1 ≤ n) (h2 : n ≤ (bestN d a).2) : nearN d a n = nearRun d a n a 1 := by
  rcases recs_near d a n a 1 0 ⟨_, best_rec d a (by omega), h2⟩ with h | h
  · exact h
  · omega

theorem recs_match (d : List UInt8) (a : Nat) : ∀ (m k most : Nat), ∀ p ∈ recsRun d a m k most, k ≤ p.1 ∧ p.1 < k + m ∧ p.2 = matchN d a p.1 := by
  intro m
  induction m with
  | zero => intro k most p hp; simp [recsRun] at hp
  | succ m ih =>
    intro k most p hp
    unfold recsRun at hp
    split at hp
    · split at hp
      · rcases List.mem_cons.1 hp with rfl | hp
        · exact ⟨Nat.le_refl _, by simp only; omega, rfl⟩
        · have := ih _ _ p hp; omega
      · have := ih _ _ p hp; omega
    · simp at hp

theorem nearRun_spec (d : List UInt8) (a n : Nat) : ∀ (m k q : Nat), k ≤ q → q < k + m → n ≤ matchN d a q → k ≤ nearRun d a n m k ∧ nearRun d a n m k ≤ q ∧ n ≤ matchN d a (nearRun d a n m k) := by
  intro m
  induction m with
  | zero => intro k q h1 h2; omega
  | succ m ih =>
    intro k q h1 h2 h3
    unfold nearRun
    split
    · rename_i h
      by_cases he : k = q
      · subst he; omega
      · have := ih (k + 1) q (by omega) (by omega) h3; omega
    · exact ⟨Nat.le_refl _, h1, by omega⟩

def optAt (d : List UInt8) (c : List Int) (a : Nat) : Tok :=
  if 9 + c.getD (a + 1) 0 ≠ c.getD a 0 then copyN (nearN d a (findRun c a (d.length - a) 3), findRun c a (d.length - a) 3) else litN d a
def optRun (d : List UInt8) (c : List Int) : Nat → Nat → List Tok
  | 0, _ => []
  | m + 1, a => if a < d.length then optAt d c a :: optRun d c m (a + (optAt d c a).made.toNat) else []
def optN (d : List UInt8) : List Tok := optRun d (costsN d) d.length 0

/-- What is found for a copy. -/
theorem opt_find (d : List UInt8) (a : Nat) (h : a < d.length) (hne : 9 + (costsN d).getD (a + 1) 0 ≠ (costsN d).getD a 0) :
    3 ≤ findRun (costsN d) a (d.length - a) 3 ∧ findRun (costsN d) a (d.length - a) 3 ≤ (bestN d a).2 ∧ a + findRun (costsN d) a (d.length - a) 3 ≤ d.length ∧ 17 + (costsN d).getD (a + findRun (costsN d) a (d.length - a) 3) 0 = (costsN d).getD a 0 := by
  obtain ⟨k, h1, h2, h3⟩ := cost_copy d a h hne
  have hb := bestN_le d a
  have hr : roomN d a ≤ d.length - a := Nat.min_le_right _ _
  have := findRun_spec (costsN d) a (d.length - a) 3 k h1 (by omega) h3
  omega

theorem near_pos (d : List UInt8) (a n : Nat) (h1 : 1 ≤ n) (h2 : n ≤ (bestN d a).2) : 1 ≤ nearN d a n ∧ nearN d a n ≤ a ∧ n ≤ matchN d a (nearN d a n) := by
  rw [near_eq d a n h1 h2]
  have hm := best_rec d a (by omega)
  have := recs_match d a a 1 0 _ hm
  have h3 := nearRun_spec d a n a 1 (bestN d a).1 (by omega) (by omega) (by omega)
  omega

theorem optAt_made (d : List UInt8) (a : Nat) (h : a < d.length) : 1 ≤ (optAt d (costsN d) a).made ∧ a + (optAt d (costsN d) a).made ≤ d.length := by
  unfold optAt
  split
  · rename_i hne
    have h1 := opt_find d a h hne
    have h2 := near_pos d a _ (by omega) h1.2.1
    unfold Tok.made copyN
    simp only
    rw [if_pos (by omega)]
    omega
  · simp [litN, Tok.made]; omega

theorem optRun_more (d : List UInt8) : ∀ (m a : Nat), d.length ≤ a + m → optRun d (costsN d) m a = optRun d (costsN d) (m + 1) a := by
  intro m
  induction m with
  | zero => intro a h; unfold optRun; rw [if_neg (by omega)]
  | succ m ih =>
    intro a h
    show (if a < d.length then optAt d (costsN d) a :: optRun d (costsN d) m (a + (optAt d (costsN d) a).made.toNat) else []) = (if a < d.length then optAt d (costsN d) a :: optRun d (costsN d) (m + 1) (a + (optAt d (costsN d) a).made.toNat) else [])
    split
    · rename_i hlt
      have h1 := optAt_made d a hlt
      rw [ih _ (by omega)]
    · rfl

theorem optRun_same (d : List UInt8) (a : Nat) : ∀ (j k : Nat), d.length ≤ a + k → optRun d (costsN d) (k + j) a = optRun d (costsN d) k a := by
  intro j
  induction j with
  | zero => intro k _; rfl
  | succ j ih => intro k hb; rw [← Nat.add_assoc, ← optRun_more d (k + j) a (by omega), ih k hb]

/-- One token more. -/
theorem optRun_step (d : List UInt8) (m a : Nat) (hm : a + (m + 1) = d.length) : optRun d (costsN d) (m + 1) a = optAt d (costsN d) a :: optRun d (costsN d) (m + 1 - (optAt d (costsN d) a).made.toNat) (a + (optAt d (costsN d) a).made.toNat) := by
  have h1 := optAt_made d a (by omega)
  show (if a < d.length then optAt d (costsN d) a :: optRun d (costsN d) m (a + (optAt d (costsN d) a).made.toNat) else []) = _
  rw [if_pos (by omega)]
  congr 1
  have := optRun_same d (a + (optAt d (costsN d) a).made.toNat) ((optAt d (costsN d) a).made.toNat - 1) (m + 1 - (optAt d (costsN d) a).made.toNat) (by omega)
  rw [← this]
  congr 1
  omega
end Go.Dv.Try
end
section
/-
  Plain laws: bits of numbers, bytes of words.
-/
namespace Go.Dv.Try
open Go Go.Dv

theorem ofInt_nat {n : Nat} {w : Nat} (h : n < 2 ^ w) : (BitVec.ofInt w (n : Int)).toNat = n := by
  rw [BitVec.ofInt_natCast, BitVec.toNat_ofNat, Nat.mod_eq_of_lt h]

theorem wrapI64n {n : Nat} (h : n < 2 ^ 62) : IntKind.i64.wrap (n : Int) = n := by
  have : (2 : Nat) ^ 62 = 4611686018427387904 := by decide
  exact wrap64 (by omega)

theorem or64 {a b : Nat} (ha : a < 2 ^ 62) (hb : b < 2 ^ 62) : bitsOp .or .i64 (a : Int) (b : Int) = ((a ||| b : Nat) : Int) := by
  unfold bitsOp
  have h1 := Nat.or_lt_two_pow ha hb
  have e : IntKind.i64.bits = 64 := rfl
  simp only [e, BitVec.toNat_or]
  rw [ofInt_nat (Nat.lt_of_lt_of_le ha (by decide)), ofInt_nat (Nat.lt_of_lt_of_le hb (by decide))]
  exact wrapI64n h1

theorem and64 {a b : Nat} (ha : a < 2 ^ 62) (hb : b < 2 ^ 62) : bitsOp .and .i64 (a : Int) (b : Int) = ((a &&& b : Nat) : Int) := by
  unfold bitsOp
  have h1 : a &&& b < 2 ^ 62 := Nat.lt_of_le_of_lt Nat.and_le_left ha
  have e : IntKind.i64.bits = 64 := rfl
  simp only [e, BitVec.toNat_and]
  rw [ofInt_nat (Nat.lt_of_lt_of_le ha (by decide)), ofInt_nat (Nat.lt_of_lt_of_le hb (by decide))]
  exact wrapI64n h1

theorem wrap8n {n : Nat} (h : n < 256) : IntKind.u8.wrap (n : Int) = n := by
  have hb : IntKind.u8.bits = 8 := rfl
  simp only [IntKind.wrap, IntKind.signed, hb]
  simp; omega

theorem or8 {a b : Nat} (ha : a < 256) (hb : b < 256) : bitsOp .or .u8 (a : Int) (b : Int) = ((a ||| b : Nat) : Int) := by
  unfold bitsOp
  have h1 : a ||| b < 2 ^ 8 := Nat.or_lt_two_pow ha hb
  have e : IntKind.u8.bits = 8 := rfl
  simp only [e, BitVec.toNat_or]
  rw [ofInt_nat ha, ofInt_nat hb]
  exact wrap8n h1

theorem and8 {a b : Nat} (ha : a < 256) (hb : b < 256) : bitsOp .and .u8 (a : Int) (b : Int) = ((a &&& b : Nat) : Int) := by
  unfold bitsOp
  have h1 : a &&& b < 256 := Nat.lt_of_le_of_lt Nat.and_le_left ha
  have e : IntKind.u8.bits = 8 := rfl
  simp only [e, BitVec.toNat_and]
  rw [ofInt_nat ha, ofInt_nat hb]
  exact wrap8n h1

/-- Bits that lie above others. -/
theorem or_add {a k b : Nat} (h : a < 2 ^ k) : a ||| (2 ^ k * b) = a + 2 ^ k * b := by
  rw [Nat.or_comm, ← Nat.two_pow_add_eq_or_of_lt h, Nat.add_comm]

theorem and_mod (a k : Nat) : a &&& (2 ^ k - 1) = a % 2 ^ k := Nat.and_two_pow_sub_one_eq_mod a k

/-- A byte. -/
def byteN (n : Nat) : UInt8 := UInt8.ofNat n
theorem byteN_toNat {n : Nat} (h : n < 256) : (byteN n).toNat = n := by simp [byteN]; omega
theorem byteP_of {n : Int} (h : 0 ≤ n ∧ n < 256) : PV.int .u8 n = byteP (byteN n.toNat) := by
  unfold byteP; rw [byteN_toNat (by omega)]
  congr 1; omega

/-- The two bytes of a word, the lower one first. -/
def wordN (n : Nat) : List UInt8 := [byteN (n % 256), byteN (n / 256 % 256)]

def tokB (t : Tok) (a : Nat) : List UInt8 := if t.d ≠ 0 then wordN ((t.d.toNat - 1) * 2 ^ (16 - shiftN a) + t.l.toNat - 3) else [byteN t.b.toNat]

/-- A token that may stand at a position. -/
def TokOk (t : Tok) (a : Nat) : Prop := a < 4096 ∧ if t.d ≠ 0 then t.b = 0 ∧ 1 ≤ t.d ∧ t.d ≤ a ∧ 3 ≤ t.l ∧ t.l ≤ longN a ∧ a + t.l ≤ 4096 else t.l = 0 ∧ 0 ≤ t.b ∧ t.b ≤ 255
def ToksOk : List Tok → Nat → Prop
  | [], _ => True
  | t :: l, a => TokOk t a ∧ ToksOk l (a + t.made.toNat)

theorem tok_made {t : Tok} {a : Nat} (h : TokOk t a) : 1 ≤ t.made ∧ a + t.made ≤ 4096 := by
  unfold TokOk at h
  unfold Tok.made
  obtain ⟨h1, h2⟩ := h
  split at h2
  · rw [if_pos ‹_›]; omega
  · rw [if_neg ‹_›]; omega

/-- The number of a copy. -/
theorem code_lt {t : Tok} {a : Nat} (h : TokOk t a) (hd : t.d ≠ 0) : (t.d.toNat - 1) * 2 ^ (16 - shiftN a) + t.l.toNat - 3 < 65536 ∧ (t.d.toNat - 1) < 2 ^ shiftN a ∧ t.l.toNat - 3 < 2 ^ (16 - shiftN a) := by
  unfold TokOk at h
  rw [if_pos hd] at h
  obtain ⟨h0, _, h1, h2, h3, h4, h5⟩ := h
  have hs := shiftN_le (a := a) (by omega)
  have h6 : t.d.toNat ≤ 2 ^ shiftN a := by
    have := (shift_up (a := a) (shiftN_ge a)).1 (Nat.le_refl _)
    omega
  have h7 : t.l.toNat ≤ 2 ^ (16 - shiftN a) + 2 := by unfold longN at h4; omega
  have h8 : 2 ^ shiftN a * 2 ^ (16 - shiftN a) = 65536 := by
    rw [← Nat.pow_add, show shiftN a + (16 - shiftN a) = 16 by omega]
  have h9 : (t.d.toNat - 1) * 2 ^ (16 - shiftN a) ≤ (2 ^ shiftN a - 1) * 2 ^ (16 - shiftN a) := Nat.mul_le_mul_right _ (by omega)
  rw [Nat.sub_mul (2 ^ shiftN a), h8, Nat.one_mul] at h9
  have := Nat.two_pow_pos (16 - shiftN a)
  have h10 : 2 ^ (16 - shiftN a) ≤ 2 ^ 16 := Nat.pow_le_pow_right (by omega) (by omega)
  refine ⟨?_, ?_, ?_⟩
  · generalize 2 ^ (16 - shiftN a) = p at *
    generalize (t.d.toNat - 1) * p = q at *
    have : (2 : Nat) ^ 16 = 65536 := by decide
    omega
  · omega
  · omega

/-- The bits of the copies among tokens, from a place on. -/
def signN : Nat → List Tok → Nat
  | _, [] => 0
  | k, t :: l => (if t.d ≠ 0 then 2 ^ k else 0) + signN (k + 1) l

theorem signN_lt : ∀ (l : List Tok) (k : Nat), signN k l + 2 ^ k ≤ 2 ^ (k + l.length) := by
  intro l
  induction l with
  | nil => intro k; simp [signN]
  | cons t l ih =>
    intro k
    have := ih (k + 1)
    simp only [signN, List.length_cons]
    rw [show k + (l.length + 1) = k + 1 + l.length by omega]
    have e : 2 ^ (k + 1) = 2 * 2 ^ k := by rw [Nat.pow_succ]; omega
    split <;> omega

theorem signN_append : ∀ (l m : List Tok) (k : Nat), signN k (l ++ m) = signN k l + signN (k + l.length) m := by
  intro l
  induction l with
  | nil => intro m k; simp [signN]
  | cons t l ih =>
    intro m k
    simp only [List.cons_append, signN, List.length_cons, ih]
    rw [show k + 1 + l.length = k + (l.length + 1) by omega]; omega

/-- The bytes of tokens from a position on. -/
def bytesT : List Tok → Nat → List UInt8
  | [], _ => []
  | t :: l, a => tokB t a ++ bytesT l (a + t.made.toNat)
def posT : List Tok → Nat → Nat
  | [], a => a
  | t :: l, a => posT l (a + t.made.toNat)

theorem bytesT_append : ∀ (l m : List Tok) (a : Nat), bytesT (l ++ m) a = bytesT l a ++ bytesT m (posT l a) := by
  intro l
  induction l with
  | nil => intro m a; rfl
  | cons t l ih => intro m a; simp only [List.cons_append, bytesT, posT, ih, List.append_assoc]
theorem posT_append : ∀ (l m : List Tok) (a : Nat), posT (l ++ m) a = posT m (posT l a) := by
  intro l
  induction l with
  | nil => intro m a; rfl
  | cons t l ih => intro m a; simp only [List.cons_append, posT, ih]
theorem toksOk_append : ∀ (l m : List Tok) (a : Nat), ToksOk (l ++ m) a ↔ ToksOk l a ∧ ToksOk m (posT l a) := by
  intro l
  induction l with
  | nil => intro m a; simp [ToksOk, posT]
  | cons t l ih => intro m a; simp only [List.cons_append, ToksOk, posT, ih, and_assoc]

/-- Groups of eight tokens, each behind the byte of its signs; n groups at most. -/
def bodyRun : Nat → List Tok → Nat → List UInt8
  | 0, _, _ => []
  | n + 1, l, a => if l = [] then [] else byteN (signN 0 (l.take 8)) :: (bytesT (l.take 8) a ++ bodyRun n (l.drop 8) (posT (l.take 8) a))
def bodyN (l : List Tok) : List UInt8 := bodyRun l.length l 0

theorem bodyRun_more : ∀ (n : Nat) (l : List Tok) (a : Nat), l.length ≤ n → bodyRun n l a = bodyRun (n + 1) l a := by
  intro n
  induction n with
  | zero => intro l a h; have : l = [] := List.eq_nil_of_length_eq_zero (by omega)
            subst this; rfl
  | succ n ih =>
    intro l a h
    unfold bodyRun
    split
    · rfl
    · rename_i hl
      have : 0 < l.length := List.length_pos_iff.2 hl
      rw [ih _ _ (by simp; omega)]

/-- The head of a chunk: so many bytes, packed or not. -/
def headN (count : Nat) (pk : Bool) : List UInt8 := wordN (count - 1 + 12288 + (if pk then 32768 else 0))
end Go.Dv.Try
end
section
/-
  Contracts of the small functions of chapter 6.
-/
namespace Go.Dv.Try
open Go Go.Dv


theorem pI_eq {a b : Int} (h : a = b) : pI a = pI b := by rw [h]
theorem pB_eq {a b : Bool} (h : a = true ↔ b = true) : pB a = pB b := by
  cases a <;> cases b <;> simp_all

/-! ### How many bits -/
theorem wrapU8 (n : Int) : IntKind.u8.wrap n = n % 256 := by
  have hb : IntKind.u8.bits = 8 := rfl
  simp only [IntKind.wrap, IntKind.signed, hb]
  simp

theorem wrapU64 {n : Int} (h : 0 ≤ n ∧ n < 18446744073709551616) : IntKind.u64.wrap n = n := by
  have hb : IntKind.u64.bits = 64 := rfl
  simp only [IntKind.wrap, IntKind.signed, hb]
  have : (2 : Int) ^ 64 = 18446744073709551616 := by decide
  simp_all
  omega

def R_math_bits_Len64 (ps : List PV) (x : PV) : Prop := ∃ n : Int, ps = [.int .u64 n] ∧ (0 ≤ n ∧ n ≤ 65535) ∧ x = pI (blen n.toNat)

def lenTab : List UInt8 := [0, 1, 2, 2, 3, 3, 3, 3, 4, 4, 4, 4, 4, 4, 4, 4, 5, 5, 5, 5, 5, 5, 5, 5, 5, 5, 5, 5, 5, 5, 5, 5, 6, 6, 6, 6, 6, 6, 6, 6, 6, 6, 6, 6, 6, 6, 6, 6, 6, 6, 6, 6, 6, 6, 6, 6, 6, 6, 6, 6, 6, 6, 6, 6, 7, 7, 7, 7, 7, 7, 7, 7, 7, 7, 7, 7, 7, 7, 7, 7, 7, 7, 7, 7, 7, 7, 7, 7, 7, 7, 7, 7, 7, 7, 7, 7, 7, 7, 7, 7, 7, 7, 7, 7, 7, 7, 7, 7, 7, 7, 7, 7, 7, 7, 7, 7, 7, 7, 7, 7, 7, 7, 7, 7, 7, 7, 7, 7, 8, 8, 8, 8, 8, 8, 8, 8, 8, 8, 8, 8, 8, 8, 8, 8, 8, 8, 8, 8, 8, 8, 8, 8, 8, 8, 8, 8, 8, 8, 8, 8, 8, 8, 8, 8, 8, 8, 8, 8, 8, 8, 8, 8, 8, 8, 8, 8, 8, 8, 8, 8, 8, 8, 8, 8, 8, 8, 8, 8, 8, 8, 8, 8, 8, 8, 8, 8, 8, 8, 8, 8, 8, 8, 8, 8, 8, 8, 8, 8, 8, 8, 8, 8, 8, 8, 8, 8, 8, 8, 8, 8, 8, 8, 8, 8, 8, 8, 8, 8, 8, 8, 8, 8, 8, 8, 8, 8, 8, 8, 8, 8, 8, 8, 8, 8, 8, 8, 8, 8, 8, 8, 8, 8, 8, 8, 8, 8]

theorem tab_at (i : Nat) (h : i < 256) : lenTab[i]? = some (UInt8.ofNat (blen i)) := by
  have : (List.range 256).all (fun i => lenTab[i]? == some (UInt8.ofNat (blen i))) = true := by kernel_rfl
  rw [List.all_eq_true] at this
  exact eq_of_beq (this i (List.mem_range.2 h))

theorem blen_shift8 {n : Nat} (h : 256 ≤ n) : blen n = blen (n / 256) + 8 := by
  unfold blen
  have h1 : n ≠ 0 := by omega
  have h2 : n / 256 ≠ 0 := by omega
  rw [if_neg h1, if_neg h2]
  have : Nat.log2 n = Nat.log2 (n / 256) + 8 := by
    apply (Nat.log2_eq_iff h1).2
    have h3 := (Nat.log2_eq_iff h2).1 rfl
    generalize Nat.log2 (n / 256) = k at h3
    rw [Nat.pow_add, show k + 8 + 1 = (k + 1) + 8 from by omega, Nat.pow_add]
    have : 2 ^ 8 = 256 := by decide
    rw [this]
    omega
  omega

theorem blen8 {n : Nat} (h : n < 256) : (UInt8.ofNat (blen n)).toNat = blen n := by
  have : blen n ≤ 8 := blen_le.2 (by omega)
  simp; omega

theorem meets_math_bits_Len64 : Meets (ctxOf []) s_math_bits_Len64 c_math_bits_Len64 r_math_bits_Len64 (fnSpec R_math_bits_Len64) := by
  rintro _ K ⟨_, ⟨n, rfl, ⟨h1, h2⟩, rfl⟩, hK⟩
  refine fun b hb => ?_
  rcases cmp hb with ⟨rfl, h⟩ | ⟨rfl, h⟩
  · omega
  refine fun b hb => ?_
  rcases cmp hb with ⟨rfl, h'⟩ | ⟨rfl, h'⟩
  · omega
  refine fun b hb => ?_
  rcases cmp hb with ⟨rfl, h3⟩ | ⟨rfl, h3⟩
  · refine ⟨by decide, ?_⟩
    refine fun x hx => ?_
    have hx : x = ((n.toNat / 256 : Nat) : Int) := by
      rw [hx]
      show n.fdiv (2 ^ 8) = _
      rw [Int.fdiv_eq_ediv_of_nonneg _ (by decide)]
      omega
    refine fun y hy => ?_
    replace hy := n64 hy (by decide)
    subst hy
    refine fun z hz => ?_
    rw [wrapU8] at hz
    have hz : z = ((n.toNat / 256 : Nat) : Int) := by omega
    subst hz
    refine ⟨_, ⟨by omega, tab_at (n.toNat / 256) (by omega)⟩, ?_⟩
    refine fun u hu => ?_
    rw [blen8 (by omega)] at hu
    have hle : blen (n.toNat / 256) ≤ 8 := blen_le.2 (by omega)
    replace hu := n64 hu (by omega)
    refine fun v hv => ?_
    replace hv := n64 hv (by omega)
    refine ⟨.pv (pI _), ?_, trivial, hK⟩
    refine pI_eq ?_
    rw [blen_shift8 (by omega)]
    omega
  · refine fun z hz => ?_
    rw [wrapU8] at hz
    have hz : z = ((n.toNat : Nat) : Int) := by omega
    subst hz
    refine ⟨_, ⟨by omega, tab_at n.toNat (by omega)⟩, ?_⟩
    refine fun u hu => ?_
    rw [blen8 (by omega)] at hu
    have hle : blen n.toNat ≤ 8 := blen_le.2 (by omega)
    replace hu := n64 hu (by omega)
    refine fun v hv => ?_
    replace hv := n64 hv (by omega)
    refine ⟨.pv (pI _), ?_, trivial, hK⟩
    refine pI_eq ?_
    omega
end Go.Dv.Try
end
section
/-
  Contracts of the small functions of chapter 6, second part.
-/
namespace Go.Dv.Try
open Go Go.Dv

theorem meets_math_bits_Len : Meets (ctxOf [(n_math_bits_Len64, fnSpec R_math_bits_Len64)]) s_math_bits_Len c_math_bits_Len r_math_bits_Len (fnSpec R_math_bits_Len64) := by
  rintro _ K ⟨_, ⟨n, rfl, h, rfl⟩, hK⟩
  refine ⟨_, ⟨n, rfl, h, rfl⟩, ?_⟩
  exact ⟨.pv (pI _), rfl, trivial, hK⟩

def R_compress_shift (ps : List PV) (x : PV) : Prop := ∃ a : Int, ps = [pI a] ∧ (0 ≤ a ∧ a ≤ 4096) ∧ x = pI (shiftZ a)
theorem meets_compress_shift : Meets (ctxOf [(n_math_bits_Len, fnSpec R_math_bits_Len64)]) s_compress_shift c_compress_shift r_compress_shift (fnSpec R_compress_shift) := by
  rintro _ K ⟨_, ⟨a, rfl, ⟨h1, h2⟩, rfl⟩, hK⟩
  refine fun x hx => ?_
  replace hx := n64 hx (by omega)
  subst hx
  refine fun x hx => ?_
  refine fun y hy => ?_
  rw [wrapU64 (by omega)] at hy
  refine ⟨_, ⟨y, rfl, by omega, rfl⟩, ?_⟩
  refine fun z hz => ?_
  refine ⟨.pv (pI _), pI_eq ?_, trivial, hK⟩
  rw [hz]
  have : y.toNat = a.toNat - 1 := by omega
  rw [this]
  unfold shiftZ shiftN
  omega

def R_compress_longest (ps : List PV) (x : PV) : Prop := ∃ a : Int, ps = [pI a] ∧ (0 ≤ a ∧ a ≤ 4096) ∧ x = pI (longZ a)

theorem shl1 {s : Int} (h : 0 ≤ s ∧ s ≤ 62) : IntKind.i64.wrap (1 * 2 ^ min s.toNat IntKind.i64.bits) = ((2 ^ s.toNat : Nat) : Int) := by
  have hb : IntKind.i64.bits = 64 := rfl
  have : min s.toNat IntKind.i64.bits = s.toNat := by omega
  rw [this, Int.one_mul]
  have hp : 2 ^ s.toNat ≤ 2 ^ 62 := Nat.pow_le_pow_right (by omega) (by omega)
  have e : ((2 : Int) ^ s.toNat) = ((2 ^ s.toNat : Nat) : Int) := by simp
  rw [e]
  generalize 2 ^ s.toNat = p at hp
  exact wrap64 (by omega)

theorem meets_compress_longest : Meets (ctxOf [(n_compress_shift, fnSpec R_compress_shift)]) s_compress_longest c_compress_longest r_compress_longest (fnSpec R_compress_longest) := by
  rintro _ K ⟨_, ⟨a, rfl, ⟨h1, h2⟩, rfl⟩, hK⟩
  have hb := shift_bounds h2
  have hl := long_bounds h2
  refine ⟨_, ⟨a, rfl, ⟨h1, h2⟩, rfl⟩, ?_⟩
  refine fun x hx => ?_
  replace hx := n64 hx (by omega)
  refine ⟨by omega, ?_⟩
  refine fun y hy => ?_
  rw [shl1 (by omega)] at hy
  have hy2 : y = longZ a - 2 := by
    rw [hy, hx]
    unfold longZ longN shiftZ
    have : (16 - (shiftN a.toNat : Int)).toNat = 16 - shiftN a.toNat := by omega
    rw [this]
    omega
  refine fun z hz => ?_
  replace hz := n64 hz (by omega)
  refine fun u hu => ?_
  replace hu := n64 hu (by omega)
  refine ⟨.pv (pI _), pI_eq ?_, trivial, hK⟩
  omega

/-- Two bounds. -/
def R_compress_within (ps : List PV) (x : PV) : Prop := ∃ n lo hi : Int, ps = [pI n, pI lo, pI hi] ∧ x = pB (decide (lo ≤ n ∧ n ≤ hi))
theorem meets_compress_within : Meets (ctxOf []) s_compress_within c_compress_within r_compress_within (fnSpec R_compress_within) := by
  rintro _ K ⟨_, ⟨n, lo, hi, rfl, rfl⟩, hK⟩
  refine fun b hb => ?_
  rcases cmp hb with ⟨rfl, h⟩ | ⟨rfl, h⟩
  · refine fun b hb => ?_
    refine ⟨.pv (pB _), pB_eq ?_, trivial, hK⟩
    rw [decide_eq_true_iff, hb]
    omega
  · refine ⟨.pv (pB _), pB_eq ?_, trivial, hK⟩
    rw [decide_eq_true_iff]
    simp only [Bool.false_eq_true, iff_false]
    omega
theorem meets_base_Within : Meets (ctxOf []) s_base_Within c_base_Within r_base_Within (fnSpec R_compress_within) := by
  rintro _ K ⟨_, ⟨n, lo, hi, rfl, rfl⟩, hK⟩
  refine fun b hb => ?_
  rcases cmp hb with ⟨rfl, h⟩ | ⟨rfl, h⟩
  · refine fun b hb => ?_
    refine ⟨.pv (pB _), pB_eq ?_, trivial, hK⟩
    rw [decide_eq_true_iff, hb]
    omega
  · refine ⟨.pv (pB _), pB_eq ?_, trivial, hK⟩
    rw [decide_eq_true_iff]
    simp only [Bool.false_eq_true, iff_false]
    omega

def unlessZ (ok : Bool) (e : Int) : Int := match ok with | true => 0 | false => e
def R_compress_unless (ps : List PV) (x : PV) : Prop := ∃ (ok : Bool) (e : Int), ps = [pB ok, pI e] ∧ x = pI (unlessZ ok e)
theorem meets_compress_unless : Meets (ctxOf []) s_compress_unless c_compress_unless r_compress_unless (fnSpec R_compress_unless) := by
  rintro _ K ⟨_, ⟨ok, e, rfl, rfl⟩, hK⟩
  cases ok with
  | true => exact ⟨.pv (pI _), rfl, trivial, hK⟩
  | false => exact ⟨.pv (pI _), rfl, trivial, hK⟩

def firstZ : List Int → Int
  | [] => 0
  | e :: l => if e = 0 then firstZ l else e
def R_compress_first (ps : List PV) (x : PV) : Prop := ∃ l : List Int, ps = [.sl 1 (l.map pI)] ∧ x = pI (firstZ l)

theorem firstZ_drop (l : List Int) (n : Nat) (h : ∀ j, j < n → l[j]? = some 0) : firstZ l = firstZ (l.drop n) := by
  induction n generalizing l with
  | zero => rfl
  | succ n ih =>
    cases l with
    | nil => rfl
    | cons e l =>
      have := h 0 (by omega)
      simp at this
      subst this
      exact ih l fun j hj => by simpa using h (j + 1) (by omega)

theorem meets_compress_first : Meets (ctxOf []) s_compress_first c_compress_first r_compress_first (fnSpec R_compress_first) := by
  rintro _ K ⟨_, ⟨l, rfl, rfl⟩, hK⟩
  refine fun hl => ?_
  rw [List.length_map] at hl
  refine ⟨fun m env σ => ∃ n : Nat, (n + m = l.length ∧ ∀ j, j < n → l[j]? = some 0) ∧ σ = [] ∧ env = [(5, .pv (.sl 1 (l.map pI))), (6, .pv (pI ((l.map pI).length : Nat))), (7, .pv (pI n))], l.length, ⟨0, ⟨by omega, fun j hj => by omega⟩, rfl, rfl⟩, ?_⟩
  rintro m env σ ⟨n, ⟨hn, h0⟩, rfl, rfl⟩
  refine fun b hb => ?_
  rw [List.length_map] at hb
  rcases cmp hb with ⟨rfl, h⟩ | ⟨rfl, h⟩
  · have hlt : n < l.length := by omega
    refine ⟨pI l[n], ⟨by omega, ?_⟩, ?_⟩
    · show (l.map pI)[n]? = some (pI l[n])
      simp [hlt]
    refine fun b hb => ?_
    rcases cmp hb with ⟨rfl, h⟩ | ⟨rfl, h⟩
    · refine ⟨.pv (pI _), pI_eq ?_, trivial, hK⟩
      rw [firstZ_drop l n h0, List.drop_eq_getElem_cons hlt]
      simp [firstZ, h]
    · refine fun x hx => ?_
      replace hx := n64 hx (by omega)
      subst hx
      refine ⟨m - 1, by omega, n + 1, ⟨by omega, fun j hj => ?_⟩, rfl, rfl⟩
      by_cases hjn : j < n
      · exact h0 j hjn
      · have : j = n := by omega
        subst this
        rw [List.getElem?_eq_getElem hlt]
        simpa using h
  · refine ⟨.pv (pI _), pI_eq ?_, trivial, hK⟩
    rw [firstZ_drop l n h0, List.drop_eq_nil_of_le (by omega)]
    rfl
end Go.Dv.Try
end
section
/-
  Contracts of chapter 6: tokens, room, matches.
-/
namespace Go.Dv.Try
open Go Go.Dv

def R_compress_isCopy (ps : List PV) (x : PV) : Prop := ∃ t : Tok, ps = [t.pv] ∧ x = pB t.copy
theorem meets_compress_isCopy : Meets (ctxOf []) s_compress_isCopy c_compress_isCopy r_compress_isCopy (fnSpec R_compress_isCopy) := by
  rintro _ K ⟨_, ⟨t, rfl, rfl⟩, hK⟩
  refine fun b hb => ?_
  refine ⟨.pv (pB _), pB_eq ?_, trivial, hK⟩
  rw [hb]; simp [Tok.copy]
def R_compress_made (ps : List PV) (x : PV) : Prop := ∃ t : Tok, ps = [t.pv] ∧ x = pI t.made
theorem meets_compress_made : Meets (ctxOf [(n_compress_isCopy, fnSpec R_compress_isCopy)]) s_compress_made c_compress_made r_compress_made (fnSpec R_compress_made) := by
  rintro _ K ⟨_, ⟨t, rfl, rfl⟩, hK⟩
  refine ⟨_, ⟨t, rfl, rfl⟩, ?_⟩
  generalize hc : t.copy = c
  unfold Tok.copy at hc
  cases c with
  | true =>
    refine ⟨.pv (pI _), pI_eq ?_, trivial, hK⟩
    simp at hc; simp [Tok.made, hc]
  | false =>
    refine ⟨.pv (pI _), pI_eq ?_, trivial, hK⟩
    simp at hc; simp [Tok.made, hc]
def R_compress_data_room (ps : List PV) (x : PV) : Prop := ∃ (d : List UInt8) (a : Int), ps = [.str d, pI a] ∧ (d.length ≤ 4096 ∧ 0 ≤ a ∧ a ≤ (d.length : Int)) ∧ x = pI (roomN d a.toNat : Nat)
theorem roomN_z (d : List UInt8) {a : Int} (h : 0 ≤ a ∧ a ≤ (d.length : Int)) : ((roomN d a.toNat : Nat) : Int) = min (longZ a) ((d.length : Int) - a) := by
  unfold roomN longZ; omega
theorem meets_compress_data_room : Meets (ctxOf [(n_compress_longest, fnSpec R_compress_longest)]) s_compress_data_room c_compress_data_room r_compress_data_room (fnSpec R_compress_data_room) := by
  rintro _ K ⟨_, ⟨d, a, rfl, ⟨h1, h2, h3⟩, rfl⟩, hK⟩
  refine ⟨_, ⟨a, rfl, ⟨h2, by omega⟩, rfl⟩, ?_⟩
  refine fun x hx => ?_
  replace hx := n64 hx (by omega)
  refine fun r hr => ?_
  refine ⟨.pv (pI _), pI_eq ?_, trivial, hK⟩
  rw [roomN_z d ⟨h2, h3⟩, hr, hx]

def R_compress_data_match (ps : List PV) (x : PV) : Prop := ∃ (d : List UInt8) (a k : Int), ps = [.str d, pI a, pI k] ∧ (d.length ≤ 4096 ∧ 0 ≤ a ∧ a ≤ (d.length : Int) ∧ 1 ≤ k ∧ k ≤ a) ∧ x = pI (matchN d a.toNat k.toNat : Nat)

theorem get_eq {d : List UInt8} {i j : Nat} (hi : i < d.length) (hj : j < d.length) : ((d[i].toNat : Int) = (d[j].toNat : Int)) ↔ d[i]? = d[j]? := by
  rw [List.getElem?_eq_getElem hi, List.getElem?_eq_getElem hj]
  constructor
  · intro h
    congr 1
    exact UInt8.toNat_inj.1 (by omega)
  · intro h
    rw [Option.some.inj h]

theorem meets_compress_data_match : Meets (ctxOf [(n_compress_data_room, fnSpec R_compress_data_room)]) s_compress_data_match c_compress_data_match r_compress_data_match (fnSpec R_compress_data_match) := by
  rintro _ K ⟨_, ⟨d, a, k, rfl, ⟨h1, h2, h3, h4, h5⟩, rfl⟩, hK⟩
  refine ⟨_, ⟨d, a, rfl, ⟨h1, h2, h3⟩, rfl⟩, ?_⟩
  have hr := roomN_z d ⟨h2, h3⟩
  refine ⟨fun m env σ => ∃ n : Nat, (n + m = roomN d a.toNat ∧ mrun d a.toNat k.toNat n m = matchN d a.toNat k.toNat) ∧ σ = [] ∧ env = [(0, .pv (.str d)), (1, .pv (pI a)), (2, .pv (pI k)), (7, .pv (pI n)), (8, .pv (pI (roomN d a.toNat : Nat)))], roomN d a.toNat, ⟨0, ⟨by omega, rfl⟩, rfl, rfl⟩, ?_⟩
  rintro m env σ ⟨n, ⟨hn, hm⟩, rfl, rfl⟩
  refine ⟨by kernel_rfl, ?_⟩
  refine fun b hb => ?_
  rcases cmp hb with ⟨rfl, h⟩ | ⟨rfl, h⟩
  · have hlt : a.toNat + n < d.length := by omega
    refine fun x hx => ?_
    replace hx := n64 hx (by omega)
    subst hx
    refine ⟨_, ⟨by omega, List.getElem?_eq_getElem (by omega)⟩, ?_⟩
    refine fun x hx => ?_
    replace hx := n64 hx (by omega)
    subst hx
    refine fun x hx => ?_
    replace hx := n64 hx (by omega)
    subst hx
    refine ⟨_, ⟨by omega, List.getElem?_eq_getElem (by omega)⟩, ?_⟩
    refine fun b hb => ?_
    have e1 : (a + n).toNat = a.toNat + n := by omega
    have e2 : (a + n - k).toNat = a.toNat + n - k.toNat := by omega
    rw [get_eq, e1, e2] at hb
    cases m with
    | zero => omega
    | succ m =>
      unfold mrun at hm
      rcases cmp hb with ⟨rfl, h'⟩ | ⟨rfl, h'⟩
      · rw [if_pos h'] at hm
        refine fun x hx => ?_
        replace hx := n64 hx (by omega)
        subst hx
        exact ⟨m, by omega, n + 1, ⟨by omega, hm⟩, rfl, rfl⟩
      · rw [if_neg h'] at hm
        exact ⟨.pv (pI _), pI_eq (by omega), trivial, hK⟩
  · have : m = 0 := by omega
    subst this
    unfold mrun at hm
    exact ⟨.pv (pI _), pI_eq (by omega), trivial, hK⟩

end Go.Dv.Try
end
section
/-
  Contracts of chapter 6: literals, the best match, the reference's greedy tokens, tokens compared.
-/
namespace Go.Dv.Try
open Go Go.Dv

def R_compress_data_literal (ps : List PV) (x : PV) : Prop := ∃ (d : List UInt8) (a : Int), ps = [.str d, pI a] ∧ (0 ≤ a ∧ a < (d.length : Int)) ∧ x = (litN d a.toNat).pv
theorem lit_pv (d : List UInt8) {a : Int} (h : 0 ≤ a ∧ a < (d.length : Int)) {x : Int} (hx : x = ((d[a.toNat]'(by omega)).toNat : Int)) : PV.agg [pI 0, pI 0, pI x] = (litN d a.toNat).pv := by
  unfold litN Tok.pv
  rw [List.getElem?_eq_getElem (by omega), hx]; rfl
theorem meets_compress_data_literal : Meets (ctxOf []) s_compress_data_literal c_compress_data_literal r_compress_data_literal (fnSpec R_compress_data_literal) := by
  rintro _ K ⟨_, ⟨d, a, rfl, ⟨h1, h2⟩, rfl⟩, hK⟩
  refine ⟨_, ⟨h1, List.getElem?_eq_getElem (by omega)⟩, ?_⟩
  refine fun x hx => ?_
  replace hx := n64 hx (by have := (d[a.toNat]'(by omega)).toNat_lt; omega)
  refine ⟨rfl, ?_⟩
  refine ⟨rfl, ?_⟩
  rw [← lit_pv d ⟨h1, h2⟩ hx] at hK
  refine ⟨.pv (.agg [pI 0, pI 0, pI x]), rfl, ?_, hK⟩
  intro c hc
  simp at hc
  rcases hc with rfl | rfl <;> trivial
end Go.Dv.Try
end
section
/-
  Contracts of chapter 6: the reference's greedy tokens, tokens compared, errors of data.
-/
namespace Go.Dv.Try
open Go Go.Dv

theorem flat_toks (l : List Tok) : ∀ x ∈ l.map Tok.pv, x.flat := by
  intro x hx
  obtain ⟨t, _, rfl⟩ := List.mem_map.1 hx
  intro c hc
  simp at hc
  rcases hc with rfl | rfl | rfl <;> trivial

end Go.Dv.Try
end
section
/-
  Contracts of chapter 6: tokens and numbers compared, errors of data, few.
-/
namespace Go.Dv.Try
open Go Go.Dv

/-- The error of data. -/
def dErr (n : Nat) : Int := if n = 0 then 17 else if n ≤ 4096 then 0 else 8
def R_ref06_DataErr (ps : List PV) (x : PV) : Prop := ∃ d : List UInt8, ps = [.str d] ∧ x = pI (dErr d.length)
theorem meets_compress_dataErr : Meets (ctxOf [(n_compress_unless, fnSpec R_compress_unless), (n_compress_first, fnSpec R_compress_first)]) s_compress_dataErr c_compress_dataErr r_compress_dataErr (fnSpec R_ref06_DataErr) := by
  rintro _ K ⟨_, ⟨d, rfl, rfl⟩, hK⟩
  refine fun b hb => ?_
  refine ⟨_, ⟨b, 17, rfl, rfl⟩, ?_⟩
  refine fun c hc => ?_
  refine ⟨_, ⟨c, 8, rfl, rfl⟩, ?_⟩
  refine ⟨rfl, ?_⟩
  refine ⟨_, ⟨[unlessZ b 17, unlessZ c 8], rfl, rfl⟩, ?_⟩
  refine ⟨.pv (pI _), pI_eq ?_, trivial, hK⟩
  have e : (d = []) ↔ d.length = 0 := by simp
  unfold dErr
  have hb' : b = true ↔ d.length ≠ 0 := by rw [hb]; simp
  rcases cmp hb' with ⟨rfl, h⟩ | ⟨rfl, h⟩
  · rw [if_neg (by omega)]
    rcases cmp hc with ⟨rfl, h2⟩ | ⟨rfl, h2⟩
    · rw [if_pos (by omega)]; rfl
    · rw [if_neg (by omega)]; rfl
  · rw [if_pos (by omega)]
    cases c <;> rfl

end Go.Dv.Try
end
section
/-
  The iterator of matches keeps its contract: it yields the matches that have more bytes than all before them.
-/
namespace Go.Dv.Try
open Go Go.Dv Go.RowKit

def p83A1_0 : PC := .region [
  ⟨some 8, none, .load false 1 (.tmp 1)⟩,
  ⟨some 9, none, .load false 1 (.tmp 2)⟩,
  ⟨some 10, none, .call 91 [.tmp 8, .tmp 9]⟩,
  ⟨some 4, none, .mv (.const (.int .i64 0))⟩,
  ⟨some 5, none, .mv (.tmp 10)⟩]
def p83A1 : PC := p83A1_0
def p83A2_0 : PC := .region [
  ⟨some 6, none, .mv (.const (.int .i64 1))⟩]
def p83A2 : PC := p83A2_0
def p83B_0 : PC := .region [
  ⟨some 11, none, .mv (.tmp 6)⟩,
  ⟨some 12, none, .load false 1 (.tmp 2)⟩,
  ⟨some 13, none, .bin .leq (.tmp 11) (.tmp 12)⟩,
  ⟨some 14, none, .mv (.tmp 13)⟩,
  ⟨some 15, some (⟨14, true⟩), .mv (.tmp 4)⟩,
  ⟨some 16, some (⟨14, true⟩), .mv (.tmp 5)⟩,
  ⟨some 17, some (⟨14, true⟩), .bin .lss (.tmp 15) (.tmp 16)⟩,
  ⟨some 18, none, .pick (.tmp 14) (.tmp 17) (.const (.bool false))⟩]
def p83B_1 : PC := .cond (.tmp 18) .skip (.exit 0)
def p83B_2 : PC := .seq p83B_0 p83B_1
def p83B : PC := p83B_2
def p83C1_0 : PC := .draw [
  ⟨some 21, none, .load false 1 (.tmp 1)⟩,
  ⟨some 22, none, .load false 1 (.tmp 2)⟩,
  ⟨some 23, none, .mv (.tmp 4)⟩,
  ⟨some 24, none, .bin .add (.tmp 22) (.tmp 23)⟩,
  ⟨some 25, none, .idx (.tmp 21) (.tmp 24)⟩,
  ⟨some 26, none, .load false 1 (.tmp 1)⟩,
  ⟨some 27, none, .load false 1 (.tmp 2)⟩,
  ⟨some 28, none, .mv (.tmp 4)⟩,
  ⟨some 29, none, .bin .add (.tmp 27) (.tmp 28)⟩,
  ⟨some 30, none, .mv (.tmp 6)⟩,
  ⟨some 31, none, .bin .sub (.tmp 29) (.tmp 30)⟩,
  ⟨some 32, none, .idx (.tmp 26) (.tmp 31)⟩,
  ⟨some 33, none, .bin .neq (.tmp 25) (.tmp 32)⟩]
  [[], [], [], [1, 2], [0, 3], [], [], [], [6, 7], [], [8, 9], [5, 10], [4, 11]]
def p83C1_1 : PC := .cond (.tmp 33) (.exit 1) .skip
def p83C1_2 : PC := .seq p83C1_0 p83C1_1
def p83C1 : PC := p83C1_2
def p83R5_0 : PC := .region [
  ⟨some 34, none, .load false 1 (.tmp 1)⟩,
  ⟨some 35, none, .load false 1 (.tmp 2)⟩,
  ⟨some 36, none, .mv (.tmp 6)⟩,
  ⟨some 37, none, .call 92 [.tmp 34, .tmp 35, .tmp 36]⟩,
  ⟨some 7, none, .mv (.tmp 37)⟩]
def p83R5 : PC := p83R5_0
def p83R6_0 : PC := .region [
  ⟨some 38, none, .mv (.tmp 7)⟩,
  ⟨some 39, none, .mv (.tmp 4)⟩,
  ⟨some 40, none, .bin .gtr (.tmp 38) (.tmp 39)⟩]
def p83R6 : PC := p83R6_0
def p83R7_0 : PC := .region [
  ⟨some 41, none, .mv (.tmp 7)⟩,
  ⟨some 4, none, .mv (.tmp 41)⟩]
def p83R7 : PC := p83R7_0
def p83R3_0 : PC := .region [
  ⟨some 19, none, .mv (.tmp 6)⟩,
  ⟨some 20, none, .bin .add (.tmp 19) (.const (.int .i64 1))⟩,
  ⟨some 6, none, .mv (.tmp 20)⟩]
def p83R3 : PC := p83R3_0
def sp83 : List Nat := [1, 2, 4, 5, 6, 7]

theorem pieces83 : ∃ (A1 A2 B C1 R5 R6 R7 R3 : Code) (id : Nat) (o0 o1 o2 o3 o4 : Oper),
    Go.Proofs.Try.f90.body = some (.seq A1 (.seq A2 (.block 0 (.loop (.seq B (.seq (.block 1 (.seq C1 (.seq R5 (.seq R6 (.cond (.tmp 40) (.seq R7 (.seq (.region id #[o0, o1, o2, o3, o4] false) (.cond (.tmp 46) .ret .skip))) .skip))))) R3)))))) ∧
    compC Go.Proofs.Try.prog 47 A1 = some (strip p83A1) ∧ compC Go.Proofs.Try.prog 47 A2 = some (strip p83A2) ∧ compC Go.Proofs.Try.prog 47 B = some (strip p83B) ∧ compC Go.Proofs.Try.prog 47 C1 = some (strip p83C1) ∧
    compC Go.Proofs.Try.prog 47 R5 = some (strip p83R5) ∧ compC Go.Proofs.Try.prog 47 R6 = some (strip p83R6) ∧ compC Go.Proofs.Try.prog 47 R7 = some (strip p83R7) ∧ compC Go.Proofs.Try.prog 47 R3 = some (strip p83R3) ∧
    moveO 47 o0 = some ⟨some 42, none, .mv (.tmp 0)⟩ ∧ moveO 47 o1 = some ⟨some 43, none, .mv (.tmp 6)⟩ ∧ moveO 47 o2 = some ⟨some 44, none, .mv (.tmp 7)⟩ ∧
    (o3.guard = none ∧ o3.dst = some 45 ∧ ∃ c, o3.op = .call c ∧ c.callee = .value (.tmp 42) ∧ c.args = #[.tmp 43, .tmp 44]) ∧ (o4.guard = none ∧ o4.dst = some 46 ∧ ∃ t, o4.op = .unOp .not t (.tmp 45)) :=
  ⟨_, _, _, _, _, _, _, _, _, _, _, _, _, _, rfl, by kernel_rfl, by kernel_rfl, by kernel_rfl, by kernel_rfl, by kernel_rfl, by kernel_rfl, by kernel_rfl, by kernel_rfl, by kernel_rfl, by kernel_rfl, by kernel_rfl, ⟨rfl, rfl, _, rfl, rfl, rfl⟩, ⟨rfl, rfl, _, rfl⟩⟩
end Go.Dv.Try
end
section
/-
  The iterator of matches, between its pieces.
-/
namespace Go.Dv.Try
open Go Go.Dv Go.RowKit

/-- What holds of a setting of the iterator at any place between two pieces. -/
structure It (okI : Nat → Prop) (l : Nat) (v1 v2 : Value) (d : List UInt8) (a : Int) (act : Act) (W : World) : Prop where
  size : act.tmps.size = 47
  defs : act.defers = []
  t0 : act.tmps.getD 0 undef = .func (.yield l) #[] #[]
  t1 : act.tmps.getD 1 undef = v1
  t2 : act.tmps.getD 2 undef = v2
  r1 : Rd okI W (.cptr (.str d)) v1
  r2 : Rd okI W (.cptr (pI a)) v2
  ok : ∀ b, okI b → b < W.heap.size

/-- The verifier's setting there. -/
noncomputable def itCx (okI : Nat → Prop) (act : Act) (W : World) (hok : ∀ b, okI b → b < W.heap.size) : Cx :=
  { P := Go.Proofs.Try.prog, w0 := W, okA := okI, hA := hok, keep := fun b => b < W.heap.size, hk := fun _ h => h, lo := 3, base := fun p => act.tmps.getD p undef }

theorem It.rel {okI : Nat → Prop} {l : Nat} {v1 v2 : Value} {d : List UInt8} {a : Int} {act : Act} {W : World} (h : It okI l v1 v2 d a act W) (env : Env) (he : ∀ p x, lookF p env = .pv x → p = 1 ∧ x = .cptr (.str d) ∨ p = 2 ∧ x = .cptr (pI a) ∨ ∃ n, x = pI n ∧ act.tmps.getD p undef = .int .i64 n)
    (hp : ∀ p, lookF p env = .bad ∨ ∃ x, lookF p env = .pv x) : Rel (itCx okI act W h.ok) env [] [] act W := by
  have hok : ∀ b, okI b → Ok (itCx okI act W h.ok) [] [] W b := fun b hb => ⟨.inl hb, h.ok b hb, fun ⟨i, s, v, hi, _⟩ => by simp at hi⟩
  refine ⟨⟨Since.refl _ _, by simp, rfl, fun i s v hi => by simp at hi, fun i j s t u v b _ hi => by simp at hi, ⟨Nat.le_refl _, fun _ _ => rfl, fun b hm => ?_⟩, ⟨fun i v h => by simp [itCx] at h, by simp [itCx], fun i hi => by simp [itCx] at hi, fun i hi => by simp [itCx] at hi⟩⟩, fun p => ?_, h.defs, fun x v hg => hg.elim, fun p _ => rfl⟩
  · obtain ⟨i, s, v, hi, _⟩ := hm; simp at hi
  · rcases hp p with hb | ⟨x, hx⟩
    · rw [hb]; simp only [RA]
    · rw [hx]
      simp only [RA]
      rcases he p x hx with ⟨rfl, rfl⟩ | ⟨rfl, rfl⟩ | ⟨n, rfl, hn⟩
      · rw [h.t1]; exact Rd.mono hok (fun _ _ _ => rfl) _ _ h.r1
      · rw [h.t2]; exact Rd.mono hok (fun _ _ _ => rfl) _ _ h.r2
      · rw [hn]; simp only [Rd]

/-- Behind a piece. -/
theorem It.after {okI : Nat → Prop} {l : Nat} {v1 v2 : Value} {d : List UInt8} {a : Int} {act act' : Act} {W W' : World} (h : It okI l v1 v2 d a act W) {env : Env} {σ : Sto} {vals : List Value} (hs : act'.tmps.size = 47) (hr : Rel (itCx okI act W h.ok) env σ vals act' W') :
    It okI l v1 v2 d a act' W' ∧ W.grownBy W' none := by
  have hg : W.grownBy W' none := ⟨hr.s.below.os, hr.s.below.tape, hr.s.below.output, hr.s.below.size, fun k hk _ => hr.s.fr.same k hk⟩
  have hc : ∀ b o, okI b → W'.cell? ⟨b, o, none⟩ = W.cell? ⟨b, o, none⟩ := fun b o hb => World.cell?_of_block (hr.s.fr.same b (h.ok b hb))
  exact ⟨⟨hs, hr.defers, (hr.lo 0 (show 0 < 3 by decide)).trans h.t0, (hr.lo 1 (show 1 < 3 by decide)).trans h.t1, (hr.lo 2 (show 2 < 3 by decide)).trans h.t2, Rd.mono (fun _ h => h) hc _ _ h.r1, Rd.mono (fun _ h => h) hc _ _ h.r2,
    fun b hb => Nat.lt_of_lt_of_le (h.ok b hb) hr.s.below.size⟩, hg⟩

theorem It.num {cx : Cx} {env : Env} {σ : Sto} {vals : List Value} {act : Act} {W : World} (hr : Rel cx env σ vals act W) {p : Nat} {n : Int} (h : lookF p env = .pv (pI n)) : act.tmps.getD p undef = .int .i64 n := by
  have := hr.env p
  rw [h] at this
  simpa only [RA, Rd] using this
theorem It.bool {cx : Cx} {env : Env} {σ : Sto} {vals : List Value} {act : Act} {W : World} (hr : Rel cx env σ vals act W) {p : Nat} {b : Bool} (h : lookF p env = .pv (pB b)) : act.tmps.getD p undef = .bool b := by
  have := hr.env p
  rw [h] at this
  simpa only [RA, Rd] using this

/-- A post that looks at four slots. -/
noncomputable def slotQ (q : Ex → (Nat → AV) → Prop) : Ex → Env → Sto → Prop := fun e env _ => q e fun p => lookF p env
theorem same_slotQ (q : Ex → (Nat → AV) → Prop) : ∀ e, Same (slotQ q e) := by
  intro e env env' σ h
  show q e (fun p => lookF p env') = q e fun p => lookF p env
  rw [show (fun p => lookF p env') = fun p => lookF p env from funext h]

/-- One piece, in a setting that the verifier knows. -/
theorem It.piece0 {Γ : Ctx} (hΓ : Sound Go.Proofs.Try.prog Γ) {okI : Nat → Prop} {l : Nat} {v1 v2 : Value} {d : List UInt8} {a : Int} {act : Act} {W : World} (h : It okI l v1 v2 d a act W) {c : Code} {pc : PC} (hc : compC Go.Proofs.Try.prog 47 c = some (strip pc)) (hs : simpleC pc = true) (hg : geC 3 pc = true)
    {env : Env} (hr : Rel (itCx okI act W h.ok) env [] [] act W) {q : Ex → (Nat → AV) → Prop} (hv : vc Γ [] sp83 pc (slotQ q) env []) (m : Nat) (R : Exit → Act → World → Prop)
    (hR : ∀ e act' W' env σ vals, It okI l v1 v2 d a act' W' → W.grownBy W' none → Rel (itCx okI act W h.ok) env σ vals act' W' → (match e with | .normal => q .normal (fun p => lookF p env) | .exit i => q (.exit i) (fun p => lookF p env) | .ret => q .ret (fun p => lookF p env) | _ => False) → R e act' W') :
    c.wpIn Fence.wide m Go.Proofs.Try.prog R act W := by
  have := code_sound (P := Go.Proofs.Try.prog) (ps := sp83) hΓ mixed c pc hc (· = itCx okI act W h.ok) Fence.wide m _ (slotQ q) env [] [] act W (.inl hs) (.inr ⟨3, fun cx hcx => by rw [hcx]; exact Nat.le_refl _, hg⟩) (.inl rfl) rfl (fun cx hcx => by rw [hcx]; rfl) (same_slotQ q) h.size hr hv
  refine wpIn_mono this ?_
  intro e act' W' hp
  cases e with
  | normal =>
    obtain ⟨cx, env, σ, vals, rfl, hs', hr', hq⟩ := hp
    obtain ⟨h1, h2⟩ := h.after hs' hr'
    exact hR .normal act' W' env σ vals h1 h2 hr' hq
  | exit i =>
    obtain ⟨cx, env, σ, vals, rfl, hs', hr', hq⟩ := hp
    obtain ⟨h1, h2⟩ := h.after hs' hr'
    exact hR (.exit i) act' W' env σ vals h1 h2 hr' hq
  | ret =>
    obtain ⟨cx, env, σ, vals, rfl, hs', hr', hq⟩ := hp
    obtain ⟨h1, h2⟩ := h.after hs' hr'
    exact hR .ret act' W' env σ vals h1 h2 hr' hq
  | _ => exact hp.elim

def itNums (l : List (Nat × Int)) : Env := l.map fun q => (q.1, .pv (pI q.2))
def itEnv (d : List UInt8) (a : Int) (l : List (Nat × Int)) : Env := (1, .pv (.cptr (.str d))) :: (2, .pv (.cptr (pI a))) :: itNums l

theorem itNums_look (l : List (Nat × Int)) (p : Nat) : lookF p (itNums l) = .bad ∨ ∃ q ∈ l, q.1 = p ∧ lookF p (itNums l) = .pv (pI q.2) := by
  induction l with
  | nil => exact .inl rfl
  | cons q l ih =>
    show (bif Nat.beq q.1 p then AV.pv (pI q.2) else lookF p (itNums l)) = .bad ∨ ∃ q' ∈ q :: l, q'.1 = p ∧ (bif Nat.beq q.1 p then AV.pv (pI q.2) else lookF p (itNums l)) = .pv (pI q'.2)
    by_cases e : q.1 = p
    · exact .inr ⟨q, by simp, e, by simp [e]⟩
    · rw [nbeq e]
      rcases ih with h | ⟨q', h1, h2, h3⟩
      · exact .inl h
      · exact .inr ⟨q', by simp [h1], h2, h3⟩

theorem It.relL {okI : Nat → Prop} {l : Nat} {v1 v2 : Value} {d : List UInt8} {a : Int} {act : Act} {W : World} (h : It okI l v1 v2 d a act W) (ns : List (Nat × Int)) (hns : ∀ q ∈ ns, act.tmps.getD q.1 undef = .int .i64 q.2) : Rel (itCx okI act W h.ok) (itEnv d a ns) [] [] act W := by
  refine h.rel _ (fun p x hx => ?_) (fun p => ?_)
  · have hx : (bif Nat.beq 1 p then AV.pv (.cptr (.str d)) else bif Nat.beq 2 p then AV.pv (.cptr (pI a)) else lookF p (itNums ns)) = .pv x := hx
    by_cases e1 : 1 = p
    · subst e1; simp at hx; exact .inl ⟨rfl, hx.symm⟩
    · rw [nbeq e1, cond_false] at hx
      by_cases e2 : 2 = p
      · subst e2; simp at hx; exact .inr (.inl ⟨rfl, hx.symm⟩)
      · rw [nbeq e2, cond_false] at hx
        rcases itNums_look ns p with h' | ⟨q, h1, h2, h3⟩
        · rw [h'] at hx; cases hx
        · rw [h3] at hx
          cases hx
          exact .inr (.inr ⟨q.2, rfl, h2 ▸ hns q h1⟩)
  · show (bif Nat.beq 1 p then AV.pv (.cptr (.str d)) else bif Nat.beq 2 p then AV.pv (.cptr (pI a)) else lookF p (itNums ns)) = .bad ∨ ∃ x, (bif Nat.beq 1 p then AV.pv (.cptr (.str d)) else bif Nat.beq 2 p then AV.pv (.cptr (pI a)) else lookF p (itNums ns)) = .pv x
    cases Nat.beq 1 p <;> cases Nat.beq 2 p <;> simp
    rcases itNums_look ns p with h' | ⟨q, h1, h2, h3⟩
    · exact .inl h'
    · exact .inr ⟨_, h3⟩
end Go.Dv.Try
end
section
/-
  The iterator of matches keeps its contract.
-/
namespace Go.Dv.Try
open Go Go.Dv Go.RowKit Go.Shelf

theorem args_get (y v1 v2 : Value) (n : Nat) : ((#[y] ++ #[v1, v2]) ++ Array.replicate n undef).getD 0 undef = y ∧ ((#[y] ++ #[v1, v2]) ++ Array.replicate n undef).getD 1 undef = v1 ∧ ((#[y] ++ #[v1, v2]) ++ Array.replicate n undef).getD 2 undef = v2 ∧ ((#[y] ++ #[v1, v2]) ++ Array.replicate n undef).size = n + 3 := by
  refine ⟨?_, ?_, ?_, ?_⟩
  · rw [getD_eq, Array.getElem?_append_left (by simp)]; rfl
  · rw [getD_eq, Array.getElem?_append_left (by simp)]; rfl
  · rw [getD_eq, Array.getElem?_append_left (by simp)]; rfl
  · simp; omega

section
variable {P : Program} {ops : Array Oper} {Q : Exit → Act → World → Prop} {a : Act} {w : World} {n m : Nat}
theorem move_step {i d t : Nat} {rest : List Nat} {o : Oper} (ho : ops[i]? = some o) (hm : moveO n o = some ⟨some d, none, .mv (.tmp t)⟩) (h : wpOpsIn Fence.wide m P ops Q rest (a.put (some d) (a.tmps.getD t undef)) w) : wpOpsIn Fence.wide m P ops Q (i :: rest) a w := by
  obtain ⟨d', t', hg, hd, _, hop, e⟩ := moveO_some hm
  cases e
  have hrun : (execOp a.eval o).run P w = .ok (.value (a.eval (.tmp t))) w := by
    rcases hop with hop | hop <;> simp [execOp, hop]
  rw [wpOpsIn_cons]
  unfold wpOpIn
  simp only [ho]
  have hw : Region.wanted o (yielded ops a.tmps) = true := by simp [Region.wanted, hg]
  rw [if_pos hw]
  refine free_op (.inl rfl) (fun c hc => by rcases hop with hop | hop <;> rw [hop] at hc <;> cases hc) ?_
  unfold Oper.wp
  rw [hrun, Oper.upon_value, hd]
  exact h

theorem yield_step {i d f x y l : Nat} {rest : List Nat} {o : Oper} {cc : Call} (ho : ops[i]? = some o) (hg : o.guard = none) (hd : o.dst = some d) (hop : o.op = .call cc) (hcal : cc.callee = .value (.tmp f)) (harg : cc.args = #[.tmp x, .tmp y])
    (hf : a.tmps.getD f undef = .func (.yield l) #[] #[]) (hY : YieldAt Fence.wide (m - 1) P l #[a.tmps.getD x undef, a.tmps.getD y undef] w fun e w' => ∃ v, e = .returned v ∧ wpOpsIn Fence.wide m P ops Q rest (a.put (some d) v) w') : wpOpsIn Fence.wide m P ops Q (i :: rest) a w := by
  obtain ⟨fn, tmps, assign, body, hr, hR⟩ := hY
  have hrun : (execOp a.eval o).run P w = .ok (.round l fn tmps assign body) w := by
    have hf' : a.eval (.tmp f) = .func (.yield l) #[] #[] := hf
    rw [← hr]
    unfold execOp
    rw [hop]
    simp only [resolve, hcal, harg, hf', List.map_toArray, List.map_cons, List.map_nil]
    rfl
  rw [wpOpsIn_cons]
  unfold wpOpIn
  simp only [ho]
  have hw : Region.wanted o (yielded ops a.tmps) = true := by simp [Region.wanted, hg]
  rw [if_pos hw]
  refine ⟨fun f _ => trivial, ?_⟩
  rw [Oper.semAt_eq _ _ _ (fun c hc => by rw [hop] at hc; cases hc), hrun, Oper.uponIn_round, hd]
  refine ⟨fun h => (by cases h), hR.mono ?_⟩
  rintro e w' ⟨v, rfl, h⟩
  exact h

theorem not_step {i d t : Nat} {rest : List Nat} {o : Oper} {b : Bool} {ty : TypeId} (ho : ops[i]? = some o) (hg : o.guard = none) (hd : o.dst = some d) (hop : o.op = .unOp .not ty (.tmp t)) (hb : a.tmps.getD t undef = .bool b) (h : wpOpsIn Fence.wide m P ops Q rest (a.put (some d) (.bool (!b))) w) : wpOpsIn Fence.wide m P ops Q (i :: rest) a w := by
  have hb' : a.eval (.tmp t) = .bool b := hb
  have hrun : (execOp a.eval o).run P w = .ok (.value (.bool (!b))) w := by
    simp [execOp, hop, hb', Op.unary]
  rw [wpOpsIn_cons]
  unfold wpOpIn
  simp only [ho]
  have hw : Region.wanted o (yielded ops a.tmps) = true := by simp [Region.wanted, hg]
  rw [if_pos hw]
  refine free_op (.inl rfl) (fun c hc => by rw [hop] at hc; cases hc) ?_
  unfold Oper.wp
  rw [hrun, Oper.upon_value, hd]
  exact h
end

theorem get_put {a : Act} {d p : Nat} {v : Value} (hd : d < a.tmps.size) : (a.put (some d) v).tmps.getD p undef = if d = p then v else a.tmps.getD p undef := by
  show (a.tmps.setIfInBounds d v).getD p undef = _
  rw [getD_eq, getD_eq, Array.getElem?_setIfInBounds]
  by_cases h : d = p
  · subst h; simp [hd]
  · simp [h]

theorem It.put {okI : Nat → Prop} {l : Nat} {v1 v2 : Value} {d : List UInt8} {x : Int} {a : Act} {W : World} (h : It okI l v1 v2 d x a W) {q : Nat} {v : Value} (hq : 3 ≤ q) (hs : q < 47) : It okI l v1 v2 d x (a.put (some q) v) W := by
  have hlt : q < a.tmps.size := by rw [h.size]; exact hs
  refine ⟨(put_size ..).trans h.size, h.defs, ?_, ?_, ?_, h.r1, h.r2, h.ok⟩
  · rw [get_put hlt, if_neg (by omega)]; exact h.t0
  · rw [get_put hlt, if_neg (by omega)]; exact h.t1
  · rw [get_put hlt, if_neg (by omega)]; exact h.t2

theorem It.kept {okI : Nat → Prop} {l : Nat} {v1 v2 : Value} {d : List UInt8} {x : Int} {a : Act} {W W' : World} (h : It okI l v1 v2 d x a W) (hk : KpOf okI W W') : It okI l v1 v2 d x a W' := by
  have hc : ∀ b o, okI b → W'.cell? ⟨b, o, none⟩ = W.cell? ⟨b, o, none⟩ := fun b o hb => World.cell?_of_block (hk.2 b hb)
  exact ⟨h.size, h.defs, h.t0, h.t1, h.t2, Rd.mono (fun _ h => h) hc _ _ h.r1, Rd.mono (fun _ h => h) hc _ _ h.r2, fun b hb => Nat.lt_of_lt_of_le (h.ok b hb) hk.1⟩

/-- What the iterator yields. -/
def recL (l : List (Nat × Nat)) : List (List PV) := l.map fun p => [pI (p.1 : Nat), pI (p.2 : Nat)]
def iter83 (caps : List PV) (L : List (List PV)) : Prop :=
  ∃ (d : List UInt8) (a : Int), caps = [.cptr (.str d), .cptr (pI a)] ∧ (d.length ≤ 4096 ∧ 0 ≤ a ∧ a ≤ (d.length : Int)) ∧ L = recL (recsN d a.toNat)

/-- Between two rounds of the iterator's loop. -/
structure Rnd (okI : Nat → Prop) (l : Nat) (v1 v2 : Value) (d : List UInt8) (a : Int) {α : Type} (val : α → List PV) (L : List (List PV)) (J : List α → World → Prop) (k m : Nat) (act : Act) (W : World) : Prop where
  it : It okI l v1 v2 d a act W
  rest : ∃ (best : Nat) (pre : List α), act.tmps.getD 4 undef = .int .i64 best ∧ best ≤ roomN d a.toNat ∧ J pre W ∧ pre.map val ++ recL (recsRun d a.toNat m k best) = L
  t5 : act.tmps.getD 5 undef = .int .i64 (roomN d a.toNat : Nat)

theorem iter_sound (hΓ : Sound Go.Proofs.Try.prog (ctxOf [(n_compress_data_room, fnSpec R_compress_data_room), (n_compress_data_match, fnSpec R_compress_data_match)])) : IterAt Go.Proofs.Try.prog 90 iter83 := by
  intro m w okI caps vs L hok hrd hit
  obtain ⟨d, a, rfl, ⟨h1, h2, h3⟩, rfl⟩ := hit
  have hf : Go.Proofs.Try.prog.funcs[90]? = some Go.Proofs.Try.f90 := by kernel_rfl
  obtain ⟨A1, A2, B, C1, R5, R6, R7, R3, id, o0, o1, o2, o3, o4, hbody, cA1, cA2, cB, cC1, cR5, cR6, cR7, cR3, m0, m1, m2, ⟨g3, d3, cc, op3, cal3, arg3⟩, ⟨g4, d4, tt, op4⟩⟩ := pieces83
  refine ⟨?_, Go.Proofs.enters_of hf (by kernel_rfl) hbody⟩
  intro l J Jx W hb hJ hJx hY h0
  obtain ⟨v1, v2, rfl, r1, r2⟩ : ∃ v1 v2, vs = #[v1, v2] ∧ Rd okI w (.cptr (.str d)) v1 ∧ Rd okI w (.cptr (pI a)) v2 := by
    simp only [RdL] at hrd
    obtain ⟨v1, t, e1, r1, v2, t2, rfl, r2, rfl⟩ := hrd
    exact ⟨v1, v2, by rw [← Array.toList_inj]; exact e1, r1, r2⟩
  have hcW : ∀ b o, okI b → W.cell? ⟨b, o, none⟩ = w.cell? ⟨b, o, none⟩ := fun b o hb' => World.cell?_of_block (hb.block b (hok b hb'))
  refine callsIn_of_wp hf hbody trivial ?_
  have it0 : It okI l v1 v2 d a { tmps := (#[Value.func (.yield l) #[] #[]] ++ #[v1, v2]) ++ Array.replicate (Go.Proofs.Try.f90.ntmps - (#[Value.func (.yield l) #[] #[]] ++ #[v1, v2]).size) undef, defers := [] } W := by
    have hn : Go.Proofs.Try.f90.ntmps - (#[Value.func (.yield l) #[] #[]] ++ #[v1, v2]).size = 44 := by
      rw [show Go.Proofs.Try.f90.ntmps = 47 by kernel_rfl]; rfl
    rw [hn]
    obtain ⟨a0, a1, a2, a3⟩ := args_get (Value.func (.yield l) #[] #[]) v1 v2 44
    exact ⟨a3, rfl, a0, a1, a2, Rd.mono (fun _ h => h) hcW _ _ r1, Rd.mono (fun _ h => h) hcW _ _ r2, fun b hb' => Nat.lt_of_lt_of_le (hok b hb') hb.size⟩
  generalize hact0 : ({ tmps := (#[Value.func (.yield l) #[] #[]] ++ #[v1, v2]) ++ Array.replicate (Go.Proofs.Try.f90.ntmps - (#[Value.func (.yield l) #[] #[]] ++ #[v1, v2]).size) undef, defers := [] } : Act) = act0 at it0
  -- the room and the first distance
  refine wpIn_seq (it0.piece0 hΓ cA1 rfl rfl (it0.relL [] (by simp)) (q := fun e f => e = .normal ∧ f 4 = .pv (pI 0) ∧ f 5 = .pv (pI (roomN d a.toNat : Nat))) ⟨_, ⟨d, a, rfl, ⟨h1, h2, h3⟩, rfl⟩, rfl, rfl, rfl⟩ m _ ?_)
  intro e act1 W1 env1 σ1 vals1 it1 hg1 hr1 hq1
  cases e with
  | normal =>
    obtain ⟨_, h14, h15⟩ := hq1
    have t14 := It.num hr1 h14
    have t15 := It.num hr1 h15
    have j1 : J [] W1 := hJ [] W W1 none h0 hg1 (fun r e => by cases e)
    refine wpIn_seq (it1.piece0 hΓ cA2 rfl rfl (it1.relL [(4, 0), (5, (roomN d a.toNat : Nat))] (by intro q hq; simp only [List.mem_cons, List.not_mem_nil, or_false] at hq; rcases hq with rfl | rfl; exact t14; exact t15)) (q := fun e f => e = .normal ∧ f 4 = .pv (pI 0) ∧ f 5 = .pv (pI (roomN d a.toNat : Nat)) ∧ f 6 = .pv (pI 1)) ⟨rfl, rfl, rfl, rfl⟩ m _ ?_)
    intro e act2 W2 env2 σ2 vals2 it2 hg2 hr2 hq2
    cases e with
    | normal =>
      obtain ⟨_, h24, h25, h26⟩ := hq2
      have t24 := It.num hr2 h24
      have t25 := It.num hr2 h25
      have t26 := It.num hr2 h26
      have j2 : J [] W2 := hJ [] W1 W2 none j1 hg2 (fun r e => by cases e)
      clear hr1 hr2 h14 h15 h24 h25 h26 hg1 hg2 j1 t14 t15 it1
      refine wpIn_block ?_
      have hroom := roomN_z d ⟨h2, h3⟩
      refine wpIn_loop (fun act W => ∃ k m, Rnd okI l v1 v2 d a (fun x : { x : List PV // x ∈ recL (recsN d a.toNat) } => x.1) (recL (recsN d a.toNat)) J k m act W ∧ act.tmps.getD 6 undef = .int .i64 (k : Nat) ∧ 1 ≤ k ∧ (k : Int) + m = a + 1) (fun act _ => (a + 1 - intOf (act.tmps.getD 6 undef)).toNat)
        ⟨1, a.toNat, ⟨it2, ⟨0, [], t24, Nat.zero_le _, j2, rfl⟩, t25⟩, t26, Nat.le_refl _, by omega⟩ ?_
      clear t24 t25 t26 j2 it2
      rintro act W ⟨k, mm, ⟨it, ⟨best, pre, t4, hbest, hj, hL⟩, t5⟩, t6, hk1, hk⟩
      have numsQ : ∀ q ∈ [((4 : Nat), (best : Int)), (5, (roomN d a.toNat : Nat)), (6, (k : Int))], act.tmps.getD q.1 undef = .int .i64 q.2 := by
        intro q hq; simp only [List.mem_cons, List.not_mem_nil, or_false] at hq; rcases hq with rfl | rfl | rfl; exact t4; exact t5; exact t6
      -- the loop's condition
      refine wpIn_seq (it.piece0 hΓ cB rfl rfl (it.relL _ numsQ) (q := fun e f => f 4 = .pv (pI best) ∧ f 5 = .pv (pI (roomN d a.toNat : Nat)) ∧ f 6 = .pv (pI k) ∧ ((e = .normal ∧ (k : Int) ≤ a ∧ best < roomN d a.toNat) ∨ (e = .exit 0 ∧ ¬ ((k : Int) ≤ a ∧ best < roomN d a.toNat)))) ?vcB m _ ?_)
      case vcB =>
        refine fun b hb => ?_
        rcases cmp hb with ⟨rfl, h⟩ | ⟨rfl, h⟩
        · refine fun b hb => ?_
          rcases cmp hb with ⟨rfl, h'⟩ | ⟨rfl, h'⟩
          · exact ⟨rfl, rfl, rfl, .inl ⟨rfl, h, by omega⟩⟩
          · exact ⟨rfl, rfl, rfl, .inr ⟨rfl, by omega⟩⟩
        · exact ⟨rfl, rfl, rfl, .inr ⟨rfl, by omega⟩⟩
      intro e act3 W3 env3 σ3 vals3 it3 hg3 hr3 hq3
      have j3 : J pre W3 := hJ pre W W3 none hj hg3 (fun r e => by cases e)
      cases e with
      | normal =>
        obtain ⟨h34, h35, h36, hc⟩ := hq3
        have t34 := It.num hr3 h34
        have t35 := It.num hr3 h35
        have t36 := It.num hr3 h36
        obtain ⟨hka, hbr⟩ : (k : Int) ≤ a ∧ best < roomN d a.toNat := by rcases hc with ⟨_, h⟩ | ⟨h, _⟩; exact h; cases h
        clear hr3 h34 h35 h36 hc
        clear hg3 it
        cases mm with
        | zero => omega
        | succ mm =>
        -- behind the round's block
        have hM : ∀ (act5 : Act) (W5 : World) (best' : Nat) (pre' : List { x : List PV // x ∈ recL (recsN d a.toNat) }), It okI l v1 v2 d a act5 W5 → act5.tmps.getD 4 undef = .int .i64 best' → act5.tmps.getD 5 undef = .int .i64 (roomN d a.toNat : Nat) → act5.tmps.getD 6 undef = .int .i64 (k : Nat) →
            best' ≤ roomN d a.toNat → J pre' W5 → pre'.map (·.1) ++ recL (recsRun d a.toNat mm (k + 1) best') = recL (recsN d a.toNat) →
            R3.wpIn Fence.wide m Go.Proofs.Try.prog (Exit.then (fun act' W' => (∃ k m, Rnd okI l v1 v2 d a (fun x : { x : List PV // x ∈ recL (recsN d a.toNat) } => x.1) (recL (recsN d a.toNat)) J k m act' W' ∧ act'.tmps.getD 6 undef = .int .i64 (k : Nat) ∧ 1 ≤ k ∧ (k : Int) + m = a + 1) ∧ (a + 1 - intOf (act'.tmps.getD 6 undef)).toNat < (a + 1 - intOf (act.tmps.getD 6 undef)).toNat)
              (Exit.inBlock 0 (bodyPost Go.Proofs.Try.prog Go.Proofs.Try.f90 fun e W' => (∃ v, e = .returned v) ∧ ((∃ xs, (fun xs => xs.map (fun x : { x : List PV // x ∈ recL (recsN d a.toNat) } => x.1) = recL (recsN d a.toNat)) xs ∧ J xs W') ∨ (∃ pre, (fun pre => pre.map (fun x : { x : List PV // x ∈ recL (recsN d a.toNat) } => x.1) <+: recL (recsN d a.toNat)) pre ∧ Jx pre W'))))) act5 W5 := by
          intro act5 W5 best' pre' it5 t54 t55 t56 hb5 j5 hL5
          refine it5.piece0 hΓ cR3 rfl rfl (it5.relL [((4 : Nat), (best' : Int)), (5, (roomN d a.toNat : Nat)), (6, (k : Int))] ?_) (q := fun e f => e = .normal ∧ f 4 = .pv (pI best') ∧ f 5 = .pv (pI (roomN d a.toNat : Nat)) ∧ f 6 = .pv (pI (k + 1))) ?_ m _ ?_
          · intro q hq; simp only [List.mem_cons, List.not_mem_nil, or_false] at hq; rcases hq with rfl | rfl | rfl; exact t54; exact t55; exact t56
          · refine fun x hx => ?_
            replace hx := n64 hx (by omega)
            subst hx
            exact ⟨rfl, rfl, rfl, rfl⟩
          · intro e act6 W6 env6 σ6 vals6 it6 hg6 hr6 hq6
            cases e with
            | normal =>
              obtain ⟨_, h64, h65, h66⟩ := hq6
              have t64 := It.num hr6 h64
              have t65 := It.num hr6 h65
              have t66 := It.num hr6 h66
              refine ⟨⟨k + 1, mm, ⟨it6, ⟨best', pre', t64, hb5, hJ pre' W5 W6 none j5 hg6 (fun r e => by cases e), hL5⟩, t65⟩, t66, by omega, by omega⟩, ?_⟩
              rw [t66, t6]
              show (a + 1 - ((k : Int) + 1)).toNat < (a + 1 - (k : Int)).toNat
              omega
            | exit i => exact (by obtain ⟨h, _⟩ := hq6; cases h)
            | ret => exact (by obtain ⟨h, _⟩ := hq6; cases h)
            | _ => exact hq6.elim
        refine wpIn_seq (wpIn_block ?_)
        have hroom := roomN_z d ⟨h2, h3⟩
        have numsQ3 : ∀ q ∈ [((4 : Nat), (best : Int)), (5, (roomN d a.toNat : Nat)), (6, (k : Int))], act3.tmps.getD q.1 undef = .int .i64 q.2 := by
          intro q hq; simp only [List.mem_cons, List.not_mem_nil, or_false] at hq; rcases hq with rfl | rfl | rfl; exact t34; exact t35; exact t36
        -- the quick look
        refine wpIn_seq (it3.piece0 hΓ cC1 rfl rfl (it3.relL _ numsQ3) (q := fun e f => f 4 = .pv (pI best) ∧ f 5 = .pv (pI (roomN d a.toNat : Nat)) ∧ f 6 = .pv (pI k) ∧ ((e = .normal ∧ d[a.toNat + best]? = d[a.toNat + best - k]?) ∨ (e = .exit 1 ∧ d[a.toNat + best]? ≠ d[a.toNat + best - k]?))) ?vcC m _ ?_)
        case vcC =>
          refine ⟨by kernel_rfl, ?_⟩
          refine fun x hx => ?_
          replace hx := n64 hx (by omega)
          subst hx
          refine ⟨_, ⟨by omega, List.getElem?_eq_getElem (by omega)⟩, ?_⟩
          refine fun x hx => ?_
          replace hx := n64 hx (by omega)
          subst hx
          refine fun x hx => ?_
          replace hx := n64 hx (by omega)
          subst hx
          refine ⟨_, ⟨by omega, List.getElem?_eq_getElem (by omega)⟩, ?_⟩
          refine fun b hb => ?_
          have e1 : (a + best).toNat = a.toNat + best := by omega
          have e2 : (a + best - k).toNat = a.toNat + best - k := by omega
          rw [ne_eq, get_eq, e1, e2] at hb
          rcases cmp hb with ⟨rfl, h'⟩ | ⟨rfl, h'⟩
          · exact ⟨rfl, rfl, rfl, .inr ⟨rfl, h'⟩⟩
          · exact ⟨rfl, rfl, rfl, .inl ⟨rfl, Decidable.of_not_not h'⟩⟩
        intro e act4 W4 env4 σ4 vals4 it4 hg4 hr4 hq4
        have j4 : J pre W4 := hJ pre W3 W4 none j3 hg4 (fun r e => by cases e)
        cases e with
        | normal =>
          obtain ⟨h44, h45, h46, hc⟩ := hq4
          have t44 := It.num hr4 h44
          have t45 := It.num hr4 h45
          have t46 := It.num hr4 h46
          clear hr4 h44 h45 h46 hc hg4 it3
          have hkt : (a + best - k).toNat = a.toNat + best - k := by omega
          have numsQ4 : ∀ q ∈ [((4 : Nat), (best : Int)), (5, (roomN d a.toNat : Nat)), (6, (k : Int))], act4.tmps.getD q.1 undef = .int .i64 q.2 := by
            intro q hq; simp only [List.mem_cons, List.not_mem_nil, or_false] at hq; rcases hq with rfl | rfl | rfl; exact t44; exact t45; exact t46
          -- the match
          refine wpIn_seq (it4.piece0 hΓ cR5 rfl rfl (it4.relL _ numsQ4) (q := fun e f => e = .normal ∧ f 4 = .pv (pI best) ∧ f 5 = .pv (pI (roomN d a.toNat : Nat)) ∧ f 6 = .pv (pI k) ∧ f 7 = .pv (pI (matchN d a.toNat k : Nat))) ⟨_, ⟨d, a, k, rfl, ⟨h1, h2, h3, by omega, hka⟩, rfl⟩, rfl, rfl, rfl, rfl, rfl⟩ m _ ?_)
          intro e act5 W5 env5 σ5 vals5 it5 hg5 hr5 hq5
          have j5 : J pre W5 := hJ pre W4 W5 none j4 hg5 (fun r e => by cases e)
          cases e with
          | normal =>
            obtain ⟨_, h54, h55, h56, h57⟩ := hq5
            have t54 := It.num hr5 h54
            have t55 := It.num hr5 h55
            have t56 := It.num hr5 h56
            have t57 := It.num hr5 h57
            clear hr5 h54 h55 h56 h57 hg5 it4
            have numsQ5 : ∀ q ∈ [((4 : Nat), (best : Int)), (5, (roomN d a.toNat : Nat)), (6, (k : Int)), (7, (matchN d a.toNat k : Nat))], act5.tmps.getD q.1 undef = .int .i64 q.2 := by
              intro q hq; simp only [List.mem_cons, List.not_mem_nil, or_false] at hq; rcases hq with rfl | rfl | rfl | rfl; exact t54; exact t55; exact t56; exact t57
            refine wpIn_seq (it5.piece0 hΓ cR6 rfl rfl (it5.relL _ numsQ5) (q := fun e f => e = .normal ∧ f 4 = .pv (pI best) ∧ f 5 = .pv (pI (roomN d a.toNat : Nat)) ∧ f 6 = .pv (pI k) ∧ f 7 = .pv (pI (matchN d a.toNat k : Nat)) ∧ ∃ b : Bool, f 40 = .pv (pB b) ∧ (b = true ↔ best < matchN d a.toNat k)) ?vcR6 m _ ?_)
            case vcR6 =>
              refine fun b hb => ?_
              exact ⟨rfl, rfl, rfl, rfl, rfl, b, rfl, hb.trans (by omega)⟩
            intro e act6 W6 env6 σ6 vals6 it6 hg6 hr6 hq6
            have j6 : J pre W6 := hJ pre W5 W6 none j5 hg6 (fun r e => by cases e)
            cases e with
            | normal =>
              obtain ⟨_, h64, h65, h66, h67, b, h6b, hb⟩ := hq6
              have t64 := It.num hr6 h64
              have t65 := It.num hr6 h65
              have t66 := It.num hr6 h66
              have t67 := It.num hr6 h67
              have t6b := It.bool hr6 h6b
              clear hr6 h64 h65 h66 h67 h6b hg6 it5
              have hun : recsRun d a.toNat (mm + 1) k best = if best < matchN d a.toNat k then (k, matchN d a.toNat k) :: recsRun d a.toNat mm (k + 1) (matchN d a.toNat k) else recsRun d a.toNat mm (k + 1) best := by
                rw [recsRun, if_pos hbr]
              rw [hun] at hL
              refine wpIn_cond (t := b) t6b ?_
              cases b with
              | false =>
                have hnb : ¬ best < matchN d a.toNat k := fun h => by have := hb.2 h; cases this
                rw [if_neg hnb] at hL
                exact wpIn_skip (hM act6 W6 best pre it6 t64 t65 t66 hbest j6 hL)
              | true =>
                have hnb : best < matchN d a.toNat k := hb.1 rfl
                rw [if_pos hnb] at hL
                have numsQ6 : ∀ q ∈ [((4 : Nat), (best : Int)), (5, (roomN d a.toNat : Nat)), (6, (k : Int)), (7, (matchN d a.toNat k : Nat))], act6.tmps.getD q.1 undef = .int .i64 q.2 := by
                  intro q hq; simp only [List.mem_cons, List.not_mem_nil, or_false] at hq; rcases hq with rfl | rfl | rfl | rfl; exact t64; exact t65; exact t66; exact t67
                rw [if_pos rfl]
                refine wpIn_seq (it6.piece0 hΓ cR7 rfl rfl (it6.relL _ numsQ6) (q := fun e f => e = .normal ∧ f 4 = .pv (pI (matchN d a.toNat k : Nat)) ∧ f 5 = .pv (pI (roomN d a.toNat : Nat)) ∧ f 6 = .pv (pI k) ∧ f 7 = .pv (pI (matchN d a.toNat k : Nat))) ⟨rfl, rfl, rfl, rfl, rfl⟩ m _ ?_)
                intro e act7 W7 env7 σ7 vals7 it7 hg7 hr7 hq7
                have j7 : J pre W7 := hJ pre W6 W7 none j6 hg7 (fun r e => by cases e)
                cases e with
                | normal =>
                  obtain ⟨_, h74, h75, h76, h77⟩ := hq7
                  have t74 := It.num hr7 h74
                  have t75 := It.num hr7 h75
                  have t76 := It.num hr7 h76
                  have t77 := It.num hr7 h77
                  clear hr7 h74 h75 h76 h77 hg7 it6
                  have hmem : [pI (k : Nat), pI (matchN d a.toNat k : Nat)] ∈ recL (recsN d a.toNat) := by
                    rw [← hL]; simp [recL]
                  have hlen : pre.length < (recL (recsN d a.toNat)).length := by
                    have e := congrArg List.length hL
                    rw [List.length_append, List.length_map] at e
                    have : 0 < (recL ((k, matchN d a.toNat k) :: recsRun d a.toNat mm (k + 1) (matchN d a.toNat k))).length := by simp [recL]
                    omega
                  refine wpIn_seq (wpIn_region ?_)
                  show wpOpsIn Fence.wide m _ _ _ [0, 1, 2, 3, 4] act7 W7
                  refine move_step rfl m0 ?_
                  refine move_step rfl m1 ?_
                  refine move_step rfl m2 ?_
                  have i42 : It okI l v1 v2 d a (act7.put (some 42) (act7.tmps.getD 0 undef)) W7 := it7.put (by omega) (by omega)
                  have g42 : ∀ p, p < 42 → (act7.put (some 42) (act7.tmps.getD 0 undef)).tmps.getD p undef = act7.tmps.getD p undef := fun p hp => by
                    rw [get_put (by rw [it7.size]; omega), if_neg (by omega)]
                  have e42 : (act7.put (some 42) (act7.tmps.getD 0 undef)).tmps.getD 42 undef = .func (.yield l) #[] #[] := by
                    rw [get_put (by rw [it7.size]; omega), if_pos rfl]; exact it7.t0
                  generalize act7.put (some 42) (act7.tmps.getD 0 undef) = b1 at i42 g42 e42
                  have i43 : It okI l v1 v2 d a (b1.put (some 43) (b1.tmps.getD 6 undef)) W7 := i42.put (by omega) (by omega)
                  have g43 : ∀ p, p < 43 → (b1.put (some 43) (b1.tmps.getD 6 undef)).tmps.getD p undef = b1.tmps.getD p undef := fun p hp => by
                    rw [get_put (by rw [i42.size]; omega), if_neg (by omega)]
                  have e43 : (b1.put (some 43) (b1.tmps.getD 6 undef)).tmps.getD 43 undef = .int .i64 k := by
                    rw [get_put (by rw [i42.size]; omega), if_pos rfl, g42 6 (by omega)]; exact t76
                  generalize b1.put (some 43) (b1.tmps.getD 6 undef) = b2 at i43 g43 e43
                  have i44 : It okI l v1 v2 d a (b2.put (some 44) (b2.tmps.getD 7 undef)) W7 := i43.put (by omega) (by omega)
                  have g44 : ∀ p, p < 44 → (b2.put (some 44) (b2.tmps.getD 7 undef)).tmps.getD p undef = b2.tmps.getD p undef := fun p hp => by
                    rw [get_put (by rw [i43.size]; omega), if_neg (by omega)]
                  have e44 : (b2.put (some 44) (b2.tmps.getD 7 undef)).tmps.getD 44 undef = .int .i64 (matchN d a.toNat k : Nat) := by
                    rw [get_put (by rw [i43.size]; omega), if_pos rfl, g43 7 (by omega), g42 7 (by omega)]; exact t77
                  generalize b2.put (some 44) (b2.tmps.getD 7 undef) = b3 at i44 g44 e44
                  refine yield_step rfl g3 d3 op3 cal3 arg3 (l := l) (by rw [g44 42 (by omega), g43 42 (by omega)]; exact e42) ?_
                  rw [g44 43 (by omega), e43, e44]
                  obtain ⟨fn, tm, asg, bd, hy, hR⟩ := hY pre ⟨_, hmem⟩ W7 j7 hlen
                  refine ⟨fn, tm, asg, bd, hy, hR.mono ?_⟩
                  have low : ∀ p, p < 42 → b3.tmps.getD p undef = act7.tmps.getD p undef := fun p hp => by rw [g44 p (by omega), g43 p (by omega), g42 p hp]
                  rintro e W8 (⟨rfl, j8, k8⟩ | ⟨rfl, jx8⟩)
                  · refine ⟨_, rfl, ?_⟩
                    have i8 := i44.kept k8
                    have i45 : It okI l v1 v2 d a (b3.put (some 45) (.bool true)) W8 := i8.put (by omega) (by omega)
                    have g45 : ∀ p, p < 45 → (b3.put (some 45) (.bool true)).tmps.getD p undef = b3.tmps.getD p undef := fun p hp => by
                      rw [get_put (by rw [i8.size]; omega), if_neg (by omega)]
                    have e45 : (b3.put (some 45) (.bool true)).tmps.getD 45 undef = .bool true := by
                      rw [get_put (by rw [i8.size]; omega), if_pos rfl]
                    generalize b3.put (some 45) (.bool true) = b4 at i45 g45 e45
                    refine not_step rfl g4 d4 op4 e45 ?_
                    have i46 : It okI l v1 v2 d a (b4.put (some 46) (.bool (!true))) W8 := i45.put (by omega) (by omega)
                    have g46 : ∀ p, p < 46 → (b4.put (some 46) (.bool (!true))).tmps.getD p undef = b4.tmps.getD p undef := fun p hp => by
                      rw [get_put (by rw [i45.size]; omega), if_neg (by omega)]
                    have e46 : (b4.put (some 46) (.bool (!true))).tmps.getD 46 undef = .bool false := by
                      rw [get_put (by rw [i45.size]; omega), if_pos rfl]; rfl
                    generalize b4.put (some 46) (.bool (!true)) = b5 at i46 g46 e46
                    have low5 : ∀ p, p < 42 → b5.tmps.getD p undef = act7.tmps.getD p undef := fun p hp => by rw [g46 p (by omega), g45 p (by omega), low p hp]
                    refine wpIn_cond_false e46 (wpIn_skip ?_)
                    refine hM b5 W8 (matchN d a.toNat k) (pre ++ [⟨_, hmem⟩]) i46 ?_ ?_ ?_ (matchN_le d a.toNat k) j8 ?_
                    · rw [low5 4 (by omega)]; exact t74
                    · rw [low5 5 (by omega)]; exact t75
                    · rw [low5 6 (by omega)]; exact t76
                    · refine Eq.trans ?_ hL
                      rw [List.map_append, List.append_assoc]
                      rfl
                  · refine ⟨_, rfl, ?_⟩
                    have hsz : b3.tmps.size = 47 := i44.size
                    have e45 : (b3.put (some 45) (.bool false)).tmps.getD 45 undef = .bool false := by
                      rw [get_put (by rw [hsz]; omega), if_pos rfl]
                    have s45 : (b3.put (some 45) (.bool false)).tmps.size = 47 := (put_size ..).trans hsz
                    have d45 : (b3.put (some 45) (.bool false)).defers = [] := i44.defs
                    generalize b3.put (some 45) (.bool false) = b4 at e45 s45 d45
                    refine not_step rfl g4 d4 op4 e45 ?_
                    have e46 : (b4.put (some 46) (.bool (!false))).tmps.getD 46 undef = .bool true := by
                      rw [get_put (by rw [s45]; omega), if_pos rfl]; rfl
                    have d46 : (b4.put (some 46) (.bool (!false))).defers = [] := d45
                    generalize b4.put (some 46) (.bool (!false)) = b5 at e46 d46
                    refine wpIn_cond_true e46 (wpIn_ret ?_)
                    refine ⟨d46, .tuple #[], results_none rfl _ _ _, ⟨_, rfl⟩, .inr ⟨pre ++ [⟨_, hmem⟩], ?_, jx8⟩⟩
                    refine ⟨recL (recsRun d a.toNat mm (k + 1) (matchN d a.toNat k)), ?_⟩
                    show List.map (·.1) (pre ++ [_]) ++ _ = _
                    refine Eq.trans ?_ hL
                    rw [List.map_append, List.append_assoc]
                    rfl
                | exit i => exact (by obtain ⟨h, _⟩ := hq7; cases h)
                | ret => exact (by obtain ⟨h, _⟩ := hq7; cases h)
                | _ => exact hq7.elim
            | exit i => exact (by obtain ⟨h, _⟩ := hq6; cases h)
            | ret => exact (by obtain ⟨h, _⟩ := hq6; cases h)
            | _ => exact hq6.elim
          | exit i => exact (by obtain ⟨h, _⟩ := hq5; cases h)
          | ret => exact (by obtain ⟨h, _⟩ := hq5; cases h)
          | _ => exact hq5.elim
        | exit i =>
          obtain ⟨h44, h45, h46, hc⟩ := hq4
          obtain ⟨rfl, hc'⟩ : i = 1 ∧ d[a.toNat + best]? ≠ d[a.toNat + best - k]? := by
            rcases hc with ⟨h, _⟩ | ⟨h, h'⟩
            · cases h
            · injection h with h; exact ⟨h, h'⟩
          refine hM act4 W4 best pre it4 (It.num hr4 h44) (It.num hr4 h45) (It.num hr4 h46) hbest j4 ?_
          unfold recsRun at hL
          rw [if_pos hbr, if_neg (by have := matchN_stop d a.toNat k best hbr hc'; omega)] at hL
          exact hL
        | ret => exact (by obtain ⟨_, _, _, hc⟩ := hq4; rcases hc with ⟨h, _⟩ | ⟨h, _⟩ <;> cases h)
        | _ => exact hq4.elim
      | exit i =>
        obtain ⟨h34, h35, h36, hc⟩ := hq3
        obtain ⟨rfl, hc⟩ : i = 0 ∧ ¬ ((k : Int) ≤ a ∧ best < roomN d a.toNat) := by
          rcases hc with ⟨h, _⟩ | ⟨h, h'⟩
          · cases h
          · injection h with h; exact ⟨h, h'⟩
        refine ⟨it3.defs, .tuple #[], results_none rfl _ _ _, ⟨_, rfl⟩, .inl ⟨pre, ?_, j3⟩⟩
        have : recsRun d a.toNat mm k best = [] := by
          cases mm with
          | zero => rfl
          | succ mm => unfold recsRun; rw [if_neg (by omega)]
        rw [this] at hL
        simpa [recL] using hL
      | ret => exact (by obtain ⟨_, _, _, hc⟩ := hq3; rcases hc with ⟨h, _⟩ | ⟨h, _⟩ <;> cases h)
      | _ => exact hq3.elim
    | exit i => exact (by obtain ⟨h, _⟩ := hq2; cases h)
    | ret => exact (by obtain ⟨h, _⟩ := hq2; cases h)
    | _ => exact hq2.elim
  | exit i => exact (by obtain ⟨h, _⟩ := hq1; cases h)
  | ret => exact (by obtain ⟨h, _⟩ := hq1; cases h)
  | _ => exact hq1.elim
end Go.Dv.Try
end
section
/-
  Contracts of chapter 6: the matches, the greatest, the nearest.
-/
namespace Go.Dv.Try
open Go Go.Dv

/-- The iterator's contract. -/
def S_matches_f : Spec := { lone := false, fn := false, run := fun _ _ => False, iter := iter83, mu := false, mrun := fun _ _ _ => False }

theorem at_matches_f (hΓ : Sound Go.Proofs.Try.prog (ctxOf [(91, fnSpec R_compress_data_room), (92, fnSpec R_compress_data_match)])) : SoundAt Go.Proofs.Try.prog n_compress_data_matches_f1 S_matches_f :=
  ⟨(fun e => by cases e), (fun e => by cases e), (fun _ _ _ _ _ _ _ _ h => (show False from h).elim), iter_sound hΓ, (fun _ _ _ _ _ _ _ _ e => by cases e)⟩

def S_matches : Spec := mkS false false fun ps K => ∃ (d : List UInt8) (a : Int), ps = [.str d, pI a] ∧ K (.pv (.clo n_compress_data_matches_f1 [.cptr (.str d), .cptr (pI a)]))
theorem meets_matches : Meets (ctxOf [(n_compress_data_matches_f1, S_matches_f)]) s_compress_data_matches c_compress_data_matches r_compress_data_matches S_matches := by
  rintro _ K ⟨d, a, rfl, hK⟩
  exact ⟨.pv _, rfl, trivial, hK⟩

/-- The greatest match. -/
theorem last_map (l : List (Nat × Nat)) : (l.map (·.2)).getLastD 0 = (((0, 0) :: l).getLast (by simp)).2 := by
  cases l with
  | nil => rfl
  | cons x l =>
    rw [List.getLast_cons (by simp), List.getLastD_eq_getLast?, List.getLast?_map, List.getLast?_eq_some_getLast (by simp)]
    rfl
theorem recs_last (d : List UInt8) (a : Nat) : ((recsN d a).map (·.2)).getLastD 0 = (bestN d a).2 := by
  unfold bestN
  rw [bestRun_recs d a a 1 0 0, last_map]
  rfl

def R_greatest (ps : List PV) (x : PV) : Prop := ∃ (d : List UInt8) (a : Int), ps = [.str d, pI a] ∧ (d.length ≤ 4096 ∧ 0 ≤ a ∧ a ≤ (d.length : Int)) ∧ x = pI ((bestN d a.toNat).2 : Nat)
theorem meets_greatest : Meets (ctxOf [(n_compress_data_matches, S_matches), (n_compress_data_matches_f1, S_matches_f)]) s_compress_data_greatest c_compress_data_greatest r_compress_data_greatest (fnSpec R_greatest) := by
  rintro _ K ⟨_, ⟨d, a, rfl, h, rfl⟩, hK⟩
  refine ⟨rfl, ?_⟩
  refine ⟨d, a, rfl, ?_⟩
  refine ⟨recL (recsN d a.toNat), fun pre σ => ∃ l : List (Nat × Nat), pre = recL l ∧ σ = [.box 3 [.pv (pI ((l.map (·.2)).getLastD 0 : Nat))]], ⟨d, a, rfl, h, rfl⟩, ?_, ⟨[], rfl, rfl⟩, ?_, ?_⟩
  · intro x hx
    simp only [recL, List.mem_map] at hx
    obtain ⟨p, _, rfl⟩ := hx
    exact ⟨rfl, by simp [primB]; exact ⟨rfl, rfl⟩⟩
  · rintro pre x σ hx _ ⟨l, rfl, rfl⟩
    simp only [recL, List.mem_map] at hx
    obtain ⟨p, _, rfl⟩ := hx
    refine ⟨rfl, l ++ [p], by simp [recL], ?_⟩
    simp
  · rintro σ ⟨l, hl, rfl⟩
    have : l = recsN d a.toNat := by
      unfold recL at hl
      exact (List.map_inj_right (fun x y e => by simp at e; exact Prod.ext (by omega) (by omega))).1 hl.symm
    subst this
    rw [recs_last]
    exact ⟨.pv _, rfl, trivial, hK⟩

def R_nearest (ps : List PV) (x : PV) : Prop := ∃ (d : List UInt8) (a n : Int), ps = [.str d, pI a, pI n] ∧ (d.length ≤ 4096 ∧ 0 ≤ a ∧ a ≤ (d.length : Int) ∧ 0 ≤ n) ∧ x = pI (nearN d a.toNat n.toNat : Nat)
theorem meets_nearest : Meets (ctxOf [(n_compress_data_matches, S_matches), (n_compress_data_matches_f1, S_matches_f)]) s_compress_data_nearest c_compress_data_nearest r_compress_data_nearest (fnSpec R_nearest) := by
  rintro _ K ⟨_, ⟨d, a, n, rfl, ⟨h1, h2, h3, h4⟩, rfl⟩, hK⟩
  refine ⟨d, a, rfl, ?_⟩
  refine ⟨recL (recsN d a.toNat), fun pre σ => ∃ l : List (Nat × Nat), (pre = recL l ∧ ∀ p ∈ l, ¬ n.toNat ≤ p.2) ∧ σ = [.box 3 [.pv (pI n)], .box 3 [.pv (pI 0)]], ⟨d, a, rfl, ⟨h1, h2, h3⟩, rfl⟩, ?_, ⟨[], ⟨rfl, by simp⟩, rfl⟩, ?_, ?_⟩
  · intro x hx
    simp only [recL, List.mem_map] at hx
    obtain ⟨p, _, rfl⟩ := hx
    exact ⟨rfl, by simp [primB]; exact ⟨rfl, rfl⟩⟩
  · rintro pre x σ hx _ ⟨l, ⟨rfl, hl⟩, rfl⟩
    simp only [recL, List.mem_map] at hx
    obtain ⟨p, _, rfl⟩ := hx
    refine fun b hb => ?_
    rcases cmp hb with ⟨rfl, h⟩ | ⟨rfl, h⟩
    · refine ⟨rfl, fun hp => ?_⟩
      refine ⟨.pv (pI _), pI_eq ?_, trivial, hK⟩
      obtain ⟨t, ht⟩ := hp
      have e : recL (l ++ [p]) ++ t = recL (recsN d a.toNat) := by rw [← ht]; simp [recL]
      obtain ⟨u, hu⟩ : ∃ u, recsN d a.toNat = (l ++ [p]) ++ u := by
        refine ⟨(recsN d a.toNat).drop (l ++ [p]).length, ?_⟩
        have e2 : (recsN d a.toNat).take (l ++ [p]).length = l ++ [p] := by
          have h5 : recL ((recsN d a.toNat).take (l ++ [p]).length) = recL (l ++ [p]) := by
            unfold recL at e ⊢
            rw [List.map_take, ← e, ← List.length_map (f := fun p : Nat × Nat => [pI (p.1 : Nat), pI (p.2 : Nat)]), List.take_left]
          unfold recL at h5
          exact (List.map_inj_right (fun x y e => by simp at e; exact Prod.ext (by omega) (by omega))).1 h5
        rw [← e2, List.length_take]
        have hlen : (l ++ [p]).length ≤ (recsN d a.toNat).length := by
          have := congrArg List.length e
          simp only [recL, List.length_append, List.length_map] at this ⊢
          omega
        rw [Nat.min_eq_left hlen]
        exact (List.take_append_drop _ _).symm
      unfold nearN
      rw [hu, List.append_assoc, List.find?_append, List.find?_eq_none.2 (by simpa using hl)]
      have : n.toNat ≤ p.2 := by omega
      show ((((p :: u).find? fun p => decide (n.toNat ≤ p.2)).elim 0 (·.1) : Nat) : Int) = _
      rw [List.find?_cons_of_pos (by simpa using this)]
      rfl
    · exact ⟨l ++ [p], ⟨by simp [recL], by
        intro q hq
        rcases List.mem_append.1 hq with hq | hq
        · exact hl q hq
        · simp at hq; subst hq; omega⟩, rfl⟩
  · rintro σ ⟨l, ⟨hl, hn⟩, rfl⟩
    have : l = recsN d a.toNat := by
      unfold recL at hl
      exact (List.map_inj_right (fun x y e => by simp at e; exact Prod.ext (by omega) (by omega))).1 hl.symm
    subst this
    refine ⟨rfl, ?_⟩
    refine ⟨.pv (pI _), pI_eq ?_, trivial, hK⟩
    unfold nearN
    rw [List.find?_eq_none.2 (by simpa using hn)]
    rfl

end Go.Dv.Try
end
section
/-
  Contracts of chapter 6: costs.
-/
namespace Go.Dv.Try
open Go Go.Dv

/-- Numbers of a list behind a place that are small enough. -/
def Small (c : List Int) (a : Nat) : Prop := ∀ i, a < i → ∀ x, c[i]? = some x → -1000000 ≤ x ∧ x ≤ 1000000

theorem minRun_abs (t : List Int) : ∀ (m n : Nat) (o : Int), minRun t (m + 1) n o = minRun t m (n + 1) (min o (17 + t.getD (n - 1) 0)) := fun _ _ _ => rfl

def R_cost (ps : List PV) (x : PV) : Prop := ∃ (d : List UInt8) (c : List Int) (a : Int), ps = [.str d, .sl 1 (c.map pI), pI a] ∧ (d.length ≤ 4096 ∧ 0 ≤ a ∧ a < (d.length : Int) ∧ c.length = d.length + 1 ∧ Small c a.toNat) ∧ x = pI (costT d a.toNat (c.drop (a.toNat + 1)))
theorem meets_cost : Meets (ctxOf [(n_compress_data_greatest, fnSpec R_greatest)]) s_compress_data_cost c_compress_data_cost r_compress_data_cost (fnSpec R_cost) := by
  rintro _ K ⟨_, ⟨d, c, a, rfl, ⟨h1, h2, h3, h4, h5⟩, rfl⟩, hK⟩
  have hb := bestN_le d a.toNat
  have hr : roomN d a.toNat ≤ d.length - a.toNat := Nat.min_le_right _ _
  have hget : ∀ n : Nat, 1 ≤ n → n ≤ d.length - a.toNat → (c.map pI)[a.toNat + n]? = some (pI ((c.drop (a.toNat + 1)).getD (n - 1) 0)) ∧ -1000000 ≤ (c.drop (a.toNat + 1)).getD (n - 1) 0 ∧ (c.drop (a.toNat + 1)).getD (n - 1) 0 ≤ 1000000 := by
    intro n hn1 hn2
    have hlt : a.toNat + n < c.length := by omega
    rw [getD_drop1 _ _ _ hn1, List.getD_eq_getElem?_getD, List.getElem?_map, List.getElem?_eq_getElem hlt]
    exact ⟨rfl, h5 (a.toNat + n) (by omega) _ (List.getElem?_eq_getElem hlt)⟩
  generalize hT : c.drop (a.toNat + 1) = T at hget hK
  refine fun x hx => ?_
  obtain rfl := n64 hx (by omega)
  obtain ⟨g1, g2, g3⟩ := hget 1 (Nat.le_refl _) (by omega)
  refine ⟨_, ⟨by omega, by rw [show (a + 1).toNat = a.toNat + 1 by omega]; exact g1⟩, ?_⟩
  refine fun x hx => ?_
  obtain rfl := n64 hx (by omega)
  refine ⟨_, ⟨d, a, rfl, ⟨h1, h2, by omega⟩, rfl⟩, ?_⟩
  refine ⟨fun m env σ => ∃ (n : Nat) (o : Int), (3 ≤ n ∧ (n : Int) + m = max 3 ((bestN d a.toNat).2 + 1) ∧ -1000000 ≤ o ∧ o ≤ 2000000 ∧ minRun T m n o = costT d a.toNat T) ∧ σ = [] ∧ env = [(1, .pv (.sl 1 (c.map pI))), (2, .pv (pI a)), (7, .pv (pI o)), (8, .pv (pI n)), (9, .pv (pI ((bestN d a.toNat).2 : Nat)))], (bestN d a.toNat).2 - 2, ⟨3, _, ⟨by omega, by omega, ?_, ?_, rfl⟩, rfl, rfl⟩, ?_⟩
  · simp only [Nat.sub_self] at g2 ⊢; omega
  · simp only [Nat.sub_self] at g3 ⊢; omega
  rintro m env σ ⟨n, o, ⟨hn, hm, ho1, ho2, hrun⟩, rfl, rfl⟩
  refine fun b hb' => ?_
  rcases cmp hb' with ⟨rfl, h⟩ | ⟨rfl, h⟩
  · cases m with
    | zero => omega
    | succ m =>
    obtain ⟨g1, g2, g3⟩ := hget n (by omega) (by omega)
    refine fun x hx => ?_
    obtain rfl := n64 hx (by omega)
    refine ⟨_, ⟨by omega, by rw [show (a + n).toNat = a.toNat + n by omega]; exact g1⟩, ?_⟩
    refine fun x hx => ?_
    obtain rfl := n64 hx (by omega)
    refine fun x hx => ?_
    refine fun y hy => ?_
    obtain rfl := n64 hy (by omega)
    rw [minRun_abs] at hrun
    subst hx
    exact ⟨m, by omega, n + 1, _, ⟨by omega, by omega, by omega, by omega, hrun⟩, rfl, rfl⟩
  · have : m = 0 := by omega
    subst this
    have : o = costT d a.toNat T := hrun
    subst this
    exact ⟨.pv (pI _), rfl, trivial, hK⟩
end Go.Dv.Try
end
section
/-
  Contracts of chapter 6: all costs.
-/
namespace Go.Dv.Try
open Go Go.Dv

/-- Costs, those of the first m positions not yet. -/
def row0 (m : Nat) (t : List Int) : List Int := List.replicate m 0 ++ t

theorem row0_len (m : Nat) (t : List Int) : (row0 m t).length = m + t.length := by simp [row0]
theorem row0_drop (m : Nat) (t : List Int) : (row0 m t).drop m = t := by
  unfold row0; rw [List.drop_append_of_le_length (by simp)]; simp
theorem row0_set (m : Nat) (t : List Int) (x : Int) : ((row0 (m + 1) t).map pI).set m (pI x) = (row0 m (x :: t)).map pI := by
  unfold row0
  rw [List.replicate_succ', List.append_assoc, List.map_append, List.set_append_right _ _ (by simp), List.length_map, List.length_replicate, Nat.sub_self, List.map_append, List.map_append]
  rfl
theorem row0_small (m : Nat) (t : List Int) (a : Nat) (h : ∀ x ∈ t, -1000000 ≤ x ∧ x ≤ 1000000) : Small (row0 m t) a := by
  intro i _ x hx
  rcases List.mem_append.1 (List.mem_of_getElem? hx) with h' | h'
  · simp at h'; omega
  · exact h x h'

theorem flat_ints (l : List Int) : ∀ x ∈ l.map pI, x.flat := by
  intro x hx
  obtain ⟨t, _, rfl⟩ := List.mem_map.1 hx
  trivial

def S_costs : Spec := mkS true false fun ps K => ∃ d : List UInt8, ps = [.str d] ∧ d.length ≤ 4096 ∧ K (.fresh 3 1 ((costsN d).map pI))
theorem meets_costs : Meets (ctxOf [(n_compress_data_cost, fnSpec R_cost)]) s_compress_data_costs c_compress_data_costs r_compress_data_costs S_costs := by
  rintro _ K ⟨d, rfl, h1, hK⟩
  refine fun x hx => ?_
  obtain rfl := n64 hx (by omega)
  refine ⟨by omega, ?_⟩
  refine fun x hx => ?_
  obtain rfl := n64 hx (by omega)
  refine ⟨fun m env σ => (m ≤ d.length) ∧ σ = [.row 3 1 true ((row0 m (costsT d (d.length - m))).map pI)] ∧ env = [(0, .pv (.str d)), (3, .own 0), (4, .pv (pI ((m : Int) - 1)))], d.length, ⟨Nat.le_refl _, ?_, rfl⟩, ?_⟩
  · have : ((d.length : Int) + 1).toNat = d.length + 1 := by omega
    rw [this, Nat.sub_self]
    simp only [row0, costsT, List.map_append, List.map_replicate, List.map_cons, List.map_nil, List.replicate_succ']
  rintro m env σ ⟨hm, rfl, rfl⟩
  refine fun b hb => ?_
  rcases cmp hb with ⟨rfl, h⟩ | ⟨rfl, h⟩
  · cases m with
    | zero => omega
    | succ m =>
    have e : ((m + 1 : Nat) : Int) - 1 = (m : Int) := by omega
    rw [e] at *
    have hlen := row0_len (m + 1) (costsT d (d.length - (m + 1)))
    rw [costsT_len] at hlen
    refine ⟨_, ⟨d, row0 (m + 1) (costsT d (d.length - (m + 1))), m, rfl, ⟨h1, by omega, by omega, by omega, row0_small _ _ _ (fun x hx => by have := costsT_bounds d _ x hx; omega)⟩, rfl⟩, ?_⟩
    rw [Int.toNat_natCast, row0_drop]
    refine ⟨⟨by omega, by rw [List.length_map, Int.toNat_natCast]; omega⟩, ?_⟩
    refine ⟨pI 0, ?_, ?_⟩
    · rw [Int.toNat_natCast, List.getElem?_map]
      unfold row0
      rw [List.getElem?_append_left (by simp), List.getElem?_replicate, if_pos (by omega)]; rfl
    refine ⟨rfl, ?_⟩
    refine fun x hx => ?_
    obtain rfl := n64 hx (by omega)
    refine ⟨m, by omega, by omega, ?_, rfl⟩
    have e2 : d.length - m = (d.length - (m + 1)) + 1 := by omega
    have e3 : d.length - (d.length - (m + 1) + 1) = m := by omega
    rw [e2]
    show [Blk.row 3 1 true (((row0 (m + 1) (costsT d (d.length - (m + 1)))).map pI).set ((m : Int).toNat) _)] = _
    rw [Int.toNat_natCast, row0_set, costsT, e3]
  · have : m = 0 := by omega
    subst this
    exact ⟨.fresh _ _ _, ⟨rfl, rfl, rfl, rfl⟩, flat_ints _, hK⟩
end Go.Dv.Try
end
section
/-
  Contracts of chapter 6: the reference's costs; the greedy tokens.
-/
namespace Go.Dv.Try
open Go Go.Dv

end Go.Dv.Try
end
section
/-
  Contracts of chapter 6: the optimal tokens.
-/
namespace Go.Dv.Try
open Go Go.Dv

theorem costsN_len (d : List UInt8) : (costsN d).length = d.length + 1 := costsT_len d d.length
theorem costsN_get (d : List UInt8) {i : Nat} (h : i ≤ d.length) : ((costsN d).map pI)[i]? = some (pI ((costsN d).getD i 0)) ∧ 0 ≤ (costsN d).getD i 0 ∧ (costsN d).getD i 0 ≤ 9 * d.length := by
  have hl := costsN_len d
  have hlt : i < (costsN d).length := by omega
  rw [List.getElem?_map, List.getD_eq_getElem?_getD, List.getElem?_eq_getElem hlt]
  exact ⟨rfl, costsT_bounds d d.length _ (List.getElem_mem hlt)⟩

def S_optimal : Spec := mkS true false fun ps K => ∃ d : List UInt8, ps = [.str d] ∧ d.length ≤ 4096 ∧ K (.fresh T_api_CompressToken 3 ((optN d).map Tok.pv))
theorem meets_optimal : Meets (ctxOf [(n_compress_data_costs, S_costs), (n_compress_data_literal, fnSpec R_compress_data_literal), (n_compress_data_nearest, fnSpec R_nearest), (n_compress_made, fnSpec R_compress_made)]) s_compress_data_optimal c_compress_data_optimal r_compress_data_optimal S_optimal := by
  rintro _ K ⟨d, rfl, h1, hK⟩
  refine ⟨d, rfl, h1, ?_⟩
  refine ⟨fun m env σ => ∃ (done : List Tok) (a : Nat), (a + m = d.length ∧ done.length ≤ a ∧ optN d = done ++ optRun d (costsN d) m a) ∧ σ = [.row 3 1 true ((costsN d).map pI), .row T_api_CompressToken 3 true (done.map Tok.pv)] ∧ env = [(0, .pv (.str d)), (3, .own 0), (4, .own 1), (5, .pv (pI a))], d.length, ⟨[], 0, ⟨by omega, by simp, rfl⟩, rfl, rfl⟩, ?_⟩
  rintro m env σ ⟨done, a, ⟨hm, hlen, hrun⟩, rfl, rfl⟩
  refine fun b hb => ?_
  rcases cmp hb with ⟨rfl, h⟩ | ⟨rfl, h⟩
  · cases m with
    | zero => omega
    | succ m =>
    rw [optRun_step d m a hm] at hrun
    have hmade := optAt_made d a (by omega)
    have hl := costsN_len d
    have ha := costsN_get d (i := a) (by omega)
    have ha1 := costsN_get d (i := a + 1) (by omega)
    -- the end of a round, whichever token it is
    have fin : ∀ t : Tok, t = optAt d (costsN d) a → ∃ m', m' < m + 1 ∧ ∃ (done' : List Tok) (a' : Nat), (a' + m' = d.length ∧ done'.length ≤ a' ∧ optN d = done' ++ optRun d (costsN d) m' a') ∧ done.map Tok.pv ++ [t.pv] = done'.map Tok.pv ∧ (a : Int) + t.made = a' := by
      rintro t rfl
      exact ⟨m + 1 - (optAt d (costsN d) a).made.toNat, by omega, done ++ [optAt d (costsN d) a], a + (optAt d (costsN d) a).made.toNat, ⟨by omega, by simp; omega, by rw [hrun]; simp⟩, by simp, by omega⟩
    refine ⟨_, ⟨d, a, rfl, ⟨by omega, by omega⟩, rfl⟩, ?_⟩
    refine ⟨rfl, ?_⟩
    refine ⟨by kernel_rfl, ?_⟩
    refine fun x hx => ?_
    obtain rfl := n64 hx (by omega)
    have e1 : ((a : Int) + 1).toNat = a + 1 := by omega
    refine ⟨⟨by omega, by rw [List.length_map, e1]; omega⟩, ?_⟩
    rw [e1]
    refine ⟨_, ha1.1, ?_⟩
    refine fun x hx => ?_
    obtain rfl := n64 hx (by omega)
    refine ⟨⟨by omega, by rw [List.length_map, Int.toNat_natCast]; omega⟩, ?_⟩
    refine ⟨_, by rw [Int.toNat_natCast]; exact ha.1, ?_⟩
    refine fun b hb => ?_
    rcases cmp hb with ⟨rfl, h'⟩ | ⟨rfl, h'⟩
    · have hf := opt_find d a (by omega) h'
      have hbest := bestN_le d a
      have hopt : optAt d (costsN d) a = copyN (nearN d a (findRun (costsN d) a (d.length - a) 3), findRun (costsN d) a (d.length - a) 3) := by unfold optAt; rw [if_pos h']
      refine ⟨fun m env σ => ∃ n : Nat, (3 ≤ n ∧ n + m = d.length - a + 3 ∧ findRun (costsN d) a m n = findRun (costsN d) a (d.length - a) 3) ∧ σ = [.row 3 1 true ((costsN d).map pI), .row T_api_CompressToken 3 true (done.map Tok.pv), .box T_api_CompressToken [.pv (pI 0), .pv (pI 0), .pv (pI (litN d a).b)]] ∧ env = [(0, .pv (.str d)), (3, .own 0), (4, .own 1), (5, .pv (pI a)), (6, .ref 2 0 0), (7, .pv (pI n))], d.length - a, ⟨3, ⟨Nat.le_refl _, by omega, rfl⟩, rfl, rfl⟩, ?_⟩
      rintro k env σ ⟨n, ⟨hn, hk, hfr⟩, rfl, rfl⟩
      have hnf : k = 0 ∨ n ≤ findRun (costsN d) a (d.length - a) 3 := by
        cases k with
        | zero => exact .inl rfl
        | succ k =>
          right
          obtain ⟨q, hq1, hq2, hq3⟩ := cost_copy d a (by omega) h'
          by_cases hqn : n ≤ q
          · have := findRun_spec (costsN d) a (k + 1) n q hqn (by have := hbest.1; have : roomN d a ≤ d.length - a := Nat.min_le_right _ _; omega) hq3
            omega
          · rw [← hfr]
            have : ∀ m n, n ≤ findRun (costsN d) a m n := by
              intro m
              induction m with
              | zero => intro n; exact Nat.le_refl _
              | succ m ih => intro n; unfold findRun; split; have := ih (n + 1); omega; exact Nat.le_refl _
            exact this _ _
      refine ⟨by kernel_rfl, ?_⟩
      have han : a + n ≤ d.length := by
        rcases hnf with rfl | hnf
        · have : n = findRun (costsN d) a (d.length - a) 3 := hfr
          omega
        · omega
      have hcn := costsN_get d (i := a + n) han
      refine fun x hx => ?_
      obtain rfl := n64 hx (by omega)
      have e2 : ((a : Int) + n).toNat = a + n := by omega
      refine ⟨⟨by omega, by rw [List.length_map, e2]; omega⟩, ?_⟩
      refine ⟨_, by rw [e2]; exact hcn.1, ?_⟩
      refine fun x hx => ?_
      obtain rfl := n64 hx (by omega)
      refine ⟨⟨by omega, by rw [List.length_map, Int.toNat_natCast]; omega⟩, ?_⟩
      refine ⟨_, by rw [Int.toNat_natCast]; exact ha.1, ?_⟩
      refine fun b hb => ?_
      rcases cmp hb with ⟨rfl, h2⟩ | ⟨rfl, h2⟩
      · refine fun x hx => ?_
        obtain rfl := n64 hx (by omega)
        cases k with
        | zero =>
          have : n = findRun (costsN d) a (d.length - a) 3 := hfr
          rw [← this] at hf
          exact absurd hf.2.2.2 h2
        | succ k =>
          have e3 : findRun (costsN d) a (k + 1) n = findRun (costsN d) a k (n + 1) := by rw [findRun, if_pos h2]
          rw [e3] at hfr
          exact ⟨k, by omega, n + 1, ⟨by omega, by omega, hfr⟩, rfl, rfl⟩
      · have hnn : n = findRun (costsN d) a (d.length - a) 3 := by
          cases k with
          | zero => exact hfr
          | succ k =>
            have e3 : findRun (costsN d) a (k + 1) n = n := by rw [findRun, if_neg h2]
            rw [e3] at hfr; exact hfr
        refine ⟨_, ⟨d, a, n, rfl, ⟨h1, by omega, by omega, by omega⟩, rfl⟩, ?_⟩
        rw [Int.toNat_natCast, Int.toNat_natCast]
        refine ⟨rfl, ?_⟩
        refine ⟨rfl, ?_⟩
        refine ⟨rfl, ?_⟩
        refine ⟨rfl, ?_⟩
        refine ⟨⟨?_, ?_⟩, ?_⟩
        · rw [List.length_map]; show (done.length + 1) * 24 ≤ _; omega
        · rw [List.length_map]; show done.length + 1 ≤ _; omega
        refine ⟨_, ⟨copyN (nearN d a n, n), rfl, rfl⟩, ?_⟩
        have et : copyN (nearN d a n, n) = optAt d (costsN d) a := by rw [hopt, ← hnn]
        obtain ⟨m', f1, done', a', f2, f3, f4⟩ := fin _ et
        refine fun x hx => ?_
        obtain rfl := n64 hx (by omega)
        refine ⟨m', f1, done', a', f2, ?_, ?_⟩
        · exact congrArg (fun l => [Blk.row 3 1 true ((costsN d).map pI), Blk.row T_api_CompressToken 3 true l]) f3
        · rw [f4]
    · have hopt : litN d a = optAt d (costsN d) a := by unfold optAt; rw [if_neg h']
      refine ⟨rfl, ?_⟩
      refine ⟨⟨?_, ?_⟩, ?_⟩
      · rw [List.length_map]; show (done.length + 1) * 24 ≤ _; omega
      · rw [List.length_map]; show done.length + 1 ≤ _; omega
      refine ⟨_, ⟨litN d a, rfl, rfl⟩, ?_⟩
      obtain ⟨m', f1, done', a', f2, f3, f4⟩ := fin _ hopt
      refine fun x hx => ?_
      obtain rfl := n64 hx (by omega)
      refine ⟨m', f1, done', a', f2, ?_, ?_⟩
      · exact congrArg (fun l => [Blk.row 3 1 true ((costsN d).map pI), Blk.row T_api_CompressToken 3 true l]) f3
      · rw [f4]
  · have : m = 0 := by omega
    subst this
    have e : optN d = done := by rw [hrun]; simp [optRun]
    rw [e] at hK
    exact ⟨.fresh _ _ _, ⟨rfl, rfl, rfl, rfl⟩, flat_toks _, hK⟩
end Go.Dv.Try
end
section
/-
  Contracts of chapter 6: the reference's optimal tokens; results with errors.
-/
namespace Go.Dv.Try
open Go Go.Dv

theorem dErr_zero {n : Nat} (h : ¬ dErr n ≠ 0) : n ≤ 4096 ∧ 0 < n ∧ dErr n = 0 := by
  have h0 : dErr n = 0 := Decidable.of_not_not h
  refine ⟨?_, ?_, h0⟩ <;> (unfold dErr at h0; split at h0; cases h0; split at h0; omega; cases h0)

end Go.Dv.Try
end
section
/-
  Contracts of chapter 6: words and heads.
-/
namespace Go.Dv.Try
open Go Go.Dv

theorem bytes2 (a b : UInt8) : [byteP a, byteP b] = [a, b].map byteP := rfl

def R_word (ps : List PV) (x : PV) : Prop := ∃ n : Int, ps = [pI n] ∧ (0 ≤ n ∧ n < 65536) ∧ x = .str (wordN n.toNat)
theorem meets_word : Meets (ctxOf []) s_compress_word c_compress_word r_compress_word (fnSpec R_word) := by
  rintro _ K ⟨_, ⟨n, rfl, h, rfl⟩, hK⟩
  refine fun x hx => ?_
  rw [wrapU8] at hx
  refine ⟨by omega, ?_⟩
  refine fun y hy => ?_
  have hy : y = n / 256 := by
    rw [hy]
    show n.fdiv (2 ^ 8) = _
    rw [Int.fdiv_eq_ediv_of_nonneg _ (by decide)]; rfl
  refine fun z hz => ?_
  rw [wrapU8] at hz
  refine ⟨rfl, ?_⟩
  refine ⟨wordN n.toNat, ?_, ?_⟩
  · unfold wordN
    rw [← bytes2, byteP_of (n := x) (by omega), byteP_of (n := z) (by omega), hx, hz, hy]
    congr 2
    · congr 1; omega
    · congr 2; omega
  · exact ⟨.pv (.str _), rfl, trivial, hK⟩

def R_head (ps : List PV) (x : PV) : Prop := ∃ (n : Int) (b : Bool), ps = [pI n, pB b] ∧ (1 ≤ n ∧ n ≤ 4096) ∧ x = .str (headN n.toNat b)
theorem meets_head : Meets (ctxOf [(n_compress_word, fnSpec R_word)]) s_compress_head c_compress_head r_compress_head (fnSpec R_head) := by
  rintro _ K ⟨_, ⟨n, b, rfl, h, rfl⟩, hK⟩
  refine fun x hx => ?_
  obtain rfl := n64 hx (by omega)
  refine fun x hx => ?_
  have e : x = ((n.toNat - 1 + 12288 : Nat) : Int) := by
    rw [hx, show n - 1 = ((n.toNat - 1 : Nat) : Int) by omega, show (12288 : Int) = ((12288 : Nat) : Int) from rfl, or64 (by omega) (by decide)]
    rw [show (12288 : Nat) = 2 ^ 12 * 3 from rfl, or_add (by omega)]
  subst e
  cases b with
  | true =>
    refine fun x hx => ?_
    have e : x = ((n.toNat - 1 + 12288 + 32768 : Nat) : Int) := by
      rw [hx, show (32768 : Int) = ((32768 : Nat) : Int) from rfl, or64 (by omega) (by decide)]
      rw [show (32768 : Nat) = 2 ^ 15 * 1 from rfl, or_add (by omega)]
    subst e
    refine ⟨_, ⟨_, rfl, by omega, rfl⟩, ?_⟩
    exact ⟨.pv (.str _), rfl, trivial, hK⟩
  | false =>
    refine ⟨_, ⟨_, rfl, by omega, rfl⟩, ?_⟩
    exact ⟨.pv (.str _), rfl, trivial, hK⟩

end Go.Dv.Try
end
