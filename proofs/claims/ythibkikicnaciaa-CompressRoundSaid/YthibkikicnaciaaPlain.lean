/-
  A part of the proof: own texts, laid together by a tool of our own: P06a P06b P06c P06d P06e P06f.
-/
import Derived.Test.YthibkikicnaciaaDv2
section
/-
  Plain laws of chapter 6: shifts and lengths of copies.
-/
namespace Go.Dv.Try
open Go Go.Dv

/-- How many bits a number has. -/
def blen (n : Nat) : Nat := if n = 0 then 0 else Nat.log2 n + 1

theorem blen_le {n k : Nat} : blen n ≤ k ↔ n < 2 ^ k := by
  unfold blen
  split
  · rename_i h; subst h; simp [Nat.two_pow_pos]
  · rename_i h
    rw [Nat.succ_le_iff]
    exact Nat.log2_lt h

def shiftN (a : Nat) : Nat := max 4 (blen (a - 1))
def shiftZ (a : Int) : Int := (shiftN a.toNat : Int)
def longN (a : Nat) : Nat := 2 ^ (16 - shiftN a) + 2
def longZ (a : Int) : Int := (longN a.toNat : Int)

theorem shiftN_le {a : Nat} (h : a ≤ 4096) : shiftN a ≤ 12 := by
  unfold shiftN
  rw [Nat.max_le]
  exact ⟨by omega, blen_le.2 (by omega)⟩
theorem shiftN_ge (a : Nat) : 4 ≤ shiftN a := Nat.le_max_left ..

theorem shift_bounds {a : Int} (h : a ≤ 4096) : 4 ≤ shiftZ a ∧ shiftZ a ≤ 12 := by
  have := shiftN_le (a := a.toNat) (by omega)
  have := shiftN_ge a.toNat
  unfold shiftZ; omega

theorem long_bounds {a : Int} (h : a ≤ 4096) : 18 ≤ longZ a ∧ longZ a ≤ 4098 := by
  have h1 := shiftN_le (a := a.toNat) (by omega)
  have h2 := shiftN_ge a.toNat
  unfold longZ longN
  have h3 : 2 ^ 4 ≤ 2 ^ (16 - shiftN a.toNat) := Nat.pow_le_pow_right (by omega) (by omega)
  have h4 : 2 ^ (16 - shiftN a.toNat) ≤ 2 ^ 12 := Nat.pow_le_pow_right (by omega) (by omega)
  omega

/-- The least shift, by trying. -/
theorem shift_up {a s : Nat} (h : 4 ≤ s) : shiftN a ≤ s ↔ a ≤ 2 ^ s := by
  unfold shiftN
  rw [Nat.max_le, blen_le]
  have := Nat.two_pow_pos s
  omega
end Go.Dv.Try
end
section
/-
  Plain laws of chapter 6: tokens and matches.
-/
namespace Go.Dv.Try
open Go Go.Dv

abbrev pI (n : Int) : PV := .int .i64 n
abbrev pB (b : Bool) : PV := .bool b

/-- A token: distance, length, byte. -/
structure Tok where
  d : Int
  l : Int
  b : Int
deriving DecidableEq

def Tok.pv (t : Tok) : PV := .agg [pI t.d, pI t.l, pI t.b]
def Tok.copy (t : Tok) : Bool := decide (t.d ≠ 0)
def Tok.made (t : Tok) : Int := if t.d ≠ 0 then t.l else 1

/-- How many bytes match, from n on, at most m more. -/
def mrun (d : List UInt8) (a k n : Nat) : Nat → Nat
  | 0 => n
  | m + 1 => if d[a + n]? = d[a + n - k]? then mrun d a k (n + 1) m else n

def roomN (d : List UInt8) (a : Nat) : Nat := min (longN a) (d.length - a)
def matchN (d : List UInt8) (a k : Nat) : Nat := mrun d a k 0 (roomN d a)

theorem mrun_le (d : List UInt8) (a k : Nat) : ∀ (m n : Nat), n ≤ mrun d a k n m ∧ mrun d a k n m ≤ n + m := by
  intro m
  induction m with
  | zero => intro n; simp [mrun]
  | succ m ih =>
    intro n
    unfold mrun
    split
    · have := ih (n + 1); omega
    · omega

theorem matchN_le (d : List UInt8) (a k : Nat) : matchN d a k ≤ roomN d a := by
  have := mrun_le d a k (roomN d a) 0
  unfold matchN; omega
end Go.Dv.Try
end
section
/-
  Plain laws of chapter 6: the best match and the greedy tokens.
-/
namespace Go.Dv.Try
open Go Go.Dv

def litN (d : List UInt8) (a : Nat) : Tok := ⟨0, 0, ((d[a]?.getD 0).toNat : Int)⟩

/-- The best match with the distances from k on, m of them. -/
def bestRun (d : List UInt8) (a : Nat) : Nat → Nat → Nat → Nat → Nat × Nat
  | 0, _, dist, most => (dist, most)
  | m + 1, k, dist, most =>
    if most < roomN d a then (if most < matchN d a k then bestRun d a m (k + 1) k (matchN d a k) else bestRun d a m (k + 1) dist most)
    else (dist, most)
def bestN (d : List UInt8) (a : Nat) : Nat × Nat := bestRun d a a 1 0 0

def copyN (p : Nat × Nat) : Tok := ⟨(p.1 : Int), (p.2 : Int), 0⟩
def greedyAt (d : List UInt8) (a : Nat) : Tok := if 3 ≤ (bestN d a).2 then copyN (bestN d a) else litN d a

def greedyRun (d : List UInt8) : Nat → Nat → List Tok
  | 0, _ => []
  | m + 1, a => if a < d.length then greedyAt d a :: greedyRun d m (a + (greedyAt d a).made.toNat) else []
def greedyN (d : List UInt8) : List Tok := greedyRun d d.length 0

theorem bestRun_le (d : List UInt8) (a : Nat) : ∀ (m k dist most : Nat), most ≤ roomN d a → (most = 0 ∨ 1 ≤ dist) → 1 ≤ k → (bestRun d a m k dist most).2 ≤ roomN d a ∧ ((bestRun d a m k dist most).2 = 0 ∨ 1 ≤ (bestRun d a m k dist most).1) := by
  intro m
  induction m with
  | zero => intro k dist most h1 h2 _; exact ⟨h1, h2⟩
  | succ m ih =>
    intro k dist most h1 h2 h3
    unfold bestRun
    split
    · split
      · exact ih _ _ _ (matchN_le d a k) (.inr h3) (by omega)
      · exact ih _ _ _ h1 h2 (by omega)
    · exact ⟨h1, h2⟩

theorem bestN_le (d : List UInt8) (a : Nat) : (bestN d a).2 ≤ roomN d a ∧ ((bestN d a).2 = 0 ∨ 1 ≤ (bestN d a).1) := bestRun_le d a a 1 0 0 (Nat.zero_le _) (.inl rfl) (Nat.le_refl _)

theorem greedyAt_made (d : List UInt8) (a : Nat) : 1 ≤ (greedyAt d a).made ∧ (a < d.length → a + (greedyAt d a).made ≤ d.length) := by
  have h := bestN_le d a
  unfold greedyAt Tok.made copyN litN
  split
  · simp only
    have : ((bestN d a).1 : Int) ≠ 0 := by omega
    rw [if_pos this]
    unfold roomN at h
    omega
  · simp only [ne_eq, not_true_eq_false, if_false]
    omega

theorem greedyRun_more (d : List UInt8) : ∀ (m a : Nat), d.length ≤ a + m → greedyRun d m a = greedyRun d (m + 1) a := by
  intro m
  induction m with
  | zero => intro a h; unfold greedyRun; rw [if_neg (by omega)]
  | succ m ih =>
    intro a h
    have h1 := greedyAt_made d a
    show (if a < d.length then greedyAt d a :: greedyRun d m (a + (greedyAt d a).made.toNat) else []) = (if a < d.length then greedyAt d a :: greedyRun d (m + 1) (a + (greedyAt d a).made.toNat) else [])
    split
    · rw [ih _ (by omega)]
    · rfl
end Go.Dv.Try
end
section
/-
  Plain laws of chapter 6: the matches that have more bytes than all before them.
-/
namespace Go.Dv.Try
open Go Go.Dv

/-- The matches with the distances from k on, m of them, that have more than 'most' bytes and more than all before. -/
def recsRun (d : List UInt8) (a : Nat) : Nat → Nat → Nat → List (Nat × Nat)
  | 0, _, _ => []
  | m + 1, k, most => if most < roomN d a then (if most < matchN d a k then (k, matchN d a k) :: recsRun d a m (k + 1) (matchN d a k) else recsRun d a m (k + 1) most) else []
def recsN (d : List UInt8) (a : Nat) : List (Nat × Nat) := recsRun d a a 1 0

/-- The last of them is the best match. -/
theorem bestRun_recs (d : List UInt8) (a : Nat) : ∀ (m k dist most : Nat), bestRun d a m k dist most = ((dist, most) :: recsRun d a m k most).getLast (by simp) := by
  intro m
  induction m with
  | zero => intro k dist most; rfl
  | succ m ih =>
    intro k dist most
    unfold bestRun recsRun
    split
    · split
      · rw [ih]
        exact (List.getLast_cons (a := (dist, most)) (by simp)).symm
      · exact ih _ _ _
    · rfl

theorem mrun_stop (d : List UInt8) (a k : Nat) : ∀ (m n b : Nat), n ≤ b → b < n + m → d[a + b]? ≠ d[a + b - k]? → mrun d a k n m ≤ b := by
  intro m
  induction m with
  | zero => intro n b h1 h2; omega
  | succ m ih =>
    intro n b h1 h2 h3
    unfold mrun
    split
    · rename_i he
      by_cases hb : n = b
      · subst hb; exact absurd he h3
      · exact ih _ _ (by omega) (by omega) h3
    · omega

/-- A match that differs at place b has at most b bytes. -/
theorem matchN_stop (d : List UInt8) (a k b : Nat) (h : b < roomN d a) (h3 : d[a + b]? ≠ d[a + b - k]?) : matchN d a k ≤ b := mrun_stop d a k _ 0 b (Nat.zero_le _) (by omega) h3
end Go.Dv.Try
end
section
/-
  Plain laws of chapter 6: costs, and the optimal tokens.
-/
namespace Go.Dv.Try
open Go Go.Dv

/-- The least of o and of the copies' costs, from so many bytes on, m of them; t: the costs behind. -/
def minRun (t : List Int) : Nat → Nat → Int → Int
  | 0, _, o => o
  | m + 1, n, o => minRun t m (n + 1) (min o (17 + t.getD (n - 1) 0))
def costT (d : List UInt8) (a : Nat) (t : List Int) : Int := minRun t ((bestN d a).2 - 2) 3 (9 + t.getD 0 0)
def costsT (d : List UInt8) : Nat → List Int
  | 0 => [0]
  | m + 1 => costT d (d.length - (m + 1)) (costsT d m) :: costsT d m
def costsN (d : List UInt8) : List Int := costsT d d.length

theorem costsT_len (d : List UInt8) : ∀ m, (costsT d m).length = m + 1
  | 0 => rfl
  | m + 1 => by simp [costsT, costsT_len d m]

theorem minRun_le (t : List Int) : ∀ (m n : Nat) (o : Int), minRun t m n o ≤ o := by
  intro m
  induction m with
  | zero => intro n o; exact Int.le_refl _
  | succ m ih => intro n o; have := ih (n + 1) (min o (17 + t.getD (n - 1) 0)); unfold minRun; omega

theorem minRun_ge (t : List Int) (b : Int) : ∀ (m n : Nat) (o : Int), b ≤ o → (∀ k, n ≤ k → k < n + m → b ≤ 17 + t.getD (k - 1) 0) → b ≤ minRun t m n o := by
  intro m
  induction m with
  | zero => intro n o h _; exact h
  | succ m ih =>
    intro n o h1 h2
    unfold minRun
    refine ih (n + 1) _ ?_ (fun k hk hk2 => h2 k (by omega) (by omega))
    have := h2 n (Nat.le_refl _) (by omega)
    omega

/-- The least is one of them. -/
theorem minRun_is (t : List Int) : ∀ (m n : Nat) (o : Int), minRun t m n o = o ∨ ∃ k, n ≤ k ∧ k < n + m ∧ minRun t m n o = 17 + t.getD (k - 1) 0 := by
  intro m
  induction m with
  | zero => intro n o; exact .inl rfl
  | succ m ih =>
    intro n o
    unfold minRun
    rcases ih (n + 1) (min o (17 + t.getD (n - 1) 0)) with h | ⟨k, h1, h2, h3⟩
    · rw [h]
      rcases Int.le_total o (17 + t.getD (n - 1) 0) with h' | h'
      · exact .inl (by omega)
      · exact .inr ⟨n, Nat.le_refl _, by omega, by omega⟩
    · exact .inr ⟨k, by omega, by omega, h3⟩

theorem getD_nonneg {t : List Int} (h : ∀ x ∈ t, 0 ≤ x) (i : Nat) : 0 ≤ t.getD i 0 := by
  rw [List.getD_eq_getElem?_getD]
  cases hx : t[i]? with
  | none => simp
  | some x => exact h x (List.mem_of_getElem? hx)

theorem costT_bounds (d : List UInt8) (a : Nat) (t : List Int) (h : ∀ x ∈ t, 0 ≤ x) : 0 ≤ costT d a t ∧ costT d a t ≤ 9 + t.getD 0 0 := by
  unfold costT
  refine ⟨minRun_ge _ _ _ _ _ (by have := getD_nonneg h 0; omega) (fun k _ _ => by have := getD_nonneg h (k - 1); omega), minRun_le _ _ _ _⟩

theorem costsT_bounds (d : List UInt8) : ∀ m, ∀ x ∈ costsT d m, 0 ≤ x ∧ x ≤ 9 * m := by
  intro m
  induction m with
  | zero => intro x hx; simp [costsT] at hx; omega
  | succ m ih =>
    intro x hx
    simp only [costsT, List.mem_cons] at hx
    rcases hx with rfl | hx
    · have h1 := costT_bounds d (d.length - (m + 1)) (costsT d m) (fun x hx => (ih x hx).1)
      have h2 : (costsT d m).getD 0 0 ≤ 9 * m := by
        cases hc : costsT d m with
        | nil => simp; omega
        | cons y ys => have := ih y (by rw [hc]; simp); simp; omega
      omega
    · have := ih x hx; omega

/-- The costs from a position on. -/
theorem costsT_drop (d : List UInt8) : ∀ m k, k ≤ m → (costsT d m).drop k = costsT d (m - k) := by
  intro m
  induction m with
  | zero => intro k h; have : k = 0 := by omega
            subst this; rfl
  | succ m ih =>
    intro k h
    cases k with
    | zero => rfl
    | succ k => simp only [costsT, List.drop_succ_cons]; rw [ih k (by omega)]; congr 1; omega

theorem costsN_at (d : List UInt8) (a : Nat) (h : a < d.length) : (costsN d)[a]? = some (costT d a ((costsN d).drop (a + 1))) := by
  unfold costsN
  have h1 := costsT_drop d d.length a (by omega)
  have h2 := costsT_drop d d.length (a + 1) (by omega)
  rw [h2]
  have h3 : (costsT d d.length)[a]? = ((costsT d d.length).drop a)[0]? := by simp
  rw [h3, h1]
  obtain ⟨m, hm⟩ : ∃ m, d.length - a = m + 1 := ⟨d.length - a - 1, by omega⟩
  rw [hm]
  simp only [costsT, List.getElem?_cons_zero]
  congr 2
  · omega
  · congr 1; omega

/-! ### The optimal tokens -/
/-- The least number of bytes, from n on, whose copy has the cost of the position. -/
def findRun (c : List Int) (a : Nat) : Nat → Nat → Nat
  | 0, n => n
  | m + 1, n => if 17 + c.getD (a + n) 0 ≠ c.getD a 0 then findRun c a m (n + 1) else n

/-- The smallest distance, from k on, whose match has so many bytes. -/
def nearRun (d : List UInt8) (a n : Nat) : Nat → Nat → Nat
  | 0, k => k
  | m + 1, k => if matchN d a k < n then nearRun d a n m (k + 1) else k

theorem findRun_spec (c : List Int) (a : Nat) : ∀ (m n k : Nat), n ≤ k → k < n + m → 17 + c.getD (a + k) 0 = c.getD a 0 → n ≤ findRun c a m n ∧ findRun c a m n ≤ k ∧ 17 + c.getD (a + findRun c a m n) 0 = c.getD a 0 := by
  intro m
  induction m with
  | zero => intro n k h1 h2; omega
  | succ m ih =>
    intro n k h1 h2 h3
    unfold findRun
    split
    · rename_i h
      by_cases he : n = k
      · subst he; exact absurd h3 h
      · have := ih (n + 1) k (by omega) (by omega) h3
        omega
    · rename_i h
      have : 17 + c.getD (a + n) 0 = c.getD a 0 := Decidable.of_not_not h
      exact ⟨Nat.le_refl _, h1, this⟩

theorem getD_drop1 (c : List Int) (a n : Nat) (h : 1 ≤ n) : (c.drop (a + 1)).getD (n - 1) 0 = c.getD (a + n) 0 := by
  rw [List.getD_eq_getElem?_getD, List.getD_eq_getElem?_getD, List.getElem?_drop]
  congr 2; omega

/-- Where a literal does not have the cost, a copy of at most the best match's bytes has it. -/
theorem cost_copy (d : List UInt8) (a : Nat) (h : a < d.length) (hne : 9 + (costsN d).getD (a + 1) 0 ≠ (costsN d).getD a 0) : ∃ k, 3 ≤ k ∧ k ≤ (bestN d a).2 ∧ 17 + (costsN d).getD (a + k) 0 = (costsN d).getD a 0 := by
  have h1 := costsN_at d a h
  have h2 : (costsN d).getD a 0 = costT d a ((costsN d).drop (a + 1)) := by rw [List.getD_eq_getElem?_getD, h1]; rfl
  have h3 := getD_drop1 (costsN d) a 1 (Nat.le_refl _)
  unfold costT at h2
  rcases minRun_is ((costsN d).drop (a + 1)) ((bestN d a).2 - 2) 3 (9 + ((costsN d).drop (a + 1)).getD 0 0) with h4 | ⟨k, h4, h5, h6⟩
  · rw [h4] at h2; rw [h2, ← h3] at hne; exact absurd rfl hne
  · refine ⟨k, h4, by omega, ?_⟩
    rw [h2, h6, getD_drop1 _ _ _ (by omega)]

theorem recs_near (d : List UInt8) (a n : Nat) : ∀ (m k most : Nat), (∃ p ∈ recsRun d a m k most, n ≤ p.2) → ((recsRun d a m k most).find? fun p => decide (n ≤ p.2)).elim 0 (·.1) = nearRun d a n m k ∨ n ≤ most := by
  intro m
  induction m with
  | zero => intro k most ⟨p, hp, _⟩; simp [recsRun] at hp
  | succ m ih =>
    intro k most hp
    by_cases hn : n ≤ most
    · exact .inr hn
    refine .inl ?_
    unfold recsRun at hp ⊢
    unfold nearRun
    split at hp
    · rename_i hr
      rw [if_pos hr]
      split at hp
      · rename_i hm
        rw [if_pos hm]
        by_cases h : n ≤ matchN d a k
        · rw [List.find?_cons_of_pos (by simpa using h), if_neg (by omega)]; rfl
        · rw [List.find?_cons_of_neg (by simpa using h), if_pos (by omega)]
          obtain ⟨p, hp, hpn⟩ := hp
          rcases List.mem_cons.1 hp with rfl | hp
          · exact absurd hpn h
          · rcases ih (k + 1) (matchN d a k) ⟨p, hp, hpn⟩ with h' | h'
            · exact h'
            · exact absurd h' h
      · rename_i hm
        rw [if_neg hm, if_pos (by omega)]
        rcases ih (k + 1) most hp with h' | h'
        · exact h'
        · exact absurd h' hn
    · obtain ⟨p, hp, _⟩ := hp; simp at hp

/-- The nearest match with so many bytes. -/
def nearN (d : List UInt8) (a n : Nat) : Nat := ((recsN d a).find? fun p => decide (n ≤ p.2)).elim 0 (·.1)

theorem best_rec (d : List UInt8) (a : Nat) (h : 0 < (bestN d a).2) : bestN d a ∈ recsN d a := by
  unfold bestN at h ⊢
  rw [bestRun_recs] at h ⊢
  show _ ∈ recsRun d a a 1 0
  generalize recsRun d a a 1 0 = l at h
  cases l with
  | nil => simp at h
  | cons x l => rw [List.getLast_cons (by simp)]; exact List.getLast_mem _

theorem near_eq (d : List UInt8) (a n : Nat) (h1 : 1 ≤ n) (h2 : n ≤ (bestN d a).2) : nearN d a n = nearRun d a n a 1 := by
  rcases recs_near d a n a 1 0 ⟨_, best_rec d a (by omega), h2⟩ with h | h
  · exact h
  · omega

theorem recs_match (d : List UInt8) (a : Nat) : ∀ (m k most : Nat), ∀ p ∈ recsRun d a m k most, k ≤ p.1 ∧ p.1 < k + m ∧ p.2 = matchN d a p.1 := by
  intro m
  induction m with
  | zero => intro k most p hp; simp [recsRun] at hp
  | succ m ih =>
    intro k most p hp
    unfold recsRun at hp
    split at hp
    · split at hp
      · rcases List.mem_cons.1 hp with rfl | hp
        · exact ⟨Nat.le_refl _, by simp only; omega, rfl⟩
        · have := ih _ _ p hp; omega
      · have := ih _ _ p hp; omega
    · simp at hp

theorem nearRun_spec (d : List UInt8) (a n : Nat) : ∀ (m k q : Nat), k ≤ q → q < k + m → n ≤ matchN d a q → k ≤ nearRun d a n m k ∧ nearRun d a n m k ≤ q ∧ n ≤ matchN d a (nearRun d a n m k) := by
  intro m
  induction m with
  | zero => intro k q h1 h2; omega
  | succ m ih =>
    intro k q h1 h2 h3
    unfold nearRun
    split
    · rename_i h
      by_cases he : k = q
      · subst he; omega
      · have := ih (k + 1) q (by omega) (by omega) h3; omega
    · exact ⟨Nat.le_refl _, h1, by omega⟩

def optAt (d : List UInt8) (c : List Int) (a : Nat) : Tok :=
  if 9 + c.getD (a + 1) 0 ≠ c.getD a 0 then copyN (nearN d a (findRun c a (d.length - a) 3), findRun c a (d.length - a) 3) else litN d a
def optRun (d : List UInt8) (c : List Int) : Nat → Nat → List Tok
  | 0, _ => []
  | m + 1, a => if a < d.length then optAt d c a :: optRun d c m (a + (optAt d c a).made.toNat) else []
def optN (d : List UInt8) : List Tok := optRun d (costsN d) d.length 0

/-- What is found for a copy. -/
theorem opt_find (d : List UInt8) (a : Nat) (h : a < d.length) (hne : 9 + (costsN d).getD (a + 1) 0 ≠ (costsN d).getD a 0) :
    3 ≤ findRun (costsN d) a (d.length - a) 3 ∧ findRun (costsN d) a (d.length - a) 3 ≤ (bestN d a).2 ∧ a + findRun (costsN d) a (d.length - a) 3 ≤ d.length ∧ 17 + (costsN d).getD (a + findRun (costsN d) a (d.length - a) 3) 0 = (costsN d).getD a 0 := by
  obtain ⟨k, h1, h2, h3⟩ := cost_copy d a h hne
  have hb := bestN_le d a
  have hr : roomN d a ≤ d.length - a := Nat.min_le_right _ _
  have := findRun_spec (costsN d) a (d.length - a) 3 k h1 (by omega) h3
  omega

theorem near_pos (d : List UInt8) (a n : Nat) (h1 : 1 ≤ n) (h2 : n ≤ (bestN d a).2) : 1 ≤ nearN d a n ∧ nearN d a n ≤ a ∧ n ≤ matchN d a (nearN d a n) := by
  rw [near_eq d a n h1 h2]
  have hm := best_rec d a (by omega)
  have := recs_match d a a 1 0 _ hm
  have h3 := nearRun_spec d a n a 1 (bestN d a).1 (by omega) (by omega) (by omega)
  omega

theorem optAt_made (d : List UInt8) (a : Nat) (h : a < d.length) : 1 ≤ (optAt d (costsN d) a).made ∧ a + (optAt d (costsN d) a).made ≤ d.length := by
  unfold optAt
  split
  · rename_i hne
    have h1 := opt_find d a h hne
    have h2 := near_pos d a _ (by omega) h1.2.1
    unfold Tok.made copyN
    simp only
    rw [if_pos (by omega)]
    omega
  · simp [litN, Tok.made]; omega

theorem optRun_more (d : List UInt8) : ∀ (m a : Nat), d.length ≤ a + m → optRun d (costsN d) m a = optRun d (costsN d) (m + 1) a := by
  intro m
  induction m with
  | zero => intro a h; unfold optRun; rw [if_neg (by omega)]
  | succ m ih =>
    intro a h
    show (if a < d.length then optAt d (costsN d) a :: optRun d (costsN d) m (a + (optAt d (costsN d) a).made.toNat) else []) = (if a < d.length then optAt d (costsN d) a :: optRun d (costsN d) (m + 1) (a + (optAt d (costsN d) a).made.toNat) else [])
    split
    · rename_i hlt
      have h1 := optAt_made d a hlt
      rw [ih _ (by omega)]
    · rfl

theorem optRun_same (d : List UInt8) (a : Nat) : ∀ (j k : Nat), d.length ≤ a + k → optRun d (costsN d) (k + j) a = optRun d (costsN d) k a := by
  intro j
  induction j with
  | zero => intro k _; rfl
  | succ j ih => intro k hb; rw [← Nat.add_assoc, ← optRun_more d (k + j) a (by omega), ih k hb]

/-- One token more. -/
theorem optRun_step (d : List UInt8) (m a : Nat) (hm : a + (m + 1) = d.length) : optRun d (costsN d) (m + 1) a = optAt d (costsN d) a :: optRun d (costsN d) (m + 1 - (optAt d (costsN d) a).made.toNat) (a + (optAt d (costsN d) a).made.toNat) := by
  have h1 := optAt_made d a (by omega)
  show (if a < d.length then optAt d (costsN d) a :: optRun d (costsN d) m (a + (optAt d (costsN d) a).made.toNat) else []) = _
  rw [if_pos (by omega)]
  congr 1
  have := optRun_same d (a + (optAt d (costsN d) a).made.toNat) ((optAt d (costsN d) a).made.toNat - 1) (m + 1 - (optAt d (costsN d) a).made.toNat) (by omega)
  rw [← this]
  congr 1
  omega
end Go.Dv.Try
end
section
/-
  Plain laws: bits of numbers, bytes of words.
-/
namespace Go.Dv.Try
open Go Go.Dv

theorem ofInt_nat {n : Nat} {w : Nat} (h : n < 2 ^ w) : (BitVec.ofInt w (n : Int)).toNat = n := by
  rw [BitVec.ofInt_natCast, BitVec.toNat_ofNat, Nat.mod_eq_of_lt h]

theorem wrapI64n {n : Nat} (h : n < 2 ^ 62) : IntKind.i64.wrap (n : Int) = n := by
  have : (2 : Nat) ^ 62 = 4611686018427387904 := by decide
  exact wrap64 (by omega)

theorem or64 {a b : Nat} (ha : a < 2 ^ 62) (hb : b < 2 ^ 62) : bitsOp .or .i64 (a : Int) (b : Int) = ((a ||| b : Nat) : Int) := by
  unfold bitsOp
  have h1 := Nat.or_lt_two_pow ha hb
  have e : IntKind.i64.bits = 64 := rfl
  simp only [e, BitVec.toNat_or]
  rw [ofInt_nat (Nat.lt_of_lt_of_le ha (by decide)), ofInt_nat (Nat.lt_of_lt_of_le hb (by decide))]
  exact wrapI64n h1

theorem and64 {a b : Nat} (ha : a < 2 ^ 62) (hb : b < 2 ^ 62) : bitsOp .and .i64 (a : Int) (b : Int) = ((a &&& b : Nat) : Int) := by
  unfold bitsOp
  have h1 : a &&& b < 2 ^ 62 := Nat.lt_of_le_of_lt Nat.and_le_left ha
  have e : IntKind.i64.bits = 64 := rfl
  simp only [e, BitVec.toNat_and]
  rw [ofInt_nat (Nat.lt_of_lt_of_le ha (by decide)), ofInt_nat (Nat.lt_of_lt_of_le hb (by decide))]
  exact wrapI64n h1

theorem wrap8n {n : Nat} (h : n < 256) : IntKind.u8.wrap (n : Int) = n := by
  have hb : IntKind.u8.bits = 8 := rfl
  simp only [IntKind.wrap, IntKind.signed, hb]
  simp; omega

theorem or8 {a b : Nat} (ha : a < 256) (hb : b < 256) : bitsOp .or .u8 (a : Int) (b : Int) = ((a ||| b : Nat) : Int) := by
  unfold bitsOp
  have h1 : a ||| b < 2 ^ 8 := Nat.or_lt_two_pow ha hb
  have e : IntKind.u8.bits = 8 := rfl
  simp only [e, BitVec.toNat_or]
  rw [ofInt_nat ha, ofInt_nat hb]
  exact wrap8n h1

theorem and8 {a b : Nat} (ha : a < 256) (hb : b < 256) : bitsOp .and .u8 (a : Int) (b : Int) = ((a &&& b : Nat) : Int) := by
  unfold bitsOp
  have h1 : a &&& b < 256 := Nat.lt_of_le_of_lt Nat.and_le_left ha
  have e : IntKind.u8.bits = 8 := rfl
  simp only [e, BitVec.toNat_and]
  rw [ofInt_nat ha, ofInt_nat hb]
  exact wrap8n h1

/-- Bits that lie above others. -/
theorem or_add {a k b : Nat} (h : a < 2 ^ k) : a ||| (2 ^ k * b) = a + 2 ^ k * b := by
  rw [Nat.or_comm, ← Nat.two_pow_add_eq_or_of_lt h, Nat.add_comm]

theorem and_mod (a k : Nat) : a &&& (2 ^ k - 1) = a % 2 ^ k := Nat.and_two_pow_sub_one_eq_mod a k

/-- A byte. -/
def byteN (n : Nat) : UInt8 := UInt8.ofNat n
theorem byteN_toNat {n : Nat} (h : n < 256) : (byteN n).toNat = n := by simp [byteN]; omega
theorem byteP_of {n : Int} (h : 0 ≤ n ∧ n < 256) : PV.int .u8 n = byteP (byteN n.toNat) := by
  unfold byteP; rw [byteN_toNat (by omega)]
  congr 1; omega

/-- The two bytes of a word, the lower one first. -/
def wordN (n : Nat) : List UInt8 := [byteN (n % 256), byteN (n / 256 % 256)]

def tokB (t : Tok) (a : Nat) : List UInt8 := if t.d ≠ 0 then wordN ((t.d.toNat - 1) * 2 ^ (16 - shiftN a) + t.l.toNat - 3) else [byteN t.b.toNat]

/-- A token that may stand at a position. -/
def TokOk (t : Tok) (a : Nat) : Prop := a < 4096 ∧ if t.d ≠ 0 then t.b = 0 ∧ 1 ≤ t.d ∧ t.d ≤ a ∧ 3 ≤ t.l ∧ t.l ≤ longN a ∧ a + t.l ≤ 4096 else t.l = 0 ∧ 0 ≤ t.b ∧ t.b ≤ 255
def ToksOk : List Tok → Nat → Prop
  | [], _ => True
  | t :: l, a => TokOk t a ∧ ToksOk l (a + t.made.toNat)

theorem tok_made {t : Tok} {a : Nat} (h : TokOk t a) : 1 ≤ t.made ∧ a + t.made ≤ 4096 := by
  unfold TokOk at h
  unfold Tok.made
  obtain ⟨h1, h2⟩ := h
  split at h2
  · rw [if_pos ‹_›]; omega
  · rw [if_neg ‹_›]; omega

/-- The number of a copy. -/
theorem code_lt {t : Tok} {a : Nat} (h : TokOk t a) (hd : t.d ≠ 0) : (t.d.toNat - 1) * 2 ^ (16 - shiftN a) + t.l.toNat - 3 < 65536 ∧ (t.d.toNat - 1) < 2 ^ shiftN a ∧ t.l.toNat - 3 < 2 ^ (16 - shiftN a) := by
  unfold TokOk at h
  rw [if_pos hd] at h
  obtain ⟨h0, _, h1, h2, h3, h4, h5⟩ := h
  have hs := shiftN_le (a := a) (by omega)
  have h6 : t.d.toNat ≤ 2 ^ shiftN a := by
    have := (shift_up (a := a) (shiftN_ge a)).1 (Nat.le_refl _)
    omega
  have h7 : t.l.toNat ≤ 2 ^ (16 - shiftN a) + 2 := by unfold longN at h4; omega
  have h8 : 2 ^ shiftN a * 2 ^ (16 - shiftN a) = 65536 := by
    rw [← Nat.pow_add, show shiftN a + (16 - shiftN a) = 16 by omega]
  have h9 : (t.d.toNat - 1) * 2 ^ (16 - shiftN a) ≤ (2 ^ shiftN a - 1) * 2 ^ (16 - shiftN a) := Nat.mul_le_mul_right _ (by omega)
  rw [Nat.sub_mul (2 ^ shiftN a), h8, Nat.one_mul] at h9
  have := Nat.two_pow_pos (16 - shiftN a)
  have h10 : 2 ^ (16 - shiftN a) ≤ 2 ^ 16 := Nat.pow_le_pow_right (by omega) (by omega)
  refine ⟨?_, ?_, ?_⟩
  · generalize 2 ^ (16 - shiftN a) = p at *
    generalize (t.d.toNat - 1) * p = q at *
    have : (2 : Nat) ^ 16 = 65536 := by decide
    omega
  · omega
  · omega

/-- The bits of the copies among tokens, from a place on. -/
def signN : Nat → List Tok → Nat
  | _, [] => 0
  | k, t :: l => (if t.d ≠ 0 then 2 ^ k else 0) + signN (k + 1) l

theorem signN_lt : ∀ (l : List Tok) (k : Nat), signN k l + 2 ^ k ≤ 2 ^ (k + l.length) := by
  intro l
  induction l with
  | nil => intro k; simp [signN]
  | cons t l ih =>
    intro k
    have := ih (k + 1)
    simp only [signN, List.length_cons]
    rw [show k + (l.length + 1) = k + 1 + l.length by omega]
    have e : 2 ^ (k + 1) = 2 * 2 ^ k := by rw [Nat.pow_succ]; omega
    split <;> omega

theorem signN_append : ∀ (l m : List Tok) (k : Nat), signN k (l ++ m) = signN k l + signN (k + l.length) m := by
  intro l
  induction l with
  | nil => intro m k; simp [signN]
  | cons t l ih =>
    intro m k
    simp only [List.cons_append, signN, List.length_cons, ih]
    rw [show k + 1 + l.length = k + (l.length + 1) by omega]; omega

/-- The bytes of tokens from a position on. -/
def bytesT : List Tok → Nat → List UInt8
  | [], _ => []
  | t :: l, a => tokB t a ++ bytesT l (a + t.made.toNat)
def posT : List Tok → Nat → Nat
  | [], a => a
  | t :: l, a => posT l (a + t.made.toNat)

theorem bytesT_append : ∀ (l m : List Tok) (a : Nat), bytesT (l ++ m) a = bytesT l a ++ bytesT m (posT l a) := by
  intro l
  induction l with
  | nil => intro m a; rfl
  | cons t l ih => intro m a; simp only [List.cons_append, bytesT, posT, ih, List.append_assoc]
theorem posT_append : ∀ (l m : List Tok) (a : Nat), posT (l ++ m) a = posT m (posT l a) := by
  intro l
  induction l with
  | nil => intro m a; rfl
  | cons t l ih => intro m a; simp only [List.cons_append, posT, ih]
theorem toksOk_append : ∀ (l m : List Tok) (a : Nat), ToksOk (l ++ m) a ↔ ToksOk l a ∧ ToksOk m (posT l a) := by
  intro l
  induction l with
  | nil => intro m a; simp [ToksOk, posT]
  | cons t l ih => intro m a; simp only [List.cons_append, ToksOk, posT, ih, and_assoc]

/-- Groups of eight tokens, each behind the byte of its signs; n groups at most. -/
def bodyRun : Nat → List Tok → Nat → List UInt8
  | 0, _, _ => []
  | n + 1, l, a => if l = [] then [] else byteN (signN 0 (l.take 8)) :: (bytesT (l.take 8) a ++ bodyRun n (l.drop 8) (posT (l.take 8) a))
def bodyN (l : List Tok) : List UInt8 := bodyRun l.length l 0

theorem bodyRun_more : ∀ (n : Nat) (l : List Tok) (a : Nat), l.length ≤ n → bodyRun n l a = bodyRun (n + 1) l a := by
  intro n
  induction n with
  | zero => intro l a h; have : l = [] := List.eq_nil_of_length_eq_zero (by omega)
            subst this; rfl
  | succ n ih =>
    intro l a h
    unfold bodyRun
    split
    · rfl
    · rename_i hl
      have : 0 < l.length := List.length_pos_iff.2 hl
      rw [ih _ _ (by simp; omega)]

/-- The head of a chunk: so many bytes, packed or not. -/
def headN (count : Nat) (pk : Bool) : List UInt8 := wordN (count - 1 + 12288 + (if pk then 32768 else 0))
end Go.Dv.Try
end
