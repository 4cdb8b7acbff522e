/-
  A part of the proof: own texts, laid together by a tool of our own: T07a T07b T07c T07d T07e T07f T07g.
-/
import Derived.Test.YtklihepoaoceoaaCd
import Derived.Test.YtklihepoaoceoaaDv4
import Derived.KernelRfl
import Derived.Test.YtklihepoaoceoaaWalks1
section
/-
  Chapter 7 on the top seat: the quarter of four words.
-/
namespace Go.Dv.Try
open Go Go.Dv

abbrev pW (n : Int) : PV := .int .u16 n
def w16 (n : Int) : Int := IntKind.u16.wrap n
def xr (a b : Int) : Int := bitsOp .xor .u16 a b
/-- A word turned to the left. -/
def rl (x k : Int) : Int := bitsOp .or .u16 (IntKind.u16.wrap (x * 2 ^ k.toNat)) (x.fdiv (2 ^ (16 - k).toNat))
def gW (s : List Int) (i : Nat) : Int := s.getD i 0
/-- Half of a quarter, of the words at four places. -/
def halfL (oa ob oc od : Nat) (l r : Int) (s : List Int) : List Int :=
  let a := w16 (gW s oa + gW s ob)
  let d := rl (xr (gW s od) a) l
  let c := w16 (gW s oc + d)
  let b := rl (xr (gW s ob) c) r
  (((s.set oa a).set od d).set oc c).set ob b

def R_rot (ps : List PV) (x : PV) : Prop := ∃ (n k : Int), ps = [pW n, pI k] ∧ (k = 8 ∨ k = 6 ∨ k = 4 ∨ k = 3) ∧ x = pW (rl n k)
theorem meets_rot : Meets (ctxOf []) s_math_bits_RotateLeft16 c_math_bits_RotateLeft16 r_math_bits_RotateLeft16 (fnSpec R_rot) := by
  rintro _ K ⟨_, ⟨n, k, rfl, hk, rfl⟩, hK⟩
  rcases hk with rfl | rfl | rfl | rfl
  all_goals
    refine EQI ?_
    refine EQI ?_
    refine ⟨by decide, EQI ?_⟩
    refine EQI ?_
    refine ⟨by decide, EQI ?_⟩
    refine EQI ?_
  · exact ⟨.pv (pW (rl n 8)), (show PV.int .u16 (rl n 8) = _ by kernel_rfl), trivial, hK⟩
  · exact ⟨.pv (pW (rl n 6)), (show PV.int .u16 (rl n 6) = _ by kernel_rfl), trivial, hK⟩
  · exact ⟨.pv (pW (rl n 4)), (show PV.int .u16 (rl n 4) = _ by kernel_rfl), trivial, hK⟩
  · exact ⟨.pv (pW (rl n 3)), (show PV.int .u16 (rl n 3) = _ by kernel_rfl), trivial, hK⟩

/-- The places of the four words: those of a round. -/
def Four (oa ob oc od : Nat) : Prop := (oa, ob, oc, od) = (0, 2, 4, 6) ∨ (oa, ob, oc, od) = (1, 3, 5, 7) ∨ (oa, ob, oc, od) = (0, 3, 4, 7) ∨ (oa, ob, oc, od) = (1, 2, 5, 6)
def stB (s : List Int) : Blk := .box T_cipher_state (s.map fun n => .pv (pW n))
def M_half (xs : List AV) (σ : Sto) (K : AV → Sto → Prop) : Prop := ∃ (l r : Int) (oa ob oc od : Nat) (s : List Int), xs = [.pv (pI l), .pv (pI r), .ref 0 0 0, .ref 1 0 0, .ref 2 0 0, .ref 3 0 0] ∧
  ((l = 8 ∧ r = 6 ∨ l = 4 ∧ r = 3) ∧ Four oa ob oc od ∧ s.length = 8) ∧ σ = [.box 138 [.ref 4 0 oa], .box 138 [.ref 4 0 ob], .box 138 [.ref 4 0 od], .box 138 [.ref 4 0 oc], stB s] ∧
  K (.tup []) [.box 138 [.ref 4 0 oa], .box 138 [.ref 4 0 ob], .box 138 [.ref 4 0 od], .box 138 [.ref 4 0 oc], stB (halfL oa ob oc od l r s)]
theorem eight {α : Type} {s : List α} (h : s.length = 8) : ∃ a b c d e f g i, s = [a, b, c, d, e, f, g, i] := by
  match s, h with
  | [a, b, c, d, e, f, g, i], _ => exact ⟨a, b, c, d, e, f, g, i, rfl⟩
theorem meets_half : MeetsM (ctxOf [(n_math_bits_RotateLeft16, fnSpec R_rot)]) s_cipher_quarter_f1 c_cipher_quarter_f1 r_cipher_quarter_f1 (mkM M_half) := by
  rintro _ _ K ⟨l, r, oa, ob, oc, od, s, rfl, ⟨hlr, hf, hs⟩, rfl, hK⟩
  obtain ⟨s0, s1, s2, s3, s4, s5, s6, s7, rfl⟩ := eight hs
  have hl : l = 8 ∨ l = 6 ∨ l = 4 ∨ l = 3 := by omega
  have hr : r = 8 ∨ r = 6 ∨ r = 4 ∨ r = 3 := by omega
  rcases hf with h | h | h | h <;> cases h
  all_goals
    (repeat' ((conv => whnf); (fail_if_success (refine ⟨(?_ : Nat), (?_ : _ < _), ?_⟩)); (fail_if_success (refine ⟨(?_ : RV), ?_⟩)); (fail_if_success (refine ⟨(?_ : List RV), ?_⟩)); first | refine BITS ?_ | refine And.intro rfl ?_ | refine ⟨_, ⟨_, _, rfl, (by (repeat' (first | omega | assumption | exact trivial | refine And.intro ?_ ?_)); first | done | fail), rfl⟩, ?_⟩ | refine EQI ?_ | fail)) <;> try (conv => whnf)
    exact hK

/-- The quarter. -/
def quartL (oa ob oc od : Nat) (s : List Int) : List Int := halfL oa ob oc od 4 3 (halfL oa ob oc od 8 6 s)
def M_quarter (xs : List AV) (σ : Sto) (K : AV → Sto → Prop) : Prop := ∃ (oa ob oc od : Nat) (s : List Int), xs = [.ref 0 0 oa, .ref 0 0 ob, .ref 0 0 oc, .ref 0 0 od] ∧
  (Four oa ob oc od ∧ s.length = 8) ∧ σ = [stB s] ∧ ∀ t0 t1 t2 t3 t4 t5 t6 t7 : Int, quartL oa ob oc od s = [t0, t1, t2, t3, t4, t5, t6, t7] → K (.tup []) [stB [t0, t1, t2, t3, t4, t5, t6, t7]]
theorem meets_quarter : MeetsM (ctxOf [(n_cipher_quarter_f1, mkM M_half)]) s_cipher_quarter c_cipher_quarter r_cipher_quarter (mkM M_quarter) := by
  rintro _ _ K ⟨oa, ob, oc, od, s, rfl, ⟨hf, hs⟩, rfl, hK⟩
  have hf' := hf
  obtain ⟨s0, s1, s2, s3, s4, s5, s6, s7, rfl⟩ := eight hs
  rcases hf with h | h | h | h <;> cases h
  all_goals
    (repeat' ((conv => whnf); first | refine ⟨_, _, _, _, _, _, [_, _, _, _, _, _, _, _], rfl, ⟨by first | exact .inl ⟨rfl, rfl⟩ | exact .inr ⟨rfl, rfl⟩, hf', rfl⟩, rfl, ?_⟩ | fail)) <;> try (conv => whnf)
    exact hK _ _ _ _ _ _ _ _ rfl
end Go.Dv.Try
end
section
/-
  Chapter 7 on the top seat: the state, a round, a block.
-/
namespace Go.Dv.Try
open Go Go.Dv

/-- The first quarters of a round. -/
def rndK (s : List Int) : Nat → List Int
  | 0 => s
  | 1 => quartL 0 2 4 6 s
  | 2 => quartL 1 3 5 7 (quartL 0 2 4 6 s)
  | 3 => quartL 0 3 4 7 (quartL 1 3 5 7 (quartL 0 2 4 6 s))
  | _ => quartL 1 2 5 6 (quartL 0 3 4 7 (quartL 1 3 5 7 (quartL 0 2 4 6 s)))
def rndL (s : List Int) : List Int := rndK s 4
theorem rk1 (s : List Int) : rndK s 1 = quartL 0 2 4 6 (rndK s 0) := by simp only [rndK]
theorem rk2 (s : List Int) : rndK s 2 = quartL 1 3 5 7 (rndK s 1) := by simp only [rndK]
theorem rk3 (s : List Int) : rndK s 3 = quartL 0 3 4 7 (rndK s 2) := by simp only [rndK]
theorem rk4 (s : List Int) : rndK s 4 = quartL 1 2 5 6 (rndK s 3) := by simp only [rndK]
structure RndIs (a : List Int) (k : Nat) (s : List Int) : Prop where
  eq : rndK a k = s
def M_round (xs : List AV) (σ : Sto) (K : AV → Sto → Prop) : Prop := ∃ s : List Int, xs = [.ref 0 0 0] ∧ s.length = 8 ∧ σ = [stB s] ∧ ∀ t0 t1 t2 t3 t4 t5 t6 t7 : Int, rndL s = [t0, t1, t2, t3, t4, t5, t6, t7] → K (.tup []) [stB [t0, t1, t2, t3, t4, t5, t6, t7]]
def tabR : PV := .agg [pI 0, pI 2, pI 4, pI 6, pI 1, pI 3, pI 5, pI 7, pI 0, pI 3, pI 4, pI 7, pI 1, pI 2, pI 5, pI 6]
set_option maxHeartbeats 1000000 in
theorem meets_round : MeetsM (ctxOf [(n_cipher_quarter, mkM M_quarter)]) s_cipher_state_round c_cipher_state_round r_cipher_state_round (mkM M_round) := by
  rintro _ _ K ⟨s, rfl, hs, rfl, hK⟩
  obtain ⟨a0, a1, a2, a3, a4, a5, a6, a7, rfl⟩ := eight hs
  (repeat' ((conv => whnf); first | refine And.intro rfl ?_ | fail)) <;> try (conv => whnf)
  refine ⟨fun m env σ => ∃ (k : Nat) (s0 s1 s2 s3 s4 s5 s6 s7 : Int), (k + m = 4 ∧ RndIs [a0, a1, a2, a3, a4, a5, a6, a7] k [s0, s1, s2, s3, s4, s5, s6, s7]) ∧ σ = [stB [s0, s1, s2, s3, s4, s5, s6, s7]] ∧ env = [(0, .ref 0 0 0), (8, .pv tabR), (9, .pv (pI k))], 4, ⟨0, _, _, _, _, _, _, _, _, ⟨by omega, ⟨rfl⟩⟩, rfl, rfl⟩, ?_⟩
  rintro m env σ ⟨k, s0, s1, s2, s3, s4, s5, s6, s7, ⟨hk, he⟩, rfl, rfl⟩
  have hk5 : k = 0 ∨ k = 1 ∨ k = 2 ∨ k = 3 ∨ k = 4 := by omega
  rcases hk5 with rfl | rfl | rfl | rfl | rfl
  · (repeat' ((conv => whnf); first | refine ⟨_, _, _, _, [_, _, _, _, _, _, _, _], rfl, ⟨by unfold Four; decide, rfl⟩, rfl, fun t0 t1 t2 t3 t4 t5 t6 t7 ht => ?_⟩ | refine N64 (by omega) ?_ | refine CMP_t (by omega) ?_ | refine And.intro rfl ?_ | refine And.intro (by omega) ?_ | fail)) <;> try (conv => whnf)
    exact ⟨m - 1, by omega, 1, t0, t1, t2, t3, t4, t5, t6, t7, ⟨by omega, ⟨by rw [rk1, he.eq]; exact ht⟩⟩, rfl, rfl⟩
  · (repeat' ((conv => whnf); first | refine ⟨_, _, _, _, [_, _, _, _, _, _, _, _], rfl, ⟨by unfold Four; decide, rfl⟩, rfl, fun t0 t1 t2 t3 t4 t5 t6 t7 ht => ?_⟩ | refine N64 (by omega) ?_ | refine CMP_t (by omega) ?_ | refine And.intro rfl ?_ | refine And.intro (by omega) ?_ | fail)) <;> try (conv => whnf)
    exact ⟨m - 1, by omega, 2, t0, t1, t2, t3, t4, t5, t6, t7, ⟨by omega, ⟨by rw [rk2, he.eq]; exact ht⟩⟩, rfl, rfl⟩
  · (repeat' ((conv => whnf); first | refine ⟨_, _, _, _, [_, _, _, _, _, _, _, _], rfl, ⟨by unfold Four; decide, rfl⟩, rfl, fun t0 t1 t2 t3 t4 t5 t6 t7 ht => ?_⟩ | refine N64 (by omega) ?_ | refine CMP_t (by omega) ?_ | refine And.intro rfl ?_ | refine And.intro (by omega) ?_ | fail)) <;> try (conv => whnf)
    exact ⟨m - 1, by omega, 3, t0, t1, t2, t3, t4, t5, t6, t7, ⟨by omega, ⟨by rw [rk3, he.eq]; exact ht⟩⟩, rfl, rfl⟩
  · (repeat' ((conv => whnf); first | refine ⟨_, _, _, _, [_, _, _, _, _, _, _, _], rfl, ⟨by unfold Four; decide, rfl⟩, rfl, fun t0 t1 t2 t3 t4 t5 t6 t7 ht => ?_⟩ | refine N64 (by omega) ?_ | refine CMP_t (by omega) ?_ | refine And.intro rfl ?_ | refine And.intro (by omega) ?_ | fail)) <;> try (conv => whnf)
    exact ⟨m - 1, by omega, 4, t0, t1, t2, t3, t4, t5, t6, t7, ⟨by omega, ⟨by rw [rk4, he.eq]; exact ht⟩⟩, rfl, rfl⟩
  · (repeat' ((conv => whnf); first | refine CMP_f (by omega) ?_ | fail)) <;> try (conv => whnf)
    exact hK _ _ _ _ _ _ _ _ he.eq
end Go.Dv.Try
end
section
/-
  Chapter 7 on the top seat: the state of a key, a block.
-/
namespace Go.Dv.Try
open Go Go.Dv

/-- Two bytes as a word. -/
def wd (a b : UInt8) : Int := bitsOp .or .u16 (w16 a.toNat) (w16 (w16 b.toNat * 2 ^ 8))
def stateL (k : List UInt8) (n c : Int) : List Int := [25956, 28528, wd (k.getD 0 0) (k.getD 1 0), wd (k.getD 2 0) (k.getD 3 0), wd (k.getD 4 0) (k.getD 5 0), wd (k.getD 6 0) (k.getD 7 0), w16 n, w16 c]
/-- The state with so many words of the key. -/
def stI (k : List UInt8) : Nat → List Int
  | 0 => [25956, 28528, 0, 0, 0, 0, 0, 0]
  | 1 => [25956, 28528, wd (k.getD 0 0) (k.getD 1 0), 0, 0, 0, 0, 0]
  | 2 => [25956, 28528, wd (k.getD 0 0) (k.getD 1 0), wd (k.getD 2 0) (k.getD 3 0), 0, 0, 0, 0]
  | 3 => [25956, 28528, wd (k.getD 0 0) (k.getD 1 0), wd (k.getD 2 0) (k.getD 3 0), wd (k.getD 4 0) (k.getD 5 0), 0, 0, 0]
  | _ => [25956, 28528, wd (k.getD 0 0) (k.getD 1 0), wd (k.getD 2 0) (k.getD 3 0), wd (k.getD 4 0) (k.getD 5 0), wd (k.getD 6 0) (k.getD 7 0), 0, 0]
def R_stateOf (ps : List PV) (x : PV) : Prop := ∃ (k : List UInt8) (n c : Int), ps = [.str k, pI n, pI c] ∧ k.length = 8 ∧ x = .agg ((stateL k n c).map pW)
set_option maxHeartbeats 1000000 in
theorem meets_stateOf : Meets (ctxOf []) s_cipher_stateOf c_cipher_stateOf r_cipher_stateOf (fnSpec R_stateOf) := by
  rintro _ K ⟨_, ⟨k, n, c, rfl, hk, rfl⟩, hK⟩
  obtain ⟨k0, k1, k2, k3, k4, k5, k6, k7, rfl⟩ := eight hk
  (repeat' ((conv => whnf); first | refine And.intro rfl ?_ | fail)) <;> try (conv => whnf)
  refine ⟨fun m env σ => ∃ i : Nat, (i + m = 4) ∧ σ = [.box 120 [.pv (pW 0), .pv (pW 0), .pv (pW 0), .pv (pW 0), .pv (pW 0), .pv (pW 0), .pv (pW 0), .pv (pW 0)], stB (stI [k0, k1, k2, k3, k4, k5, k6, k7] i)] ∧ env = [(0, .pv (.str [k0, k1, k2, k3, k4, k5, k6, k7])), (1, .pv (pI n)), (2, .pv (pI c)), (6, .ref 0 0 0), (7, .ref 1 0 0), (10, .pv (pI i))], 4, ⟨0, by omega, rfl, rfl⟩, ?_⟩
  rintro m env σ ⟨i, hi, rfl, rfl⟩
  have hi5 : i = 0 ∨ i = 1 ∨ i = 2 ∨ i = 3 ∨ i = 4 := by omega
  rcases hi5 with rfl | rfl | rfl | rfl | rfl
  · (repeat' ((conv => whnf); first | refine ⟨_, ⟨by omega, rfl⟩, ?_⟩ | refine N64 (by omega) ?_ | refine CMP_t (by omega) ?_ | refine BITS ?_ | refine And.intro rfl ?_ | refine And.intro (by omega) ?_ | refine EQI ?_ | fail)) <;> try (conv => whnf)
    exact ⟨m - 1, by omega, 1, by omega, rfl, rfl⟩
  · (repeat' ((conv => whnf); first | refine ⟨_, ⟨by omega, rfl⟩, ?_⟩ | refine N64 (by omega) ?_ | refine CMP_t (by omega) ?_ | refine BITS ?_ | refine And.intro rfl ?_ | refine And.intro (by omega) ?_ | refine EQI ?_ | fail)) <;> try (conv => whnf)
    exact ⟨m - 1, by omega, 2, by omega, rfl, rfl⟩
  · (repeat' ((conv => whnf); first | refine ⟨_, ⟨by omega, rfl⟩, ?_⟩ | refine N64 (by omega) ?_ | refine CMP_t (by omega) ?_ | refine BITS ?_ | refine And.intro rfl ?_ | refine And.intro (by omega) ?_ | refine EQI ?_ | fail)) <;> try (conv => whnf)
    exact ⟨m - 1, by omega, 3, by omega, rfl, rfl⟩
  · (repeat' ((conv => whnf); first | refine ⟨_, ⟨by omega, rfl⟩, ?_⟩ | refine N64 (by omega) ?_ | refine CMP_t (by omega) ?_ | refine BITS ?_ | refine And.intro rfl ?_ | refine And.intro (by omega) ?_ | refine EQI ?_ | fail)) <;> try (conv => whnf)
    exact ⟨m - 1, by omega, 4, by omega, rfl, rfl⟩
  · (repeat' ((conv => whnf); first | refine CMP_f (by omega) ?_ | refine And.intro rfl ?_ | refine EQI ?_ | fail)) <;> try (conv => whnf)
    exact ⟨.pv (.agg ((stateL [k0, k1, k2, k3, k4, k5, k6, k7] n c).map pW)), rfl, (fun x hx => by obtain ⟨t, _, rfl⟩ := List.mem_map.1 hx; trivial), hK⟩

/-- A word's low byte. -/
def u8of (n : Int) : UInt8 := UInt8.ofNat (n % 256).toNat
theorem pv_u8m (n : Int) : PV.int .u8 (n % 256) = byteP (u8of n) := by
  unfold byteP u8of
  have h1 := Int.emod_nonneg n (show (256 : Int) ≠ 0 by decide)
  have h2 := Int.emod_lt_of_pos n (show (0 : Int) < 256 by decide)
  congr 1
  simp
  omega
def rnds (s : List Int) : Nat → List Int
  | 0 => s
  | i + 1 => rndL (rnds s i)
/-- The first bytes of a block. -/
def byI (s st : List Int) : Nat → List UInt8
  | 0 => []
  | i + 1 => byI s st i ++ [u8of (w16 (gW s i + gW st i)), u8of ((w16 (gW s i + gW st i)).fdiv (2 ^ 8))]
theorem byI_len (s st : List Int) : ∀ i, (byI s st i).length = 2 * i
  | 0 => rfl
  | i + 1 => by rw [byI, List.length_append, byI_len s st i]; rfl
theorem byI_snoc (s st : List Int) (i : Nat) (x : Int) (h : x = w16 (gW s i + gW st i)) : (byI s st i).map byteP ++ [PV.int .u8 (x % 256), PV.int .u8 (x.fdiv (2 ^ 8) % 256)] = (byI s st (i + 1)).map byteP := by
  rw [byI, List.map_append, h, pv_u8m, pv_u8m]; rfl
def blockL (k : List UInt8) (n c : Int) : List UInt8 := byI (rnds (stateL k n c) 6) (stateL k n c) 8
theorem block_len (k : List UInt8) (n c : Int) : (blockL k n c).length = 16 := byI_len _ _ 8
structure RndsIs (a : List Int) (k : Nat) (s : List Int) : Prop where
  eq : rnds a k = s
def S_block : Spec := mkS true false fun ps K => ∃ (k : List UInt8) (n c : Int), ps = [.str k, pI n, pI c] ∧ k.length = 8 ∧ K (.fresh 5 1 ((blockL k n c).map byteP))
set_option maxHeartbeats 2000000 in
theorem meets_block : Meets (ctxOf [(n_cipher_stateOf, fnSpec R_stateOf), (n_cipher_state_round, mkM M_round)]) s_cipher_block c_cipher_block r_cipher_block S_block := by
  rintro _ K ⟨k, n, c, rfl, hk, hK⟩
  have hl : (stateL k n c).length = 8 := rfl
  obtain ⟨st, hst⟩ : ∃ st, RndsIs (stateL k n c) 0 st := ⟨_, ⟨rfl⟩⟩
  have hst8 : st.length = 8 := by rw [← hst.eq]; rfl
  obtain ⟨a0, a1, a2, a3, a4, a5, a6, a7, rfl⟩ := eight hst8
  have hst0 : stateL k n c = [a0, a1, a2, a3, a4, a5, a6, a7] := hst.eq
  refine ⟨_, ⟨k, n, c, rfl, hk, rfl⟩, ?_⟩
  rw [hst0]
  (repeat' ((conv => whnf); first | refine And.intro rfl ?_ | fail)) <;> try (conv => whnf)
  refine ⟨fun m env σ => ∃ (i : Nat) (s0 s1 s2 s3 s4 s5 s6 s7 : Int), (i + m = 6 ∧ RndsIs [a0, a1, a2, a3, a4, a5, a6, a7] i [s0, s1, s2, s3, s4, s5, s6, s7]) ∧ σ = [stB [a0, a1, a2, a3, a4, a5, a6, a7], stB [s0, s1, s2, s3, s4, s5, s6, s7]] ∧ env = [(7, .ref 0 0 0), (8, .ref 1 0 0), (17, .pv (pI i))], 6, ⟨0, _, _, _, _, _, _, _, _, ⟨by omega, ⟨rfl⟩⟩, rfl, rfl⟩, ?_⟩
  rintro m env σ ⟨i, s0, s1, s2, s3, s4, s5, s6, s7, ⟨hi, he⟩, rfl, rfl⟩
  by_cases h6 : i < 6
  · (repeat' ((conv => whnf); first | refine ⟨[_, _, _, _, _, _, _, _], rfl, rfl, rfl, fun t0 t1 t2 t3 t4 t5 t6 t7 ht => ?_⟩ | refine N64 (by omega) ?_ | refine CMP_t (by omega) ?_ | fail)) <;> try (conv => whnf)
    exact ⟨m - 1, by omega, i + 1, t0, t1, t2, t3, t4, t5, t6, t7, ⟨by omega, ⟨by rw [rnds, he.eq]; exact ht⟩⟩, rfl, rfl⟩
  obtain rfl : i = 6 := by omega
  (repeat' ((conv => whnf); first | refine CMP_f (by omega) ?_ | fail)) <;> try (conv => whnf)
  refine ⟨fun m env σ => ∃ i : Nat, (i + m = 8) ∧ σ = [stB [a0, a1, a2, a3, a4, a5, a6, a7], .row 5 1 true ((byI [s0, s1, s2, s3, s4, s5, s6, s7] [a0, a1, a2, a3, a4, a5, a6, a7] i).map byteP)] ∧ env = [(7, .ref 0 0 0), (9, .own 1), (21, .pv (.agg ([s0, s1, s2, s3, s4, s5, s6, s7].map pW))), (22, .pv (pI i))], 8, ⟨0, by omega, rfl, rfl⟩, ?_⟩
  rintro m env σ ⟨i, hi, rfl, rfl⟩
  have hi9 : i = 0 ∨ i = 1 ∨ i = 2 ∨ i = 3 ∨ i = 4 ∨ i = 5 ∨ i = 6 ∨ i = 7 ∨ i = 8 := by omega
  rcases hi9 with rfl | rfl | rfl | rfl | rfl | rfl | rfl | rfl | rfl
  · (repeat' ((conv => whnf); first | refine CMP_t (by omega) ?_ | refine U8m ?_ | refine And.intro rfl ?_ | refine And.intro (by omega) ?_ | refine EQI ?_ | fail)) <;> try (conv => whnf)
    refine ⟨by simp [byI_len], ?_⟩
    (repeat' ((conv => whnf); first | refine N64 (by omega) ?_ | fail)) <;> try (conv => whnf)
    exact ⟨m - 1, by omega, 1, by omega, by rw [← byI_snoc _ _ 0 _ rfl]; rfl, rfl⟩
  · (repeat' ((conv => whnf); first | refine CMP_t (by omega) ?_ | refine U8m ?_ | refine And.intro rfl ?_ | refine And.intro (by omega) ?_ | refine EQI ?_ | fail)) <;> try (conv => whnf)
    refine ⟨by simp [byI_len], ?_⟩
    (repeat' ((conv => whnf); first | refine N64 (by omega) ?_ | fail)) <;> try (conv => whnf)
    exact ⟨m - 1, by omega, 2, by omega, by rw [← byI_snoc _ _ 1 _ rfl]; rfl, rfl⟩
  · (repeat' ((conv => whnf); first | refine CMP_t (by omega) ?_ | refine U8m ?_ | refine And.intro rfl ?_ | refine And.intro (by omega) ?_ | refine EQI ?_ | fail)) <;> try (conv => whnf)
    refine ⟨by simp [byI_len], ?_⟩
    (repeat' ((conv => whnf); first | refine N64 (by omega) ?_ | fail)) <;> try (conv => whnf)
    exact ⟨m - 1, by omega, 3, by omega, by rw [← byI_snoc _ _ 2 _ rfl]; rfl, rfl⟩
  · (repeat' ((conv => whnf); first | refine CMP_t (by omega) ?_ | refine U8m ?_ | refine And.intro rfl ?_ | refine And.intro (by omega) ?_ | refine EQI ?_ | fail)) <;> try (conv => whnf)
    refine ⟨by simp [byI_len], ?_⟩
    (repeat' ((conv => whnf); first | refine N64 (by omega) ?_ | fail)) <;> try (conv => whnf)
    exact ⟨m - 1, by omega, 4, by omega, by rw [← byI_snoc _ _ 3 _ rfl]; rfl, rfl⟩
  · (repeat' ((conv => whnf); first | refine CMP_t (by omega) ?_ | refine U8m ?_ | refine And.intro rfl ?_ | refine And.intro (by omega) ?_ | refine EQI ?_ | fail)) <;> try (conv => whnf)
    refine ⟨by simp [byI_len], ?_⟩
    (repeat' ((conv => whnf); first | refine N64 (by omega) ?_ | fail)) <;> try (conv => whnf)
    exact ⟨m - 1, by omega, 5, by omega, by rw [← byI_snoc _ _ 4 _ rfl]; rfl, rfl⟩
  · (repeat' ((conv => whnf); first | refine CMP_t (by omega) ?_ | refine U8m ?_ | refine And.intro rfl ?_ | refine And.intro (by omega) ?_ | refine EQI ?_ | fail)) <;> try (conv => whnf)
    refine ⟨by simp [byI_len], ?_⟩
    (repeat' ((conv => whnf); first | refine N64 (by omega) ?_ | fail)) <;> try (conv => whnf)
    exact ⟨m - 1, by omega, 6, by omega, by rw [← byI_snoc _ _ 5 _ rfl]; rfl, rfl⟩
  · (repeat' ((conv => whnf); first | refine CMP_t (by omega) ?_ | refine U8m ?_ | refine And.intro rfl ?_ | refine And.intro (by omega) ?_ | refine EQI ?_ | fail)) <;> try (conv => whnf)
    refine ⟨by simp [byI_len], ?_⟩
    (repeat' ((conv => whnf); first | refine N64 (by omega) ?_ | fail)) <;> try (conv => whnf)
    exact ⟨m - 1, by omega, 7, by omega, by rw [← byI_snoc _ _ 6 _ rfl]; rfl, rfl⟩
  · (repeat' ((conv => whnf); first | refine CMP_t (by omega) ?_ | refine U8m ?_ | refine And.intro rfl ?_ | refine And.intro (by omega) ?_ | refine EQI ?_ | fail)) <;> try (conv => whnf)
    refine ⟨by simp [byI_len], ?_⟩
    (repeat' ((conv => whnf); first | refine N64 (by omega) ?_ | fail)) <;> try (conv => whnf)
    exact ⟨m - 1, by omega, 8, by omega, by rw [← byI_snoc _ _ 7 _ rfl]; rfl, rfl⟩
  · (repeat' ((conv => whnf); first | refine CMP_f (by omega) ?_ | fail)) <;> try (conv => whnf)
    refine ⟨.fresh 5 1 _, ⟨rfl, rfl, rfl, rfl⟩, (fun x hx => by obtain ⟨t, _, rfl⟩ := List.mem_map.1 hx; trivial), ?_⟩
    rw [blockL, hst0, he.eq] at hK
    exact hK
end Go.Dv.Try
end
section
/-
  Chapter 7 on the top seat: bytes encrypted.
-/
namespace Go.Dv.Try
open Go Go.Dv

/-- The byte of the key stream at a place. -/
def ks (k : List UInt8) (n : Int) (p : Nat) : UInt8 := (blockL k n (p / 16 : Nat)).getD (p % 16) 0
def dB (d : List UInt8) (j : Nat) : UInt8 := d.getD j 0
def cryptL (k : List UInt8) (n : Int) (a : Nat) (d : List UInt8) : List UInt8 := tab (fun j => dB d j ^^^ ks k n (a + j)) d.length
theorem crypt_len (k : List UInt8) (n : Int) (a : Nat) (d : List UInt8) : (cryptL k n a d).length = d.length := by simp [cryptL]
theorem dB_get {d : List UInt8} {j : Nat} {x : UInt8} (h : d[j]? = some x) : dB d j = x := by simp [dB, h]
theorem tab_dB (d : List UInt8) : d = tab (dB d) d.length := tab_of fun i x h => (dB_get h).symm
theorem xor8n {a b : Nat} (ha : a < 256) (hb : b < 256) : bitsOp .xor .u8 (a : Int) (b : Int) = ((a ^^^ b : Nat) : Int) := by
  have h1 : a ^^^ b < 2 ^ 8 := Nat.xor_lt_two_pow ha hb
  have e : bitsOp .xor .u8 (a : Int) (b : Int) = IntKind.u8.wrap (BitVec.ofInt 8 (a : Int) ^^^ BitVec.ofInt 8 (b : Int)).toNat := rfl
  rw [e, BitVec.toNat_xor, ofInt_nat ha, ofInt_nat hb]
  exact wrap8n h1
theorem xor8 (a b : UInt8) : bitsOp .xor .u8 (a.toNat : Nat) (b.toNat : Nat) = ((a ^^^ b).toNat : Nat) := by
  rw [xor8n (UInt8.toNat_lt a) (UInt8.toNat_lt b), UInt8.toNat_xor]
/-- Encrypted again: as it was. -/
theorem crypt_crypt (k : List UInt8) (n : Int) (a : Nat) (d : List UInt8) : cryptL k n a (cryptL k n a d) = d := by
  conv => rhs; rw [tab_dB d]
  rw [cryptL, crypt_len]
  refine tab_ext fun i hi => ?_
  have : dB (cryptL k n a d) i = dB d i ^^^ ks k n (a + i) := dB_get (tab_get hi)
  rw [this, UInt8.xor_assoc, UInt8.xor_self, UInt8.xor_zero]
theorem dB_drop (d : List UInt8) (i j : Nat) : dB (d.drop i) j = dB d (i + j) := by simp [dB, List.getD_eq_getElem?_getD]
theorem dB_take (d : List UInt8) {i j : Nat} (h : j < i) : dB (d.take i) j = dB d j := by simp [dB, List.getD_eq_getElem?_getD, h]
/-- A part of what is encrypted. -/
theorem crypt_part (k : List UInt8) (n : Int) (a i : Nat) (d : List UInt8) : cryptL k n (a + i) (d.drop i) = (cryptL k n a d).drop i := by
  apply List.ext_getElem?
  intro j
  rw [List.getElem?_drop]
  unfold cryptL
  by_cases h : i + j < d.length
  · rw [tab_get (by rw [List.length_drop]; omega), tab_get h, dB_drop, Nat.add_assoc]
  · rw [List.getElem?_eq_none (by rw [tab_len, List.length_drop]; omega), List.getElem?_eq_none (by rw [tab_len]; omega)]
theorem crypt_take (k : List UInt8) (n : Int) (a i : Nat) (d : List UInt8) : cryptL k n a (d.take i) = (cryptL k n a d).take i := by
  apply List.ext_getElem?
  intro j
  rw [List.getElem?_take]
  unfold cryptL
  by_cases h : j < i
  · rw [if_pos h]
    by_cases h2 : j < d.length
    · rw [tab_get (by rw [List.length_take]; omega), tab_get h2, dB_take d h]
    · rw [List.getElem?_eq_none (by rw [tab_len, List.length_take]; omega), List.getElem?_eq_none (by rw [tab_len]; omega)]
  · rw [if_neg h, List.getElem?_eq_none (by rw [tab_len, List.length_take]; omega)]

def R_crypt (ps : List PV) (x : PV) : Prop := ∃ (k : List UInt8) (n a : Int) (d : List UInt8), ps = [.str k, pI n, pI a, .str d] ∧ (k.length = 8 ∧ 0 ≤ a ∧ a % 16 = 0 ∧ a ≤ 2000000 ∧ d.length ≤ 2000000) ∧ x = .str (cryptL k n a.toNat d)
set_option maxHeartbeats 1000000 in
theorem meets_crypt : Meets (ctxOf [(n_cipher_block, S_block)]) s_cipher_crypt c_cipher_crypt r_cipher_crypt (fnSpec R_crypt) := by
  rintro _ K ⟨_, ⟨k, n, a, d, rfl, ⟨hk, ha, ha16, ha2, hd⟩, rfl⟩, hK⟩
  obtain ⟨A, rfl⟩ : ∃ A : Nat, a = A := ⟨a.toNat, by omega⟩
  refine ⟨by omega, ?_⟩
  (repeat' ((conv => whnf); first | (show _ ≤ (9223372036854775807 : Nat) → _; first | rw [List.length_map, tab_len] | rw [List.length_map] | rw [List.length_replicate] | skip; intro _) | fail)) <;> try (conv => whnf)
  refine ⟨fun m env σ => ∃ (i : Nat) (bs : List UInt8), (i + m = d.length ∧ (i % 16 ≠ 0 → bs = blockL k n ((A + i) / 16 : Nat))) ∧ σ = [.row 5 1 false ((tab (fun j => if j < i then dB d j ^^^ ks k n (A + j) else dB d j) d.length).map byteP), .row 5 1 true (bs.map byteP)] ∧
    env = [(0, .pv (.str k)), (1, .pv (pI n)), (2, .pv (pI A)), (9, .own 0), (10, .own 1), (16, .pv (pI d.length)), (17, .pv (pI i))], d.length, ⟨0, [], ⟨by omega, fun h => absurd rfl h⟩, by rw [show tab (fun j => if j < 0 then dB d j ^^^ ks k n (A + j) else dB d j) d.length = d from (tab_ext fun i _ => if_neg (Nat.not_lt_zero i)).trans (tab_dB d).symm]; rfl, rfl⟩, ?_⟩
  rintro m env σ ⟨i, bs, ⟨hi, hbs⟩, rfl, rfl⟩
  by_cases hlt : i < d.length
  · have hrow : ∀ bs : List UInt8, bs = blockL k n ((A + i) / 16 : Nat) → bs[(A + i) % 16]? = some (ks k n (A + i)) := by
      rintro _ rfl
      unfold ks
      rw [List.getD_eq_getElem?_getD, List.getElem?_eq_getElem (by rw [block_len]; omega)]
      rfl
    have hset : ∀ x : UInt8, x = (fun j => if j < i then dB d j ^^^ ks k n (A + j) else dB d j) i → tab (fun j => if j = i then x ^^^ ks k n (A + i) else if j < i then dB d j ^^^ ks k n (A + j) else dB d j) d.length = tab (fun j => if j < i + 1 then dB d j ^^^ ks k n (A + j) else dB d j) d.length := by
      intro x hx
      refine tab_ext fun j hj => ?_
      simp only [Nat.lt_irrefl, if_false] at hx
      by_cases h1 : j = i
      · subst h1; rw [if_pos rfl, if_pos (by omega), hx]
      · rw [if_neg h1]
        by_cases h2 : j < i
        · rw [if_pos h2, if_pos (by omega)]
        · rw [if_neg h2, if_neg (by omega)]
    have hst : ((tab (fun j => if j < i then dB d j ^^^ ks k n (A + j) else dB d j) d.length).map byteP).set i (PV.int .u8 (bitsOp .xor .u8 (((fun j => if j < i then dB d j ^^^ ks k n (A + j) else dB d j) i).toNat : Nat) ((ks k n (A + i)).toNat : Nat))) = (tab (fun j => if j < i + 1 then dB d j ^^^ ks k n (A + j) else dB d j) d.length).map byteP := by
      rw [xor8]
      show List.set _ i (byteP _) = _
      rw [set_map, tab_set, hset _ rfl]
    by_cases h0 : i % 16 = 0
    · have hd0 : ((A : Int) + i) / 16 = ((A + i) / 16 : Nat) := by omega
      (repeat' ((conv => whnf); first | refine N64 (by omega) ?_ | refine CMP_t (by omega) ?_ | fail)) <;> try (conv => whnf)
      refine fun r _ => ?_
      cases r
      · (repeat' ((conv => whnf); first | refine ⟨k, n, _, rfl, hk, ?_⟩ | refine CMP_t (by omega) ?_ | refine QUO (by omega) ?_ | refine REM (by omega) ?_ | refine GETt (by omega) ?_ | refine OWNt (by omega) ?_ | refine And.intro rfl ?_ | fail)) <;> try (conv => whnf)
        rw [hd0]
        refine ⟨⟨by omega, by rw [List.length_map, block_len]; omega⟩, ?_⟩
        (repeat' ((conv => whnf); first | refine ⟨_, (by rw [List.getElem?_map, show (((A : Int) + i) % 16).toNat = (A + i) % 16 by omega, hrow _ rfl]; rfl), ?_⟩ | refine N64 (by omega) ?_ | refine U8m ?_ | refine GETt (by omega) ?_ | refine OWNt (by omega) ?_ | refine And.intro rfl ?_ | fail)) <;> try (conv => whnf)
        exact ⟨m - 1, by omega, i + 1, blockL k n ((A + i) / 16 : Nat), ⟨by omega, fun h => by rw [show (A + (i + 1)) / 16 = (A + i) / 16 by omega]⟩, congrArg (fun l => [Blk.row 5 1 false l, Blk.row 5 1 true ((blockL k n ((A + i) / 16 : Nat)).map byteP)]) hst, rfl⟩
      · (repeat' ((conv => whnf); first | refine ⟨k, n, _, rfl, hk, ?_⟩ | refine QUO (by omega) ?_ | refine REM (by omega) ?_ | refine GETt (by omega) ?_ | refine OWNt (by omega) ?_ | refine And.intro rfl ?_ | fail)) <;> try (conv => whnf)
        rw [hd0]
        refine ⟨⟨by omega, by rw [List.length_map, block_len]; omega⟩, ?_⟩
        (repeat' ((conv => whnf); first | refine ⟨_, (by rw [List.getElem?_map, show (((A : Int) + i) % 16).toNat = (A + i) % 16 by omega, hrow _ rfl]; rfl), ?_⟩ | refine N64 (by omega) ?_ | refine U8m ?_ | refine GETt (by omega) ?_ | refine OWNt (by omega) ?_ | refine And.intro rfl ?_ | fail)) <;> try (conv => whnf)
        exact ⟨m - 1, by omega, i + 1, blockL k n ((A + i) / 16 : Nat), ⟨by omega, fun h => by rw [show (A + (i + 1)) / 16 = (A + i) / 16 by omega]⟩, congrArg (fun l => [Blk.row 5 1 false l, Blk.row 5 1 true ((blockL k n ((A + i) / 16 : Nat)).map byteP)]) hst, rfl⟩
    · (repeat' ((conv => whnf); first | refine N64 (by omega) ?_ | refine CMP_t (by omega) ?_ | fail)) <;> try (conv => whnf)
      refine fun r hr => ?_
      obtain rfl : r = false := hr (by rw [hbs h0]; intro h; have := congrArg List.length h; rw [List.length_map, block_len] at this; cases this)
      obtain rfl := hbs h0
      (repeat' ((conv => whnf); first | refine CMP_f (by omega) ?_ | refine REM (by omega) ?_ | refine GETt (by omega) ?_ | refine OWNt (by omega) ?_ | refine And.intro rfl ?_ | fail)) <;> try (conv => whnf)
      refine ⟨⟨by omega, by rw [List.length_map, block_len]; omega⟩, ?_⟩
      (repeat' ((conv => whnf); first | refine ⟨_, (by rw [List.getElem?_map, show (((A : Int) + i) % 16).toNat = (A + i) % 16 by omega, hrow _ rfl]; rfl), ?_⟩ | refine N64 (by omega) ?_ | refine U8m ?_ | refine GETt (by omega) ?_ | refine OWNt (by omega) ?_ | refine And.intro rfl ?_ | fail)) <;> try (conv => whnf)
      exact ⟨m - 1, by omega, i + 1, blockL k n ((A + i) / 16 : Nat), ⟨by omega, fun h => by rw [show (A + (i + 1)) / 16 = (A + i) / 16 by omega]⟩, congrArg (fun l => [Blk.row 5 1 false l, Blk.row 5 1 true ((blockL k n ((A + i) / 16 : Nat)).map byteP)]) hst, rfl⟩
  · obtain rfl : i = d.length := by omega
    (repeat' ((conv => whnf); first | refine CMP_f (by omega) ?_ | refine BTS ?_ | fail)) <;> try (conv => whnf)
    refine ⟨.pv (.str (cryptL k n (A : Int).toNat d)), ?_, trivial, hK⟩
    show PV.str _ = PV.str _
    congr 1
    exact tab_ext fun j hj => by rw [if_pos hj]; rfl
end Go.Dv.Try
end
section
/-
  Chapter 7 on the top seat: small functions; keys wrapped.
-/
namespace Go.Dv.Try
open Go Go.Dv

theorem meets_cipher_within : Meets (ctxOf []) s_cipher_within c_cipher_within r_cipher_within (fnSpec R_compress_within) := by
  rintro _ K ⟨_, ⟨n, lo, hi, rfl, rfl⟩, hK⟩
  refine fun b hb => ?_
  rcases cmp hb with ⟨rfl, h⟩ | ⟨rfl, h⟩
  · refine fun b hb => ?_
    refine ⟨.pv (pB _), pB_eq ?_, trivial, hK⟩
    rw [decide_eq_true_iff, hb]
    omega
  · refine ⟨.pv (pB _), pB_eq ?_, trivial, hK⟩
    rw [decide_eq_true_iff]
    simp only [Bool.false_eq_true, iff_false]
    omega
theorem meets_cipher_unless : Meets (ctxOf []) s_cipher_unless c_cipher_unless r_cipher_unless (fnSpec R_compress_unless) := by
  rintro _ K ⟨_, ⟨ok, e, rfl, rfl⟩, hK⟩
  cases ok with
  | true => exact ⟨.pv (pI _), rfl, trivial, hK⟩
  | false => exact ⟨.pv (pI _), rfl, trivial, hK⟩
theorem meets_cipher_first : Meets (ctxOf []) s_cipher_first c_cipher_first r_cipher_first (fnSpec R_compress_first) := by
  rintro _ K ⟨_, ⟨l, rfl, rfl⟩, hK⟩
  refine fun hl => ?_
  rw [List.length_map] at hl
  refine ⟨fun m env σ => ∃ n : Nat, (n + m = l.length ∧ ∀ j, j < n → l[j]? = some 0) ∧ σ = [] ∧ env = [(5, .pv (.sl 1 (l.map pI))), (6, .pv (pI ((l.map pI).length : Nat))), (7, .pv (pI n))], l.length, ⟨0, ⟨by omega, fun j hj => by omega⟩, rfl, rfl⟩, ?_⟩
  rintro m env σ ⟨n, ⟨hn, h0⟩, rfl, rfl⟩
  refine fun b hb => ?_
  rw [List.length_map] at hb
  rcases cmp hb with ⟨rfl, h⟩ | ⟨rfl, h⟩
  · have hlt : n < l.length := by omega
    refine ⟨pI l[n], ⟨by omega, ?_⟩, ?_⟩
    · show (l.map pI)[n]? = some (pI l[n])
      simp [hlt]
    refine fun b hb => ?_
    rcases cmp hb with ⟨rfl, h⟩ | ⟨rfl, h⟩
    · refine ⟨.pv (pI _), pI_eq ?_, trivial, hK⟩
      rw [firstZ_drop l n h0, List.drop_eq_getElem_cons hlt]
      simp [firstZ, h]
    · refine fun x hx => ?_
      replace hx := n64 hx (by omega)
      subst hx
      refine ⟨m - 1, by omega, n + 1, ⟨by omega, fun j hj => ?_⟩, rfl, rfl⟩
      by_cases hjn : j < n
      · exact h0 j hjn
      · have : j = n := by omega
        subst this
        rw [List.getElem?_eq_getElem hlt]
        congr 1
        simpa using h
  · have : n = l.length := by omega
    refine ⟨.pv (pI _), pI_eq ?_, trivial, hK⟩
    rw [firstZ_drop l n h0, this]
    simp [firstZ]

def keyE (n : Nat) : Int := if n = 8 then 0 else 10
def R_keyErr (ps : List PV) (x : PV) : Prop := ∃ k : List UInt8, ps = [.str k] ∧ x = pI (keyE k.length)
theorem meets_cipher_keyErr : Meets (ctxOf [(n_cipher_unless, fnSpec R_compress_unless)]) s_cipher_keyErr c_cipher_keyErr r_cipher_keyErr (fnSpec R_keyErr) := by
  rintro _ K ⟨_, ⟨k, rfl, rfl⟩, hK⟩
  refine fun b hb => ?_
  refine ⟨_, ⟨b, 10, rfl, rfl⟩, ?_⟩
  refine ⟨.pv (pI _), pI_eq ?_, trivial, hK⟩
  unfold keyE
  rcases cmp hb with ⟨rfl, h⟩ | ⟨rfl, h⟩
  · rw [if_pos (by omega)]; rfl
  · rw [if_neg (by omega)]; rfl
theorem meets_ref07_KeyErr : Meets (ctxOf []) s_ref07_KeyErr c_ref07_KeyErr r_ref07_KeyErr (fnSpec R_keyErr) := by
  rintro _ K ⟨_, ⟨k, rfl, rfl⟩, hK⟩
  refine fun b hb => ?_
  rcases cmp hb with ⟨rfl, h⟩ | ⟨rfl, h⟩
  · refine ⟨.pv (pI _), pI_eq ?_, trivial, hK⟩
    unfold keyE; rw [if_neg (by omega)]
  · refine ⟨.pv (pI _), pI_eq ?_, trivial, hK⟩
    unfold keyE; rw [if_pos (by omega)]
def Q_user (ps : List PV) (p : Prop) : Prop := ∃ n : Int, ps = [pI n] ∧ p = (10 ≤ n ∧ n ≤ 999)
theorem meets_base_IsUser : Meets (ctxOf [(n_base_Within, fnSpec R_compress_within)]) s_base_IsUser c_base_IsUser r_base_IsUser (fnB Q_user) := by
  rintro _ K ⟨_, ⟨n, rfl, rfl⟩, hK⟩
  refine ⟨_, ⟨n, 10, 999, rfl, rfl⟩, ?_⟩
  exact ⟨.pv (.bool _), rfl, trivial, hK _ (by simp)⟩
def Q_word07 (ps : List PV) (p : Prop) : Prop := ∃ n : Int, ps = [pI n] ∧ p = (0 ≤ n ∧ n ≤ 65535)
theorem meets_ref07_IsWord : Meets (ctxOf [(n_base_Within, fnSpec R_compress_within)]) s_ref07_IsWord c_ref07_IsWord r_ref07_IsWord (fnB Q_word07) := by
  rintro _ K ⟨_, ⟨n, rfl, rfl⟩, hK⟩
  refine ⟨_, ⟨n, 0, 65535, rfl, rfl⟩, ?_⟩
  exact ⟨.pv (.bool _), rfl, trivial, hK _ (by simp)⟩
def R_word07 (ps : List PV) (x : PV) : Prop := ∃ n : Int, ps = [pI n] ∧ x = pB (decide (0 ≤ n ∧ n ≤ 65535))
theorem meets_cipher_isWord : Meets (ctxOf [(n_cipher_within, fnSpec R_compress_within)]) s_cipher_isWord c_cipher_isWord r_cipher_isWord (fnSpec R_word07) := by
  rintro _ K ⟨_, ⟨n, rfl, rfl⟩, hK⟩
  refine ⟨_, ⟨n, 0, 65535, rfl, rfl⟩, ?_⟩
  exact ⟨.pv (.bool _), rfl, trivial, hK⟩

/-- A user with a key; a field. -/
structure Hd where
  u : Int
  k : List UInt8
def Hd.pv (h : Hd) : PV := .agg [pI h.u, .str h.k]
def Hd.ok (h : Hd) : Prop := 10 ≤ h.u ∧ h.u ≤ 999 ∧ h.k.length = 8
/-- The error of a holder: there is none exactly if it is valid. -/
def R_holdErr (ps : List PV) (x : PV) : Prop := ∃ h : Hd, ps = [h.pv] ∧ h.ok ∧ x = pI 0
theorem meets_cipher_holderErr : Meets (ctxOf [(n_cipher_within, fnSpec R_compress_within), (n_cipher_unless, fnSpec R_compress_unless), (n_cipher_keyErr, fnSpec R_keyErr), (n_cipher_first, fnSpec R_compress_first)]) s_cipher_holderErr c_cipher_holderErr r_cipher_holderErr (fnSpec R_holdErr) := by
  rintro _ K ⟨_, ⟨⟨u, k⟩, rfl, ⟨h1, h2, h3⟩, rfl⟩, hK⟩
  simp only at h1 h2 h3
  (repeat' ((conv => whnf); (fail_if_success (refine ⟨(?_ : Nat), (?_ : _ < _), ?_⟩)); (fail_if_success (refine ⟨(?_ : RV), ?_⟩)); (fail_if_success (refine ⟨(?_ : List RV), ?_⟩)); first | refine And.intro rfl ?_ | refine ⟨_, ⟨_, rfl, rfl⟩, ?_⟩ | refine ⟨_, ⟨_, _, rfl, rfl⟩, ?_⟩ | refine ⟨_, ⟨_, _, _, rfl, rfl⟩, ?_⟩ | refine ⟨_, ⟨[_, _], rfl, rfl⟩, ?_⟩ | fail)) <;> try (conv => whnf)
  refine ⟨.pv (pI 0), pI_eq ?_, trivial, hK⟩
  show 0 = firstZ [unlessZ (decide (10 ≤ u ∧ u ≤ 999)) 2, keyE k.length]
  rw [decide_eq_true ⟨h1, h2⟩, h3]
  rfl
def holdE (h : Hd) : Int := if 10 ≤ h.u ∧ h.u ≤ 999 then keyE h.k.length else 2
theorem holdE_ok {h : Hd} (e : holdE h = 0) : h.ok := by
  unfold holdE keyE at e
  split at e
  · split at e
    · rename_i h1 h2; exact ⟨h1.1, h1.2, h2⟩
    · cases e
  · cases e
def R_HolderErr (ps : List PV) (x : PV) : Prop := ∃ h : Hd, ps = [h.pv] ∧ x = pI (holdE h)
theorem meets_ref07_HolderErr : Meets (ctxOf [(n_base_IsUser, fnB Q_user), (n_ref07_KeyErr, fnSpec R_keyErr)]) s_ref07_HolderErr c_ref07_HolderErr r_ref07_HolderErr (fnSpec R_HolderErr) := by
  rintro _ K ⟨_, ⟨⟨u, k⟩, rfl, rfl⟩, hK⟩
  by_cases h : 10 ≤ u ∧ u ≤ 999
  · have e : holdE ⟨u, k⟩ = keyE k.length := if_pos h
    rw [e] at hK
    (repeat' ((conv => whnf); first | refine CMP_t h ?_ | ((fail_if_success (refine ⟨(?_ : Nat), (?_ : _ < _), ?_⟩)); (fail_if_success (refine ⟨(?_ : RV), ?_⟩)); (fail_if_success (refine ⟨(?_ : List RV), ?_⟩)); first | refine NOT_t ?_ | refine ⟨_, ⟨_, rfl, rfl⟩, ?_⟩ | fail))) <;> try (conv => whnf)
    exact ⟨.pv (pI _), rfl, trivial, hK⟩
  · have e : holdE ⟨u, k⟩ = 2 := if_neg h
    rw [e] at hK
    (repeat' ((conv => whnf); first | refine CMP_f h ?_ | ((fail_if_success (refine ⟨(?_ : Nat), (?_ : _ < _), ?_⟩)); (fail_if_success (refine ⟨(?_ : RV), ?_⟩)); (fail_if_success (refine ⟨(?_ : List RV), ?_⟩)); first | refine NOT_f ?_ | refine ⟨_, ⟨_, rfl, rfl⟩, ?_⟩ | fail))) <;> try (conv => whnf)
    exact ⟨.pv (pI _), rfl, trivial, hK⟩

/-- The check of a key. -/
def sumK (k : List UInt8) : Nat → Int
  | 0 => 0
  | i + 1 => sumK k i + (i + 1) * (dB k i).toNat
def checkL (k : List UInt8) : List UInt8 := [u8of (sumK k k.length), u8of (sumK k k.length / 256)]
theorem sumK_le (k : List UInt8) : ∀ i, 0 ≤ sumK k i ∧ sumK k i ≤ 256 * i * i := by
  intro i
  induction i with
  | zero => exact ⟨Int.le_refl _, Int.le_refl _⟩
  | succ i ih =>
    have h := UInt8.toNat_lt (dB k i)
    have h1 : ((i : Int) + 1) * ((dB k i).toNat : Int) ≤ ((i : Int) + 1) * 256 := Int.mul_le_mul_of_nonneg_left (by omega) (by omega)
    have h2 : 0 ≤ ((i : Int) + 1) * ((dB k i).toNat : Int) := Int.mul_nonneg (by omega) (by omega)
    have h3 : (256 : Int) * ((i + 1 : Nat) : Int) * ((i + 1 : Nat) : Int) = 256 * i * i + 512 * i + 256 := by
      push_cast
      rw [Int.mul_add, Int.mul_add, Int.add_mul, Int.add_mul]
      omega
    unfold sumK
    omega
def R_check (ps : List PV) (x : PV) : Prop := ∃ k : List UInt8, ps = [.str k] ∧ k.length ≤ 100 ∧ x = .str (checkL k)
theorem meets_check : Meets (ctxOf []) s_cipher_check c_cipher_check r_cipher_check (fnSpec R_check) := by
  rintro _ K ⟨_, ⟨k, rfl, hk, rfl⟩, hK⟩
  refine ⟨by omega, ?_⟩
  (repeat' ((conv => whnf); first | (show _ ≤ (9223372036854775807 : Nat) → _; first | rw [List.length_map, tab_len] | rw [List.length_map] | rw [List.length_replicate] | skip; intro _) | fail)) <;> try (conv => whnf)
  refine ⟨fun m env σ => ∃ i : Nat, (i + m = k.length) ∧ σ = [.row 5 1 false (k.map byteP)] ∧ env = [(3, .pv (pI (sumK k i))), (7, .own 0), (8, .pv (pI k.length)), (9, .pv (pI i))], k.length, ⟨0, by omega, rfl, rfl⟩, ?_⟩
  rintro m env σ ⟨i, hi, rfl, rfl⟩
  have hs := sumK_le k i
  have hsm : (256 : Int) * i * i ≤ 2560000 := by
    have : (i : Int) * i ≤ 100 * 100 := Int.mul_le_mul (by omega) (by omega) (by omega) (by omega)
    rw [Int.mul_assoc]; omega
  by_cases hlt : i < k.length
  · have hx : k[i]? = some (dB k i) := by unfold dB; rw [List.getD_eq_getElem?_getD, List.getElem?_eq_getElem hlt]; rfl
    have hb := UInt8.toNat_lt (dB k i)
    have h1 : ((i : Int) + 1) * ((dB k i).toNat : Int) ≤ 101 * 256 := Int.mul_le_mul (by omega) (by omega) (by omega) (by omega)
    have h2 : 0 ≤ ((i : Int) + 1) * ((dB k i).toNat : Int) := Int.mul_nonneg (by omega) (by omega)
    (repeat' ((conv => whnf); first | refine GEThn hx ?_ | refine N64 (by omega) ?_ | refine CMP_t (by omega) ?_ | refine OWN (by omega) ?_ | fail)) <;> try (conv => whnf)
    exact ⟨m - 1, by omega, i + 1, by omega, rfl, rfl⟩
  · obtain rfl : i = k.length := by omega
    (repeat' ((conv => whnf); first | refine CMP_f (by omega) ?_ | refine U8m ?_ | refine SHR (by decide) (by omega) (fun _ => ?_) | refine And.intro rfl ?_ | fail)) <;> try (conv => whnf)
    refine ⟨checkL k, ?_, ?_⟩
    · show [PV.int .u8 (sumK k k.length % 256), PV.int .u8 (sumK k k.length / 256 % 256)] = _
      rw [pv_u8m, pv_u8m]; rfl
    (conv => whnf)
    exact ⟨.pv (.str (checkL k)), rfl, trivial, hK⟩

/-- A key wrapped for a holder. -/
def wrapL (h : Hd) (key : List UInt8) : List UInt8 := cryptL h.k h.u 0 (key ++ checkL key)
theorem wrap_len (h : Hd) {key : List UInt8} (hk : key.length = 8) : (wrapL h key).length = 10 := by
  rw [wrapL, crypt_len, List.length_append, hk]; rfl
def R_wrap (ps : List PV) (x : PV) : Prop := ∃ (h : Hd) (key : List UInt8), ps = [h.pv, .str key] ∧ (h.ok ∧ key.length = 8) ∧ x = .str (wrapL h key)
theorem meets_wrap : Meets (ctxOf [(n_cipher_check, fnSpec R_check), (n_cipher_crypt, fnSpec R_crypt)]) s_cipher_wrap c_cipher_wrap r_cipher_wrap (fnSpec R_wrap) := by
  rintro _ K ⟨_, ⟨⟨u, k⟩, key, rfl, ⟨⟨h1, h2, h3⟩, hk⟩, rfl⟩, hK⟩
  simp only at h1 h2 h3
  have hcl : (checkL key).length = 2 := rfl
  (repeat' ((conv => whnf); first | refine ⟨_, ⟨key, rfl, by omega, rfl⟩, ?_⟩ | refine And.intro (by rw [hcl]; omega) ?_ | refine ⟨_, ⟨k, u, 0, key ++ checkL key, rfl, ⟨h3, by decide, by decide, by decide, by rw [List.length_append]; omega⟩, rfl⟩, ?_⟩ | refine And.intro rfl ?_ | fail)) <;> try (conv => whnf)
  exact ⟨.pv (.str _), rfl, trivial, hK⟩
def S_Wrap : Spec := mkS true false fun ps K => ∃ (h : Hd) (key : List UInt8), ps = [h.pv, .str key] ∧ (h.ok ∧ key.length = 8) ∧ K (.tup [.pv (.str (wrapL h key)), .pv (pI 0)])
theorem meets_Wrap : Meets (ctxOf [(n_cipher_holderErr, fnSpec R_holdErr), (n_cipher_keyErr, fnSpec R_keyErr), (n_cipher_first, fnSpec R_compress_first), (n_cipher_wrap, fnSpec R_wrap)]) s_cipher_Wrap c_cipher_Wrap r_cipher_Wrap S_Wrap := by
  rintro _ K ⟨h, key, rfl, ⟨hh, hk⟩, hK⟩
  obtain ⟨u, k⟩ := h
  have hz : keyE key.length = 0 := by rw [hk]; rfl
  (repeat' ((conv => whnf); first | refine ⟨_, ⟨⟨u, k⟩, rfl, hh, rfl⟩, ?_⟩ | refine ⟨_, ⟨key, rfl, rfl⟩, ?_⟩ | refine CMP_f (by rw [hz]; decide) ?_ | refine ⟨_, ⟨⟨u, k⟩, key, rfl, ⟨hh, hk⟩, rfl⟩, ?_⟩ | ((fail_if_success (refine ⟨(?_ : Nat), (?_ : _ < _), ?_⟩)); (fail_if_success (refine ⟨(?_ : RV), ?_⟩)); (fail_if_success (refine ⟨(?_ : List RV), ?_⟩)); first | refine And.intro rfl ?_ | refine ⟨_, ⟨[_, _], rfl, rfl⟩, ?_⟩ | fail))) <;> try (conv => whnf)
  exact ⟨[.pv (.str _), .pv (pI 0)], ⟨rfl, rfl, trivial⟩, ⟨trivial, trivial, trivial⟩, hK⟩
end Go.Dv.Try
end
section
/-
  Chapter 7 on the top seat: keys unwrapped; fields.
-/
namespace Go.Dv.Try
open Go Go.Dv

theorem unwrap_wrap (h : Hd) {key : List UInt8} (hk : key.length = 8) : cryptL h.k h.u 0 (wrapL h key) = key ++ checkL key := crypt_crypt _ _ _ _
def S_unwrap : Spec := mkR true fun ps r => ∃ (h : Hd) (key : List UInt8), ps = [h.pv, .str (wrapL h key)] ∧ (h.ok ∧ key.length = 8) ∧ r = .tup [.pv (.str key), .pv (pI 0)]
theorem meets_unwrap : Meets (ctxOf [(n_cipher_check, fnSpec R_check), (n_cipher_crypt, fnSpec R_crypt)]) s_cipher_unwrap c_cipher_unwrap r_cipher_unwrap S_unwrap := by
  rintro _ K ⟨_, ⟨⟨u, k⟩, key, rfl, ⟨⟨h1, h2, h3⟩, hk⟩, rfl⟩, hK⟩
  simp only at h1 h2 h3
  have hcl : (checkL key).length = 2 := rfl
  have hw := wrap_len ⟨u, k⟩ hk
  have hun : cryptL k u (Int.toNat 0) (wrapL ⟨u, k⟩ key) = key ++ checkL key := unwrap_wrap ⟨u, k⟩ hk
  have hlen : (key ++ checkL key).length = 10 := by rw [List.length_append, hk]; rfl
  have c1 : cut 0 (Int.toNat 8) (key ++ checkL key) = key := by
    show List.drop 0 (List.take 8 _) = _
    rw [List.drop_zero, ← hk, List.take_left]
  have c2 : cut (Int.toNat 8) (key ++ checkL key).length (key ++ checkL key) = checkL key := by
    show List.drop 8 (List.take _ _) = _
    rw [List.take_length, ← hk, List.drop_left]
  refine ⟨_, ⟨k, u, 0, wrapL ⟨u, k⟩ key, rfl, ⟨h3, by decide, by decide, by decide, by omega⟩, rfl⟩, ?_⟩
  rw [hun]
  (repeat' ((conv => whnf); first | refine ⟨⟨by decide, by rw [hlen]; decide⟩, ?_⟩ | refine ⟨_, ⟨key, congrArg (fun x => [PV.str x]) c1, by omega, rfl⟩, ?_⟩ | refine CMP_f (fun h => h c2) ?_ | refine And.intro rfl ?_ | fail)) <;> try (conv => whnf)
  exact ⟨[.pv (.str key), .pv (pI 0)], ⟨congrArg PV.str c1.symm, rfl, trivial⟩, ⟨trivial, trivial, trivial⟩, hK⟩

structure Fd where
  u : Int
  w : List UInt8
def Fd.pv (f : Fd) : PV := .agg [pI f.u, .str f.w]
/-- Valid fields. -/
def FOk (l : List Fd) : Prop := (0 < l.length ∧ l.length ≤ 8) ∧ (∀ (i : Nat) (f : Fd), l[i]? = some f → 10 ≤ f.u ∧ f.u ≤ 999 ∧ f.w.length = 10) ∧ ∀ (i : Nat) (f g : Fd), l[i]? = some f → l[i + 1]? = some g → f.u < g.u
def fds (l : List Fd) : PV := .sl 2 (l.map Fd.pv)
def R_fieldErr (ps : List PV) (x : PV) : Prop := ∃ (i : Nat) (f : Fd) (l : List Fd), ps = [pI i, f.pv, .cptr (fds l)] ∧ (FOk l ∧ l[i]? = some f) ∧ x = pI 0
theorem meets_fieldErr : Meets (ctxOf [(n_cipher_within, fnSpec R_compress_within), (n_cipher_unless, fnSpec R_compress_unless), (n_cipher_first, fnSpec R_compress_first)]) s_cipher_CheckFields_f1 c_cipher_CheckFields_f1 r_cipher_CheckFields_f1 (fnSpec R_fieldErr) := by
  rintro _ K ⟨_, ⟨i, f, l, rfl, ⟨⟨⟨hl1, hl2⟩, h1, h2⟩, hf⟩, rfl⟩, hK⟩
  obtain ⟨a1, a2, a3⟩ := h1 i f hf
  have hi := lt_of_get hf
  obtain ⟨u, w⟩ := f
  simp only at a1 a2 a3
  have done : firstZ [unlessZ (decide (10 ≤ u ∧ u ≤ 999)) 2, unlessZ true 9, unlessZ true 10] = 0 := by
    rw [decide_eq_true ⟨a1, a2⟩]; rfl
  have a4 : ((w.length : Nat) : Int) = 10 := by omega
  by_cases h0 : i = 0
  · subst h0
    (repeat' ((conv => whnf); first | refine CMP_t a4 ?_ | ((fail_if_success (refine ⟨(?_ : Nat), (?_ : _ < _), ?_⟩)); (fail_if_success (refine ⟨(?_ : RV), ?_⟩)); (fail_if_success (refine ⟨(?_ : List RV), ?_⟩)); first | refine CMP_t (by omega) ?_ | refine And.intro rfl ?_ | refine ⟨_, ⟨_, _, rfl, rfl⟩, ?_⟩ | refine ⟨_, ⟨_, _, _, rfl, rfl⟩, ?_⟩ | refine ⟨_, ⟨[_, _, _], rfl, rfl⟩, ?_⟩ | fail))) <;> try (conv => whnf)
    exact ⟨.pv (pI 0), pI_eq done.symm, trivial, hK⟩
  · obtain ⟨g, hg⟩ : ∃ g, l[i - 1]? = some g := ⟨_, List.getElem?_eq_getElem (by omega)⟩
    have hlt := h2 (i - 1) g ⟨u, w⟩ hg (by rw [Nat.sub_add_cancel (by omega)]; exact hf)
    have hg' : l[(max (i : Int) 1 - 1).toNat]? = some g := by rw [show (max (i : Int) 1 - 1).toNat = i - 1 by omega]; exact hg
    (repeat' ((conv => whnf); first | refine IDXhi (by omega) hg' ?_ | refine CMP_t hlt ?_ | refine CMP_t a4 ?_ | ((fail_if_success (refine ⟨(?_ : Nat), (?_ : _ < _), ?_⟩)); (fail_if_success (refine ⟨(?_ : RV), ?_⟩)); (fail_if_success (refine ⟨(?_ : List RV), ?_⟩)); first | refine N64 (by omega) ?_ | refine CMP_f (by omega) ?_ | refine MAX ?_ | refine And.intro rfl ?_ | refine ⟨_, ⟨_, _, rfl, rfl⟩, ?_⟩ | refine ⟨_, ⟨_, _, _, rfl, rfl⟩, ?_⟩ | refine ⟨_, ⟨[_, _, _], rfl, rfl⟩, ?_⟩ | fail))) <;> try (conv => whnf)
    exact ⟨.pv (pI 0), pI_eq done.symm, trivial, hK⟩

/-- The error of each of valid fields. -/
def R_each (ps : List PV) (r : RV) : Prop := ∃ l : List Fd, ps = [fds l, .clo n_cipher_CheckFields_f1 [.cptr (fds l)]] ∧ FOk l ∧ r = .tup [.pv (pI 0), .pv (pI 0)]
def S_each : Spec := mkR true R_each
theorem meets_each : Meets (ctxOf [(n_cipher_CheckFields_f1, fnSpec R_fieldErr)]) s_cipher_each_depository_api_CipherField c_cipher_each_depository_api_CipherField r_cipher_each_depository_api_CipherField S_each := by
  rintro _ K ⟨_, ⟨l, rfl, hl, rfl⟩, hK⟩
  have h8 := hl.1
  (repeat' ((conv => whnf); first | (show _ ≤ (9223372036854775807 : Nat) → _; first | rw [List.length_map, tab_len] | rw [List.length_map] | rw [List.length_replicate] | skip; intro _) | fail)) <;> try (conv => whnf)
  refine ⟨fun m env σ => ∃ i : Nat, (i + m = l.length) ∧ σ = [] ∧ env = [(1, .pv (.clo n_cipher_CheckFields_f1 [.cptr (fds l)])), (9, .pv (fds l)), (10, .pv (pI l.length)), (11, .pv (pI i))], l.length, ⟨0, by omega, rfl, rfl⟩, ?_⟩
  rintro m env σ ⟨i, hi, rfl, rfl⟩
  by_cases hlt : i < l.length
  · obtain ⟨f, hf⟩ : ∃ f, l[i]? = some f := ⟨_, List.getElem?_eq_getElem hlt⟩
    (repeat' ((conv => whnf); first | refine IDXh hf ?_ | refine ⟨_, ⟨i, f, l, rfl, ⟨hl, hf⟩, rfl⟩, ?_⟩ | refine N64 (by omega) ?_ | refine CMP_t (by omega) ?_ | refine CMP_f (by omega) ?_ | refine And.intro rfl ?_ | fail)) <;> try (conv => whnf)
    exact ⟨m - 1, by omega, i + 1, by omega, rfl, rfl⟩
  · (repeat' ((conv => whnf); first | refine CMP_f (by omega) ?_ | fail)) <;> try (conv => whnf)
    exact ⟨[.pv (pI 0), .pv (pI 0)], ⟨rfl, rfl, trivial⟩, ⟨trivial, trivial, trivial⟩, hK⟩
def R_CheckFields (ps : List PV) (r : RV) : Prop := ∃ l : List Fd, ps = [fds l] ∧ FOk l ∧ r = .tup [.pv (pI 0), .pv (pI 0)]
theorem meets_CheckFields : Meets (ctxOf [(n_cipher_unless, fnSpec R_compress_unless), (n_cipher_first, fnSpec R_compress_first), (n_cipher_each_depository_api_CipherField, S_each)]) s_cipher_CheckFields c_cipher_CheckFields r_cipher_CheckFields (mkR true R_CheckFields) := by
  rintro _ K ⟨_, ⟨l, rfl, hl, rfl⟩, hK⟩
  have h8 := hl.1
  (repeat' ((conv => whnf); first | refine CMP_t (show (0 : Int) < ((l.map Fd.pv).length : Nat) by rw [List.length_map]; omega) ?_ | refine CMP_t (show (((l.map Fd.pv).length : Nat) : Int) ≤ 8 by rw [List.length_map]; omega) ?_ | refine CMP_f (show ¬(firstZ [unlessZ true 17, unlessZ true 8] ≠ 0) by decide) ?_ | refine ⟨_, ⟨l, rfl, hl, rfl⟩, ?_⟩ | ((fail_if_success (refine ⟨(?_ : Nat), (?_ : _ < _), ?_⟩)); (fail_if_success (refine ⟨(?_ : RV), ?_⟩)); (fail_if_success (refine ⟨(?_ : List RV), ?_⟩)); first | refine And.intro rfl ?_ | refine ⟨_, ⟨_, _, rfl, rfl⟩, ?_⟩ | refine ⟨_, ⟨[_, _], rfl, rfl⟩, ?_⟩ | fail))) <;> try (conv => whnf)
  exact ⟨[.pv (pI 0), .pv (pI 0)], ⟨rfl, rfl, trivial⟩, ⟨trivial, trivial, trivial⟩, hK⟩
def R_fieldsErr (ps : List PV) (x : PV) : Prop := ∃ l : List Fd, ps = [fds l] ∧ FOk l ∧ x = pI 0
theorem meets_fieldsErr : Meets (ctxOf [(n_cipher_CheckFields, mkR true R_CheckFields)]) s_cipher_fieldsErr c_cipher_fieldsErr r_cipher_fieldsErr (fnSpec R_fieldsErr) := by
  rintro _ K ⟨_, ⟨l, rfl, hl, rfl⟩, hK⟩
  (repeat' ((conv => whnf); first | refine ⟨_, ⟨l, rfl, hl, rfl⟩, ?_⟩ | fail)) <;> try (conv => whnf)
  exact ⟨.pv (pI 0), rfl, trivial, hK⟩

/-- Where a user's field is, or would be. -/
def R_atf (ps : List PV) (x : PV) : Prop := ∃ (f : Fd) (n : Int), ps = [f.pv, pI n] ∧ (10 ≤ f.u ∧ f.u ≤ 999 ∧ 10 ≤ n ∧ n ≤ 999) ∧ x = pI (f.u - n)
theorem meets_atf : Meets (ctxOf []) s_cipher_at_f1 c_cipher_at_f1 r_cipher_at_f1 (fnSpec R_atf) := by
  rintro _ K ⟨_, ⟨⟨u, w⟩, n, rfl, ⟨h1, h2, h3, h4⟩, rfl⟩, hK⟩
  simp only at h1 h2
  (repeat' ((conv => whnf); first | refine N64 (show _ ≤ u - n ∧ u - n ≤ _ by omega) ?_ | fail)) <;> try (conv => whnf)
  exact ⟨.pv (pI _), rfl, trivial, hK⟩
/-- How many fields come before a user's. -/
def posF (l : List Fd) (n : Int) : Nat := (l.takeWhile fun f => decide (f.u < n)).length
theorem posF_le (l : List Fd) (n : Int) : posF l n ≤ l.length := (List.takeWhile_sublist _).length_le
theorem posF_lt (l : List Fd) (n : Int) : ∀ (i : Nat) (f : Fd), i < posF l n → l[i]? = some f → f.u < n := by
  induction l with
  | nil => intro i f _ h; simp at h
  | cons g l ih =>
    intro i f hi hf
    unfold posF at hi
    rw [List.takeWhile_cons] at hi
    split at hi
    · rename_i hg
      cases i with
      | zero => simp at hf; subst hf; simpa using hg
      | succ i => exact ih i f (by simpa [posF] using hi) (by simpa using hf)
    · simp at hi
theorem posF_at (l : List Fd) (n : Int) : ∀ f : Fd, l[posF l n]? = some f → n ≤ f.u := by
  induction l with
  | nil => intro f h; simp at h
  | cons g l ih =>
    intro f hf
    unfold posF at hf
    rw [List.takeWhile_cons] at hf
    split at hf
    · exact ih f (by simpa [posF] using hf)
    · rename_i hg
      simp at hf hg
      subst hf; exact hg
theorem posF_ge {l : List Fd} {n : Int} (hl : FOk l) : ∀ (i : Nat) (f : Fd), posF l n ≤ i → l[i]? = some f → n ≤ f.u := by
  intro i
  induction i with
  | zero => intro f hi hf; exact posF_at l n f (by rw [show posF l n = 0 by omega]; exact hf)
  | succ i ih =>
    intro f hi hf
    by_cases h : posF l n = i + 1
    · exact posF_at l n f (by rw [h]; exact hf)
    · have hlt := lt_of_get hf
      have h1 := ih _ (by omega) (List.getElem?_eq_getElem (show i < l.length by omega))
      have h2 := hl.2.2 i _ f (List.getElem?_eq_getElem (show i < l.length by omega)) hf
      omega
def foundF (l : List Fd) (n : Int) : Bool := match l[posF l n]? with | some f => decide (f.u = n) | none => false
def R_bs (ps : List PV) (r : RV) : Prop := ∃ (l : List Fd) (n : Int), ps = [fds l, pI n, .clo n_cipher_at_f1 []] ∧ (FOk l ∧ 10 ≤ n ∧ n ≤ 999) ∧ r = .tup [.pv (pI (posF l n)), .pv (pB (foundF l n))]
set_option maxHeartbeats 400000 in
theorem meets_bs : Meets (ctxOf [(n_cipher_at_f1, fnSpec R_atf)]) s_slices_BinarySearchFunc_depository_api_CipherField_depository_api_CipherField_int c_slices_BinarySearchFunc_depository_api_CipherField_depository_api_CipherField_int r_slices_BinarySearchFunc_depository_api_CipherField_depository_api_CipherField_int (mkR true R_bs) := by
  rintro _ K ⟨_, ⟨l, n, rfl, ⟨hl, hn1, hn2⟩, rfl⟩, hK⟩
  have h8 := hl.1
  have hp := posF_le l n
  (repeat' ((conv => whnf); first | (show _ ≤ (9223372036854775807 : Nat) → _; first | rw [List.length_map, tab_len] | rw [List.length_map] | rw [List.length_replicate] | skip; intro _) | fail)) <;> try (conv => whnf)
  refine ⟨fun m env σ => ∃ i j : Nat, (j - i = m ∧ i ≤ posF l n ∧ posF l n ≤ j ∧ j ≤ l.length) ∧ σ = [] ∧ env = [(0, .pv (fds l)), (1, .pv (pI n)), (2, .pv (.clo n_cipher_at_f1 [])), (8, .pv (pI l.length)), (9, .pv (pI i)), (10, .pv (pI j))], l.length, ⟨0, l.length, ⟨by omega, by omega, by omega, by omega⟩, rfl, rfl⟩, ?_⟩
  rintro m env σ ⟨i, j, ⟨hm, hi, hj, hjl⟩, rfl, rfl⟩
  by_cases hlt : i < j
  · obtain ⟨f, hf⟩ : ∃ f, l[(i + j) / 2]? = some f := ⟨_, List.getElem?_eq_getElem (by omega)⟩
    obtain ⟨b1, b2, _⟩ := hl.2.1 _ f hf
    have hf' : l[((i : Int) + j) / 2 |>.toNat]? = some f := by rw [show (((i : Int) + j) / 2).toNat = (i + j) / 2 by omega]; exact hf
    (repeat' ((conv => whnf); first | refine IDXhi (by omega) hf' ?_ | refine ⟨_, ⟨f, n, rfl, ⟨b1, b2, hn1, hn2⟩, rfl⟩, ?_⟩ | refine N64 (by omega) ?_ | refine CMP_t (by omega) ?_ | refine CMP (fun _ => ?_) (fun _ => ?_) | refine U64 (by omega) ?_ | refine SHR1 (by omega) ?_ | fail)) <;> try (conv => whnf)
    · have h1 : ¬ posF l n ≤ (i + j) / 2 := fun h => by have := posF_ge hl _ f h hf; omega
      refine ⟨j - ((i + j) / 2 + 1), by omega, (i + j) / 2 + 1, j, ⟨rfl, by omega, by omega, by omega⟩, rfl, ?_⟩
      rw [show (((i + j) / 2 + 1 : Nat) : Int) = ((i : Int) + j) / 2 + 1 by omega]
    · have h1 : ¬ (i + j) / 2 < posF l n := fun h => by have := posF_lt l n _ f h hf; omega
      refine ⟨(i + j) / 2 - i, by omega, i, (i + j) / 2, ⟨rfl, by omega, by omega, by omega⟩, rfl, ?_⟩
      rw [show (((i + j) / 2 : Nat) : Int) = ((i : Int) + j) / 2 by omega]
  · obtain rfl : i = posF l n := by omega
    by_cases h : posF l n < l.length
    · obtain ⟨f, hf⟩ : ∃ f, l[posF l n]? = some f := ⟨_, List.getElem?_eq_getElem h⟩
      obtain ⟨b1, b2, _⟩ := hl.2.1 _ f hf
      have e : foundF l n = decide (f.u = n) := by unfold foundF; rw [hf]
      rw [e] at hK
      by_cases hu : f.u = n
      · rw [decide_eq_true hu] at hK
        (repeat' ((conv => whnf); first | refine IDXh hf ?_ | refine ⟨_, ⟨f, n, rfl, ⟨b1, b2, hn1, hn2⟩, rfl⟩, ?_⟩ | refine CMP_t (by omega) ?_ | refine CMP_f (by omega) ?_ | fail)) <;> try (conv => whnf)
        exact ⟨[.pv (pI _), .pv (pB true)], ⟨rfl, rfl, trivial⟩, ⟨trivial, trivial, trivial⟩, hK⟩
      · rw [decide_eq_false hu] at hK
        (repeat' ((conv => whnf); first | refine IDXh hf ?_ | refine ⟨_, ⟨f, n, rfl, ⟨b1, b2, hn1, hn2⟩, rfl⟩, ?_⟩ | refine CMP_t (by omega) ?_ | refine CMP_f (by omega) ?_ | fail)) <;> try (conv => whnf)
        exact ⟨[.pv (pI _), .pv (pB false)], ⟨rfl, rfl, trivial⟩, ⟨trivial, trivial, trivial⟩, hK⟩
    · have e : foundF l n = false := by unfold foundF; rw [List.getElem?_eq_none (by omega)]
      rw [e] at hK
      (repeat' ((conv => whnf); first | refine CMP_f (by omega) ?_ | fail)) <;> try (conv => whnf)
      exact ⟨[.pv (pI _), .pv (pB false)], ⟨rfl, rfl, trivial⟩, ⟨trivial, trivial, trivial⟩, hK⟩
def R_at (ps : List PV) (r : RV) : Prop := ∃ (l : List Fd) (n : Int), ps = [fds l, pI n] ∧ (FOk l ∧ 10 ≤ n ∧ n ≤ 999) ∧ r = .tup [.pv (pI (posF l n)), .pv (pB (foundF l n))]
theorem meets_at : Meets (ctxOf [(n_slices_BinarySearchFunc_depository_api_CipherField_depository_api_CipherField_int, mkR true R_bs)]) s_cipher_at c_cipher_at r_cipher_at (mkR true R_at) := by
  rintro _ K ⟨_, ⟨l, n, rfl, h, rfl⟩, hK⟩
  (repeat' ((conv => whnf); first | refine ⟨_, ⟨l, n, rfl, h, rfl⟩, ?_⟩ | fail)) <;> try (conv => whnf)
  exact ⟨[.pv (pI _), .pv (pB _)], ⟨rfl, rfl, trivial⟩, ⟨trivial, trivial, trivial⟩, hK⟩
/-- The key for a holder whose field has it wrapped. -/
def R_keyFor (ps : List PV) (r : RV) : Prop := ∃ (l : List Fd) (h : Hd) (key : List UInt8), ps = [fds l, h.pv] ∧ (FOk l ∧ h.ok ∧ key.length = 8 ∧ l[posF l h.u]? = some ⟨h.u, wrapL h key⟩) ∧ r = .tup [.pv (.str key), .pv (pI 0)]
theorem meets_keyFor : Meets (ctxOf [(n_cipher_at, mkR true R_at), (n_cipher_unwrap, S_unwrap)]) s_cipher_keyFor c_cipher_keyFor r_cipher_keyFor (mkR true R_keyFor) := by
  rintro _ K ⟨_, ⟨l, ⟨u, k⟩, key, rfl, ⟨hl, hh, hk, hg⟩, rfl⟩, hK⟩
  have h8 := hl.1
  obtain ⟨g1, g2, g3⟩ := hh
  simp only at g1 g2 g3 hg
  have e : foundF l u = true := by unfold foundF; rw [hg]; simp
  (repeat' ((conv => whnf); first | refine ⟨_, ⟨l, u, rfl, ⟨hl, g1, g2⟩, rfl⟩, ?_⟩ | refine CMP_f (show ¬(foundF l u = false) by rw [e]; decide) ?_ | refine IDXh hg ?_ | refine ⟨_, ⟨⟨u, k⟩, key, rfl, ⟨⟨g1, g2, g3⟩, hk⟩, rfl⟩, ?_⟩ | refine And.intro rfl ?_ | fail)) <;> try (conv => whnf)
  exact ⟨[.pv (.str key), .pv (pI 0)], ⟨rfl, rfl, trivial⟩, ⟨trivial, trivial, trivial⟩, hK⟩
end Go.Dv.Try
end
section
/-
  Chapter 7 on the top seat: fields added; files.
-/
namespace Go.Dv.Try
open Go Go.Dv

theorem flat_fds (l : List Fd) : ∀ x ∈ l.map Fd.pv, x.flat := by
  intro x hx
  obtain ⟨f, _, rfl⟩ := List.mem_map.1 hx
  intro c hc
  simp at hc
  rcases hc with rfl | rfl <;> trivial
def R_copyF (ps : List PV) (r : RV) : Prop := ∃ l : List Fd, ps = [fds l] ∧ l.length ≤ 8 ∧ r = .fresh T_api_CipherField 2 (l.map Fd.pv)
theorem meets_CopyFields : Meets (ctxOf []) s_ref07_CopyFields c_ref07_CopyFields r_ref07_CopyFields (mkR true R_copyF) := by
  rintro _ K ⟨_, ⟨l, rfl, hl, rfl⟩, hK⟩
  (repeat' ((conv => whnf); first | refine And.intro (by rw [List.length_map]; simp; omega) ?_ | refine And.intro rfl ?_ | fail)) <;> try (conv => whnf)
  exact ⟨.fresh 41 2 _, ⟨rfl, rfl, rfl, rfl⟩, flat_fds l, hK⟩
theorem meets_Clone : Meets (ctxOf []) s_slices_Clone_depository_api_CipherField_depository_api_CipherField c_slices_Clone_depository_api_CipherField_depository_api_CipherField r_slices_Clone_depository_api_CipherField_depository_api_CipherField (mkR true R_copyF) := by
  rintro _ K ⟨_, ⟨l, rfl, hl, rfl⟩, hK⟩
  (conv => whnf)
  refine fun r hr => ?_
  cases r with
  | true =>
    obtain rfl : l = [] := by
      cases l with
      | nil => rfl
      | cons f l => exact absurd (hr (by simp)) (by decide)
    (conv => whnf)
    exact ⟨.fresh 41 2 _, ⟨rfl, rfl, rfl, rfl⟩, flat_fds [], hK⟩
  | false =>
    (repeat' ((conv => whnf); first | refine And.intro (by rw [List.length_map]; simp; omega) ?_ | refine And.intro rfl ?_ | fail)) <;> try (conv => whnf)
    exact ⟨.fresh 41 2 _, ⟨rfl, rfl, rfl, rfl⟩, flat_fds l, hK⟩
def M_Insert (xs : List AV) (σ : Sto) (K : AV → Sto → Prop) : Prop := ∃ (l : List Fd) (f : Fd), xs = [.own 0, .pv (pI l.length), .own 1] ∧ l.length ≤ 8 ∧ σ = [.row T_api_CipherField 2 true (l.map Fd.pv), .row T_api_CipherField 2 true [f.pv]] ∧
  K (.own 2) [.dead, .row T_api_CipherField 2 true [f.pv], .row T_api_CipherField 2 true ((l ++ [f]).map Fd.pv)]
theorem meets_Insert : MeetsM (ctxOf []) s_slices_Insert_depository_api_CipherField_depository_api_CipherField c_slices_Insert_depository_api_CipherField_depository_api_CipherField r_slices_Insert_depository_api_CipherField_depository_api_CipherField (mkM M_Insert) := by
  rintro _ _ K ⟨l, f, rfl, hl, rfl, hK⟩
  (repeat' ((conv => whnf); first | refine Or.inr ⟨⟨by omega, by rw [List.length_map]; exact Int.le_refl _⟩, ?_⟩ | refine CMP_f (show ¬((([f.pv].length : Nat) : Int) = 0) by simp) ?_ | refine And.intro (by rw [List.length_map]; simp; omega) ?_ | refine CMP_t (by omega) ?_ | (show _ ≤ (9223372036854775807 : Nat) → _; first | rw [List.length_map, tab_len] | rw [List.length_map] | rw [List.length_replicate] | skip; intro _) | fail)) <;> try (conv => whnf)
  rw [List.map_append] at hK
  exact hK

/-- A field more, behind the others. -/
def R_Added (ps : List PV) (r : RV) : Prop := ∃ (l : List Fd) (h o : Hd) (key : List UInt8), ps = [fds l, h.pv, o.pv] ∧
  (FOk l ∧ h.ok ∧ o.ok ∧ key.length = 8 ∧ l[posF l h.u]? = some ⟨h.u, wrapL h key⟩ ∧ l.length < 8 ∧ posF l o.u = l.length) ∧ r = .tup [.fresh T_api_CipherField 2 ((l ++ [(⟨o.u, wrapL o key⟩ : Fd)]).map Fd.pv), .pv (pI 0)]
theorem meets_Added : Meets (ctxOf [(n_cipher_fieldsErr, fnSpec R_fieldsErr), (n_cipher_holderErr, fnSpec R_holdErr), (n_cipher_first, fnSpec R_compress_first), (n_cipher_keyFor, mkR true R_keyFor), (n_cipher_at, mkR true R_at), (n_cipher_unless, fnSpec R_compress_unless),
    (n_slices_Clone_depository_api_CipherField_depository_api_CipherField, mkR true R_copyF), (n_cipher_wrap, fnSpec R_wrap), (n_slices_Insert_depository_api_CipherField_depository_api_CipherField, mkM M_Insert)]) s_cipher_Added c_cipher_Added r_cipher_Added (mkR true R_Added) := by
  rintro _ K ⟨_, ⟨l, ⟨u, k⟩, ⟨v, j⟩, key, rfl, ⟨hl, hh, ho, hk, hg, h7, hp⟩, rfl⟩, hK⟩
  have h8 := hl.1
  have e : foundF l v = false := by unfold foundF; simp only at hp; rw [hp, List.getElem?_eq_none (Nat.le_refl _)]
  have hh' := hh
  have ho' := ho
  obtain ⟨g1, g2, g3⟩ := hh
  obtain ⟨o1, o2, o3⟩ := ho
  simp only at g1 g2 g3 hg o1 o2 o3 hp
  (repeat' ((conv => whnf); first | refine ⟨_, ⟨l, rfl, hl, rfl⟩, ?_⟩ | refine ⟨_, ⟨⟨u, k⟩, rfl, hh', rfl⟩, ?_⟩ | refine ⟨_, ⟨⟨v, j⟩, rfl, ho', rfl⟩, ?_⟩ | refine CMP_f (show ¬(firstZ [(0 : Int), 0, 0] ≠ 0) by decide) ?_ | refine ⟨_, ⟨l, ⟨u, k⟩, key, rfl, ⟨hl, hh', hk, hg⟩, rfl⟩, ?_⟩ | refine ⟨_, ⟨l, v, rfl, ⟨hl, o1, o2⟩, rfl⟩, ?_⟩ | refine ⟨_, ⟨l, rfl, by omega, rfl⟩, ?_⟩ | refine ⟨_, ⟨⟨v, j⟩, key, rfl, ⟨ho', hk⟩, rfl⟩, ?_⟩ | refine ⟨l, ⟨v, wrapL ⟨v, j⟩ key⟩, by rw [hp], by omega, rfl, ?_⟩ | ((fail_if_success (refine ⟨(?_ : Nat), (?_ : _ < _), ?_⟩)); (fail_if_success (refine ⟨(?_ : RV), ?_⟩)); (fail_if_success (refine ⟨(?_ : List RV), ?_⟩)); first | refine CMP_t (by omega) ?_ | (show _ ≤ (9223372036854775807 : Nat) → _; first | rw [List.length_map, tab_len] | rw [List.length_map] | rw [List.length_replicate] | skip; intro _) | refine And.intro rfl ?_ | refine ⟨_, ⟨_, _, rfl, rfl⟩, ?_⟩ | refine ⟨_, ⟨[_, _, _], rfl, rfl⟩, ?_⟩ | fail))) <;> try (conv => whnf)
  exact ⟨[.fresh 41 2 _, .pv (pI 0)], ⟨⟨rfl, rfl, rfl, rfl⟩, rfl, trivial⟩, ⟨flat_fds _, trivial, trivial⟩, hK⟩

structure Fl where
  l : List Fd
  n : Int
  s : List UInt8
def Fl.pv (f : Fl) : PV := .agg [fds f.l, pI f.n, .str f.s]
def Fl.ok (f : Fl) : Prop := FOk f.l ∧ (0 ≤ f.n ∧ f.n ≤ 65535) ∧ f.s.length ≤ 8192
def R_fileErr (ps : List PV) (x : PV) : Prop := ∃ f : Fl, ps = [f.pv] ∧ f.ok ∧ x = pI 0
theorem meets_fileErr : Meets (ctxOf [(n_cipher_fieldsErr, fnSpec R_fieldsErr), (n_cipher_isWord, fnSpec R_word07), (n_cipher_unless, fnSpec R_compress_unless), (n_cipher_first, fnSpec R_compress_first)]) s_cipher_fileErr c_cipher_fileErr r_cipher_fileErr (fnSpec R_fileErr) := by
  rintro _ K ⟨_, ⟨⟨l, n, s⟩, rfl, ⟨h1, h2, h3⟩, rfl⟩, hK⟩
  simp only at h1 h2 h3
  have e : firstZ [0, unlessZ (decide (0 ≤ n ∧ n ≤ 65535)) 2, unlessZ true 8] = 0 := by rw [decide_eq_true h2]; rfl
  have h4 : ((s.length : Nat) : Int) ≤ 8192 := by omega
  (repeat' ((conv => whnf); first | refine ⟨_, ⟨l, rfl, h1, rfl⟩, ?_⟩ | refine CMP_t h4 ?_ | ((fail_if_success (refine ⟨(?_ : Nat), (?_ : _ < _), ?_⟩)); (fail_if_success (refine ⟨(?_ : RV), ?_⟩)); (fail_if_success (refine ⟨(?_ : List RV), ?_⟩)); first | refine And.intro rfl ?_ | refine ⟨_, ⟨_, rfl, rfl⟩, ?_⟩ | refine ⟨_, ⟨_, _, rfl, rfl⟩, ?_⟩ | refine ⟨_, ⟨[_, _, _], rfl, rfl⟩, ?_⟩ | fail))) <;> try (conv => whnf)
  exact ⟨.pv (pI 0), pI_eq e.symm, trivial, hK⟩
/-- Copied: fields of their own. -/
def R_Copy (ps : List PV) (r : RV) : Prop := ∃ f : Fl, ps = [f.pv] ∧ f.l.length ≤ 8 ∧ r = .agg [.fresh T_api_CipherField 2 (f.l.map Fd.pv), .pv (pI f.n), .pv (.str f.s)]
theorem meets_Copy : Meets (ctxOf [(n_ref07_CopyFields, mkR true R_copyF)]) s_ref07_Copy c_ref07_Copy r_ref07_Copy (mkR false R_Copy) := by
  rintro _ K ⟨_, ⟨⟨l, n, s⟩, rfl, hl, rfl⟩, hK⟩
  (repeat' ((conv => whnf); first | refine ⟨_, ⟨l, rfl, hl, rfl⟩, ?_⟩ | refine And.intro rfl ?_ | fail)) <;> try (conv => whnf)
  exact ⟨.agg [.fresh 41 2 _, .pv _, .pv _], ⟨⟨rfl, rfl, rfl, rfl⟩, rfl, rfl, trivial⟩, trivial, hK⟩
end Go.Dv.Try
end
