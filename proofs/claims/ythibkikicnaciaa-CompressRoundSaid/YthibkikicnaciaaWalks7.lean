/-
  A part of the proof: own texts, laid together by a tool of our own: G06h G06i G06j G06k.
-/
import Derived.Test.YthibkikicnaciaaWalks6
section
/-
  Contracts of chapter 6: zeros and clusters.
-/
namespace Go.Dv.Try
open Go Go.Dv

def zerosL (n : Nat) : List UInt8 := List.replicate n 0

def R_IsZeros (ps : List PV) (x : PV) : Prop := ∃ s : List UInt8, ps = [.str s] ∧ s.length ≤ 1000000 ∧ x = pB (decide (s = zerosL s.length))
theorem meets_IsZeros : Meets (ctxOf []) s_base_IsZeros c_base_IsZeros r_base_IsZeros (fnSpec R_IsZeros) := by
  rintro _ K ⟨_, ⟨s, rfl, hs, rfl⟩, hK⟩
  refine ⟨fun m env σ => ∃ n : Nat, (n + m = s.length ∧ ∀ j, j < n → s[j]? = some 0) ∧ σ = [] ∧ env = [(0, .pv (.str s)), (3, .pv (pI n))], s.length, ⟨0, ⟨by omega, fun j hj => by omega⟩, rfl, rfl⟩, ?_⟩
  rintro m env σ ⟨n, ⟨hn, h0⟩, rfl, rfl⟩
  refine fun b hb => ?_
  rcases cmp hb with ⟨rfl, h⟩ | ⟨rfl, h⟩
  · obtain ⟨v, hv⟩ : ∃ v, s[n]? = some v := by rw [List.getElem?_eq_getElem (by omega)]; exact ⟨_, rfl⟩
    refine ⟨_, ⟨by omega, by rw [Int.toNat_natCast]; exact hv⟩, ?_⟩
    refine fun b hb => ?_
    rcases cmp hb with ⟨rfl, h2⟩ | ⟨rfl, h2⟩
    · refine ⟨.pv (pB _), pB_eq ?_, trivial, hK⟩
      have hne : ¬ s = zerosL s.length := fun e => ?_
      · simp [hne]
      rw [e] at hv
      unfold zerosL at hv
      rw [List.getElem?_replicate] at hv
      split at hv
      · injection hv with hv; subst hv; exact h2 rfl
      · cases hv
    · have hv0 : v = 0 := by
        have : (v.toNat : Int) = 0 := Decidable.of_not_not h2
        apply UInt8.toNat_inj.1
        have e : (0 : UInt8).toNat = 0 := rfl
        omega
      refine fun x hx => ?_
      have hx := n64 hx (by omega)
      rw [hx]
      refine ⟨m - 1, by omega, n + 1, ⟨by omega, fun j hj => ?_⟩, rfl, rfl⟩
      by_cases hjn : j < n
      · exact h0 j hjn
      · have : j = n := by omega
        subst this
        rw [hv, hv0]
  · refine ⟨.pv (pB _), pB_eq ?_, trivial, hK⟩
    have heq : s = zerosL s.length := ?_
    · simp [← heq]
    apply List.ext_getElem?
    intro i
    unfold zerosL
    rw [List.getElem?_replicate]
    split
    · exact h0 i (by omega)
    · exact List.getElem?_eq_none (by omega)

theorem repN_zeros : ∀ n, repN [0] n = zerosL n := by
  intro n
  induction n with
  | zero => rfl
  | succ n ih => show [0] ++ repN [0] n = _; rw [ih]; rfl

def R_Zeros (ps : List PV) (x : PV) : Prop := ∃ n : Int, ps = [pI n] ∧ (0 ≤ n ∧ n ≤ 200000) ∧ x = .str (zerosL n.toNat)
theorem meets_Zeros : Meets (ctxOf []) s_base_Zeros c_base_Zeros r_base_Zeros (fnSpec R_Zeros) := by
  rintro _ K ⟨_, ⟨n, rfl, h, rfl⟩, hK⟩
  refine fun x hx => ?_
  refine fun y hy => ?_
  have hy : y = n := by omega
  rw [hy]
  refine ⟨by omega, ?_⟩
  refine ⟨zerosL n.toNat, ?_, ?_⟩
  · unfold zerosL; rw [List.map_replicate]; rfl
  exact ⟨.pv (.str _), rfl, trivial, hK⟩

def R_zeros (ps : List PV) (x : PV) : Prop := ∃ n : Int, ps = [pI n] ∧ (0 ≤ n ∧ n ≤ 200000) ∧ x = .str (zerosL n.toNat)
theorem meets_zeros : Meets (ctxOf [(n_strings_Repeat, fnSpec R_Repeat)]) s_compress_zeros c_compress_zeros r_compress_zeros (fnSpec R_zeros) := by
  rintro _ K ⟨_, ⟨n, rfl, h, rfl⟩, hK⟩
  refine ⟨_, ⟨[0], n, rfl, by simp; omega, rfl⟩, ?_⟩
  refine ⟨.pv (.str _), ?_, trivial, hK⟩
  show PV.str (zerosL n.toNat) = PV.str (repN [0] n.toNat)
  rw [repN_zeros]

def R_clusters (ps : List PV) (x : PV) : Prop := ∃ n : Int, ps = [pI n] ∧ (0 ≤ n ∧ n ≤ 1000000) ∧ x = pI ((n + 255) / 256)
theorem meets_clusters : Meets (ctxOf []) s_compress_clusters c_compress_clusters r_compress_clusters (fnSpec R_clusters) := by
  rintro _ K ⟨_, ⟨n, rfl, h, rfl⟩, hK⟩
  refine fun x hx => ?_
  have hx := n64 hx (by omega)
  rw [hx]
  refine fun x hx => ?_
  have hx := n64 hx (by omega)
  rw [hx]
  refine ⟨by decide, ?_⟩
  refine fun x hx => ?_
  rw [Int.tdiv_eq_ediv_of_nonneg (by omega)] at hx
  have hx := n64 hx (by omega)
  rw [hx]
  refine ⟨.pv (pI _), pI_eq ?_, trivial, hK⟩
  omega
end Go.Dv.Try
end
section
/-
  Contracts of chapter 6: units packed.
-/
namespace Go.Dv.Try
open Go Go.Dv

theorem zerosL_len (n : Nat) : (zerosL n).length = n := by simp [zerosL]

/-- Up to whole clusters. -/
def padN (s : List UInt8) : List UInt8 := s ++ zerosL ((-(s.length : Int)) % 256).toNat
theorem padN_len (s : List UInt8) : (padN s).length = (s.length + 255) / 256 * 256 := by
  unfold padN
  rw [List.length_append, zerosL_len]; omega

def R_Clusters (ps : List PV) (x : PV) : Prop := ∃ s : List UInt8, ps = [.str s] ∧ s.length ≤ 100000 ∧ x = .str (padN s)
theorem meets_refClusters : Meets (ctxOf [(n_base_Mod, fnSpec R_base_Mod), (n_base_Zeros, fnSpec R_Zeros)]) s_ref06_Clusters c_ref06_Clusters r_ref06_Clusters (fnSpec R_Clusters) := by
  rintro _ K ⟨_, ⟨s, rfl, hs, rfl⟩, hK⟩
  refine fun x hx => ?_
  have hx := n64 hx (by omega)
  rw [hx]
  refine ⟨_, ⟨_, _, rfl, by omega, rfl⟩, ?_⟩
  refine ⟨_, ⟨_, rfl, by omega, rfl⟩, ?_⟩
  refine ⟨by rw [zerosL_len]; omega, ?_⟩
  unfold padN at hK
  rw [show -(s.length : Int) = 0 - s.length by omega] at hK
  exact ⟨.pv (.str _), rfl, trivial, hK⟩

/-- A unit packed. -/
def packN (u : List UInt8) : List UInt8 :=
  if u = zerosL u.length then []
  else if (bodyN (optN u)).length ≤ 4096 ∧ ((bodyN (optN u)).length + 2 + 255) / 256 * 256 < 4096 then padN (headN (bodyN (optN u)).length true ++ bodyN (optN u)) else u

def S_refPack : Spec := mkS true false fun ps K => ∃ u : List UInt8, ps = [.str u] ∧ u.length = 4096 ∧ K (.pv (.str (packN u)))
theorem meets_refPack : Meets (ctxOf [(n_base_IsZeros, fnSpec R_IsZeros), (n_ref06_Optimal, S_optimal), (n_ref06_Body, S_refBody), (n_ref06_Clusters, fnSpec R_Clusters), (n_ref06_Head, fnSpec R_Head)]) s_ref06_Pack c_ref06_Pack r_ref06_Pack S_refPack := by
  rintro _ K ⟨u, rfl, hu, hK⟩
  unfold packN at hK
  have hb := bodyRun_len (optN u).length (optN u) 0
  have hl := toksOk_len _ 0 (opt_toks u (by omega)) (opt_ne u (by omega))
  have hb0 := body_ne _ (opt_ne u (by omega))
  have e : bodyRun (optN u).length (optN u) 0 = bodyN (optN u) := rfl
  rw [e] at hb
  by_cases hz : u = zerosL u.length
  · refine ⟨pB true, ⟨u, rfl, by omega, pB_eq (by simp [← hz])⟩, ?_⟩
    rw [if_pos hz] at hK
    exact ⟨.pv (.str _), rfl, trivial, hK⟩
  · refine ⟨pB false, ⟨u, rfl, by omega, pB_eq (by simp [hz])⟩, ?_⟩
    rw [if_neg hz] at hK
    refine ⟨u, rfl, by omega, ?_⟩
    refine ⟨optN u, rfl, opt_toks u (by omega), ?_⟩
    generalize bodyN (optN u) = bd at *
    refine ⟨by simp only [List.length_cons, List.length_nil]; omega, ?_⟩
    refine ⟨_, ⟨_, rfl, by simp only [List.length_append, List.length_cons, List.length_nil]; omega, rfl⟩, ?_⟩
    refine fun b hb2 => ?_
    rcases cmp hb2 with ⟨rfl, h⟩ | ⟨rfl, h⟩
    · refine fun b hb3 => ?_
      rw [padN_len] at hb3
      simp only [List.length_append, List.length_cons, List.length_nil] at hb3
      rcases cmp hb3 with ⟨rfl, h2⟩ | ⟨rfl, h2⟩
      · rw [if_pos (by omega)] at hK
        refine ⟨_, ⟨_, true, rfl, by omega, rfl⟩, ?_⟩
        rw [Int.toNat_natCast]
        refine ⟨by rw [headN_len]; omega, ?_⟩
        refine ⟨_, ⟨_, rfl, by rw [List.length_append, headN_len]; omega, rfl⟩, ?_⟩
        exact ⟨.pv (.str _), rfl, trivial, hK⟩
      · rw [if_neg (by omega)] at hK
        exact ⟨.pv (.str _), rfl, trivial, hK⟩
    · rw [if_neg (by omega)] at hK
      exact ⟨.pv (.str _), rfl, trivial, hK⟩

def S_PackUnit : Spec := mkS true false fun ps K => ∃ u : List UInt8, ps = [.str u] ∧ u.length ≤ 100000 ∧ (u.length ≠ 4096 → K (.tup [.pv (.str []), .pv (pI 10)])) ∧ (u.length = 4096 → K (.tup [.pv (.str (packN u)), .pv (pI 0)]))
theorem meets_PackUnit : Meets (ctxOf [(n_compress_zeros, fnSpec R_zeros), (n_compress_data_optimal, S_optimal), (n_compress_chunk, S_chunk), (n_compress_clusters, fnSpec R_clusters)]) s_compress_PackUnit c_compress_PackUnit r_compress_PackUnit S_PackUnit := by
  rintro _ K ⟨u, rfl, hul, hK1, hK2⟩
  refine fun b hb => ?_
  rcases cmp hb with ⟨rfl, h⟩ | ⟨rfl, h⟩
  · exact ⟨[.pv (.str _), .pv _], ⟨rfl, rfl, trivial⟩, ⟨trivial, trivial, trivial⟩, hK1 (by omega)⟩
  have hu : u.length = 4096 := by omega
  have hK := hK2 hu
  clear hK1 hK2
  unfold packN at hK
  have hb := bodyRun_len (optN u).length (optN u) 0
  have hl := toksOk_len _ 0 (opt_toks u (by omega)) (opt_ne u (by omega))
  have hb0 := body_ne _ (opt_ne u (by omega))
  have e : bodyRun (optN u).length (optN u) 0 = bodyN (optN u) := rfl
  rw [e] at hb
  refine ⟨_, ⟨_, rfl, by omega, rfl⟩, ?_⟩
  rw [Int.toNat_natCast]
  refine fun b hb => ?_
  rcases cmp hb with ⟨rfl, hz⟩ | ⟨rfl, hz⟩
  · rw [if_pos hz] at hK
    exact ⟨[.pv (.str _), .pv _], ⟨rfl, rfl, trivial⟩, ⟨trivial, trivial, trivial⟩, hK⟩
  rw [if_neg hz] at hK
  refine ⟨u, rfl, by omega, ?_⟩
  refine ⟨optN u, rfl, ⟨opt_ne u (by omega), opt_toks u (by omega)⟩, fun h5 => ?_, fun h5 => ?_⟩
  · rw [if_neg (by omega)] at hK
    refine ⟨_, ⟨_, rfl, by simp, rfl⟩, ?_⟩
    refine fun x hx => ?_
    have hx := n64 hx (by simp)
    rw [hx]
    refine fun b hb => ?_
    rcases cmp hb with ⟨rfl, h⟩ | ⟨rfl, h⟩
    case inr => exact absurd (by decide) h
    exact ⟨[.pv (.str _), .pv _], ⟨rfl, rfl, trivial⟩, ⟨trivial, trivial, trivial⟩, hK⟩
  · generalize bodyN (optN u) = bd at *
    have hbl : (headN bd.length true ++ bd).length = bd.length + 2 := by rw [List.length_append, headN_len]; omega
    refine ⟨_, ⟨_, rfl, by rw [hbl]; omega, rfl⟩, ?_⟩
    rw [hbl]
    refine fun x hx => ?_
    have hx := n64 hx (by omega)
    rw [hx]
    refine fun b hb => ?_
    rcases cmp hb with ⟨rfl, h⟩ | ⟨rfl, h⟩
    case inl => exact absurd rfl h
    refine fun b hb => ?_
    rcases cmp hb with ⟨rfl, h⟩ | ⟨rfl, h⟩
    · rw [if_neg (by omega)] at hK
      exact ⟨[.pv (.str _), .pv _], ⟨rfl, rfl, trivial⟩, ⟨trivial, trivial, trivial⟩, hK⟩
    · rw [if_pos (by omega)] at hK
      refine fun x hx => ?_
      rw [hbl] at hx
      have hx := n64 hx (by omega)
      rw [hx]
      refine ⟨_, ⟨_, rfl, by omega, rfl⟩, ?_⟩
      refine ⟨by rw [hbl, zerosL_len]; omega, ?_⟩
      refine ⟨[.pv (.str _), .pv _], ⟨rfl, rfl, trivial⟩, ⟨trivial, trivial, trivial⟩, ?_⟩
      unfold padN at hK
      rw [hbl] at hK
      rw [show ((-((bd.length + 2 : Nat) : Int)) % 256).toNat = (((bd.length + 2 : Nat) + 255 : Int) / 256 * 256 - (bd.length + 2 : Nat)).toNat by omega] at hK
      exact hK
end Go.Dv.Try
end
section
/-
  Contracts of chapter 6: what is stored, unpacked.
-/
namespace Go.Dv.Try
open Go Go.Dv

/-- What is stored of a unit, unpacked, or the error. -/
def unpackN (s : List UInt8) : List UInt8 × Int :=
  if 4096 < s.length ∨ s.length % 256 ≠ 0 then ([], 10)
  else if s.length = 0 then (zerosL 4096, 0)
  else if s.length = 4096 then (s, 0)
  else if wordV s / 4096 % 8 ≠ 3 then ([], 3)
  else if wordV s < 32768 then ([], 15)
  else if s.length - 2 < wordV s % 4096 + 1 then ([], 10)
  else if (resN gRef ((s.drop 2).take (wordV s % 4096 + 1))).2 ≠ 0 then ([], (resN gRef ((s.drop 2).take (wordV s % 4096 + 1))).2)
  else if (expN (resN gRef ((s.drop 2).take (wordV s % 4096 + 1))).1).length ≠ 4096 then ([], 10)
  else if s.drop (2 + (wordV s % 4096 + 1)) ≠ zerosL (s.length - (2 + (wordV s % 4096 + 1))) ∨ 256 ≤ s.length - (2 + (wordV s % 4096 + 1)) then ([], 3)
  else (expN (resN gRef ((s.drop 2).take (wordV s % 4096 + 1))).1, 0)

def S_unpack : Spec := mkS true false fun ps K => ∃ s : List UInt8, ps = [.str s] ∧ s.length ≤ 5000 ∧ K (.tup [.pv (.str (unpackN s).1), .pv (pI (unpackN s).2)])
theorem exp_len {l : List Tok} (h : ToksOk l 0) : (expN l).length ≤ 4096 := by
  have h1 := expRun_len l [] 0 h
  have h2 := posT_le l 0 h (by omega)
  unfold expN
  simp at h1; omega

set_option maxHeartbeats 1000000 in
theorem meets_refUnpack : Meets (ctxOf [(n_base_Zeros, fnSpec R_Zeros), (n_ref06_Parts, S_Parts), (n_base_LittleAt, fnSpec R_LittleAt), (n_ref06_Tokens, S_tokens), (n_ref06_Expanded, S_expanded), (n_base_IsZeros, fnSpec R_IsZeros)]) s_ref06_Unpack c_ref06_Unpack r_ref06_Unpack S_unpack := by
  rintro _ K ⟨s, rfl, hs, hK⟩
  have hw := wordV_lt s
  unfold unpackN at hK
  refine fun b hb => ?_
  rcases cmp hb with ⟨rfl, h1⟩ | ⟨rfl, h1⟩
  · rw [if_pos (.inl (by omega))] at hK
    exact ⟨[.pv (.str _), .pv _], ⟨rfl, rfl, trivial⟩, ⟨trivial, trivial, trivial⟩, hK⟩
  refine ⟨by decide, ?_⟩
  refine fun x hx => ?_
  rw [Int.tmod_eq_emod_of_nonneg (by omega)] at hx
  rw [hx]
  refine fun b hb => ?_
  rcases cmp hb with ⟨rfl, h2⟩ | ⟨rfl, h2⟩
  · rw [if_pos (.inr (by omega))] at hK
    exact ⟨[.pv (.str _), .pv _], ⟨rfl, rfl, trivial⟩, ⟨trivial, trivial, trivial⟩, hK⟩
  rw [if_neg (by rintro (h | h); omega; omega)] at hK
  refine fun b hb => ?_
  rcases cmp hb with ⟨rfl, h3⟩ | ⟨rfl, h3⟩
  · rw [if_pos (by omega)] at hK
    refine ⟨_, ⟨4096, rfl, by omega, rfl⟩, ?_⟩
    exact ⟨[.pv (.str _), .pv _], ⟨rfl, rfl, trivial⟩, ⟨trivial, trivial, trivial⟩, hK⟩
  rw [if_neg (by omega)] at hK
  refine fun b hb => ?_
  rcases cmp hb with ⟨rfl, h4⟩ | ⟨rfl, h4⟩
  · rw [if_pos (by omega)] at hK
    exact ⟨[.pv (.str _), .pv _], ⟨rfl, rfl, trivial⟩, ⟨trivial, trivial, trivial⟩, hK⟩
  rw [if_neg (by omega)] at hK
  refine ⟨s, rfl, hs, fun h => by omega, fun hl2 => ⟨fun h5 => ?_, fun h5 => ?_⟩⟩
  · rw [if_pos h5] at hK
    refine fun b hb => ?_
    rcases cmp hb with ⟨rfl, h⟩ | ⟨rfl, h⟩
    · exact ⟨[.pv (.str _), .pv _], ⟨rfl, rfl, trivial⟩, ⟨trivial, trivial, trivial⟩, hK⟩
    · exact absurd (by decide) h
  rw [if_neg (by omega)] at hK
  refine fun b hb => ?_
  rcases cmp hb with ⟨rfl, h⟩ | ⟨rfl, h⟩
  · exact absurd rfl h
  by_cases hp : 32768 ≤ wordV s
  case neg =>
    rw [decide_eq_false hp]
    rw [if_pos (by omega)] at hK
    refine NOT_f ?_
    exact ⟨[.pv (.str _), .pv _], ⟨rfl, rfl, trivial⟩, ⟨trivial, trivial, trivial⟩, hK⟩
  rw [decide_eq_true hp]
  rw [if_neg (by omega)] at hK
  refine NOT_t ?_
  refine ⟨_, ⟨s, 0, 2, rfl, by omega, rfl⟩, ?_⟩
  rw [show leN (Int.toNat 2) (s.drop (Int.toNat 0)) = wordV s from leN_two s]
  refine ⟨by decide, ?_⟩
  refine fun y hy => ?_
  rw [Int.tmod_eq_emod_of_nonneg (by omega)] at hy
  rw [hy]
  refine fun y hy => ?_
  have hy := n64 hy (by omega)
  have hy : y = ((wordV s % 4096 + 1 : Nat) : Int) := by omega
  subst hy
  generalize hcn : wordV s % 4096 + 1 = c at *
  refine fun b hb => ?_
  rw [List.length_drop] at hb
  rcases cmp hb with ⟨rfl, h6⟩ | ⟨rfl, h6⟩
  · rw [if_pos (by omega)] at hK
    exact ⟨[.pv (.str _), .pv _], ⟨rfl, rfl, trivial⟩, ⟨trivial, trivial, trivial⟩, hK⟩
  rw [if_neg (by omega)] at hK
  have hdl : (s.drop 2).length = s.length - 2 := List.length_drop
  have ecut : cut 0 ((c : Nat) : Int).toNat (s.drop 2) = (s.drop 2).take c := by rw [Int.toNat_natCast, cut_take]
  refine ⟨⟨by omega, by rw [hdl]; omega⟩, ?_⟩
  refine ⟨_, rfl, by rw [ecut, List.length_take]; omega, ?_⟩
  rw [ecut]
  refine fun b hb => ?_
  rcases cmp hb with ⟨rfl, h7⟩ | ⟨rfl, h7⟩
  · rw [if_pos h7] at hK
    exact ⟨[.pv (.str _), .pv _], ⟨rfl, rfl, trivial⟩, ⟨trivial, trivial, trivial⟩, hK⟩
  rw [if_neg h7] at hK
  have hok := resN_ok (Decidable.of_not_not h7)
  have hel := exp_len hok
  refine ⟨_, rfl, hok, ?_⟩
  generalize expN (resN gRef ((s.drop 2).take c)).1 = ex at *
  refine fun b hb => ?_
  rcases cmp hb with ⟨rfl, h8⟩ | ⟨rfl, h8⟩
  · rw [if_pos (by omega)] at hK
    exact ⟨[.pv (.str _), .pv _], ⟨rfl, rfl, trivial⟩, ⟨trivial, trivial, trivial⟩, hK⟩
  rw [if_neg (by omega)] at hK
  have ecut2 : cut ((c : Nat) : Int).toNat (s.drop 2).length (s.drop 2) = s.drop (2 + c) := by rw [Int.toNat_natCast, cut_drop, List.drop_drop]
  have hdl2 : (s.drop (2 + c)).length = s.length - (2 + c) := List.length_drop
  refine ⟨by omega, ?_⟩
  by_cases hz : s.drop (2 + c) = zerosL (s.length - (2 + c))
  · refine ⟨pB true, ⟨_, rfl, by rw [ecut2, hdl2]; omega, ?_⟩, ?_⟩
    · rw [ecut2, hdl2, decide_eq_true hz]
    refine NOT_t ?_
    refine fun y hy => ?_
    rw [hdl] at hy
    have hy := n64 hy (by omega)
    rw [hy]
    refine fun b hb => ?_
    rcases cmp hb with ⟨rfl, h9⟩ | ⟨rfl, h9⟩
    · rw [if_pos (.inr (by omega))] at hK
      exact ⟨[.pv (.str _), .pv _], ⟨rfl, rfl, trivial⟩, ⟨trivial, trivial, trivial⟩, hK⟩
    · rw [if_neg (by rintro (h | h); exact h hz; omega)] at hK
      exact ⟨[.pv (.str _), .pv _], ⟨rfl, rfl, trivial⟩, ⟨trivial, trivial, trivial⟩, hK⟩
  · refine ⟨pB false, ⟨_, rfl, by rw [ecut2, hdl2]; omega, ?_⟩, ?_⟩
    · rw [ecut2, hdl2, decide_eq_false hz]
    refine NOT_f ?_
    rw [if_pos (.inl hz)] at hK
    exact ⟨[.pv (.str _), .pv _], ⟨rfl, rfl, trivial⟩, ⟨trivial, trivial, trivial⟩, hK⟩

set_option maxHeartbeats 1000000 in
theorem meets_UnpackUnit : Meets (ctxOf [(n_compress_zeros, fnSpec R_zeros), (n_compress_opened, S_opened), (n_compress_unless, fnSpec R_compress_unless), (n_compress_first, fnSpec R_compress_first), (n_compress_tokens, S_tokensP), (n_compress_expanded, S_expanded), (n_compress_clusters, fnSpec R_clusters)]) s_compress_UnpackUnit c_compress_UnpackUnit r_compress_UnpackUnit S_unpack := by
  rintro _ K ⟨s, rfl, hs, hK⟩
  have hw := wordV_lt s
  unfold unpackN at hK
  refine fun b hb => ?_
  rcases cmp hb with ⟨rfl, h1⟩ | ⟨rfl, h1⟩
  · rw [if_pos (.inl (by omega))] at hK
    exact ⟨[.pv (.str _), .pv _], ⟨rfl, rfl, trivial⟩, ⟨trivial, trivial, trivial⟩, hK⟩
  refine ⟨by decide, ?_⟩
  refine fun x hx => ?_
  rw [Int.tmod_eq_emod_of_nonneg (by omega)] at hx
  rw [hx]
  refine fun b hb => ?_
  rcases cmp hb with ⟨rfl, h2⟩ | ⟨rfl, h2⟩
  · rw [if_pos (.inr (by omega))] at hK
    exact ⟨[.pv (.str _), .pv _], ⟨rfl, rfl, trivial⟩, ⟨trivial, trivial, trivial⟩, hK⟩
  rw [if_neg (by rintro (h | h); omega; omega)] at hK
  refine fun b hb => ?_
  rcases cmp hb with ⟨rfl, h3⟩ | ⟨rfl, h3⟩
  · rw [if_pos (by omega)] at hK
    refine ⟨_, ⟨4096, rfl, by omega, rfl⟩, ?_⟩
    exact ⟨[.pv (.str _), .pv _], ⟨rfl, rfl, trivial⟩, ⟨trivial, trivial, trivial⟩, hK⟩
  rw [if_neg (by omega)] at hK
  refine fun b hb => ?_
  rcases cmp hb with ⟨rfl, h4⟩ | ⟨rfl, h4⟩
  · rw [if_pos (by omega)] at hK
    exact ⟨[.pv (.str _), .pv _], ⟨rfl, rfl, trivial⟩, ⟨trivial, trivial, trivial⟩, hK⟩
  rw [if_neg (by omega)] at hK
  refine ⟨s, false, rfl, hs, fun h => by omega, fun hl2 => ⟨fun h5 => ?_, fun h5 => ⟨fun h6 => ?_, fun h6 => ?_⟩⟩⟩
  · rw [if_pos h5] at hK
    refine fun b hb => ?_
    rcases cmp hb with ⟨rfl, h⟩ | ⟨rfl, h⟩
    · exact absurd h (by decide)
    refine fun b hb => ?_
    rcases cmp hb with ⟨rfl, h⟩ | ⟨rfl, h⟩
    · exact absurd h (by decide)
    refine fun b hb => ?_
    rcases cmp hb with ⟨rfl, h⟩ | ⟨rfl, h⟩
    · exact ⟨[.pv (.str _), .pv _], ⟨rfl, rfl, trivial⟩, ⟨trivial, trivial, trivial⟩, hK⟩
    · exact absurd (by decide) h
  · have h6 : s.length - 2 < wordV s % 4096 + 1 := by
      rcases h6 with h6 | ⟨h6, _⟩
      · exact h6
      · cases h6
    rw [if_neg (by omega)] at hK
    refine fun b hb => ?_
    rcases cmp hb with ⟨rfl, h⟩ | ⟨rfl, h⟩
    · exact absurd h (by decide)
    refine fun b hb => ?_
    rcases cmp hb with ⟨rfl, h⟩ | ⟨rfl, h⟩
    case inr => exact absurd rfl h
    refine ⟨_, ⟨decide (32768 ≤ wordV s), 15, rfl, rfl⟩, ?_⟩
    refine ⟨rfl, ?_⟩
    refine ⟨_, ⟨[unlessZ (decide (32768 ≤ wordV s)) 15, 10], rfl, rfl⟩, ?_⟩
    refine fun b hb => ?_
    by_cases hp : 32768 ≤ wordV s
    · rw [decide_eq_true hp] at hb ⊢
      rw [if_neg (by omega), if_pos h6] at hK
      rcases cmp hb with ⟨rfl, h⟩ | ⟨rfl, h⟩
      · exact ⟨[.pv (.str _), .pv _], ⟨rfl, rfl, trivial⟩, ⟨trivial, trivial, trivial⟩, hK⟩
      · exact absurd (by decide) h
    · rw [decide_eq_false hp] at hb ⊢
      rw [if_pos (by omega)] at hK
      rcases cmp hb with ⟨rfl, h⟩ | ⟨rfl, h⟩
      · exact ⟨[.pv (.str _), .pv _], ⟨rfl, rfl, trivial⟩, ⟨trivial, trivial, trivial⟩, hK⟩
      · exact absurd (by decide) h
  · have h6 : ¬ s.length - 2 < wordV s % 4096 + 1 := fun h => h6 (.inl h)
    rw [if_neg (by omega)] at hK
    refine fun b hb => ?_
    rcases cmp hb with ⟨rfl, h⟩ | ⟨rfl, h⟩
    case inr => exact absurd rfl h
    refine ⟨_, ⟨decide (32768 ≤ wordV s), 15, rfl, rfl⟩, ?_⟩
    refine ⟨rfl, ?_⟩
    refine ⟨_, ⟨[unlessZ (decide (32768 ≤ wordV s)) 15, 0], rfl, rfl⟩, ?_⟩
    refine fun b hb => ?_
    by_cases hp : 32768 ≤ wordV s
    case neg =>
      rw [decide_eq_false hp] at hb ⊢
      rw [if_pos (by omega)] at hK
      rcases cmp hb with ⟨rfl, h⟩ | ⟨rfl, h⟩
      · exact ⟨[.pv (.str _), .pv _], ⟨rfl, rfl, trivial⟩, ⟨trivial, trivial, trivial⟩, hK⟩
      · exact absurd (by decide) h
    rw [decide_eq_true hp] at hb
    rw [if_neg (by omega), if_neg h6] at hK
    rcases cmp hb with ⟨rfl, h⟩ | ⟨rfl, h⟩
    · exact absurd rfl h
    generalize hcn : wordV s % 4096 + 1 = c at *
    have htl : ((s.drop 2).take c).length = c := by rw [List.length_take, List.length_drop]; omega
    refine ⟨_, rfl, by rw [htl]; omega, ?_⟩
    rw [← resN_same gRef gPro g_same]
    refine fun b hb => ?_
    rcases cmp hb with ⟨rfl, h7⟩ | ⟨rfl, h7⟩
    · rw [if_pos h7] at hK
      exact ⟨[.pv (.str _), .pv _], ⟨rfl, rfl, trivial⟩, ⟨trivial, trivial, trivial⟩, hK⟩
    rw [if_neg h7] at hK
    have hok := resN_ok (Decidable.of_not_not h7)
    have hel := exp_len hok
    refine ⟨_, rfl, hok, ?_⟩
    generalize expN (resN gRef ((s.drop 2).take c)).1 = ex at *
    refine fun y hy => ?_
    rw [htl] at hy
    have hy := n64 hy (by omega)
    have hy : y = ((2 + c : Nat) : Int) := by omega
    subst hy
    have ecut2 : cut ((2 + c : Nat) : Int).toNat s.length s = s.drop (2 + c) := by rw [Int.toNat_natCast, cut_drop]
    refine ⟨by kernel_rfl, ?_⟩
    refine fun b1 hb1 => ?_
    refine ⟨_, ⟨b1, 10, rfl, rfl⟩, ?_⟩
    refine ⟨by omega, ?_⟩
    refine fun y hy => ?_
    have hy := n64 hy (by omega)
    have hy : y = ((s.length - (2 + c) : Nat) : Int) := by omega
    subst hy
    refine ⟨_, ⟨_, rfl, by omega, rfl⟩, ?_⟩
    refine fun b2 hb2 => ?_
    rw [ecut2, Int.toNat_natCast] at hb2
    have fin : ∀ b3 : Bool, (b3 = true ↔ ¬ (s.drop (2 + c) ≠ zerosL (s.length - (2 + c)) ∨ 256 ≤ s.length - (2 + c))) → (if firstZ [unlessZ b1 10, unlessZ b3 3] ≠ 0 then K (.tup [.pv (.str []), .pv (pI (firstZ [unlessZ b1 10, unlessZ b3 3]))]) else K (.tup [.pv (.str ex), .pv (pI 0)])) := by
      intro b3 hb3
      rcases cmp hb1 with ⟨rfl, h8⟩ | ⟨rfl, h8⟩
      · rw [if_neg (by omega)] at hK
        rcases cmp hb3 with ⟨rfl, h9⟩ | ⟨rfl, h9⟩
        · rw [if_neg h9] at hK
          rw [if_neg (by decide)]
          exact hK
        · rw [if_pos (Decidable.of_not_not h9)] at hK
          rw [if_pos (by decide)]
          exact hK
      · rw [if_pos (by omega)] at hK
        have e10 : firstZ [unlessZ false 10, unlessZ b3 3] = 10 := rfl
        rw [e10, if_pos (by decide)]
        exact hK
    rcases cmp hb2 with ⟨rfl, hz⟩ | ⟨rfl, hz⟩
    · refine ⟨_, ⟨_, rfl, by omega, rfl⟩, ?_⟩
      refine ⟨by decide, ?_⟩
      refine fun y hy => ?_
      rw [Int.tdiv_eq_ediv_of_nonneg (by omega)] at hy
      have hy := n64 hy (by omega)
      rw [hy]
      refine fun b3 hb3 => ?_
      have hf := fin b3 (by
        rw [hb3]
        constructor
        · rintro h (h' | h')
          · exact h' hz
          · omega
        · intro h
          have : ¬ 256 ≤ s.length - (2 + c) := fun h' => h (.inr h')
          omega)
      refine ⟨_, ⟨b3, 3, rfl, rfl⟩, ?_⟩
      refine ⟨rfl, ?_⟩
      refine ⟨_, ⟨[unlessZ b1 10, unlessZ b3 3], rfl, rfl⟩, ?_⟩
      refine fun b hb => ?_
      rcases cmp hb with ⟨rfl, h⟩ | ⟨rfl, h⟩
      · rw [if_pos h] at hf
        exact ⟨[.pv (.str _), .pv _], ⟨rfl, rfl, trivial⟩, ⟨trivial, trivial, trivial⟩, hf⟩
      · rw [if_neg h] at hf
        exact ⟨[.pv (.str _), .pv _], ⟨rfl, rfl, trivial⟩, ⟨trivial, trivial, trivial⟩, hf⟩
    · have hf := fin false (by
        constructor
        · intro h; cases h
        · intro h; exact absurd (.inl hz) h)
      refine ⟨_, ⟨false, 3, rfl, rfl⟩, ?_⟩
      refine ⟨rfl, ?_⟩
      refine ⟨_, ⟨[unlessZ b1 10, unlessZ false 3], rfl, rfl⟩, ?_⟩
      refine fun b hb => ?_
      rcases cmp hb with ⟨rfl, h⟩ | ⟨rfl, h⟩
      · rw [if_pos h] at hf
        exact ⟨[.pv (.str _), .pv _], ⟨rfl, rfl, trivial⟩, ⟨trivial, trivial, trivial⟩, hf⟩
      · rw [if_neg h] at hf
        exact ⟨[.pv (.str _), .pv _], ⟨rfl, rfl, trivial⟩, ⟨trivial, trivial, trivial⟩, hf⟩
end Go.Dv.Try
end
section
/-
  Contracts of chapter 6: a unit of a piece; the law of units.
-/
namespace Go.Dv.Try
open Go Go.Dv

abbrev pU (n : Int) : PV := .int .u16 n
def S_Unit : Spec := mkS true false fun ps K => ∃ (p : List UInt8) (c : List Int), ps = [.str p, .sl 1 (c.map pU)] ∧ (∀ n ∈ c, 0 ≤ n ∧ n < 65536) ∧ ∀ u : List UInt8, u.length = 4096 → K (.pv (.str u))
set_option maxHeartbeats 1000000 in
theorem meets_Unit : Meets (ctxOf [(n_base_Zeros, fnSpec R_Zeros)]) s_law06_Unit c_law06_Unit r_law06_Unit S_Unit := by
  rintro _ K ⟨p, c, rfl, hc, hK⟩
  refine ⟨_, ⟨4096, rfl, by omega, rfl⟩, ?_⟩
  have hz : (zerosL (Int.toNat 4096)).length = 4096 := zerosL_len _
  refine ⟨by rw [hz]; omega, ?_⟩
  refine fun b hb => ?_
  rcases cmp hb with ⟨rfl, h1⟩ | ⟨rfl, h1⟩
  · refine fun b hb => ?_
    rcases cmp hb with ⟨rfl, h2⟩ | ⟨rfl, h2⟩
    · refine ⟨fun m env σ => ∃ (n : Nat) (l : List UInt8), (n + m = 4096 ∧ l.length = 4096) ∧ σ = [.row 5 1 false (l.map byteP)] ∧ env = [(0, .pv (.str p)), (1, .pv (.sl 1 (c.map pU))), (5, .own 0), (6, .pv (pI n))], 4096, ⟨0, zerosL (Int.toNat 4096), ⟨rfl, hz⟩, rfl, rfl⟩, ?_⟩
      rintro m env σ ⟨n, l, ⟨hn, hl⟩, rfl, rfl⟩
      refine fun _ => ?_
      rw [List.length_map, hl]
      refine fun b hb => ?_
      rcases cmp hb with ⟨rfl, h3⟩ | ⟨rfl, h3⟩
      · refine ⟨by omega, ?_⟩
        refine fun x hx => ?_
        rw [Int.tmod_eq_emod_of_nonneg (by omega)] at hx
        have hx0 : 0 ≤ x ∧ x < p.length := by
          rw [hx]; exact ⟨Int.emod_nonneg _ (by omega), Int.emod_lt_of_pos _ (by omega)⟩
        obtain ⟨v, hv⟩ : ∃ v, p[x.toNat]? = some v := by rw [List.getElem?_eq_getElem (by omega)]; exact ⟨_, rfl⟩
        refine ⟨_, ⟨by omega, hv⟩, ?_⟩
        refine ⟨⟨by omega, by rw [List.length_map]; omega⟩, ?_⟩
        obtain ⟨ob, hob⟩ : ∃ o, l[n]? = some o := by rw [List.getElem?_eq_getElem (by omega)]; exact ⟨_, rfl⟩
        refine ⟨byteP ob, by rw [Int.toNat_natCast, List.getElem?_map, hob]; rfl, ?_⟩
        refine ⟨rfl, ?_⟩
        refine fun r hr => ?_
        have hr := n64 hr (by omega)
        rw [hr]
        refine ⟨m - 1, by omega, n + 1, l.set n v, ⟨by omega, by rw [List.length_set]; exact hl⟩, ?_, rfl⟩
        rw [List.map_set]
        rfl
      · clear hn h3 hb
        refine ⟨fun m env σ => ∃ (n : Nat) (l : List UInt8), (n + m = c.length ∧ l.length = 4096) ∧ σ = [.row 5 1 false (l.map byteP)] ∧ env = [(1, .pv (.sl 1 (c.map pU))), (5, .own 0), (7, .pv (pI n))], c.length, ⟨0, l, ⟨by omega, hl⟩, rfl, rfl⟩, ?_⟩
        rintro m env σ ⟨n, l, ⟨hn, hl⟩, rfl, rfl⟩
        refine fun _ => ?_
        rw [List.length_map]
        refine fun b hb => ?_
        have last : ∀ m2 : Nat, True := fun _ => trivial
        rcases cmp hb with ⟨rfl, h⟩ | ⟨rfl, h⟩
        · refine fun b hb => ?_
          rcases cmp hb with ⟨rfl, h2⟩ | ⟨rfl, h2⟩
          · obtain ⟨v, hv⟩ : ∃ v, c[n]? = some v := by rw [List.getElem?_eq_getElem (by omega)]; exact ⟨_, rfl⟩
            have hvr := hc v (List.mem_of_getElem? hv)
            have get : (c.map pU)[((n : Nat) : Int).toNat]? = some (pU v) := by rw [Int.toNat_natCast, List.getElem?_map, hv]; rfl
            refine ⟨by kernel_rfl, ?_⟩
            refine ⟨_, ⟨by omega, get⟩, ?_⟩
            refine fun x hx => ?_
            have hx := n64 hx (by omega)
            rw [hx]
            refine ⟨by rw [List.length_map, hl]; decide, ?_⟩
            refine fun y hy => ?_
            rw [List.length_map, hl, Int.tmod_eq_emod_of_nonneg (by omega)] at hy
            refine ⟨_, ⟨by omega, get⟩, ?_⟩
            refine ⟨by decide, ?_⟩
            refine fun z hz => ?_
            refine fun q hq => ?_
            rw [wrapU8] at hq
            rw [byteP_of (n := q) (by omega)]
            refine ⟨⟨by omega, by rw [List.length_map]; omega⟩, ?_⟩
            obtain ⟨o, ho⟩ : ∃ o, (l.map byteP)[y.toNat]? = some o := by rw [List.getElem?_eq_getElem (by rw [List.length_map]; omega)]; exact ⟨_, rfl⟩
            have hoi : ∃ ob : UInt8, o = byteP ob := by
              rw [List.getElem?_map] at ho
              cases hlo : l[y.toNat]? with
              | none => rw [hlo] at ho; cases ho
              | some ob => rw [hlo] at ho; injection ho with ho; exact ⟨ob, ho.symm⟩
            obtain ⟨ob, rfl⟩ := hoi
            refine ⟨_, ho, ?_⟩
            refine ⟨rfl, ?_⟩
            refine fun r hr => ?_
            have hr := n64 hr (by omega)
            rw [hr]
            refine ⟨m - 1, by omega, n + 1, l.set y.toNat (byteN q.toNat), ⟨by omega, by rw [List.length_set]; exact hl⟩, ?_, rfl⟩
            rw [List.map_set]
          · refine ⟨l, rfl, ?_⟩
            exact ⟨.pv (.str _), rfl, trivial, hK l hl⟩
        · refine ⟨l, rfl, ?_⟩
          exact ⟨.pv (.str _), rfl, trivial, hK l hl⟩
    · refine ⟨fun m env σ => ∃ (n : Nat) (l : List UInt8), (n + m = c.length ∧ l.length = 4096) ∧ σ = [.row 5 1 false (l.map byteP)] ∧ env = [(1, .pv (.sl 1 (c.map pU))), (5, .own 0), (7, .pv (pI n))], c.length, ⟨0, zerosL (Int.toNat 4096), ⟨by omega, hz⟩, rfl, rfl⟩, ?_⟩
      rintro m env σ ⟨n, l, ⟨hn, hl⟩, rfl, rfl⟩
      refine fun _ => ?_
      rw [List.length_map]
      refine fun b hb => ?_
      have last : ∀ m2 : Nat, True := fun _ => trivial
      rcases cmp hb with ⟨rfl, h⟩ | ⟨rfl, h⟩
      · refine fun b hb => ?_
        rcases cmp hb with ⟨rfl, h2⟩ | ⟨rfl, h2⟩
        · obtain ⟨v, hv⟩ : ∃ v, c[n]? = some v := by rw [List.getElem?_eq_getElem (by omega)]; exact ⟨_, rfl⟩
          have hvr := hc v (List.mem_of_getElem? hv)
          have get : (c.map pU)[((n : Nat) : Int).toNat]? = some (pU v) := by rw [Int.toNat_natCast, List.getElem?_map, hv]; rfl
          refine ⟨by kernel_rfl, ?_⟩
          refine ⟨_, ⟨by omega, get⟩, ?_⟩
          refine fun x hx => ?_
          have hx := n64 hx (by omega)
          rw [hx]
          refine ⟨by rw [List.length_map, hl]; decide, ?_⟩
          refine fun y hy => ?_
          rw [List.length_map, hl, Int.tmod_eq_emod_of_nonneg (by omega)] at hy
          refine ⟨_, ⟨by omega, get⟩, ?_⟩
          refine ⟨by decide, ?_⟩
          refine fun z hz => ?_
          refine fun q hq => ?_
          rw [wrapU8] at hq
          rw [byteP_of (n := q) (by omega)]
          refine ⟨⟨by omega, by rw [List.length_map]; omega⟩, ?_⟩
          obtain ⟨o, ho⟩ : ∃ o, (l.map byteP)[y.toNat]? = some o := by rw [List.getElem?_eq_getElem (by rw [List.length_map]; omega)]; exact ⟨_, rfl⟩
          have hoi : ∃ ob : UInt8, o = byteP ob := by
            rw [List.getElem?_map] at ho
            cases hlo : l[y.toNat]? with
            | none => rw [hlo] at ho; cases ho
            | some ob => rw [hlo] at ho; injection ho with ho; exact ⟨ob, ho.symm⟩
          obtain ⟨ob, rfl⟩ := hoi
          refine ⟨_, ho, ?_⟩
          refine ⟨rfl, ?_⟩
          refine fun r hr => ?_
          have hr := n64 hr (by omega)
          rw [hr]
          refine ⟨m - 1, by omega, n + 1, l.set y.toNat (byteN q.toNat), ⟨by omega, by rw [List.length_set]; exact hl⟩, ?_, rfl⟩
          rw [List.map_set]
        · refine ⟨l, rfl, ?_⟩
          exact ⟨.pv (.str _), rfl, trivial, hK l hl⟩
      · refine ⟨l, rfl, ?_⟩
        exact ⟨.pv (.str _), rfl, trivial, hK l hl⟩
  · refine ⟨fun m env σ => ∃ (n : Nat) (l : List UInt8), (n + m = c.length ∧ l.length = 4096) ∧ σ = [.row 5 1 false (l.map byteP)] ∧ env = [(1, .pv (.sl 1 (c.map pU))), (5, .own 0), (7, .pv (pI n))], c.length, ⟨0, zerosL (Int.toNat 4096), ⟨by omega, hz⟩, rfl, rfl⟩, ?_⟩
    rintro m env σ ⟨n, l, ⟨hn, hl⟩, rfl, rfl⟩
    refine fun _ => ?_
    rw [List.length_map]
    refine fun b hb => ?_
    have last : ∀ m2 : Nat, True := fun _ => trivial
    rcases cmp hb with ⟨rfl, h⟩ | ⟨rfl, h⟩
    · refine fun b hb => ?_
      rcases cmp hb with ⟨rfl, h2⟩ | ⟨rfl, h2⟩
      · obtain ⟨v, hv⟩ : ∃ v, c[n]? = some v := by rw [List.getElem?_eq_getElem (by omega)]; exact ⟨_, rfl⟩
        have hvr := hc v (List.mem_of_getElem? hv)
        have get : (c.map pU)[((n : Nat) : Int).toNat]? = some (pU v) := by rw [Int.toNat_natCast, List.getElem?_map, hv]; rfl
        refine ⟨by kernel_rfl, ?_⟩
        refine ⟨_, ⟨by omega, get⟩, ?_⟩
        refine fun x hx => ?_
        have hx := n64 hx (by omega)
        rw [hx]
        refine ⟨by rw [List.length_map, hl]; decide, ?_⟩
        refine fun y hy => ?_
        rw [List.length_map, hl, Int.tmod_eq_emod_of_nonneg (by omega)] at hy
        refine ⟨_, ⟨by omega, get⟩, ?_⟩
        refine ⟨by decide, ?_⟩
        refine fun z hz => ?_
        refine fun q hq => ?_
        rw [wrapU8] at hq
        rw [byteP_of (n := q) (by omega)]
        refine ⟨⟨by omega, by rw [List.length_map]; omega⟩, ?_⟩
        obtain ⟨o, ho⟩ : ∃ o, (l.map byteP)[y.toNat]? = some o := by rw [List.getElem?_eq_getElem (by rw [List.length_map]; omega)]; exact ⟨_, rfl⟩
        have hoi : ∃ ob : UInt8, o = byteP ob := by
          rw [List.getElem?_map] at ho
          cases hlo : l[y.toNat]? with
          | none => rw [hlo] at ho; cases ho
          | some ob => rw [hlo] at ho; injection ho with ho; exact ⟨ob, ho.symm⟩
        obtain ⟨ob, rfl⟩ := hoi
        refine ⟨_, ho, ?_⟩
        refine ⟨rfl, ?_⟩
        refine fun r hr => ?_
        have hr := n64 hr (by omega)
        rw [hr]
        refine ⟨m - 1, by omega, n + 1, l.set y.toNat (byteN q.toNat), ⟨by omega, by rw [List.length_set]; exact hl⟩, ?_, rfl⟩
        rw [List.map_set]
      · refine ⟨l, rfl, ?_⟩
        exact ⟨.pv (.str _), rfl, trivial, hK l hl⟩
    · refine ⟨l, rfl, ?_⟩
      exact ⟨.pv (.str _), rfl, trivial, hK l hl⟩

def R_lawUnits (ps : List PV) (x : PV) : Prop := ∃ (p : List UInt8) (c : List Int) (s : List UInt8), ps = [.str p, .sl 1 (c.map pU), .str s] ∧ (∀ n ∈ c, 0 ≤ n ∧ n < 65536) ∧ x = pB true
theorem meets_lawUnits : Meets (ctxOf [(n_law06_awake, fnSpec R_true0), (n_law06_Unit, S_Unit), (n_compress_PackUnit, S_PackUnit), (n_ref06_Pack, S_refPack), (n_compress_UnpackUnit, S_unpack), (n_ref06_Unpack, S_unpack)]) s_law06_CompressUnits c_law06_CompressUnits r_law06_CompressUnits (fnSpec R_lawUnits) := by
  rintro _ K ⟨_, ⟨p, c, s, rfl, hc, rfl⟩, hK⟩
  refine ⟨_, ⟨rfl, rfl⟩, ?_⟩
  refine NOT_t ?_
  refine ⟨p, c, rfl, hc, fun u hu => ?_⟩
  refine ⟨u, rfl, by omega, fun h => absurd hu h, fun _ => ?_⟩
  refine ⟨by omega, ?_⟩
  have hcu : (cut (Int.toNat 1) u.length u).length = 4095 := by rw [show cut (Int.toNat 1) u.length u = u.drop 1 from cut_drop 1 u, List.length_drop]; omega
  refine ⟨_, rfl, by omega, fun _ => ?_, fun h => by omega⟩
  refine fun b hb => ?_
  rcases cmp hb with ⟨rfl, h⟩ | ⟨rfl, h⟩
  case inl => exact absurd rfl h
  refine ⟨u, rfl, hu, ?_⟩
  refine fun b hb => ?_
  rcases cmp hb with ⟨rfl, h⟩ | ⟨rfl, h⟩
  case inl => exact absurd rfl h
  refine fun b hb => ?_
  rcases cmp hb with ⟨rfl, h⟩ | ⟨rfl, h⟩
  case inl => exact absurd rfl h
  refine fun b hb => ?_
  rcases cmp hb with ⟨rfl, h⟩ | ⟨rfl, h⟩
  case inl => exact absurd rfl h
  refine fun b hb => ?_
  rcases cmp hb with ⟨rfl, h⟩ | ⟨rfl, h⟩
  · exact ⟨.pv (pB true), rfl, trivial, hK⟩
  refine ⟨s, rfl, by omega, ?_⟩
  refine ⟨s, rfl, by omega, ?_⟩
  refine fun b hb => ?_
  rcases cmp hb with ⟨rfl, h⟩ | ⟨rfl, h⟩
  case inr => exact absurd rfl h
  refine fun b hb => ?_
  rcases cmp hb with ⟨rfl, h⟩ | ⟨rfl, h⟩
  case inr => exact absurd rfl h
  exact ⟨.pv (pB true), rfl, trivial, hK⟩

theorem sig_u16s {y : PV} (h : HasL [.sl false [.int .u16]] [y]) : ∃ c : List Int, y = .sl 1 (c.map pU) ∧ ∀ n ∈ c, 0 ≤ n ∧ n < 65536 := by
  simp only [HasL, HasC] at h
  obtain ⟨_, _, e, ⟨els, rfl, _, h⟩, rfl⟩ := h
  injection e with e _
  subst e
  obtain ⟨l, rfl, hl⟩ := list_of (g := pU) (q := fun n => 0 ≤ n ∧ n < 65536) fun z hz => by
    obtain ⟨y, ys, e, ⟨n, rfl, hn⟩, rfl⟩ := (h z hz).2 trivial
    injection e with e _
    simp only [Lit.wf, Bool.and_eq_true, decide_eq_true_eq] at hn
    exact ⟨n, e, hn.1, Int.lt_of_le_of_lt hn.2 (by decide)⟩
  exact ⟨l, rfl, hl⟩

theorem run_units : ∀ xs, HasPs [(false, [.str]), (false, [.sl false [.int .u16]]), (false, [.str])] xs → (fnSpec R_lawUnits).run xs fun r => r = .pv (.bool true) := by
  intro xs h
  simp only [HasPs] at h
  obtain ⟨y, _, rfl, _, h1, z, _, rfl, _, h2, u, _, rfl, _, h3, rfl⟩ := h
  obtain ⟨p, rfl, _⟩ := sig_str (h1 trivial)
  obtain ⟨c, rfl, hc⟩ := sig_u16s (h2 trivial)
  obtain ⟨s, rfl, _⟩ := sig_str (h3 trivial)
  exact ⟨_, ⟨p, c, s, rfl, hc, rfl⟩, rfl⟩
end Go.Dv.Try
end
