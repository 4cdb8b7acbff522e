/-
  A part of the proof: own texts, laid together by a tool of our own: P06g F06s F06t F06u F06v.
-/
import Derived.Test.YthibkikicnaciaaPlain
import Derived.Test.YthibkikicnaciaaWalks2
import Derived.Test.YthibkikicnaciaaDv3
section
/-
  Plain laws of chapter 6: the bytes of tokens, one token after the other.
-/
namespace Go.Dv.Try
open Go Go.Dv

/-- The bytes of tokens from a number and a position on; a byte of signs ahead of each eighth. -/
def eachT : Nat → List Tok → Nat → List UInt8
  | _, [], _ => []
  | i, t :: l, a => (if i % 8 = 0 then [byteN (signN 0 ((t :: l).take 8))] else []) ++ (tokB t a ++ eachT (i + 1) l (a + t.made.toNat))

theorem eachT_part : ∀ (k i : Nat) (l : List Tok) (a : Nat), i % 8 + k = 8 → i % 8 ≠ 0 → eachT i l a = bytesT (l.take k) a ++ eachT (i + k) (l.drop k) (posT (l.take k) a) := by
  intro k
  induction k with
  | zero => intro i l a h h0; omega
  | succ k ih =>
    intro i l a h h0
    cases l with
    | nil => simp [eachT, bytesT]
    | cons t l =>
      simp only [eachT, if_neg h0, List.take_succ_cons, List.drop_succ_cons, bytesT, posT, List.nil_append, List.append_assoc]
      congr 1
      by_cases hk : k = 0
      · subst hk; simp [bytesT, posT]
      · rw [ih (i + 1) l _ (by omega) (by omega), show i + 1 + k = i + (k + 1) by omega]

theorem eachT_body : ∀ (n i : Nat) (l : List Tok) (a : Nat), i % 8 = 0 → l.length ≤ n → eachT i l a = bodyRun n l a := by
  intro n
  induction n with
  | zero =>
    intro i l a _ h
    have : l = [] := List.eq_nil_of_length_eq_zero (by omega)
    subst this; rfl
  | succ n ih =>
    intro i l a h hl
    cases l with
    | nil => simp [eachT, bodyRun]
    | cons t l =>
      simp only [bodyRun, eachT, if_pos h, reduceCtorEq, if_false, List.take_succ_cons, List.drop_succ_cons, bytesT, posT, List.cons_append, List.nil_append, List.append_assoc]
      congr 2
      rw [eachT_part 7 (i + 1) l _ (by omega) (by omega)]
      congr 1
      exact ih _ _ _ (by omega) (by simp at hl ⊢; omega)

theorem bodyN_each (l : List Tok) : bodyN l = eachT 0 l 0 := (eachT_body _ 0 l 0 rfl (Nat.le_refl _)).symm
end Go.Dv.Try
end
section
/-
  Contracts of chapter 6: the reference's body and its encoding.
-/
namespace Go.Dv.Try
open Go Go.Dv

def S_refBody : Spec := mkS true false fun ps K => ∃ l : List Tok, ps = [.sl 3 (l.map Tok.pv)] ∧ ToksOk l 0 ∧ K (.pv (.str (bodyN l)))
theorem getTok {g1 g2 l : List Tok} {t : Tok} (h : g1 ++ t :: g2 = l) {i : Int} (hi : i = g1.length) : (l.map Tok.pv)[i.toNat]? = some t.pv := by
  subst h; subst hi
  rw [Int.toNat_natCast, List.getElem?_map, List.getElem?_append_right (Nat.le_refl _), Nat.sub_self]; rfl

theorem meets_refBody : Meets (ctxOf [(n_ref06_Copy, fnSpec R_compress_isCopy), (n_base_Power, fnSpec R_base_Power), (n_base_Little, fnSpec R_Little), (n_ref06_Shift, fnSpec R_compress_shift), (n_ref06_Makes, fnSpec R_compress_made)]) s_ref06_Body c_ref06_Body r_ref06_Body S_refBody := by
  rintro _ K ⟨l, rfl, hok, hK⟩
  have hlen : l.length ≤ 4096 := by
    by_cases h : l = []
    · subst h; simp
    · have := toksOk_len l 0 hok h; omega
  refine ⟨fun m env σ => ∃ (g1 g2 : List Tok) (out : List UInt8), (g1 ++ g2 = l ∧ g2.length = m ∧ out.length ≤ 3 * g1.length ∧ bodyN l = out ++ eachT g1.length g2 (posT g1 0)) ∧ σ = [.row 5 1 true (out.map byteP)] ∧ env = [(0, .pv (.sl 3 (l.map Tok.pv))), (3, .own 0), (4, .pv (pI (posT g1 0))), (5, .pv (pI g1.length))], l.length, ⟨[], l, [], ⟨rfl, rfl, by simp, bodyN_each l⟩, rfl, rfl⟩, ?_⟩
  rintro m env σ ⟨g1, g2, out, ⟨hg, hm, hout, hrun⟩, rfl, rfl⟩
  have hgl : g1.length + g2.length = l.length := by rw [← hg, List.length_append]
  refine fun _ => ?_
  refine fun b hb => ?_
  rw [List.length_map] at hb
  rcases cmp hb with ⟨rfl, h⟩ | ⟨rfl, h⟩
  · cases g2 with
    | nil => simp at hgl; omega
    | cons t g2 =>
    simp only [List.length_cons] at hgl hm
    have hokt : TokOk t (posT g1 0) ∧ ToksOk g2 (posT g1 0 + t.made.toNat) := by
      rw [← hg, toksOk_append] at hok
      exact hok.2
    have hmt := tok_made hokt.1
    refine ⟨by decide, ?_⟩
    refine fun x hx => ?_
    have hi : g1.length ≤ 4096 := by omega
    have hx : x = ((g1.length % 8 : Nat) : Int) := by rw [hx, Int.tmod_eq_emod_of_nonneg (by omega)]; omega
    refine fun b hb => ?_
    rcases cmp hb with ⟨rfl, h8⟩ | ⟨rfl, h8⟩
    · have hi8 : g1.length % 8 = 0 := by omega
      refine ⟨fun m2 env σ => ∃ k : Nat, (k + m2 = 8 ∧ k ≤ (t :: g2).length) ∧ σ = [.row 5 1 true (out.map byteP)] ∧ env = [(0, .pv (.sl 3 (l.map Tok.pv))), (3, .own 0), (4, .pv (pI (posT g1 0))), (5, .pv (pI g1.length)), (6, .pv (pI (signN 0 ((t :: g2).take k)))), (7, .pv (pI k))], 8, ⟨0, by simp, rfl, rfl⟩, ?_⟩
      rintro m2 env σ ⟨k, ⟨hk, hkl⟩, rfl, rfl⟩
      have hsl := signN_lt ((t :: g2).take k) 0
      rw [Nat.zero_add, List.length_take, Nat.min_eq_left hkl] at hsl
      have hp8 : 2 ^ k ≤ 2 ^ 8 := Nat.pow_le_pow_right (by omega) (by omega)
      have fin : (t :: g2).take k = (t :: g2).take 8 → True := fun _ => trivial
      refine fun b hb => ?_
      rcases cmp hb with ⟨rfl, hk8⟩ | ⟨rfl, hk8⟩
      · refine fun y hy => ?_
        obtain rfl := n64 hy (by omega)
        refine fun _ => ?_
        refine fun b hb => ?_
        rw [List.length_map] at hb
        rcases cmp hb with ⟨rfl, hkn⟩ | ⟨rfl, hkn⟩
        · obtain ⟨u, hu⟩ : ∃ u, (t :: g2)[k]? = some u := by
            rw [List.getElem?_eq_getElem (by simp only [List.length_cons]; omega)]; exact ⟨_, rfl⟩
          have hul : (l.map Tok.pv)[((g1.length : Int) + (k : Int)).toNat]? = some u.pv := by
            rw [← hg, show ((g1.length : Int) + (k : Int)).toNat = g1.length + k by omega, List.getElem?_map, List.getElem?_append_right (by omega), Nat.add_sub_cancel_left, hu]; rfl
          have hks : (t :: g2).take (k + 1) = (t :: g2).take k ++ [u] := by rw [List.take_add_one, hu]; rfl
          have hkc : ((t :: g2).take k).length = k := by rw [List.length_take, Nat.min_eq_left hkl]
          refine fun y hy => ?_
          obtain rfl := n64 hy (by omega)
          refine ⟨_, ⟨by omega, hul⟩, ?_⟩
          cases hc : u.copy with
          | true =>
            have hd : u.d ≠ 0 := by unfold Tok.copy at hc; simpa using hc
            refine ⟨pB true, ⟨u, rfl, by rw [hc]⟩, ?_⟩
            refine ⟨_, ⟨_, rfl, ⟨by omega, by omega⟩, rfl⟩, ?_⟩
            rw [Int.toNat_natCast]
            refine fun y hy => ?_
            obtain rfl := n64 hy (by omega)
            refine fun y hy => ?_
            obtain rfl := n64 hy (by omega)
            refine ⟨m2 - 1, by omega, k + 1, ⟨by omega, by simp only [List.length_cons] at hkl ⊢; omega⟩, rfl, ?_⟩
            rw [hks, signN_append, hkc]
            simp only [signN, if_pos hd, Nat.zero_add, Nat.add_zero]; rfl
          | false =>
            have hd : ¬ u.d ≠ 0 := by unfold Tok.copy at hc; simpa using hc
            refine ⟨pB false, ⟨u, rfl, by rw [hc]⟩, ?_⟩
            refine fun y hy => ?_
            obtain rfl := n64 hy (by omega)
            refine ⟨m2 - 1, by omega, k + 1, ⟨by omega, by simp only [List.length_cons] at hkl ⊢; omega⟩, rfl, ?_⟩
            rw [hks, signN_append, hkc]
            simp only [signN, if_neg hd, Nat.add_zero]; rfl
        · have ek : (t :: g2).take k = (t :: g2).take 8 := by
            rw [List.take_of_length_le (by simp only [List.length_cons]; omega), List.take_of_length_le (by simp only [List.length_cons] at hkl ⊢; omega)]
          rw [ek] at hsl ⊢
          refine fun x hx => ?_
          rw [wrapU8] at hx
          have hx : PV.int .u8 x = byteP (byteN (signN 0 ((t :: g2).take 8))) := by rw [byteP_of (n := x) (by omega)]; congr 2; omega
          rw [hx]
          refine ⟨rfl, ?_⟩
          refine ⟨⟨by simp; omega, by simp; omega⟩, ?_⟩
          refine ⟨_, ⟨by omega, getTok hg rfl⟩, ?_⟩
          cases hc : t.copy with
          | true =>
            have hd : t.d ≠ 0 := by unfold Tok.copy at hc; simpa using hc
            have hto := hokt.1
            unfold TokOk at hto
            rw [if_pos hd] at hto
            have hcode := code_lt hokt.1 hd
            have hs := shiftN_le (a := posT g1 0) (by omega)
            have hs2 := shiftN_ge (posT g1 0)
            refine ⟨pB true, ⟨t, rfl, by rw [hc]⟩, ?_⟩
            refine ⟨by kernel_rfl, ?_⟩
            refine ⟨_, ⟨by omega, getTok hg rfl⟩, ?_⟩
            refine fun x hx => ?_
            obtain rfl := n64 hx (by omega)
            refine ⟨_, ⟨posT g1 0, rfl, ⟨by omega, by omega⟩, rfl⟩, ?_⟩
            unfold shiftZ
            rw [Int.toNat_natCast]
            refine fun x hx => ?_
            obtain rfl := n64 hx (by omega)
            refine ⟨_, ⟨_, rfl, ⟨by omega, by omega⟩, rfl⟩, ?_⟩
            have es : (16 - (shiftN (posT g1 0) : Int)).toNat = 16 - shiftN (posT g1 0) := by omega
            rw [es]
            have ed : t.d - 1 = ((t.d.toNat - 1 : Nat) : Int) := by omega
            have em : (t.d - 1) * ((2 ^ (16 - shiftN (posT g1 0)) : Nat) : Int) = (((t.d.toNat - 1) * 2 ^ (16 - shiftN (posT g1 0)) : Nat) : Int) := by rw [ed, Int.natCast_mul]
            refine fun x hx => ?_
            rw [em] at hx
            have eb : tokB t (posT g1 0) = wordN ((t.d.toNat - 1) * 2 ^ (16 - shiftN (posT g1 0)) + t.l.toNat - 3) := by unfold tokB; rw [if_pos hd]
            generalize (t.d.toNat - 1) * 2 ^ (16 - shiftN (posT g1 0)) = p at *
            obtain rfl := n64 hx (by omega)
            refine ⟨_, ⟨by omega, getTok hg rfl⟩, ?_⟩
            refine fun x hx => ?_
            obtain rfl := n64 hx (by omega)
            refine fun x hx => ?_
            obtain rfl := n64 hx (by omega)
            refine ⟨_, ⟨_, 2, rfl, by omega, rfl⟩, ?_⟩
            refine ⟨⟨by simp [littleN]; omega, by simp [littleN]; omega⟩, ?_⟩
            refine ⟨_, ⟨by omega, getTok hg rfl⟩, ?_⟩
            refine ⟨_, ⟨t, rfl, rfl⟩, ?_⟩
            refine fun x hx => ?_
            obtain rfl := n64 hx (by omega)
            refine fun x hx => ?_
            obtain rfl := n64 hx (by omega)
            refine ⟨g2.length, by omega, g1 ++ [t], g2, (out ++ [byteN (signN 0 ((t :: g2).take 8))]) ++ tokB t (posT g1 0), ⟨by simp [hg], rfl, ?_, ?_⟩, ?_, ?_⟩
            · have := tokB_len t (posT g1 0)
              simp only [List.length_append, List.length_cons, List.length_nil] at this hout ⊢; omega
            · rw [hrun, eachT, if_pos hi8, posT_append, List.length_append]; simp [posT]
            · rw [eb, ← little2]
              simp only [List.map_append]
              rw [show (((p : Nat) : Int) + t.l - 3).toNat = p + t.l.toNat - 3 by omega]; rfl
            · rw [posT_append, List.length_append]; simp only [posT]
              rw [show ((posT g1 0 + t.made.toNat : Nat) : Int) = (posT g1 0 : Int) + t.made by omega]; rfl
          | false =>
            have hd : t.d = 0 := by unfold Tok.copy at hc; simpa using hc
            have hto := hokt.1
            unfold TokOk at hto
            rw [if_neg (by omega)] at hto
            refine ⟨pB false, ⟨t, rfl, by rw [hc]⟩, ?_⟩
            refine ⟨_, ⟨by omega, getTok hg rfl⟩, ?_⟩
            refine fun x hx => ?_
            rw [wrapU8] at hx
            refine ⟨rfl, ?_⟩
            refine ⟨⟨by simp; omega, by simp; omega⟩, ?_⟩
            refine ⟨_, ⟨by omega, getTok hg rfl⟩, ?_⟩
            refine ⟨_, ⟨t, rfl, rfl⟩, ?_⟩
            refine fun y hy => ?_
            obtain rfl := n64 hy (by omega)
            refine fun y hy => ?_
            obtain rfl := n64 hy (by omega)
            refine ⟨g2.length, by omega, g1 ++ [t], g2, (out ++ [byteN (signN 0 ((t :: g2).take 8))]) ++ tokB t (posT g1 0), ⟨by simp [hg], rfl, ?_, ?_⟩, ?_, ?_⟩
            · have := tokB_len t (posT g1 0)
              simp only [List.length_append, List.length_cons, List.length_nil] at this hout ⊢; omega
            · rw [hrun, eachT, if_pos hi8, posT_append, List.length_append]; simp [posT]
            · unfold tokB
              rw [if_neg (by omega), byteP_of (n := x) (by omega)]
              simp only [List.map_append]
              rw [show x.toNat = t.b.toNat by omega]; rfl
            · rw [posT_append, List.length_append]; simp only [posT]
              rw [show ((posT g1 0 + t.made.toNat : Nat) : Int) = (posT g1 0 : Int) + t.made by omega]; rfl
      · have ek : (t :: g2).take k = (t :: g2).take 8 := by
          rw [show k = 8 by omega]
        rw [ek] at hsl ⊢
        refine fun x hx => ?_
        rw [wrapU8] at hx
        have hx : PV.int .u8 x = byteP (byteN (signN 0 ((t :: g2).take 8))) := by rw [byteP_of (n := x) (by omega)]; congr 2; omega
        rw [hx]
        refine ⟨rfl, ?_⟩
        refine ⟨⟨by simp; omega, by simp; omega⟩, ?_⟩
        refine ⟨_, ⟨by omega, getTok hg rfl⟩, ?_⟩
        cases hc : t.copy with
        | true =>
          have hd : t.d ≠ 0 := by unfold Tok.copy at hc; simpa using hc
          have hto := hokt.1
          unfold TokOk at hto
          rw [if_pos hd] at hto
          have hcode := code_lt hokt.1 hd
          have hs := shiftN_le (a := posT g1 0) (by omega)
          have hs2 := shiftN_ge (posT g1 0)
          refine ⟨pB true, ⟨t, rfl, by rw [hc]⟩, ?_⟩
          refine ⟨by kernel_rfl, ?_⟩
          refine ⟨_, ⟨by omega, getTok hg rfl⟩, ?_⟩
          refine fun x hx => ?_
          obtain rfl := n64 hx (by omega)
          refine ⟨_, ⟨posT g1 0, rfl, ⟨by omega, by omega⟩, rfl⟩, ?_⟩
          unfold shiftZ
          rw [Int.toNat_natCast]
          refine fun x hx => ?_
          obtain rfl := n64 hx (by omega)
          refine ⟨_, ⟨_, rfl, ⟨by omega, by omega⟩, rfl⟩, ?_⟩
          have es : (16 - (shiftN (posT g1 0) : Int)).toNat = 16 - shiftN (posT g1 0) := by omega
          rw [es]
          have ed : t.d - 1 = ((t.d.toNat - 1 : Nat) : Int) := by omega
          have em : (t.d - 1) * ((2 ^ (16 - shiftN (posT g1 0)) : Nat) : Int) = (((t.d.toNat - 1) * 2 ^ (16 - shiftN (posT g1 0)) : Nat) : Int) := by rw [ed, Int.natCast_mul]
          refine fun x hx => ?_
          rw [em] at hx
          have eb : tokB t (posT g1 0) = wordN ((t.d.toNat - 1) * 2 ^ (16 - shiftN (posT g1 0)) + t.l.toNat - 3) := by unfold tokB; rw [if_pos hd]
          generalize (t.d.toNat - 1) * 2 ^ (16 - shiftN (posT g1 0)) = p at *
          obtain rfl := n64 hx (by omega)
          refine ⟨_, ⟨by omega, getTok hg rfl⟩, ?_⟩
          refine fun x hx => ?_
          obtain rfl := n64 hx (by omega)
          refine fun x hx => ?_
          obtain rfl := n64 hx (by omega)
          refine ⟨_, ⟨_, 2, rfl, by omega, rfl⟩, ?_⟩
          refine ⟨⟨by simp [littleN]; omega, by simp [littleN]; omega⟩, ?_⟩
          refine ⟨_, ⟨by omega, getTok hg rfl⟩, ?_⟩
          refine ⟨_, ⟨t, rfl, rfl⟩, ?_⟩
          refine fun x hx => ?_
          obtain rfl := n64 hx (by omega)
          refine fun x hx => ?_
          obtain rfl := n64 hx (by omega)
          refine ⟨g2.length, by omega, g1 ++ [t], g2, (out ++ [byteN (signN 0 ((t :: g2).take 8))]) ++ tokB t (posT g1 0), ⟨by simp [hg], rfl, ?_, ?_⟩, ?_, ?_⟩
          · have := tokB_len t (posT g1 0)
            simp only [List.length_append, List.length_cons, List.length_nil] at this hout ⊢; omega
          · rw [hrun, eachT, if_pos hi8, posT_append, List.length_append]; simp [posT]
          · rw [eb, ← little2]
            simp only [List.map_append]
            rw [show (((p : Nat) : Int) + t.l - 3).toNat = p + t.l.toNat - 3 by omega]; rfl
          · rw [posT_append, List.length_append]; simp only [posT]
            rw [show ((posT g1 0 + t.made.toNat : Nat) : Int) = (posT g1 0 : Int) + t.made by omega]; rfl
        | false =>
          have hd : t.d = 0 := by unfold Tok.copy at hc; simpa using hc
          have hto := hokt.1
          unfold TokOk at hto
          rw [if_neg (by omega)] at hto
          refine ⟨pB false, ⟨t, rfl, by rw [hc]⟩, ?_⟩
          refine ⟨_, ⟨by omega, getTok hg rfl⟩, ?_⟩
          refine fun x hx => ?_
          rw [wrapU8] at hx
          refine ⟨rfl, ?_⟩
          refine ⟨⟨by simp; omega, by simp; omega⟩, ?_⟩
          refine ⟨_, ⟨by omega, getTok hg rfl⟩, ?_⟩
          refine ⟨_, ⟨t, rfl, rfl⟩, ?_⟩
          refine fun y hy => ?_
          obtain rfl := n64 hy (by omega)
          refine fun y hy => ?_
          obtain rfl := n64 hy (by omega)
          refine ⟨g2.length, by omega, g1 ++ [t], g2, (out ++ [byteN (signN 0 ((t :: g2).take 8))]) ++ tokB t (posT g1 0), ⟨by simp [hg], rfl, ?_, ?_⟩, ?_, ?_⟩
          · have := tokB_len t (posT g1 0)
            simp only [List.length_append, List.length_cons, List.length_nil] at this hout ⊢; omega
          · rw [hrun, eachT, if_pos hi8, posT_append, List.length_append]; simp [posT]
          · unfold tokB
            rw [if_neg (by omega), byteP_of (n := x) (by omega)]
            simp only [List.map_append]
            rw [show x.toNat = t.b.toNat by omega]; rfl
          · rw [posT_append, List.length_append]; simp only [posT]
            rw [show ((posT g1 0 + t.made.toNat : Nat) : Int) = (posT g1 0 : Int) + t.made by omega]; rfl
    · have hi8 : ¬ g1.length % 8 = 0 := by omega
      refine ⟨_, ⟨by omega, getTok hg rfl⟩, ?_⟩
      cases hc : t.copy with
      | true =>
        have hd : t.d ≠ 0 := by unfold Tok.copy at hc; simpa using hc
        have hto := hokt.1
        unfold TokOk at hto
        rw [if_pos hd] at hto
        have hcode := code_lt hokt.1 hd
        have hs := shiftN_le (a := posT g1 0) (by omega)
        have hs2 := shiftN_ge (posT g1 0)
        refine ⟨pB true, ⟨t, rfl, by rw [hc]⟩, ?_⟩
        refine ⟨by kernel_rfl, ?_⟩
        refine ⟨_, ⟨by omega, getTok hg rfl⟩, ?_⟩
        refine fun x hx => ?_
        obtain rfl := n64 hx (by omega)
        refine ⟨_, ⟨posT g1 0, rfl, ⟨by omega, by omega⟩, rfl⟩, ?_⟩
        unfold shiftZ
        rw [Int.toNat_natCast]
        refine fun x hx => ?_
        obtain rfl := n64 hx (by omega)
        refine ⟨_, ⟨_, rfl, ⟨by omega, by omega⟩, rfl⟩, ?_⟩
        have es : (16 - (shiftN (posT g1 0) : Int)).toNat = 16 - shiftN (posT g1 0) := by omega
        rw [es]
        have ed : t.d - 1 = ((t.d.toNat - 1 : Nat) : Int) := by omega
        have em : (t.d - 1) * ((2 ^ (16 - shiftN (posT g1 0)) : Nat) : Int) = (((t.d.toNat - 1) * 2 ^ (16 - shiftN (posT g1 0)) : Nat) : Int) := by rw [ed, Int.natCast_mul]
        refine fun x hx => ?_
        rw [em] at hx
        have eb : tokB t (posT g1 0) = wordN ((t.d.toNat - 1) * 2 ^ (16 - shiftN (posT g1 0)) + t.l.toNat - 3) := by unfold tokB; rw [if_pos hd]
        generalize (t.d.toNat - 1) * 2 ^ (16 - shiftN (posT g1 0)) = p at *
        obtain rfl := n64 hx (by omega)
        refine ⟨_, ⟨by omega, getTok hg rfl⟩, ?_⟩
        refine fun x hx => ?_
        obtain rfl := n64 hx (by omega)
        refine fun x hx => ?_
        obtain rfl := n64 hx (by omega)
        refine ⟨_, ⟨_, 2, rfl, by omega, rfl⟩, ?_⟩
        refine ⟨⟨by simp [littleN]; omega, by simp [littleN]; omega⟩, ?_⟩
        refine ⟨_, ⟨by omega, getTok hg rfl⟩, ?_⟩
        refine ⟨_, ⟨t, rfl, rfl⟩, ?_⟩
        refine fun x hx => ?_
        obtain rfl := n64 hx (by omega)
        refine fun x hx => ?_
        obtain rfl := n64 hx (by omega)
        refine ⟨g2.length, by omega, g1 ++ [t], g2, out ++ tokB t (posT g1 0), ⟨by simp [hg], rfl, ?_, ?_⟩, ?_, ?_⟩
        · have := tokB_len t (posT g1 0)
          simp only [List.length_append, List.length_cons, List.length_nil] at this hout ⊢; omega
        · rw [hrun, eachT, if_neg hi8, posT_append, List.length_append]; simp [posT]
        · rw [eb, ← little2]
          simp only [List.map_append]
          rw [show (((p : Nat) : Int) + t.l - 3).toNat = p + t.l.toNat - 3 by omega]; rfl
        · rw [posT_append, List.length_append]; simp only [posT]
          rw [show ((posT g1 0 + t.made.toNat : Nat) : Int) = (posT g1 0 : Int) + t.made by omega]; rfl
      | false =>
        have hd : t.d = 0 := by unfold Tok.copy at hc; simpa using hc
        have hto := hokt.1
        unfold TokOk at hto
        rw [if_neg (by omega)] at hto
        refine ⟨pB false, ⟨t, rfl, by rw [hc]⟩, ?_⟩
        refine ⟨_, ⟨by omega, getTok hg rfl⟩, ?_⟩
        refine fun x hx => ?_
        rw [wrapU8] at hx
        refine ⟨rfl, ?_⟩
        refine ⟨⟨by simp; omega, by simp; omega⟩, ?_⟩
        refine ⟨_, ⟨by omega, getTok hg rfl⟩, ?_⟩
        refine ⟨_, ⟨t, rfl, rfl⟩, ?_⟩
        refine fun y hy => ?_
        obtain rfl := n64 hy (by omega)
        refine fun y hy => ?_
        obtain rfl := n64 hy (by omega)
        refine ⟨g2.length, by omega, g1 ++ [t], g2, out ++ tokB t (posT g1 0), ⟨by simp [hg], rfl, ?_, ?_⟩, ?_, ?_⟩
        · have := tokB_len t (posT g1 0)
          simp only [List.length_append, List.length_cons, List.length_nil] at this hout ⊢; omega
        · rw [hrun, eachT, if_neg hi8, posT_append, List.length_append]; simp [posT]
        · unfold tokB
          rw [if_neg (by omega), byteP_of (n := x) (by omega)]
          simp only [List.map_append]
          rw [show x.toNat = t.b.toNat by omega]; rfl
        · rw [posT_append, List.length_append]; simp only [posT]
          rw [show ((posT g1 0 + t.made.toNat : Nat) : Int) = (posT g1 0 : Int) + t.made by omega]; rfl
  · have : g2 = [] := List.eq_nil_of_length_eq_zero (by omega)
    subst this
    rw [hrun] at hK
    refine ⟨out, rfl, ?_⟩
    refine ⟨.pv (.str _), rfl, trivial, ?_⟩
    simpa [eachT] using hK
end Go.Dv.Try
end
section
/-
  Contracts of chapter 6: the reference's encoding; the law of optimal tokens.
-/
namespace Go.Dv.Try
open Go Go.Dv

theorem body_ne (l : List Tok) (h : l ≠ []) : 0 < (bodyN l).length := by
  unfold bodyN
  cases l with
  | nil => exact absurd rfl h
  | cons t l => simp [bodyRun]

def S_refEncode : Spec := mkS true false fun ps K => ∃ d : List UInt8, ps = [.str d] ∧ (0 < d.length ∧ d.length ≤ 4096) ∧ K (.pv (.str (encN d)))
theorem meets_refEncode : Meets (ctxOf [(n_ref06_Optimal, S_optimal), (n_ref06_Body, S_refBody), (n_ref06_Head, fnSpec R_Head)]) s_ref06_Encode c_ref06_Encode r_ref06_Encode S_refEncode := by
  rintro _ K ⟨d, rfl, ⟨h0, h1⟩, hK⟩
  have hb := bodyRun_len (optN d).length (optN d) 0
  have hl := toksOk_len _ 0 (opt_toks d h1) (opt_ne d h0)
  have hb0 := body_ne _ (opt_ne d h0)
  have e : bodyRun (optN d).length (optN d) 0 = bodyN (optN d) := rfl
  rw [e] at hb
  refine ⟨d, rfl, h1, ?_⟩
  refine ⟨optN d, rfl, opt_toks d h1, ?_⟩
  refine fun b hb' => ?_
  unfold encN at hK
  rcases cmp hb' with ⟨rfl, h⟩ | ⟨rfl, h⟩
  · rw [if_pos (by omega)] at hK
    refine ⟨_, ⟨_, true, rfl, by omega, rfl⟩, ?_⟩
    rw [Int.toNat_natCast]
    refine ⟨by rw [headN_len]; omega, ?_⟩
    exact ⟨.pv (.str _), rfl, trivial, hK⟩
  · rw [if_neg (by omega)] at hK
    refine ⟨_, ⟨_, false, rfl, by omega, rfl⟩, ?_⟩
    rw [Int.toNat_natCast]
    refine ⟨by rw [headN_len]; omega, ?_⟩
    exact ⟨.pv (.str _), rfl, trivial, hK⟩

theorem meets_lawOptimal : Meets (ctxOf [(n_law06_awake, fnSpec R_true0), (n_law06_few, fnSpec R_law06_few), (n_compress_OptimalOf, S_OptimalOf), (n_compress_Encode, S_Encode), (n_ref06_DataErr, fnSpec R_ref06_DataErr), (n_ref06_Optimal, S_optimal), (n_ref06_SameTokens, fnSpec R_ref06_SameTokens), (n_ref06_Encode, S_refEncode)]) s_law06_CompressOptimal c_law06_CompressOptimal r_law06_CompressOptimal (fnSpec R_lawD) := by
  rintro _ K ⟨_, ⟨d, rfl, rfl⟩, hK⟩
  refine ⟨_, ⟨rfl, rfl⟩, ?_⟩
  refine fun b hb => ?_
  rcases cmp hb with ⟨rfl, h⟩ | ⟨rfl, h⟩
  · cases h
  refine ⟨_, ⟨d, rfl, rfl⟩, ?_⟩
  refine fun b hb => ?_
  rcases cmp hb with ⟨rfl, h⟩ | ⟨rfl, h⟩
  · exact ⟨.pv (pB true), rfl, trivial, hK⟩
  refine ⟨d, rfl, fun hn => ?_, fun hy => ?_⟩
  · refine ⟨d, rfl, fun _ => ?_, fun hy => absurd hy hn⟩
    refine ⟨_, ⟨d, rfl, rfl⟩, ?_⟩
    refine fun b hb => ?_
    rcases cmp hb with ⟨rfl, h⟩ | ⟨rfl, h⟩
    case inr => exact absurd hn h
    refine fun b hb => ?_
    rcases cmp hb with ⟨rfl, h⟩ | ⟨rfl, h⟩
    case inr => exact absurd rfl h
    refine fun _ => ?_
    refine fun b hb => ?_
    rcases cmp hb with ⟨rfl, h⟩ | ⟨rfl, h⟩
    case inr => exact absurd rfl h
    refine fun b hb => ?_
    rcases cmp hb with ⟨rfl, h⟩ | ⟨rfl, h⟩
    case inr => exact absurd rfl h
    refine fun b hb => ?_
    rcases cmp hb with ⟨rfl, h⟩ | ⟨rfl, h⟩
    case inr => exact absurd rfl h
    exact ⟨.pv (pB true), rfl, trivial, hK⟩
  · refine ⟨d, rfl, fun hn => absurd hy hn, fun _ => ?_⟩
    refine ⟨_, ⟨d, rfl, rfl⟩, ?_⟩
    refine fun b hb => ?_
    rcases cmp hb with ⟨rfl, h⟩ | ⟨rfl, h⟩
    case inl => exact absurd hy h
    have h0 := dErr_zero (n := d.length) (by omega)
    refine fun b hb => ?_
    rcases cmp hb with ⟨rfl, h⟩ | ⟨rfl, h⟩
    case inr => exact absurd rfl h
    refine ⟨d, rfl, h0.1, ?_⟩
    refine ⟨pB true, ⟨optN d, optN d, rfl, by simp⟩, ?_⟩
    refine fun b hb => ?_
    rcases cmp hb with ⟨rfl, h⟩ | ⟨rfl, h⟩
    case inr => exact absurd rfl h
    refine ⟨d, rfl, ⟨by omega, h0.1⟩, ?_⟩
    refine fun b hb => ?_
    rcases cmp hb with ⟨rfl, h⟩ | ⟨rfl, h⟩
    case inr => exact absurd rfl h
    exact ⟨.pv (pB true), rfl, trivial, hK⟩
end Go.Dv.Try
end
section
/-
  Contracts of chapter 6: costs checked; the law of costs.
-/
namespace Go.Dv.Try
open Go Go.Dv

def S_CopyInts : Spec := mkS true false fun ps K => ∃ l : List Int, ps = [.sl 1 (l.map pI)] ∧ l.length ≤ 1000000 ∧ K (.fresh 3 1 (l.map pI))
theorem meets_CopyInts : Meets (ctxOf []) s_base_CopyInts c_base_CopyInts r_base_CopyInts S_CopyInts := by
  rintro _ K ⟨l, rfl, hl, hK⟩
  refine ⟨rfl, ?_⟩
  refine ⟨⟨by simp; omega, by simp; omega⟩, ?_⟩
  exact ⟨.fresh _ _ _, ⟨rfl, rfl, rfl, rfl⟩, flat_ints _, hK⟩

theorem costs_last (d : List UInt8) : (costsN d)[d.length]? = some 0 := by
  have h : ((costsN d).drop d.length)[0]? = (costsN d)[d.length]? := by simp
  rw [← h]
  unfold costsN
  rw [costsT_drop d _ _ (Nat.le_refl _), Nat.sub_self]; rfl

theorem drop_one {c e : List Int} {n : Nat} (h : c.drop (n + 1) = e.drop (n + 1)) (h2 : c[n]? = e[n]?) (hl : c.length = e.length) : c.drop n = e.drop n := by
  by_cases hn : n < c.length
  · have hn2 : n < e.length := by omega
    rw [List.drop_eq_getElem_cons hn, List.drop_eq_getElem_cons hn2, h]
    rw [List.getElem?_eq_getElem hn, List.getElem?_eq_getElem hn2] at h2
    injection h2 with h2
    rw [h2]
  · rw [List.drop_eq_nil_of_le (by omega), List.drop_eq_nil_of_le (by omega)]

def CheckSaid (d : List UInt8) (c : List Int) (p e : Int) : Prop :=
  (dErr d.length ≠ 0 → p = 0 ∧ e = dErr d.length) ∧ (dErr d.length = 0 → (c.length ≠ d.length + 1 → p = 0 ∧ e = 10) ∧
    (c.length = d.length + 1 → (c = costsN d ∧ p = 0 ∧ e = 0) ∨ ∃ n : Nat, n ≤ d.length ∧ c.drop (n + 1) = (costsN d).drop (n + 1) ∧ c[n]? ≠ (costsN d)[n]? ∧ p = n ∧ e = 19))

def S_CheckCosts : Spec := mkS true false fun ps K => ∃ (d : List UInt8) (c : List Int), ps = [.str d, .sl 1 (c.map pI)] ∧ d.length ≤ 5000 ∧ ∀ p e, CheckSaid d c p e → K (.tup [.pv (pI p), .pv (pI e)])
theorem meets_CheckCosts : Meets (ctxOf [(n_compress_dataErr, fnSpec R_ref06_DataErr), (n_compress_unless, fnSpec R_compress_unless), (n_compress_first, fnSpec R_compress_first), (n_compress_data_cost, fnSpec R_cost)]) s_compress_CheckCosts c_compress_CheckCosts r_compress_CheckCosts S_CheckCosts := by
  rintro _ K ⟨d, c, rfl, hd, hK⟩
  refine ⟨_, ⟨d, rfl, rfl⟩, ?_⟩
  refine fun _ => ?_
  refine fun x hx => ?_
  obtain rfl := n64 hx (by omega)
  refine fun b hb => ?_
  rw [List.length_map] at hb
  refine ⟨_, ⟨b, 10, rfl, rfl⟩, ?_⟩
  refine ⟨rfl, ?_⟩
  refine ⟨_, ⟨[dErr d.length, unlessZ b 10], rfl, rfl⟩, ?_⟩
  refine fun q hq => ?_
  have hf : firstZ [dErr d.length, unlessZ b 10] = if dErr d.length = 0 then unlessZ b 10 else dErr d.length := by
    show (if dErr d.length = 0 then (if unlessZ b 10 = 0 then 0 else unlessZ b 10) else dErr d.length) = _
    by_cases h : unlessZ b 10 = 0
    · rw [if_pos h, h]
    · rw [if_neg h]
  rcases cmp hq with ⟨rfl, h⟩ | ⟨rfl, h⟩
  · refine ⟨[.pv (pI _), .pv (pI _)], ⟨rfl, rfl, trivial⟩, ⟨trivial, trivial, trivial⟩, hK _ _ ⟨fun h0 => ⟨rfl, ?_⟩, fun h0 => ⟨fun h1 => ⟨rfl, ?_⟩, fun h1 => ?_⟩⟩⟩
    · rw [hf, if_neg h0]
    · rw [hf, if_pos h0]
      rcases cmp hb with ⟨rfl, h2⟩ | ⟨rfl, h2⟩
      · omega
      · rfl
    · exfalso
      apply h
      rw [hf, if_pos h0]
      rcases cmp hb with ⟨rfl, h2⟩ | ⟨rfl, h2⟩
      · rfl
      · omega
  have h0 : dErr d.length = 0 := by
    refine Decidable.of_not_not fun h0 => h fun h1 => ?_
    rw [hf, if_neg h0] at h1
    exact h0 h1
  have hl : c.length = d.length + 1 := by
    rcases cmp hb with ⟨rfl, h2⟩ | ⟨rfl, h2⟩
    · omega
    · exfalso
      apply h
      intro h1
      rw [hf, if_pos h0] at h1
      cases h1
  have hd0 := dErr_zero (n := d.length) (by omega)
  have hel : (costsN d).length = d.length + 1 := costsT_len d _
  have get : ∀ {n : Nat} {v : Int}, c[n]? = some v → (c.map pI)[((n : Nat) : Int).toNat]? = some (pI v) := by
    intro n v h; rw [Int.toNat_natCast, List.getElem?_map, h]; rfl
  obtain ⟨z, hz⟩ : ∃ z, c[d.length]? = some z := by rw [List.getElem?_eq_getElem (by omega)]; exact ⟨_, rfl⟩
  have hlast : c.drop (d.length + 1) = (costsN d).drop (d.length + 1) := by rw [List.drop_eq_nil_of_le (by omega), List.drop_eq_nil_of_le (by omega)]
  refine ⟨_, ⟨by omega, get hz⟩, ?_⟩
  refine fun b hb2 => ?_
  rcases cmp hb2 with ⟨rfl, h2⟩ | ⟨rfl, h2⟩
  · refine ⟨[.pv (pI _), .pv (pI _)], ⟨rfl, rfl, trivial⟩, ⟨trivial, trivial, trivial⟩, hK _ _ ⟨fun h3 => absurd h0 h3, fun _ => ⟨fun h1 => absurd hl h1, fun _ => .inr ⟨d.length, Nat.le_refl _, hlast, ?_, rfl, rfl⟩⟩⟩⟩
    rw [hz, costs_last]
    intro e
    injection e with e
    exact h2 e
  have hz0 : z = 0 := Decidable.of_not_not h2
  subst hz0
  refine fun x hx => ?_
  obtain rfl := n64 hx (by omega)
  refine ⟨fun m env σ => ∃ n : Nat, (n = m ∧ n ≤ d.length ∧ c.drop n = (costsN d).drop n) ∧ σ = [] ∧ env = [(0, .pv (.str d)), (1, .pv (.sl 1 (c.map pI))), (7, .pv (pI ((n : Int) - 1)))], d.length, ⟨d.length, ⟨rfl, Nat.le_refl _, drop_one hlast (by rw [hz, costs_last]) (by omega)⟩, rfl, rfl⟩, ?_⟩
  rintro m env σ ⟨n, ⟨rfl, hnl, hdr⟩, rfl, rfl⟩
  refine fun b hb => ?_
  rcases cmp hb with ⟨rfl, h3⟩ | ⟨rfl, h3⟩
  · cases n with
    | zero => omega
    | succ n =>
    have en : ((n + 1 : Nat) : Int) - 1 = (n : Int) := by omega
    rw [en]
    obtain ⟨v, hv⟩ : ∃ v, c[n]? = some v := by rw [List.getElem?_eq_getElem (by omega)]; exact ⟨_, rfl⟩
    have hbd := costsT_bounds d d.length
    refine ⟨by kernel_rfl, ?_⟩
    refine ⟨_, ⟨by omega, get hv⟩, ?_⟩
    refine ⟨_, ⟨d, c, n, rfl, ⟨hd0.1, by omega, by omega, hl, ?_⟩, rfl⟩, ?_⟩
    · intro i hi x hx
      rw [Int.toNat_natCast] at hi
      have : (c.drop (n + 1))[i - (n + 1)]? = some x := by rw [List.getElem?_drop, ← hx]; congr 1; omega
      rw [hdr, List.getElem?_drop] at this
      have := hbd x (List.mem_of_getElem? this)
      omega
    rw [Int.toNat_natCast, hdr]
    have hat := costsN_at d n (by omega)
    refine fun b hb => ?_
    rcases cmp hb with ⟨rfl, h4⟩ | ⟨rfl, h4⟩
    · refine ⟨[.pv (pI _), .pv (pI _)], ⟨rfl, rfl, trivial⟩, ⟨trivial, trivial, trivial⟩, hK _ _ ⟨fun h3 => absurd h0 h3, fun _ => ⟨fun h1 => absurd hl h1, fun _ => .inr ⟨n, by omega, hdr, ?_, rfl, rfl⟩⟩⟩⟩
      rw [hv, hat]
      intro e
      injection e with e
      exact h4 e
    · refine fun x hx => ?_
      obtain rfl := n64 hx (by omega)
      refine ⟨n, by omega, n, ⟨rfl, by omega, drop_one hdr ?_ (by omega)⟩, rfl, rfl⟩
      rw [hv, hat, Decidable.of_not_not h4]
  · have : n = 0 := by omega
    subst this
    exact ⟨[.pv (pI _), .pv (pI _)], ⟨rfl, rfl, trivial⟩, ⟨trivial, trivial, trivial⟩, hK _ _ ⟨fun h3 => absurd h0 h3, fun _ => ⟨fun h1 => absurd hl h1, fun _ => .inl ⟨by simpa using hdr, rfl, rfl⟩⟩⟩⟩

def R_lawCosts (ps : List PV) (x : PV) : Prop := ∃ (d : List UInt8) (c : List Int), ps = [.str d, .sl 1 (c.map pI)] ∧ x = pB true
theorem meets_lawCosts : Meets (ctxOf [(n_law06_awake, fnSpec R_true0), (n_law06_few, fnSpec R_law06_few), (n_compress_CostsOf, S_CostsOf), (n_compress_CheckCosts, S_CheckCosts), (n_base_CopyInts, S_CopyInts), (n_ref06_DataErr, fnSpec R_ref06_DataErr), (n_base_Ints, fnSpec R_base_Ints), (n_ref06_Costs, S_costs)]) s_law06_CompressCosts c_law06_CompressCosts r_law06_CompressCosts (fnSpec R_lawCosts) := by
  rintro _ K ⟨_, ⟨d, c, rfl, rfl⟩, hK⟩
  refine ⟨_, ⟨rfl, rfl⟩, ?_⟩
  refine fun b hb => ?_
  rcases cmp hb with ⟨rfl, h⟩ | ⟨rfl, h⟩
  · cases h
  refine ⟨_, ⟨d, rfl, rfl⟩, ?_⟩
  refine fun b hb => ?_
  rcases cmp hb with ⟨rfl, hfew⟩ | ⟨rfl, hfew⟩
  · exact ⟨.pv (pB true), rfl, trivial, hK⟩
  have hd : d.length ≤ 5000 := by
    rw [Bool.not_eq_false, fewB, decide_eq_true_eq] at hfew; omega
  refine fun _ => ?_
  refine fun b hb => ?_
  rw [List.length_map] at hb
  rcases cmp hb with ⟨rfl, h⟩ | ⟨rfl, h⟩
  · exact ⟨.pv (pB true), rfl, trivial, hK⟩
  have hcl : c.length ≤ 400 := by omega
  refine ⟨d, rfl, fun hn => ?_, fun hy => ?_⟩
  · refine ⟨c, rfl, by omega, ?_⟩
    refine ⟨d, c, rfl, hd, fun p e hs => ?_⟩
    obtain ⟨rfl, rfl⟩ := hs.1 hn
    refine ⟨_, ⟨d, rfl, rfl⟩, ?_⟩
    refine fun b hb => ?_
    rcases cmp hb with ⟨rfl, h⟩ | ⟨rfl, h⟩
    case inr => exact absurd hn h
    refine fun b hb => ?_
    rcases cmp hb with ⟨rfl, h⟩ | ⟨rfl, h⟩
    case inr => exact absurd rfl h
    refine fun _ => ?_
    refine fun b hb => ?_
    rcases cmp hb with ⟨rfl, h⟩ | ⟨rfl, h⟩
    case inr => exact absurd rfl h
    refine fun b hb => ?_
    rcases cmp hb with ⟨rfl, h⟩ | ⟨rfl, h⟩
    case inr => exact absurd rfl h
    refine fun b hb => ?_
    rcases cmp hb with ⟨rfl, h⟩ | ⟨rfl, h⟩
    case inr => exact absurd rfl h
    exact ⟨.pv (pB true), rfl, trivial, hK⟩
  · refine ⟨c, rfl, by omega, ?_⟩
    refine ⟨d, c, rfl, hd, fun p e hs => ?_⟩
    have hs := hs.2 hy
    have h0 := dErr_zero (n := d.length) (by omega)
    have hel : (costsN d).length = d.length + 1 := costsT_len d _
    refine ⟨_, ⟨d, rfl, rfl⟩, ?_⟩
    refine fun b hb => ?_
    rcases cmp hb with ⟨rfl, h⟩ | ⟨rfl, h⟩
    case inl => exact absurd hy h
    refine fun b hb => ?_
    rcases cmp hb with ⟨rfl, h⟩ | ⟨rfl, h⟩
    case inl => exact absurd rfl h
    refine ⟨d, rfl, h0.1, ?_⟩
    refine ⟨pB true, ⟨costsN d, costsN d, rfl, by simp⟩, ?_⟩
    refine fun b hb => ?_
    rcases cmp hb with ⟨rfl, h⟩ | ⟨rfl, h⟩
    case inl => cases h
    refine fun _ => ?_
    refine fun x hx => ?_
    obtain rfl := n64 hx (by omega)
    refine fun b hb => ?_
    rw [List.length_map] at hb
    rcases cmp hb with ⟨rfl, h⟩ | ⟨rfl, h⟩
    · obtain ⟨rfl, rfl⟩ := hs.1 (by omega)
      refine fun b hb => ?_
      rcases cmp hb with ⟨rfl, h⟩ | ⟨rfl, h⟩
      case inr => exact absurd rfl h
      refine fun b hb => ?_
      rcases cmp hb with ⟨rfl, h⟩ | ⟨rfl, h⟩
      case inr => exact absurd rfl h
      exact ⟨.pv (pB true), rfl, trivial, hK⟩
    have hl : c.length = d.length + 1 := by omega
    have get : ∀ {l : List Int} {n : Nat} {v : Int}, l[n]? = some v → (l.map pI)[((n : Nat) : Int).toNat]? = some (pI v) := by
      intro l n v h; rw [Int.toNat_natCast, List.getElem?_map, h]; rfl
    refine ⟨fun m env σ => ∃ n : Nat, (n = m ∧ n ≤ d.length + 1 ∧ c.drop n = (costsN d).drop n) ∧ σ = [.row 3 1 true ((costsN d).map pI)] ∧ env = [(1, .pv (.sl 1 (c.map pI))), (5, .own 0), (7, .pv (pI p)), (8, .pv (pI e)), (10, .pv (pI ((n : Int) - 1)))], d.length + 1, ⟨d.length + 1, ⟨rfl, Nat.le_refl _, by rw [List.drop_eq_nil_of_le (by omega), List.drop_eq_nil_of_le (by omega)]⟩, rfl, ?_⟩, ?_⟩
    · rw [show ((d.length + 1 : Nat) : Int) - 1 = (d.length : Int) by omega]
    rintro m env σ ⟨n, ⟨rfl, hnl, hdr⟩, rfl, rfl⟩
    refine fun b hb => ?_
    rcases cmp hb with ⟨rfl, h3⟩ | ⟨rfl, h3⟩
    · cases n with
      | zero => omega
      | succ n =>
      have en : ((n + 1 : Nat) : Int) - 1 = (n : Int) := by omega
      rw [en]
      obtain ⟨v, hv⟩ : ∃ v, c[n]? = some v := by rw [List.getElem?_eq_getElem (by omega)]; exact ⟨_, rfl⟩
      obtain ⟨u, hu⟩ : ∃ u, (costsN d)[n]? = some u := by rw [List.getElem?_eq_getElem (by omega)]; exact ⟨_, rfl⟩
      refine ⟨by kernel_rfl, ?_⟩
      refine ⟨_, ⟨by omega, get hv⟩, ?_⟩
      refine ⟨⟨by omega, by rw [List.length_map]; omega⟩, _, get hu, ?_⟩
      refine fun b hb => ?_
      rcases cmp hb with ⟨rfl, h4⟩ | ⟨rfl, h4⟩
      · rcases hs.2 hl with ⟨hce, _⟩ | ⟨k, hk, hkd, hkn, rfl, rfl⟩
        · rw [← hce, hv] at hu; injection hu with hu; exact absurd hu h4
        have hkn : k = n := by
          rcases Nat.lt_trichotomy k n with hlt | rfl | hlt
          · exfalso
            have h5 : (c.drop (k + 1))[n - (k + 1)]? = ((costsN d).drop (k + 1))[n - (k + 1)]? := by rw [hkd]
            rw [List.getElem?_drop, List.getElem?_drop, show k + 1 + (n - (k + 1)) = n by omega, hv, hu] at h5
            injection h5 with h5
            exact h4 h5
          · rfl
          · exfalso
            have h5 : (c.drop (n + 1))[k - (n + 1)]? = ((costsN d).drop (n + 1))[k - (n + 1)]? := by rw [hdr]
            rw [List.getElem?_drop, List.getElem?_drop, show n + 1 + (k - (n + 1)) = k by omega] at h5
            exact hkn h5
        subst hkn
        refine fun b hb => ?_
        rcases cmp hb with ⟨rfl, h⟩ | ⟨rfl, h⟩
        case inr => exact absurd rfl h
        refine fun b hb => ?_
        rcases cmp hb with ⟨rfl, h⟩ | ⟨rfl, h⟩
        case inr => exact absurd rfl h
        exact ⟨.pv (pB true), rfl, trivial, hK⟩
      · refine fun x hx => ?_
        obtain rfl := n64 hx (by omega)
        refine ⟨n, by omega, n, ⟨rfl, by omega, drop_one hdr ?_ (by omega)⟩, rfl, rfl⟩
        rw [hv, hu, Decidable.of_not_not h4]
    · have : n = 0 := by omega
      subst this
      have hce : c = costsN d := by simpa using hdr
      rcases hs.2 hl with ⟨_, rfl, rfl⟩ | ⟨k, hk, hkd, hkn, rfl, rfl⟩
      · refine fun b hb => ?_
        rcases cmp hb with ⟨rfl, h⟩ | ⟨rfl, h⟩
        case inr => exact absurd rfl h
        refine fun b hb => ?_
        rcases cmp hb with ⟨rfl, h⟩ | ⟨rfl, h⟩
        case inr => exact absurd rfl h
        exact ⟨.pv (pB true), rfl, trivial, hK⟩
      · exact absurd (by rw [hce]) hkn
end Go.Dv.Try
end
section
/-
  What the laws' arguments of chapter 6 are.
-/
namespace Go.Dv.Try
open Go Go.Dv

theorem sig_ints {y : PV} (h : HasL [.sl false [.int .i64]] [y]) : ∃ c : List Int, y = .sl 1 (c.map pI) ∧ ∀ x ∈ c, (Lit.int .i64 x).wf = true := by
  simp only [HasL, HasC] at h
  obtain ⟨_, _, e, ⟨els, rfl, _, h⟩, rfl⟩ := h
  injection e with e _
  subst e
  obtain ⟨l, rfl, hl⟩ := list_of (g := pI) (q := fun x => (Lit.int .i64 x).wf = true) fun z hz => by
    obtain ⟨y, ys, e, ⟨n, rfl, hn⟩, rfl⟩ := (h z hz).2 trivial
    injection e with e _
    exact ⟨n, e, hn⟩
  exact ⟨l, rfl, hl⟩

theorem sig_toks {y : PV} (h : HasL [.sl true [.int .i64, .int .i64, .int .i64]] [y]) : ∃ l : List Tok, y = .sl 3 (l.map Tok.pv) ∧ ∀ t ∈ l, (Lit.int .i64 t.d).wf = true ∧ (Lit.int .i64 t.l).wf = true ∧ (Lit.int .i64 t.b).wf = true := by
  simp only [HasL, HasC] at h
  obtain ⟨_, _, e, ⟨els, rfl, _, h⟩, rfl⟩ := h
  injection e with e _
  subst e
  obtain ⟨l, rfl, hl⟩ := list_of (g := Tok.pv) (q := fun t => (Lit.int .i64 t.d).wf = true ∧ (Lit.int .i64 t.l).wf = true ∧ (Lit.int .i64 t.b).wf = true) fun z hz => by
    obtain ⟨zs, rfl, _, _, rfl, ⟨a, rfl, ha⟩, _, _, rfl, ⟨b, rfl, hb⟩, _, _, rfl, ⟨c, rfl, hc⟩, rfl⟩ := (h z hz).1 trivial
    exact ⟨⟨a, b, c⟩, rfl, ha, hb, hc⟩
  exact ⟨l, rfl, hl⟩

theorem sig_str {y : PV} (h : HasL [.str] [y]) : ∃ d : List UInt8, y = .str d ∧ d.length ≤ maxLen := by
  simp only [HasL, HasC] at h
  obtain ⟨_, _, e, ⟨l, rfl, hl⟩, rfl⟩ := h
  injection e with e _
  subst e
  exact ⟨l, rfl, hl⟩
theorem sig_int {k : IntKind} {y : PV} (h : HasL [.int k] [y]) : ∃ n : Int, y = .int k n ∧ (Lit.int k n).wf = true := by
  simp only [HasL, HasC] at h
  obtain ⟨_, _, e, ⟨l, rfl, hl⟩, rfl⟩ := h
  injection e with e _
  subst e
  exact ⟨l, rfl, hl⟩

theorem run_costs : ∀ xs, HasPs [(false, [.str]), (false, [.sl false [.int .i64]])] xs → (fnSpec R_lawCosts).run xs fun r => r = .pv (.bool true) := by
  intro xs h
  simp only [HasPs] at h
  obtain ⟨y, _, rfl, _, h1, z, _, rfl, _, h2, rfl⟩ := h
  obtain ⟨d, rfl, _⟩ := sig_str (h1 trivial)
  obtain ⟨c, rfl, _⟩ := sig_ints (h2 trivial)
  exact ⟨_, ⟨d, c, rfl, rfl⟩, rfl⟩
theorem run_d : ∀ xs, HasPs [(false, [.str])] xs → (fnSpec R_lawD).run xs fun r => r = .pv (.bool true) := by
  intro xs h
  simp only [HasPs] at h
  obtain ⟨y, _, rfl, _, h1, rfl⟩ := h
  obtain ⟨d, rfl, _⟩ := sig_str (h1 trivial)
  exact ⟨_, ⟨d, rfl, rfl⟩, rfl⟩
end Go.Dv.Try
end
