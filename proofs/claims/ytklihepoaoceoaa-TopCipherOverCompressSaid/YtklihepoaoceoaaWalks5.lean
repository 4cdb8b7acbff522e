/-
  A part of the proof: own texts, laid together by a tool of our own: T07h T07i T07j T07k C07.
-/
import Derived.Test.YtklihepoaoceoaaWalks4
import Derived.Test.YtklihepoaoceoaaWalks2
import Derived.Test.YtklihepoaoceoaaDv4
import Derived.KernelRfl
import Derived.Test.YtklihepoaoceoaaWalks3
import Derived.Test.YtklihepoaoceoaaWalks1
section
/-
  Chapter 7 on the top seat: files read and written.
-/
namespace Go.Dv.Try
open Go Go.Dv

/-- A part of a file. -/
def R_ReadAt (ps : List PV) (r : RV) : Prop := ∃ (f : Fl) (h : Hd) (key : List UInt8) (a c : Nat), ps = [f.pv, h.pv, pI a, pI c] ∧
  (f.ok ∧ h.ok ∧ key.length = 8 ∧ f.l[posF f.l h.u]? = some ⟨h.u, wrapL h key⟩ ∧ a ≤ f.s.length ∧ a % 16 = 0 ∧ c ≤ 8192) ∧ r = .tup [.pv (.str (cryptL key f.n a ((f.s.drop a).take c))), .pv (pI 0)]
theorem meets_ReadAt : Meets (ctxOf [(n_cipher_fileErr, fnSpec R_fileErr), (n_cipher_holderErr, fnSpec R_holdErr), (n_cipher_within, fnSpec R_compress_within), (n_cipher_unless, fnSpec R_compress_unless), (n_cipher_first, fnSpec R_compress_first), (n_cipher_keyFor, mkR true R_keyFor), (n_cipher_crypt, fnSpec R_crypt)]) s_cipher_ReadAt c_cipher_ReadAt r_cipher_ReadAt (mkR true R_ReadAt) := by
  rintro _ K ⟨_, ⟨⟨l, n, s⟩, ⟨u, k⟩, key, a, c, rfl, ⟨hf, hh, hk, hg, ha, ha16, hc⟩, rfl⟩, hK⟩
  have hf' := hf
  obtain ⟨h1, h2, h3⟩ := hf
  simp only at h1 h2 h3 hg ha hK
  have d1 : decide ((0 : Int) ≤ (a : Int) ∧ (a : Int) ≤ (s.length : Nat)) = true := decide_eq_true ⟨by omega, by omega⟩
  have d2 : decide ((0 : Int) ≤ (c : Int) ∧ (c : Int) ≤ 8192) = true := decide_eq_true ⟨by omega, by omega⟩
  have c1 : cut (Int.toNat a) s.length s = s.drop a := by unfold cut; rw [List.take_length]; rfl
  have c2 : ∀ m : Nat, m = min c (s.drop a).length → cut 0 m (s.drop a) = (s.drop a).take c := by
    rintro m rfl
    unfold cut
    rw [List.drop_zero, List.take_eq_take_iff]
    omega
  have hdl : (s.drop a).length = s.length - a := List.length_drop ..
  have he : cut 0 (min (c : Int) ((cut (a : Int).toNat s.length s).length : Nat)).toNat (cut (a : Int).toNat s.length s) = (s.drop a).take c := by
    rw [show cut (a : Int).toNat s.length s = s.drop a from c1]; exact c2 _ (by omega)
  (repeat' ((conv => whnf); first | refine ⟨_, ⟨⟨l, n, s⟩, rfl, hf', rfl⟩, ?_⟩ | refine ⟨_, ⟨⟨u, k⟩, rfl, hh, rfl⟩, ?_⟩ | refine ⟨pB true, ⟨(a : Int), 0, (s.length : Nat), rfl, congrArg pB d1.symm⟩, ?_⟩ | refine ⟨pB true, ⟨(c : Int), 0, 8192, rfl, congrArg pB d2.symm⟩, ?_⟩ | refine ⟨_, ⟨l, ⟨u, k⟩, key, rfl, ⟨h1, hh, hk, hg⟩, rfl⟩, ?_⟩ | refine ⟨_, ⟨key, n, a, (s.drop a).take c, congrArg (fun x => [PV.str key, pI n, pI a, PV.str x]) he, ⟨hk, by omega, by omega, by omega, by rw [List.length_take]; omega⟩, rfl⟩, ?_⟩ | ((fail_if_success (refine ⟨(?_ : Nat), (?_ : _ < _), ?_⟩)); (fail_if_success (refine ⟨(?_ : RV), ?_⟩)); (fail_if_success (refine ⟨(?_ : List RV), ?_⟩)); first | refine CMP_f (by omega) ?_ | refine CMP_f (by decide) ?_ | refine MIN ?_ | refine And.intro rfl ?_ | refine ⟨_, ⟨_, _, rfl, rfl⟩, ?_⟩ | refine And.intro (by omega) ?_ | refine And.intro (by (simp; omega)) ?_ | refine ⟨_, ⟨[_, _, _], rfl, rfl⟩, ?_⟩ | fail))) <;> try (conv => whnf)
  exact ⟨[.pv (.str _), .pv (pI 0)], ⟨rfl, rfl, trivial⟩, ⟨trivial, trivial, trivial⟩, hK⟩

/-- Bytes written behind a file's. -/
def written (key : List UInt8) (f : Fl) (d : List UInt8) : List UInt8 := if d = [] then f.s else cryptL key f.n 0 (cryptL key f.n 0 f.s ++ d)
def R_WriteAt (ps : List PV) (r : RV) : Prop := ∃ (f : Fl) (h : Hd) (key d : List UInt8), ps = [f.pv, h.pv, pI f.s.length, .str d] ∧
  (f.ok ∧ h.ok ∧ key.length = 8 ∧ f.l[posF f.l h.u]? = some ⟨h.u, wrapL h key⟩ ∧ f.s.length + d.length ≤ 8192) ∧ r = .tup [.agg [.fresh T_api_CipherField 2 (f.l.map Fd.pv), .pv (pI f.n), .pv (.str (written key f d))], .pv (pI 0)]
set_option maxHeartbeats 1000000 in
theorem meets_WriteAt : Meets (ctxOf [(n_cipher_fileErr, fnSpec R_fileErr), (n_cipher_holderErr, fnSpec R_holdErr), (n_cipher_within, fnSpec R_compress_within), (n_cipher_unless, fnSpec R_compress_unless), (n_cipher_first, fnSpec R_compress_first), (n_cipher_keyFor, mkR true R_keyFor),
    (n_slices_Clone_depository_api_CipherField_depository_api_CipherField, mkR true R_copyF), (n_cipher_crypt, fnSpec R_crypt), (n_strings_Repeat, fnSpec R_Repeat)]) s_cipher_WriteAt c_cipher_WriteAt r_cipher_WriteAt (mkR false R_WriteAt) := by
  rintro _ K ⟨_, ⟨⟨l, n, s⟩, ⟨u, k⟩, key, d, rfl, ⟨hf, hh, hk, hg, hsd⟩, rfl⟩, hK⟩
  have hf' := hf
  obtain ⟨h1, h2, h3⟩ := hf
  have h8 := h1.1
  simp only at h1 h2 h3 hg hsd hK h8
  have d1 : decide ((0 : Int) ≤ (s.length : Nat) ∧ ((s.length : Nat) : Int) ≤ 8192) = true := decide_eq_true ⟨by omega, by omega⟩
  have hlen : ((s.length : Nat) : Int) + (d.length : Nat) ≤ 8192 := by omega
  have hcl := crypt_len key n 0 s
  by_cases hd : d = []
  · have e : written key ⟨l, n, s⟩ d = s := if_pos hd
    rw [e] at hK
    subst hd
    (repeat' ((conv => whnf); first | refine ⟨_, ⟨⟨l, n, s⟩, rfl, hf', rfl⟩, ?_⟩ | refine ⟨_, ⟨⟨u, k⟩, rfl, hh, rfl⟩, ?_⟩ | refine ⟨pB true, ⟨((s.length : Nat) : Int), 0, 8192, rfl, congrArg pB d1.symm⟩, ?_⟩ | refine CMP_t rfl ?_ | refine ⟨_, ⟨l, ⟨u, k⟩, key, rfl, ⟨h1, hh, hk, hg⟩, rfl⟩, ?_⟩ | refine ⟨_, ⟨l, rfl, by omega, rfl⟩, ?_⟩ | ((fail_if_success (refine ⟨(?_ : Nat), (?_ : _ < _), ?_⟩)); (fail_if_success (refine ⟨(?_ : RV), ?_⟩)); (fail_if_success (refine ⟨(?_ : List RV), ?_⟩)); first | refine CMP_f (by omega) ?_ | refine CMP_f (by decide) ?_ | refine And.intro rfl ?_ | refine ⟨_, ⟨_, _, rfl, rfl⟩, ?_⟩ | refine ⟨_, ⟨[_, _, _], rfl, rfl⟩, ?_⟩ | fail))) <;> try (conv => whnf)
    exact ⟨[.agg [.fresh 41 2 _, .pv _, .pv _], .pv (pI 0)], ⟨⟨⟨rfl, rfl, rfl, rfl⟩, rfl, rfl, trivial⟩, rfl, trivial⟩, trivial, hK⟩
  · have e : written key ⟨l, n, s⟩ d = cryptL key n 0 (cryptL key n 0 s ++ d) := if_neg hd
    rw [e] at hK
    have hle : ((d.length : Nat) : Int) ≤ 8192 - (s.length : Nat) := by omega
    have he1 : max (((s.length : Nat) : Int) - ((cryptL key n (Int.toNat 0) s).length : Nat)) 0 = 0 := by rw [show (cryptL key n (Int.toNat 0) s).length = s.length from hcl]; omega
    have ec : cut 0 ((s.length : Nat) : Int).toNat (cryptL key n (Int.toNat 0) s ++ []) = cryptL key n 0 s := by
      unfold cut
      rw [List.append_nil, List.drop_zero, show ((s.length : Nat) : Int).toNat = (cryptL key n 0 s).length by rw [hcl]; rfl]
      exact List.take_length
    have em : (cryptL key n (Int.toNat 0) s ++ []).length = s.length := by rw [List.append_nil]; exact hcl
    have ez : cut (min (((s.length : Nat) : Int) + (d.length : Nat)) ((cryptL key n (Int.toNat 0) s ++ []).length : Nat)).toNat (cryptL key n (Int.toNat 0) s ++ []).length (cryptL key n (Int.toNat 0) s ++ []) = [] := by
      unfold cut
      refine List.drop_eq_nil_of_le ?_
      rw [List.length_take, em]
      omega
    have eA : (cut 0 ((s.length : Nat) : Int).toNat (cryptL key n (Int.toNat 0) s ++ []) ++ d) ++ cut (min (((s.length : Nat) : Int) + (d.length : Nat)) ((cryptL key n (Int.toNat 0) s ++ []).length : Nat)).toNat (cryptL key n (Int.toNat 0) s ++ []).length (cryptL key n (Int.toNat 0) s ++ []) = cryptL key n 0 s ++ d := by
      rw [ec, ez, List.append_nil]
    (repeat' ((conv => whnf); first | refine ⟨_, ⟨⟨l, n, s⟩, rfl, hf', rfl⟩, ?_⟩ | refine ⟨_, ⟨⟨u, k⟩, rfl, hh, rfl⟩, ?_⟩ | refine ⟨pB true, ⟨((s.length : Nat) : Int), 0, 8192, rfl, congrArg pB d1.symm⟩, ?_⟩ | refine CMP_f hd ?_ | refine N64 (n := 8192 - ((s.length : Nat) : Int)) (by omega) ?_ | refine CMP_t hle ?_ | refine ⟨_, ⟨l, ⟨u, k⟩, key, rfl, ⟨h1, hh, hk, hg⟩, rfl⟩, ?_⟩ | refine ⟨_, ⟨l, rfl, by omega, rfl⟩, ?_⟩ | refine ⟨_, ⟨key, n, 0, s, rfl, ⟨hk, by decide, by decide, by decide, by omega⟩, rfl⟩, ?_⟩ | refine N64 (n := ((s.length : Nat) : Int) - ((cryptL key n (Int.toNat 0) s).length : Nat)) (by rw [show (cryptL key n (Int.toNat 0) s).length = s.length from hcl]; omega) ?_ | refine ⟨.str [], ⟨[0], 0, congrArg (fun x => [PV.str [0], pI x]) he1, ⟨by decide, by decide, by decide⟩, rfl⟩, ?_⟩ | refine And.intro (show (((cut 0 ((s.length : Nat) : Int).toNat (cryptL key n (Int.toNat 0) s ++ [])).length + d.length : Nat) : Int) ≤ 9223372036854775807 by rw [ec, hcl]; omega) ?_ | refine N64 (n := ((s.length : Nat) : Int) + (d.length : Nat)) (by omega) ?_ | refine And.intro (show (((cut 0 ((s.length : Nat) : Int).toNat (cryptL key n (Int.toNat 0) s ++ []) ++ d).length + (cut (min (((s.length : Nat) : Int) + (d.length : Nat)) ((cryptL key n (Int.toNat 0) s ++ []).length : Nat)).toNat (cryptL key n (Int.toNat 0) s ++ []).length (cryptL key n (Int.toNat 0) s ++ [])).length : Nat) : Int) ≤ 9223372036854775807 by rw [ec, ez, List.length_append, hcl, List.length_nil]; omega) ?_ | refine ⟨_, ⟨key, n, 0, cryptL key n 0 s ++ d, congrArg (fun x => [PV.str key, pI n, pI 0, PV.str x]) eA, ⟨hk, by decide, by decide, by decide, by rw [List.length_append, hcl]; omega⟩, rfl⟩, ?_⟩ | ((fail_if_success (refine ⟨(?_ : Nat), (?_ : _ < _), ?_⟩)); (fail_if_success (refine ⟨(?_ : RV), ?_⟩)); (fail_if_success (refine ⟨(?_ : List RV), ?_⟩)); first | refine CMP_f (by omega) ?_ | refine CMP_t (by decide) ?_ | refine CMP_f (by decide) ?_ | refine MAX ?_ | refine MIN ?_ | refine And.intro rfl ?_ | refine ⟨_, ⟨_, _, rfl, rfl⟩, ?_⟩ | refine And.intro (by omega) ?_ | refine And.intro (by (simp; omega)) ?_ | refine ⟨_, ⟨[_, _, _], rfl, rfl⟩, ?_⟩ | fail))) <;> try (conv => whnf)
    exact ⟨[.agg [.fresh 41 2 _, .pv _, .pv _], .pv (pI 0)], ⟨⟨⟨rfl, rfl, rfl, rfl⟩, rfl, rfl, trivial⟩, rfl, trivial⟩, trivial, hK⟩

def R_Crypt (ps : List PV) (r : RV) : Prop := ∃ (k : List UInt8) (n : Int) (d : List UInt8), ps = [.str k, pI n, pI 0, .str d] ∧ (k.length = 8 ∧ (0 ≤ n ∧ n ≤ 65535) ∧ d.length ≤ 100000) ∧ r = .tup [.pv (.str (cryptL k n 0 d)), .pv (pI 0)]
theorem meets_Crypt : Meets (ctxOf [(n_cipher_isWord, fnSpec R_word07), (n_cipher_keyErr, fnSpec R_keyErr), (n_cipher_within, fnSpec R_compress_within), (n_cipher_unless, fnSpec R_compress_unless), (n_cipher_first, fnSpec R_compress_first), (n_cipher_crypt, fnSpec R_crypt)]) s_cipher_Crypt c_cipher_Crypt r_cipher_Crypt (mkR true R_Crypt) := by
  rintro _ K ⟨_, ⟨k, n, d, rfl, ⟨hk, hn, hd⟩, rfl⟩, hK⟩
  have d1 : decide (0 ≤ n ∧ n ≤ 65535) = true := decide_eq_true hn
  (repeat' ((conv => whnf); first | refine ⟨pI 0, ⟨k, rfl, by rw [hk]; rfl⟩, ?_⟩ | refine ⟨pB true, ⟨n, rfl, congrArg pB d1.symm⟩, ?_⟩ | refine ⟨pB true, ⟨0, 0, 1048576, rfl, rfl⟩, ?_⟩ | refine ⟨_, ⟨k, n, 0, d, rfl, ⟨hk, by decide, by decide, by decide, by omega⟩, rfl⟩, ?_⟩ | ((fail_if_success (refine ⟨(?_ : Nat), (?_ : _ < _), ?_⟩)); (fail_if_success (refine ⟨(?_ : RV), ?_⟩)); (fail_if_success (refine ⟨(?_ : List RV), ?_⟩)); first | refine N64 (by omega) ?_ | refine CMP_t (by omega) ?_ | refine CMP_t (by decide) ?_ | refine CMP_f (by decide) ?_ | refine And.intro rfl ?_ | refine ⟨_, ⟨_, _, rfl, rfl⟩, ?_⟩ | refine ⟨_, ⟨[_, _], rfl, rfl⟩, ?_⟩ | fail))) <;> try (conv => whnf)
  exact ⟨[.pv (.str _), .pv (pI 0)], ⟨rfl, rfl, trivial⟩, ⟨trivial, trivial, trivial⟩, hK⟩
end Go.Dv.Try
end
section
/-
  Chapter 7 on the top seat: the example.
-/
namespace Go.Dv.Try
open Go Go.Dv

def abc : List UInt8 := [97, 98, 99]
def u0 : List UInt8 := tab (fun j => dB abc (j % 3)) 4096
theorem u0_len : u0.length = 4096 := tab_len
theorem bits_tok (l : List Tok) : 9 * l.length ≤ bitsN l := by
  induction l with
  | nil => simp [bitsN]
  | cons t l ih => simp only [bitsN, List.length_cons]; split <;> omega
def tok0 : List Tok := [⟨0, 0, 97⟩, ⟨0, 0, 98⟩, ⟨0, 0, 99⟩, ⟨3, 4093, 0⟩]
theorem per_copy : ∀ (n k : Nat), 3 ≤ k → copyOut n 3 (tab (fun j => dB abc (j % 3)) k) = tab (fun j => dB abc (j % 3)) (k + n) := by
  intro n
  induction n with
  | zero => intro k _; rfl
  | succ n ih =>
    intro k hk
    have h1 : (tab (fun j => dB abc (j % 3)) k)[(tab (fun j => dB abc (j % 3)) k).length - 3]?.getD 0 = dB abc (k % 3) := by
      rw [tab_len, tab_get (by omega)]
      show dB abc ((k - 3) % 3) = _
      congr 1; omega
    rw [copyOut, h1, ← tab_succ, ih (k + 1) (by omega), show k + 1 + n = k + (n + 1) by omega]
theorem exp0 : expN tok0 = u0 := by
  have e : expN tok0 = expT ⟨3, 4093, 0⟩ [97, 98, 99] := rfl
  have e2 : expT ⟨3, 4093, 0⟩ [97, 98, 99] = copyOut 4093 3 [97, 98, 99] := by unfold expT; exact if_pos (by decide)
  rw [e, e2, show ([97, 98, 99] : List UInt8) = tab (fun j => dB abc (j % 3)) 3 from rfl, per_copy _ _ (Nat.le_refl 3)]
  rfl
theorem toks0 : ToksOk tok0 0 := by
  unfold tok0
  simp only [ToksOk, TokOk, Tok.made]
  decide
theorem pack0 : (packN u0).length = 256 := by
  have h1 : bitsN (optN u0) ≤ 44 := by
    rw [costs_opt, ← exp0]
    exact Int.le_trans (costs_min tok0 toks0) (by decide)
  have h2 := bits_tok (optN u0)
  have hb : (bodyN (optN u0)).length ≤ 12 := by
    have := bodyRun_len (optN u0).length (optN u0) 0
    unfold bodyN
    omega
  have hne : ¬ u0 = zerosL u0.length := by
    intro h
    have h3 : u0[0]? = some 97 := tab_get (by decide)
    have h4 : (zerosL 4096)[0]? = some 0 := by
      show (List.replicate 4096 0)[0]? = some 0
      rw [List.getElem?_replicate, if_pos (by decide)]
    rw [h, u0_len, h4] at h3
    exact absurd h3 (by decide)
  unfold packN
  rw [if_neg hne, if_pos ⟨by omega, by omega⟩, padN_len, List.length_append, headN_len]
  omega
/-- The key of the example. -/
def key0 : List UInt8 := [97, 98, 99, 100, 101, 102, 103, 104]
theorem ks0 : ks key0 3 0 ≠ 0 := by
  decide +kernel
theorem crypt0 {p : List UInt8} (h : 0 < p.length) : cryptL key0 3 0 p ≠ p := by
  intro e
  have h1 : (cryptL key0 3 0 p)[0]? = some (dB p 0 ^^^ ks key0 3 0) := tab_get h
  rw [e, List.getElem?_eq_getElem h] at h1
  injection h1 with h1
  have h2 : dB p 0 = p[0] := dB_get (List.getElem?_eq_getElem h)
  rw [h2] at h1
  refine ks0 ?_
  have h3 : p[0] ^^^ p[0] = p[0] ^^^ (p[0] ^^^ ks key0 3 0) := congrArg (p[0] ^^^ ·) h1
  rw [UInt8.xor_self, ← UInt8.xor_assoc, UInt8.xor_self, UInt8.zero_xor] at h3
  exact h3.symm
def R_Unit0 (ps : List PV) (x : PV) : Prop := ps = [.str abc, .nil 0] ∧ x = .str u0
set_option maxHeartbeats 1000000 in
theorem meets_Unit0 : Meets (ctxOf [(n_base_Zeros, fnSpec R_Zeros)]) s_law06_Unit c_law06_Unit r_law06_Unit (fnSpec R_Unit0) := by
  rintro _ K ⟨_, ⟨rfl, rfl⟩, hK⟩
  refine ⟨_, ⟨4096, rfl, by omega, rfl⟩, ?_⟩
  obtain ⟨N, hN⟩ : ∃ N : Nat, N = 4096 := ⟨_, rfl⟩
  have hu : u0 = tab (fun j => dB abc (j % 3)) N := by rw [hN]; rfl
  generalize u0 = W at hK hu
  have hz2 : zerosL (Int.toNat 4096) = tab (fun j => if j < 0 then dB abc (j % 3) else 0) N := by
    rw [hN]
    show List.replicate 4096 0 = _
    rw [tab_const]
    exact tab_ext fun j _ => (if_neg (Nat.not_lt_zero j)).symm
  rw [hz2]
  refine ⟨by rw [tab_len]; omega, ?_⟩
  (repeat' ((conv => whnf); first | refine CMP_t (by decide) ?_ | fail)) <;> try (conv => whnf)
  refine ⟨fun m env σ => ∃ n : Nat, (n + m = N) ∧ σ = [.row 5 1 false ((tab (fun j => if j < n then dB abc (j % 3) else 0) N).map byteP)] ∧ env = [(0, .pv (.str abc)), (1, .pv (.nil 0)), (5, .own 0), (6, .pv (pI n))], N, ⟨0, by omega, rfl, rfl⟩, ?_⟩
  rintro m env σ ⟨n, hn, rfl, rfl⟩
  by_cases hlt : n < N
  · have hb : abc[n % 3]? = some (dB abc (n % 3)) := by
      unfold dB
      have : n % 3 < abc.length := Nat.mod_lt _ (by decide)
      rw [List.getD_eq_getElem?_getD, List.getElem?_eq_getElem this]; rfl
    have hset : tab (fun j => if j = n then dB abc (n % 3) else if j < n then dB abc (j % 3) else 0) N = tab (fun j => if j < n + 1 then dB abc (j % 3) else 0) N := by
      refine tab_ext fun j hj => ?_
      by_cases h1 : j = n
      · subst h1; rw [if_pos rfl, if_pos (by omega)]
      · rw [if_neg h1]
        by_cases h2 : j < n
        · rw [if_pos h2, if_pos (by omega)]
        · rw [if_neg h2, if_neg (by omega)]
    have hst : ((tab (fun j => if j < n then dB abc (j % 3) else 0) N).map byteP).set n (byteP (dB abc (n % 3))) = (tab (fun j => if j < n + 1 then dB abc (j % 3) else 0) N).map byteP := by
      rw [set_map, tab_set, hset]
    (repeat' ((conv => whnf); first | refine CMP_t (by omega) ?_ | (show _ ≤ (9223372036854775807 : Nat) → _; first | rw [List.length_map, tab_len] | rw [List.length_map] | rw [List.length_replicate] | skip; intro _) | fail)) <;> try (conv => whnf)
    refine ⟨by decide, fun r hr => ?_⟩
    obtain rfl : r = ((n % 3 : Nat) : Int) := by
      rw [hr, Int.tmod_eq_emod_of_nonneg (by omega)]
      show (n : Int) % 3 = _
      omega
    (repeat' ((conv => whnf); first | refine ⟨_, ⟨by omega, by rw [Int.toNat_natCast]; exact hb⟩, ?_⟩ | refine N64 (by omega) ?_ | refine GETt (by omega) ?_ | refine OWNt (by omega) ?_ | refine And.intro rfl ?_ | fail)) <;> try (conv => whnf)
    exact ⟨m - 1, by omega, n + 1, by omega, congrArg (fun l => [Blk.row 5 1 false l]) hst, rfl⟩
  · obtain rfl : n = N := by omega
    obtain ⟨U, hU⟩ : ∃ U, U = tab (fun j => if j < n then dB abc (j % 3) else 0) n := ⟨_, rfl⟩
    have hK' : K (.pv (.str U)) := by
      rw [hU, show tab (fun j => if j < n then dB abc (j % 3) else 0) n = W by rw [hu]; exact tab_ext fun j hj => if_pos hj]
      exact hK
    have hUl : U.length = n := by rw [hU, tab_len]
    rw [← hU]
    clear hK hu hz2 hU
    (repeat' ((conv => whnf); first | refine CMP_f (by omega) ?_ | (show _ ≤ (9223372036854775807 : Nat) → _; first | rw [List.length_map, tab_len] | rw [List.length_map] | rw [List.length_replicate] | skip; intro _) | fail)) <;> try (conv => whnf)
    refine ⟨fun m env σ => σ = [.row 5 1 false (U.map byteP)] ∧ env = [(1, .pv (.nil 0)), (5, .own 0), (7, .pv (pI 0))], 0, ⟨rfl, rfl⟩, ?_⟩
    rintro m env σ ⟨rfl, rfl⟩
    (repeat' ((conv => whnf); first | refine CMP_f (by decide) ?_ | (show _ ≤ (9223372036854775807 : Nat) → _; first | rw [List.length_map, tab_len] | rw [List.length_map] | rw [List.length_replicate] | skip; intro _) | refine BTS ?_ | fail)) <;> try (conv => whnf)
    exact ⟨.pv (.str U), rfl, trivial, hK'⟩
def R_shown (ps : List PV) (x : PV) : Prop := ps = [] ∧ x = pB true
theorem meets_cipherShown : Meets (ctxOf [(n_law06_Unit, fnSpec R_Unit0), (n_compress_PackUnit, S_PackUnit), (n_cipher_Crypt, mkR true R_Crypt), (n_compress_UnpackUnit, S_unpack)]) s_top_cipherShown c_top_cipherShown r_top_cipherShown (fnSpec R_shown) := by
  rintro _ K ⟨_, ⟨rfl, rfl⟩, hK⟩
  have hul := u0_len
  have hp := pack0
  have hup := (unpack_pack hul).1
  refine ⟨_, ⟨rfl, rfl⟩, ?_⟩
  generalize u0 = u at *
  have hc := crypt0 (p := packN u) (by omega)
  have hcl := crypt_len key0 3 0 (packN u)
  have hcc := crypt_crypt key0 3 0 (packN u)
  have hR1 : (unpackN (packN u)).1 = u := by rw [hup]
  have hR2 : (unpackN (packN u)).2 = 0 := by rw [hup]
  have hp' : (((packN u).length : Nat) : Int) = 256 := by omega
  (repeat' ((conv => whnf); first | refine ⟨u, rfl, by omega, fun h => absurd hul h, fun _ => ?_⟩ | refine ⟨_, ⟨key0, 3, packN u, rfl, ⟨by decide, by decide, by omega⟩, rfl⟩, ?_⟩ | refine ⟨_, ⟨key0, 3, cryptL key0 3 0 (packN u), rfl, ⟨by decide, by decide, by omega⟩, rfl⟩, ?_⟩ | refine ⟨packN u, congrArg (fun x => [PV.str x]) hcc, by omega, ?_⟩ | refine CMP_t hp' ?_ | refine CMP_t hc ?_ | refine CMP_t hR2 ?_ | refine CMP_t hR1 ?_ | refine CMP_t (by omega) ?_ | fail)) <;> try (conv => whnf)
  exact ⟨.pv (pB true), rfl, trivial, hK⟩
end Go.Dv.Try
end
section
/-
  Encrypted clusters of compressed units: what the law's steps come to.
-/
namespace Go.Dv.Try
open Go Go.Dv

def F1 (a : Hd) (key : List UInt8) : List Fd := [⟨a.u, wrapL a key⟩]
def F2 (a b : Hd) (key : List UInt8) : List Fd := [⟨a.u, wrapL a key⟩, ⟨b.u, wrapL b key⟩]
theorem F1_ok {a : Hd} {key : List UInt8} (ha : a.ok) (hk : key.length = 8) : FOk (F1 a key) := by
  refine ⟨⟨by simp [F1], by simp [F1]⟩, fun i f hf => ?_, fun i f g _ hg => ?_⟩
  · rcases i with _ | i
    · cases hf; exact ⟨ha.1, ha.2.1, wrap_len a hk⟩
    · simp [F1] at hf
  · simp [F1] at hg
theorem F2_ok {a b : Hd} {key : List UInt8} (ha : a.ok) (hb : b.ok) (hk : key.length = 8) (h : a.u < b.u) : FOk (F2 a b key) := by
  refine ⟨⟨by simp [F2], by simp [F2]⟩, fun i f hf => ?_, fun i f g hf hg => ?_⟩
  · rcases i with _ | _ | i
    · cases hf; exact ⟨ha.1, ha.2.1, wrap_len a hk⟩
    · cases hf; exact ⟨hb.1, hb.2.1, wrap_len b hk⟩
    · simp [F2] at hf
  · rcases i with _ | i
    · cases hf; cases hg; exact h
    · simp [F2] at hg
theorem pos11 (a : Hd) (key : List UInt8) : posF (F1 a key) a.u = 0 := by simp [posF, F1, List.takeWhile]
theorem pos12 {a b : Hd} (key : List UInt8) (h : a.u < b.u) : posF (F1 a key) b.u = 1 := by simp [posF, F1, List.takeWhile, h]
theorem pos21 (a b : Hd) (key : List UInt8) : posF (F2 a b key) a.u = 0 := by simp [posF, F2, List.takeWhile]
theorem pos22 {a b : Hd} (key : List UInt8) (h : a.u < b.u) : posF (F2 a b key) b.u = 1 := by simp [posF, F2, List.takeWhile, h]
/-- A part, decrypted. -/
theorem back_part (k : List UInt8) (n : Int) (P : List UInt8) (a c : Nat) : cryptL k n a (((cryptL k n 0 P).drop a).take c) = (P.drop a).take c := by
  have h := crypt_part k n 0 a P
  rw [Nat.zero_add] at h
  rw [← h, ← crypt_take, crypt_crypt]
theorem written0 (k : List UInt8) (l : List Fd) (n : Int) (P : List UInt8) : written k ⟨l, n, []⟩ P = cryptL k n 0 P := by
  unfold written
  split
  · rename_i h; subst h; rfl
  · rfl
theorem written1 (k : List UInt8) (l : List Fd) (n : Int) (P d : List UInt8) (hd : d ≠ []) : written k ⟨l, n, cryptL k n 0 P⟩ d = cryptL k n 0 (P ++ d) := by
  unfold written
  rw [if_neg hd]
  show cryptL k n 0 (cryptL k n 0 (cryptL k n 0 P) ++ d) = _
  rw [crypt_crypt]
theorem enc_three {d : List UInt8} (h0 : 0 < d.length) : 3 ≤ (encN d).length := by
  have hb := body_ne _ (opt_ne d h0)
  unfold encN
  split
  · rw [List.length_append, headN_len]; omega
  · rw [List.length_append, headN_len]; omega
def pairPV (a b : Hd) (key : List UInt8) (n : Int) : PV := .agg [pI a.u, .str a.k, pI b.u, .str b.k, .str key, pI n]
def R_lawTop (ps : List PV) (x : PV) : Prop := ∃ (p : List UInt8) (c : List Int) (a b : Hd) (key : List UInt8) (n : Int), ps = [.str p, .sl 1 (c.map pU), pairPV a b key n] ∧ (∀ n ∈ c, 0 ≤ n ∧ n < 65536) ∧ x = pB true
abbrev ctxTop : List (Nat × Spec) := [(n_top_cipherShown, fnSpec R_shown), (n_ref07_HolderErr, fnSpec R_HolderErr), (n_ref07_KeyErr, fnSpec R_keyErr), (n_ref07_IsWord, fnB Q_word07), (n_law06_Unit, S_Unit), (n_compress_PackUnit, S_PackUnit), (n_cipher_Wrap, S_Wrap), (n_cipher_Added, mkR true R_Added), (n_ref07_CopyFields, mkR true R_copyF), (n_cipher_WriteAt, mkR false R_WriteAt), (n_cipher_ReadAt, mkR true R_ReadAt), (n_ref07_Copy, mkR false R_Copy), (n_compress_UnpackUnit, S_unpack), (n_compress_Encode, S_Encode), (n_compress_Decode, S_decode), (n_base_Within, fnSpec R_compress_within)]
set_option maxHeartbeats 4000000 in
theorem meets_lawTop : Meets (ctxOf ctxTop) s_top_TopCipherOverCompress c_top_TopCipherOverCompress r_top_TopCipherOverCompress (fnSpec R_lawTop) := by
  rintro _ K ⟨_, ⟨p, c, ⟨u1, k1⟩, ⟨u2, k2⟩, key, n, rfl, hc, rfl⟩, hK⟩
  have fin : ∀ σ : Sto, True := fun _ => trivial
  by_cases ha : holdE ⟨u1, k1⟩ = 0
  case neg =>
    (repeat' ((conv => whnf); first | refine ⟨_, ⟨rfl, rfl⟩, ?_⟩ | refine ⟨_, ⟨⟨u1, k1⟩, rfl, rfl⟩, ?_⟩ | refine CMP_t ha ?_ | refine NOT_t ?_ | refine And.intro rfl ?_ | fail)) <;> try (conv => whnf)
    exact ⟨.pv (pB true), rfl, trivial, hK⟩
  by_cases hb : holdE ⟨u2, k2⟩ = 0
  case neg =>
    (repeat' ((conv => whnf); first | refine ⟨_, ⟨rfl, rfl⟩, ?_⟩ | refine ⟨_, ⟨⟨u1, k1⟩, rfl, rfl⟩, ?_⟩ | refine CMP_f (fun h => h ha) ?_ | refine ⟨_, ⟨⟨u2, k2⟩, rfl, rfl⟩, ?_⟩ | refine CMP_t hb ?_ | refine NOT_t ?_ | refine And.intro rfl ?_ | fail)) <;> try (conv => whnf)
    exact ⟨.pv (pB true), rfl, trivial, hK⟩
  by_cases hu : u1 < u2
  case neg =>
    (repeat' ((conv => whnf); first | refine ⟨_, ⟨rfl, rfl⟩, ?_⟩ | refine ⟨_, ⟨⟨u1, k1⟩, rfl, rfl⟩, ?_⟩ | refine CMP_f (fun h => h ha) ?_ | refine ⟨_, ⟨⟨u2, k2⟩, rfl, rfl⟩, ?_⟩ | refine CMP_f (fun h => h hb) ?_ | refine CMP_t (show u2 ≤ u1 by omega) ?_ | refine NOT_t ?_ | refine And.intro rfl ?_ | fail)) <;> try (conv => whnf)
    exact ⟨.pv (pB true), rfl, trivial, hK⟩
  by_cases hk : key.length = 8
  case neg =>
    have hke : keyE key.length ≠ 0 := by unfold keyE; rw [if_neg hk]; decide
    (repeat' ((conv => whnf); first | refine ⟨_, ⟨rfl, rfl⟩, ?_⟩ | refine ⟨_, ⟨⟨u1, k1⟩, rfl, rfl⟩, ?_⟩ | refine CMP_f (fun h => h ha) ?_ | refine ⟨_, ⟨⟨u2, k2⟩, rfl, rfl⟩, ?_⟩ | refine CMP_f (fun h => h hb) ?_ | refine CMP_f (show ¬u2 ≤ u1 by omega) ?_ | refine ⟨_, ⟨key, rfl, rfl⟩, ?_⟩ | refine CMP_t hke ?_ | refine NOT_t ?_ | refine And.intro rfl ?_ | fail)) <;> try (conv => whnf)
    exact ⟨.pv (pB true), rfl, trivial, hK⟩
  have hke : keyE key.length = 0 := by rw [hk]; rfl
  by_cases hn : 0 ≤ n ∧ n ≤ 65535
  case neg =>
    (repeat' ((conv => whnf); first | refine ⟨_, ⟨rfl, rfl⟩, ?_⟩ | refine ⟨_, ⟨⟨u1, k1⟩, rfl, rfl⟩, ?_⟩ | refine CMP_f (fun h => h ha) ?_ | refine ⟨_, ⟨⟨u2, k2⟩, rfl, rfl⟩, ?_⟩ | refine CMP_f (fun h => h hb) ?_ | refine CMP_f (show ¬u2 ≤ u1 by omega) ?_ | refine ⟨_, ⟨key, rfl, rfl⟩, ?_⟩ | refine CMP_f (fun h => h hke) ?_ | refine CMP_f hn ?_ | ((fail_if_success (refine ⟨(?_ : Nat), (?_ : _ < _), ?_⟩)); (fail_if_success (refine ⟨(?_ : RV), ?_⟩)); (fail_if_success (refine ⟨(?_ : List RV), ?_⟩)); first | refine NOT_t ?_ | refine NOT_f ?_ | refine And.intro rfl ?_ | refine ⟨_, ⟨_, rfl, rfl⟩, ?_⟩ | fail))) <;> try (conv => whnf)
    exact ⟨.pv (pB true), rfl, trivial, hK⟩
  have oa := holdE_ok ha
  have ob := holdE_ok hb
  have hf1 := F1_ok oa hk
  have hf2 := F2_ok oa ob hk hu
  have q11 := pos11 ⟨u1, k1⟩ key
  have q12 := @pos12 ⟨u1, k1⟩ ⟨u2, k2⟩ key hu
  have q21 := pos21 ⟨u1, k1⟩ ⟨u2, k2⟩ key
  have q22 := @pos22 ⟨u1, k1⟩ ⟨u2, k2⟩ key hu
  have g11 : (F1 ⟨u1, k1⟩ key)[posF (F1 ⟨u1, k1⟩ key) u1]? = some ⟨u1, wrapL ⟨u1, k1⟩ key⟩ := by rw [q11]; rfl
  have g21 : (F2 ⟨u1, k1⟩ ⟨u2, k2⟩ key)[posF (F2 ⟨u1, k1⟩ ⟨u2, k2⟩ key) u1]? = some ⟨u1, wrapL ⟨u1, k1⟩ key⟩ := by rw [q21]; rfl
  have g22 : (F2 ⟨u1, k1⟩ ⟨u2, k2⟩ key)[posF (F2 ⟨u1, k1⟩ ⟨u2, k2⟩ key) u2]? = some ⟨u2, wrapL ⟨u2, k2⟩ key⟩ := by rw [q22]; rfl
  (repeat' ((conv => whnf); first | refine ⟨_, ⟨rfl, rfl⟩, ?_⟩ | refine ⟨_, ⟨⟨u1, k1⟩, rfl, rfl⟩, ?_⟩ | refine CMP_f (fun h => h ha) ?_ | refine ⟨_, ⟨⟨u2, k2⟩, rfl, rfl⟩, ?_⟩ | refine CMP_f (fun h => h hb) ?_ | refine CMP_f (show ¬u2 ≤ u1 by omega) ?_ | refine ⟨_, ⟨key, rfl, rfl⟩, ?_⟩ | refine CMP_f (fun h => h hke) ?_ | refine CMP_t hn ?_ | refine ⟨p, c, rfl, hc, fun u hul => ?_⟩ | refine ⟨_, rfl, by omega, fun h => absurd (by assumption) h, fun _ => ?_⟩ | refine ⟨⟨u1, k1⟩, key, rfl, ⟨oa, hk⟩, ?_⟩ | refine ⟨_, ⟨F1 ⟨u1, k1⟩ key, ⟨u1, k1⟩, ⟨u2, k2⟩, key, rfl, ⟨hf1, oa, ob, hk, g11, by show 1 < 8; omega, q12⟩, rfl⟩, ?_⟩ | refine ⟨_, ⟨F2 ⟨u1, k1⟩ ⟨u2, k2⟩ key, rfl, by show 2 ≤ 8; omega, rfl⟩, ?_⟩ | ((fail_if_success (refine ⟨(?_ : Nat), (?_ : _ < _), ?_⟩)); (fail_if_success (refine ⟨(?_ : RV), ?_⟩)); (fail_if_success (refine ⟨(?_ : List RV), ?_⟩)); first | refine NOT_t ?_ | refine And.intro rfl ?_ | refine ⟨_, ⟨_, rfl, rfl⟩, ?_⟩ | fail))) <;> try (conv => whnf)
  obtain ⟨hup, hP1, hP2, _⟩ := unpack_pack hul
  generalize hPP : packN u = P at *
  have hup1 : (unpackN P).1 = u := by rw [hup]
  have hup2 : (unpackN P).2 = 0 := by rw [hup]
  have hS := crypt_len key n 0 P
  have hw0 := written0 key (F2 ⟨u1, k1⟩ ⟨u2, k2⟩ key) n P
  have hSl : (((cryptL key n 0 P).length : Nat) : Int) = (P.length : Nat) := by omega
  refine ⟨.tup [.agg [.fresh T_api_CipherField 2 ((F2 ⟨u1, k1⟩ ⟨u2, k2⟩ key).map Fd.pv), .pv (pI n), .pv (.str (cryptL key n 0 P))], .pv (pI 0)], ⟨⟨F2 ⟨u1, k1⟩ ⟨u2, k2⟩ key, n, []⟩, ⟨u2, k2⟩, key, P, rfl, ⟨⟨hf2, hn, by show 0 ≤ 8192; omega⟩, ob, hk, g22, by show 0 + P.length ≤ 8192; omega⟩, by rw [hw0]⟩, ?_⟩
  (repeat' ((conv => whnf); first | refine CMP_f (fun h => h hSl) ?_ | refine CMP_f (by omega) ?_ | refine And.intro rfl ?_ | fail)) <;> try (conv => whnf)
  refine ⟨fun m env σ => ∃ (i : Nat) (B : Blk), (i + m = 2) ∧ ((i = 0 ∧ B = .row 41 2 true ((F2 ⟨u1, k1⟩ ⟨u2, k2⟩ key).map Fd.pv)) ∨ (0 < i ∧ B = .fz (.sl 2 ((F2 ⟨u1, k1⟩ ⟨u2, k2⟩ key).map Fd.pv)))) ∧ σ = [.box 25 [.pv (pI u1), .pv (.str k1), .pv (pI u2), .pv (.str k2)], .box 43 [.own 2, .pv (pI n), .pv (.str (cryptL key n 0 P))], B] ∧ env = [(7, .ref 0 0 0), (8, .pv (.str u)), (9, .pv (.str P)), (15, .ref 1 0 0), (17, .pv (pI i))], 2, ⟨0, _, by omega, .inl ⟨rfl, rfl⟩, rfl, rfl⟩, ?_⟩
  rintro m env σ ⟨i, B, hi, hB, rfl, rfl⟩
  have hi3 : i = 0 ∨ i = 1 ∨ i = 2 := by omega
  rcases hi3 with rfl | rfl | rfl
  · obtain rfl : B = .row 41 2 true ((F2 ⟨u1, k1⟩ ⟨u2, k2⟩ key).map Fd.pv) := by rcases hB with ⟨_, h⟩ | ⟨h, _⟩; exact h; exact absurd h (by decide)
    (repeat' ((conv => whnf); first | refine CMP_t (by omega) ?_ | fail)) <;> try (conv => whnf)
    refine ⟨fun m' env σ => ∃ (j : Nat) (B : Blk), (256 * j + m' = P.length) ∧ (B = .row 41 2 true ((F2 ⟨u1, k1⟩ ⟨u2, k2⟩ key).map Fd.pv) ∨ B = .fz (.sl 2 ((F2 ⟨u1, k1⟩ ⟨u2, k2⟩ key).map Fd.pv))) ∧ σ = [.box 25 [.pv (pI u1), .pv (.str k1), .pv (pI u2), .pv (.str k2)], .box 43 [.own 2, .pv (pI n), .pv (.str (cryptL key n 0 P))], B] ∧ env = [(7, .ref 0 0 0), (8, .pv (.str u)), (9, .pv (.str P)), (15, .ref 1 0 0), (17, .pv (pI (0 : Nat))), (18, .pv (.str (P.take (256 * j)))), (19, .pv (pI (256 * j : Nat)))], P.length, ⟨0, _, by omega, .inl rfl, rfl, rfl⟩, ?_⟩
    clear hB
    rintro m' env σ ⟨j, B, hj, hB, rfl, rfl⟩
    by_cases hlt : 256 * j < P.length
    · have hj1 : 256 * j + 256 ≤ P.length := by omega
      have e1 : P.take (256 * j) ++ (P.drop (256 * j)).take 256 = P.take (256 * (j + 1)) := by rw [show 256 * (j + 1) = 256 * j + 256 by omega, List.take_add]
      have e3 : ((256 * j : Nat) : Int) + 256 = ((256 * (j + 1) : Nat) : Int) := by omega
      rcases hB with rfl | rfl
      · (repeat' ((conv => whnf); first | refine ⟨_, ⟨⟨F2 ⟨u1, k1⟩ ⟨u2, k2⟩ key, n, cryptL key n 0 P⟩, rfl, by show 2 ≤ 8; omega, rfl⟩, ?_⟩ | refine ⟨.tup [.pv (.str ((P.drop (256 * j)).take 256)), .pv (pI 0)], ⟨⟨F2 ⟨u1, k1⟩ ⟨u2, k2⟩ key, n, cryptL key n 0 P⟩, ⟨u1, k1⟩, key, 256 * j, 256, rfl, ⟨⟨hf2, hn, by show (cryptL key n 0 P).length ≤ 8192; omega⟩, oa, hk, g21, by show _ ≤ (cryptL key n 0 P).length; omega, by omega, by omega⟩, by rw [← back_part key n P (256 * j) 256]⟩, ?_⟩ | refine And.intro (by rw [List.length_take, List.length_take]; omega) ?_ | refine N64 (by omega) ?_ | refine CMP_t (by omega) ?_ | refine CMP_f (by omega) ?_ | refine And.intro rfl ?_ | refine And.intro (by omega) ?_ | fail)) <;> try (conv => whnf)
        refine ⟨m' - 256, by omega, j + 1, _, by omega, .inr rfl, rfl, ?_⟩
        rw [← e1, ← e3]
      · (repeat' ((conv => whnf); first | refine ⟨_, ⟨⟨F2 ⟨u1, k1⟩ ⟨u2, k2⟩ key, n, cryptL key n 0 P⟩, rfl, by show 2 ≤ 8; omega, rfl⟩, ?_⟩ | refine ⟨.tup [.pv (.str ((P.drop (256 * j)).take 256)), .pv (pI 0)], ⟨⟨F2 ⟨u1, k1⟩ ⟨u2, k2⟩ key, n, cryptL key n 0 P⟩, ⟨u1, k1⟩, key, 256 * j, 256, rfl, ⟨⟨hf2, hn, by show (cryptL key n 0 P).length ≤ 8192; omega⟩, oa, hk, g21, by show _ ≤ (cryptL key n 0 P).length; omega, by omega, by omega⟩, by rw [← back_part key n P (256 * j) 256]⟩, ?_⟩ | refine And.intro (by rw [List.length_take, List.length_take]; omega) ?_ | refine N64 (by omega) ?_ | refine CMP_t (by omega) ?_ | refine CMP_f (by omega) ?_ | refine And.intro rfl ?_ | refine And.intro (by omega) ?_ | fail)) <;> try (conv => whnf)
        refine ⟨m' - 256, by omega, j + 1, _, by omega, .inr rfl, rfl, ?_⟩
        rw [← e1, ← e3]
    · obtain rfl : m' = 0 := by omega
      have e2 : P.take (256 * j) = P := List.take_of_length_le (by omega)
      have e4 : (P.drop 0).take 8192 = P := by rw [List.drop_zero]; exact List.take_of_length_le (by omega)
      rw [e2]
      rcases hB with rfl | rfl
      · (repeat' ((conv => whnf); first | refine ⟨_, ⟨⟨F2 ⟨u1, k1⟩ ⟨u2, k2⟩ key, n, cryptL key n 0 P⟩, rfl, by show 2 ≤ 8; omega, rfl⟩, ?_⟩ | refine ⟨.tup [.pv (.str ((P.drop 0).take 8192)), .pv (pI 0)], ⟨⟨F2 ⟨u1, k1⟩ ⟨u2, k2⟩ key, n, cryptL key n 0 P⟩, ⟨u1, k1⟩, key, 0, 8192, rfl, ⟨⟨hf2, hn, by show (cryptL key n 0 P).length ≤ 8192; omega⟩, oa, hk, g21, by show _ ≤ (cryptL key n 0 P).length; omega, by omega, by omega⟩, by rw [← back_part key n P (0) 8192]⟩, ?_⟩ | refine ⟨P, rfl, by omega, ?_⟩ | refine CMP_f (fun h => h e4) ?_ | refine CMP_f (fun h => h hup2) ?_ | refine CMP_f (fun h => h hup1) ?_ | refine N64 (by omega) ?_ | refine CMP_f (by omega) ?_ | refine And.intro rfl ?_ | refine And.intro (by omega) ?_ | fail)) <;> try (conv => whnf)
        exact ⟨m - 1, by omega, 1, _, by omega, .inr ⟨by decide, rfl⟩, rfl, rfl⟩
      · (repeat' ((conv => whnf); first | refine ⟨_, ⟨⟨F2 ⟨u1, k1⟩ ⟨u2, k2⟩ key, n, cryptL key n 0 P⟩, rfl, by show 2 ≤ 8; omega, rfl⟩, ?_⟩ | refine ⟨.tup [.pv (.str ((P.drop 0).take 8192)), .pv (pI 0)], ⟨⟨F2 ⟨u1, k1⟩ ⟨u2, k2⟩ key, n, cryptL key n 0 P⟩, ⟨u1, k1⟩, key, 0, 8192, rfl, ⟨⟨hf2, hn, by show (cryptL key n 0 P).length ≤ 8192; omega⟩, oa, hk, g21, by show _ ≤ (cryptL key n 0 P).length; omega, by omega, by omega⟩, by rw [← back_part key n P (0) 8192]⟩, ?_⟩ | refine ⟨P, rfl, by omega, ?_⟩ | refine CMP_f (fun h => h e4) ?_ | refine CMP_f (fun h => h hup2) ?_ | refine CMP_f (fun h => h hup1) ?_ | refine N64 (by omega) ?_ | refine CMP_f (by omega) ?_ | refine And.intro rfl ?_ | refine And.intro (by omega) ?_ | fail)) <;> try (conv => whnf)
        exact ⟨m - 1, by omega, 1, _, by omega, .inr ⟨by decide, rfl⟩, rfl, rfl⟩
  · obtain rfl : B = .fz (.sl 2 ((F2 ⟨u1, k1⟩ ⟨u2, k2⟩ key).map Fd.pv)) := by rcases hB with ⟨h, _⟩ | ⟨_, h⟩; exact absurd h (by decide); exact h
    (repeat' ((conv => whnf); first | refine CMP_t (by omega) ?_ | fail)) <;> try (conv => whnf)
    refine ⟨fun m' env σ => ∃ (j : Nat) (B : Blk), (256 * j + m' = P.length) ∧ B = .fz (.sl 2 ((F2 ⟨u1, k1⟩ ⟨u2, k2⟩ key).map Fd.pv)) ∧ σ = [.box 25 [.pv (pI u1), .pv (.str k1), .pv (pI u2), .pv (.str k2)], .box 43 [.own 2, .pv (pI n), .pv (.str (cryptL key n 0 P))], B] ∧ env = [(7, .ref 0 0 0), (8, .pv (.str u)), (9, .pv (.str P)), (15, .ref 1 0 0), (17, .pv (pI (1 : Nat))), (18, .pv (.str (P.take (256 * j)))), (19, .pv (pI (256 * j : Nat)))], P.length, ⟨0, _, by omega, rfl, rfl, rfl⟩, ?_⟩
    clear hB
    rintro m' env σ ⟨j, B, hj, hB, rfl, rfl⟩
    by_cases hlt : 256 * j < P.length
    · have hj1 : 256 * j + 256 ≤ P.length := by omega
      have e1 : P.take (256 * j) ++ (P.drop (256 * j)).take 256 = P.take (256 * (j + 1)) := by rw [show 256 * (j + 1) = 256 * j + 256 by omega, List.take_add]
      have e3 : ((256 * j : Nat) : Int) + 256 = ((256 * (j + 1) : Nat) : Int) := by omega
      obtain rfl := hB
      (repeat' ((conv => whnf); first | refine ⟨_, ⟨⟨F2 ⟨u1, k1⟩ ⟨u2, k2⟩ key, n, cryptL key n 0 P⟩, rfl, by show 2 ≤ 8; omega, rfl⟩, ?_⟩ | refine ⟨.tup [.pv (.str ((P.drop (256 * j)).take 256)), .pv (pI 0)], ⟨⟨F2 ⟨u1, k1⟩ ⟨u2, k2⟩ key, n, cryptL key n 0 P⟩, ⟨u2, k2⟩, key, 256 * j, 256, rfl, ⟨⟨hf2, hn, by show (cryptL key n 0 P).length ≤ 8192; omega⟩, ob, hk, g22, by show _ ≤ (cryptL key n 0 P).length; omega, by omega, by omega⟩, by rw [← back_part key n P (256 * j) 256]⟩, ?_⟩ | refine And.intro (by rw [List.length_take, List.length_take]; omega) ?_ | refine N64 (by omega) ?_ | refine CMP_t (by omega) ?_ | refine CMP_f (by omega) ?_ | refine And.intro rfl ?_ | refine And.intro (by omega) ?_ | fail)) <;> try (conv => whnf)
      refine ⟨m' - 256, by omega, j + 1, _, by omega, rfl, rfl, ?_⟩
      rw [← e1, ← e3]
    · obtain rfl : m' = 0 := by omega
      have e2 : P.take (256 * j) = P := List.take_of_length_le (by omega)
      have e4 : (P.drop 0).take 8192 = P := by rw [List.drop_zero]; exact List.take_of_length_le (by omega)
      rw [e2]
      obtain rfl := hB
      (repeat' ((conv => whnf); first | refine ⟨_, ⟨⟨F2 ⟨u1, k1⟩ ⟨u2, k2⟩ key, n, cryptL key n 0 P⟩, rfl, by show 2 ≤ 8; omega, rfl⟩, ?_⟩ | refine ⟨.tup [.pv (.str ((P.drop 0).take 8192)), .pv (pI 0)], ⟨⟨F2 ⟨u1, k1⟩ ⟨u2, k2⟩ key, n, cryptL key n 0 P⟩, ⟨u2, k2⟩, key, 0, 8192, rfl, ⟨⟨hf2, hn, by show (cryptL key n 0 P).length ≤ 8192; omega⟩, ob, hk, g22, by show _ ≤ (cryptL key n 0 P).length; omega, by omega, by omega⟩, by rw [← back_part key n P (0) 8192]⟩, ?_⟩ | refine ⟨P, rfl, by omega, ?_⟩ | refine CMP_f (fun h => h e4) ?_ | refine CMP_f (fun h => h hup2) ?_ | refine CMP_f (fun h => h hup1) ?_ | refine N64 (by omega) ?_ | refine CMP_f (by omega) ?_ | refine And.intro rfl ?_ | refine And.intro (by omega) ?_ | fail)) <;> try (conv => whnf)
      exact ⟨m - 1, by omega, 2, _, by omega, .inr ⟨by decide, rfl⟩, rfl, rfl⟩
  · obtain rfl : B = .fz (.sl 2 ((F2 ⟨u1, k1⟩ ⟨u2, k2⟩ key).map Fd.pv)) := by rcases hB with ⟨h, _⟩ | ⟨_, h⟩; exact absurd h (by decide); exact h
    have hD : (cut 0 (min 200 ((u.length : Nat) : Int)).toNat u).length = 200 := by rw [hul]; show (cut 0 200 u).length = 200; unfold cut; rw [List.length_drop, List.length_take, hul]; rfl
    (repeat' ((conv => whnf); (fail_if_success (refine ⟨(?_ : Nat), (?_ : _ < _), ?_⟩)); (fail_if_success (refine ⟨(?_ : RV), ?_⟩)); (fail_if_success (refine ⟨(?_ : List RV), ?_⟩)); first | refine CMP_f (by omega) ?_ | refine MIN ?_ | refine And.intro (by omega) ?_ | refine ⟨_, rfl, ?_⟩ | fail)) <;> try (conv => whnf)
    generalize cut 0 (min 200 ((u.length : Nat) : Int)).toNat u = D at *
    have h0 : dErr D.length = 0 := by rw [hD]; rfl
    obtain ⟨hde, hE2⟩ := dec_enc (d := D) (by omega) (by omega)
    have hE3 := enc_three (d := D) (by omega)
    have hEE : encN D = encN D := rfl
    generalize hE : encN D = E at *
    have hd1 : (decN E).1 = D := by rw [hde]
    have hd2 : (decN E).2 = 0 := by rw [hde]
    have hne : E ≠ [] := by intro h; rw [h] at hE3; exact absurd hE3 (by decide)
    have hw1 := written1 key (F2 ⟨u1, k1⟩ ⟨u2, k2⟩ key) n P E hne
    have hS2 := crypt_len key n 0 (P ++ E)
    rw [List.length_append] at hS2
    have hbk : cryptL key n P.length (((cryptL key n 0 (P ++ E)).drop P.length).take E.length) = E := by rw [back_part, List.drop_left, List.take_length]
    have hwi : decide ((3 : Int) ≤ ((E.length : Nat) : Int) ∧ ((E.length : Nat) : Int) ≤ 202) = true := decide_eq_true ⟨by omega, by omega⟩
    (repeat' ((conv => whnf); first | refine ⟨fun h => absurd h0 h, fun _ => ?_⟩ | refine ⟨_, ⟨⟨F2 ⟨u1, k1⟩ ⟨u2, k2⟩ key, n, cryptL key n 0 P⟩, rfl, by show 2 ≤ 8; omega, rfl⟩, ?_⟩ | refine ⟨.tup [.agg [.fresh T_api_CipherField 2 ((F2 ⟨u1, k1⟩ ⟨u2, k2⟩ key).map Fd.pv), .pv (pI n), .pv (.str (cryptL key n 0 (P ++ E)))], .pv (pI 0)], ⟨⟨F2 ⟨u1, k1⟩ ⟨u2, k2⟩ key, n, cryptL key n 0 P⟩, ⟨u1, k1⟩, key, E, by show _ = [_, _, pI (((cryptL key n 0 P).length : Nat) : Int), _]; rw [hSl]; rfl, ⟨⟨hf2, hn, by show (cryptL key n 0 P).length ≤ 8192; omega⟩, oa, hk, g21, by show (cryptL key n 0 P).length + _ ≤ 8192; omega⟩, by rw [hw1]⟩, ?_⟩ | refine ⟨_, ⟨⟨F2 ⟨u1, k1⟩ ⟨u2, k2⟩ key, n, cryptL key n 0 (P ++ E)⟩, rfl, by show 2 ≤ 8; omega, rfl⟩, ?_⟩ | refine ⟨.tup [.pv (.str E), .pv (pI 0)], ⟨⟨F2 ⟨u1, k1⟩ ⟨u2, k2⟩ key, n, cryptL key n 0 (P ++ E)⟩, ⟨u2, k2⟩, key, P.length, E.length, rfl, ⟨⟨hf2, hn, by show (cryptL key n 0 (P ++ E)).length ≤ 8192; omega⟩, ob, hk, g22, by show _ ≤ (cryptL key n 0 (P ++ E)).length; omega, by omega, by omega⟩, by rw [hbk]⟩, ?_⟩ | refine ⟨E, rfl, by omega, ?_⟩ | refine CMP_t hd2 ?_ | refine CMP_t hd1 ?_ | ((fail_if_success (refine ⟨(?_ : Nat), (?_ : _ < _), ?_⟩)); (fail_if_success (refine ⟨(?_ : RV), ?_⟩)); (fail_if_success (refine ⟨(?_ : List RV), ?_⟩)); first | refine CMP_t (by omega) ?_ | refine And.intro rfl ?_ | refine ⟨_, ⟨_, _, _, rfl, rfl⟩, ?_⟩  | fail))) <;> try (conv => whnf)
    exact ⟨.pv (pB _), rfl, trivial, by rw [hwi]; exact hK⟩
end Go.Dv.Try
end
section
/-
  The law of chapter 7 over chapter 6: what its arguments are.
-/
namespace Go.Dv.Try
open Go Go.Dv

theorem mkR_ok (lone : Bool) (R : List PV → RV → Prop) : FnOk (mkR lone R) := ⟨fun e => (by cases e), fun _ _ h => h, rfl⟩
theorem sig_u16s {y : PV} (h : HasL [.sl false [.int .u16]] [y]) : ∃ c : List Int, y = .sl 1 (c.map pU) ∧ ∀ n ∈ c, 0 ≤ n ∧ n < 65536 := by
  simp only [HasL, HasC] at h
  obtain ⟨_, _, e, ⟨els, rfl, _, h⟩, rfl⟩ := h
  injection e with e _
  subst e
  obtain ⟨l, rfl, hl⟩ := list_of (g := pU) (q := fun n => 0 ≤ n ∧ n < 65536) fun z hz => by
    obtain ⟨y, ys, e, ⟨n, rfl, hn⟩, rfl⟩ := (h z hz).2 trivial
    injection e with e _
    simp only [Lit.wf, Bool.and_eq_true, decide_eq_true_eq] at hn
    exact ⟨n, e, hn.1, Int.lt_of_le_of_lt hn.2 (by decide)⟩
  exact ⟨l, rfl, hl⟩
theorem run_top : ∀ xs, HasPs [(false, [.str]), (false, [.sl false [.int .u16]]), (true, [.int .i64, .str, .int .i64, .str, .str, .int .i64])] xs → (fnSpec R_lawTop).run xs fun r => r = .pv (.bool true) := by
  intro xs h
  simp only [HasPs] at h
  obtain ⟨y, _, rfl, _, h1, z, _, rfl, _, h2, u, _, rfl, h3, _, rfl⟩ := h
  obtain ⟨p, rfl, _⟩ := sig_str (h1 trivial)
  obtain ⟨c, rfl, hc⟩ := sig_u16s (h2 trivial)
  obtain ⟨zs, rfl, h4⟩ := h3 trivial
  simp only [HasL, HasC] at h4
  obtain ⟨_, _, rfl, ⟨u1, rfl, _⟩, _, _, rfl, ⟨k1, rfl, _⟩, _, _, rfl, ⟨u2, rfl, _⟩, _, _, rfl, ⟨k2, rfl, _⟩, _, _, rfl, ⟨key, rfl, _⟩, _, _, rfl, ⟨n, rfl, _⟩, rfl⟩ := h4
  exact ⟨_, ⟨p, c, ⟨u1, k1⟩, ⟨u2, k2⟩, key, n, rfl, hc, rfl⟩, rfl⟩
end Go.Dv.Try
end
section
/-
  Each contract holds the model's own run: the chain.
-/
namespace Go.Dv.Try
open Go Go.Dv
theorem sd_math_bits_Len64_R_math_bits_Len64 : SoundAt prg n_math_bits_Len64 (fnSpec R_math_bits_Len64) := w_math_bits_Len64.sound mixed ctx_nil (fnSpec_ok _) (by rintro _ _ ⟨_, ⟨_, rfl, _⟩, _⟩; rfl) meets_math_bits_Len64
theorem sd_math_bits_Len_R_math_bits_Len64 : SoundAt prg n_math_bits_Len (fnSpec R_math_bits_Len64) := w_math_bits_Len.sound mixed (ctx_cons sd_math_bits_Len64_R_math_bits_Len64 ctx_nil) (fnSpec_ok _) (by rintro _ _ ⟨_, ⟨_, rfl, _⟩, _⟩; rfl) meets_math_bits_Len
theorem sd_compress_shift_R_compress_shift : SoundAt prg n_compress_shift (fnSpec R_compress_shift) := w_compress_shift.sound mixed (ctx_cons sd_math_bits_Len_R_math_bits_Len64 ctx_nil) (fnSpec_ok _) (by rintro _ _ ⟨_, ⟨_, rfl, _⟩, _⟩; rfl) meets_compress_shift
theorem sd_compress_longest_R_compress_longest : SoundAt prg n_compress_longest (fnSpec R_compress_longest) := w_compress_longest.sound mixed (ctx_cons sd_compress_shift_R_compress_shift ctx_nil) (fnSpec_ok _) (by rintro _ _ ⟨_, ⟨_, rfl, _⟩, _⟩; rfl) meets_compress_longest
theorem sd_compress_within_R_compress_within : SoundAt prg n_compress_within (fnSpec R_compress_within) := w_compress_within.sound mixed ctx_nil (fnSpec_ok _) (by rintro _ _ ⟨_, ⟨_, _, _, rfl, _⟩, _⟩; rfl) meets_compress_within
theorem sd_base_Within_R_compress_within : SoundAt prg n_base_Within (fnSpec R_compress_within) := w_base_Within.sound mixed ctx_nil (fnSpec_ok _) (by rintro _ _ ⟨_, ⟨_, _, _, rfl, _⟩, _⟩; rfl) meets_base_Within
theorem sd_compress_unless_R_compress_unless : SoundAt prg n_compress_unless (fnSpec R_compress_unless) := w_compress_unless.sound mixed ctx_nil (fnSpec_ok _) (by rintro _ _ ⟨_, ⟨_, _, rfl, _⟩, _⟩; rfl) meets_compress_unless
theorem sd_compress_first_R_compress_first : SoundAt prg n_compress_first (fnSpec R_compress_first) := w_compress_first.sound mixed ctx_nil (fnSpec_ok _) (by rintro _ _ ⟨_, ⟨_, rfl, _⟩, _⟩; rfl) meets_compress_first
theorem sd_compress_isCopy_R_compress_isCopy : SoundAt prg n_compress_isCopy (fnSpec R_compress_isCopy) := w_compress_isCopy.sound mixed ctx_nil (fnSpec_ok _) (by rintro _ _ ⟨_, ⟨_, rfl, _⟩, _⟩; rfl) meets_compress_isCopy
theorem sd_compress_made_R_compress_made : SoundAt prg n_compress_made (fnSpec R_compress_made) := w_compress_made.sound mixed (ctx_cons sd_compress_isCopy_R_compress_isCopy ctx_nil) (fnSpec_ok _) (by rintro _ _ ⟨_, ⟨_, rfl, _⟩, _⟩; rfl) meets_compress_made
theorem sd_compress_data_room_R_compress_data_room : SoundAt prg n_compress_data_room (fnSpec R_compress_data_room) := w_compress_data_room.sound mixed (ctx_cons sd_compress_longest_R_compress_longest ctx_nil) (fnSpec_ok _) (by rintro _ _ ⟨_, ⟨_, _, rfl, _⟩, _⟩; rfl) meets_compress_data_room
theorem sd_compress_data_match_R_compress_data_match : SoundAt prg n_compress_data_match (fnSpec R_compress_data_match) := w_compress_data_match.sound mixed (ctx_cons sd_compress_data_room_R_compress_data_room ctx_nil) (fnSpec_ok _) (by rintro _ _ ⟨_, ⟨_, _, _, rfl, _⟩, _⟩; rfl) meets_compress_data_match
theorem sd_compress_data_literal_R_compress_data_literal : SoundAt prg n_compress_data_literal (fnSpec R_compress_data_literal) := w_compress_data_literal.sound mixed ctx_nil (fnSpec_ok _) (by rintro _ _ ⟨_, ⟨_, _, rfl, _⟩, _⟩; rfl) meets_compress_data_literal
theorem sd_compress_dataErr_R_ref06_DataErr : SoundAt prg n_compress_dataErr (fnSpec R_ref06_DataErr) := w_compress_dataErr.sound mixed (ctx_cons sd_compress_unless_R_compress_unless (ctx_cons sd_compress_first_R_compress_first ctx_nil)) (fnSpec_ok _) (by rintro _ _ ⟨_, ⟨_, rfl, _⟩, _⟩; rfl) meets_compress_dataErr
theorem sd_compress_word_R_word : SoundAt prg n_compress_word (fnSpec R_word) := w_compress_word.sound mixed ctx_nil (fnSpec_ok _) (by rintro _ _ ⟨_, ⟨_, rfl, _⟩, _⟩; rfl) meets_word
theorem sd_compress_head_R_head : SoundAt prg n_compress_head (fnSpec R_head) := w_compress_head.sound mixed (ctx_cons sd_compress_word_R_word ctx_nil) (fnSpec_ok _) (by rintro _ _ ⟨_, ⟨_, _, rfl, _⟩, _⟩; rfl) meets_head
theorem sd_strings_Builder_Len_M_Len : SoundAt prg n_strings_Builder_Len (mkM M_Len) := w_strings_Builder_Len.soundM mixed ctx_nil (by rintro _ _ _ ⟨_, rfl, _⟩; rfl) meets_Len
theorem sd_compress_tokenBytes_R_tokenBytes : SoundAt prg n_compress_tokenBytes (fnSpec R_tokenBytes) := w_compress_tokenBytes.sound mixed (ctx_cons sd_compress_isCopy_R_compress_isCopy (ctx_cons sd_compress_shift_R_compress_shift (ctx_cons sd_compress_word_R_word ctx_nil))) (fnSpec_ok _) (by rintro _ _ ⟨_, ⟨_, _, rfl, _⟩, _⟩; rfl) meets_tokenBytes
theorem sd_compress_tokenErr_R_tokenErr : SoundAt prg n_compress_tokenErr (fnSpec R_tokenErr) := w_compress_tokenErr.sound mixed (ctx_cons sd_compress_isCopy_R_compress_isCopy (ctx_cons sd_compress_unless_R_compress_unless (ctx_cons sd_compress_first_R_compress_first (ctx_cons sd_compress_within_R_compress_within (ctx_cons sd_compress_longest_R_compress_longest (ctx_cons sd_compress_made_R_compress_made ctx_nil)))))) (fnSpec_ok _) (by rintro _ _ ⟨_, ⟨_, _, rfl, _⟩, _⟩; rfl) meets_tokenErr
theorem sd_compress_CheckTokens_S_CheckTokens : SoundAt prg n_compress_CheckTokens S_CheckTokens := w_compress_CheckTokens.sound mixed (ctx_cons sd_compress_tokenErr_R_tokenErr (ctx_cons sd_compress_made_R_compress_made ctx_nil)) (mkS_ok _ _) (by rintro _ _ ⟨_, rfl, _⟩; rfl) meets_CheckTokens
theorem sd_compress_expanded_S_expanded : SoundAt prg n_compress_expanded S_expanded := w_compress_expanded.sound mixed (ctx_cons sd_compress_isCopy_R_compress_isCopy ctx_nil) (mkS_ok _ _) (by rintro _ _ ⟨_, rfl, _⟩; rfl) meets_expanded
theorem sd_compress_wordAt_R_wordAt : SoundAt prg n_compress_wordAt (fnSpec R_wordAt) := w_compress_wordAt.sound mixed ctx_nil (fnSpec_ok _) (by rintro _ _ ⟨_, ⟨_, rfl, _⟩, _⟩; rfl) meets_wordAt
theorem sd_compress_opened_S_opened : SoundAt prg n_compress_opened S_opened := w_compress_opened.sound mixed (ctx_cons sd_compress_wordAt_R_wordAt (ctx_cons sd_compress_unless_R_compress_unless ctx_nil)) (mkS_ok _ _) (by rintro _ _ ⟨_, _, rfl, _⟩; rfl) meets_opened
theorem sd_compress_tokens_S_tokensP : SoundAt prg n_compress_tokens S_tokensP := w_compress_tokens.sound mixed (ctx_cons sd_compress_shift_R_compress_shift (ctx_cons sd_compress_wordAt_R_wordAt (ctx_cons sd_compress_made_R_compress_made (ctx_cons sd_compress_CheckTokens_S_CheckTokens ctx_nil)))) (mkS_ok _ _) (by rintro _ _ ⟨_, rfl, _⟩; rfl) meets_tokens
theorem sd_compress_Decode_S_decode : SoundAt prg n_compress_Decode S_decode := w_compress_Decode.sound mixed (ctx_cons sd_compress_opened_S_opened (ctx_cons sd_compress_tokens_S_tokensP (ctx_cons sd_compress_expanded_S_expanded ctx_nil))) (mkS_ok _ _) (by rintro _ _ ⟨_, rfl, _⟩; rfl) meets_Decode
theorem sd_base_Zeros_R_Zeros : SoundAt prg n_base_Zeros (fnSpec R_Zeros) := w_base_Zeros.sound mixed ctx_nil (fnSpec_ok _) (by rintro _ _ ⟨_, ⟨_, rfl, _⟩, _⟩; rfl) meets_Zeros
theorem sd_compress_clusters_R_clusters : SoundAt prg n_compress_clusters (fnSpec R_clusters) := w_compress_clusters.sound mixed ctx_nil (fnSpec_ok _) (by rintro _ _ ⟨_, ⟨_, rfl, _⟩, _⟩; rfl) meets_clusters
theorem sd_law06_Unit_S_Unit : SoundAt prg n_law06_Unit S_Unit := w_law06_Unit.sound mixed (ctx_cons sd_base_Zeros_R_Zeros ctx_nil) (mkS_ok _ _) (by rintro _ _ ⟨_, _, rfl, _⟩; rfl) meets_Unit
theorem sd_math_bits_RotateLeft16_R_rot : SoundAt prg n_math_bits_RotateLeft16 (fnSpec R_rot) := w_math_bits_RotateLeft16.sound mixed ctx_nil (fnSpec_ok _) (by rintro _ _ ⟨_, ⟨_, _, rfl, _⟩, _⟩; rfl) meets_rot
theorem sd_cipher_quarter_f1_M_half : SoundAt prg n_cipher_quarter_f1 (mkM M_half) := w_cipher_quarter_f1.soundM mixed (ctx_cons sd_math_bits_RotateLeft16_R_rot ctx_nil) (by rintro _ _ _ ⟨_, _, _, _, _, _, _, rfl, _⟩; rfl) meets_half
theorem sd_cipher_quarter_M_quarter : SoundAt prg n_cipher_quarter (mkM M_quarter) := w_cipher_quarter.soundM mixed (ctx_cons sd_cipher_quarter_f1_M_half ctx_nil) (by rintro _ _ _ ⟨_, _, _, _, _, rfl, _⟩; rfl) meets_quarter
theorem sd_cipher_state_round_M_round : SoundAt prg n_cipher_state_round (mkM M_round) := w_cipher_state_round.soundM mixed (ctx_cons sd_cipher_quarter_M_quarter ctx_nil) (by rintro _ _ _ ⟨_, rfl, _⟩; rfl) meets_round
theorem sd_cipher_stateOf_R_stateOf : SoundAt prg n_cipher_stateOf (fnSpec R_stateOf) := w_cipher_stateOf.sound mixed ctx_nil (fnSpec_ok _) (by rintro _ _ ⟨_, ⟨_, _, _, rfl, _⟩, _⟩; rfl) meets_stateOf
theorem sd_cipher_block_S_block : SoundAt prg n_cipher_block S_block := w_cipher_block.sound mixed (ctx_cons sd_cipher_stateOf_R_stateOf (ctx_cons sd_cipher_state_round_M_round ctx_nil)) (mkS_ok _ _) (by rintro _ _ ⟨_, _, _, rfl, _⟩; rfl) meets_block
theorem sd_cipher_crypt_R_crypt : SoundAt prg n_cipher_crypt (fnSpec R_crypt) := w_cipher_crypt.sound mixed (ctx_cons sd_cipher_block_S_block ctx_nil) (fnSpec_ok _) (by rintro _ _ ⟨_, ⟨_, _, _, _, rfl, _⟩, _⟩; rfl) meets_crypt
theorem sd_cipher_within_R_compress_within : SoundAt prg n_cipher_within (fnSpec R_compress_within) := w_cipher_within.sound mixed ctx_nil (fnSpec_ok _) (by rintro _ _ ⟨_, ⟨_, _, _, rfl, _⟩, _⟩; rfl) meets_cipher_within
theorem sd_cipher_unless_R_compress_unless : SoundAt prg n_cipher_unless (fnSpec R_compress_unless) := w_cipher_unless.sound mixed ctx_nil (fnSpec_ok _) (by rintro _ _ ⟨_, ⟨_, _, rfl, _⟩, _⟩; rfl) meets_cipher_unless
theorem sd_cipher_first_R_compress_first : SoundAt prg n_cipher_first (fnSpec R_compress_first) := w_cipher_first.sound mixed ctx_nil (fnSpec_ok _) (by rintro _ _ ⟨_, ⟨_, rfl, _⟩, _⟩; rfl) meets_cipher_first
theorem sd_cipher_keyErr_R_keyErr : SoundAt prg n_cipher_keyErr (fnSpec R_keyErr) := w_cipher_keyErr.sound mixed (ctx_cons sd_cipher_unless_R_compress_unless ctx_nil) (fnSpec_ok _) (by rintro _ _ ⟨_, ⟨_, rfl, _⟩, _⟩; rfl) meets_cipher_keyErr
theorem sd_ref07_KeyErr_R_keyErr : SoundAt prg n_ref07_KeyErr (fnSpec R_keyErr) := w_ref07_KeyErr.sound mixed ctx_nil (fnSpec_ok _) (by rintro _ _ ⟨_, ⟨_, rfl, _⟩, _⟩; rfl) meets_ref07_KeyErr
theorem sd_base_IsUser_Q_user : SoundAt prg n_base_IsUser (fnB Q_user) := w_base_IsUser.sound mixed (ctx_cons sd_base_Within_R_compress_within ctx_nil) (fnB_ok _) (by rintro _ _ ⟨_, ⟨_, rfl, _⟩, _⟩; rfl) meets_base_IsUser
theorem sd_ref07_IsWord_Q_word07 : SoundAt prg n_ref07_IsWord (fnB Q_word07) := w_ref07_IsWord.sound mixed (ctx_cons sd_base_Within_R_compress_within ctx_nil) (fnB_ok _) (by rintro _ _ ⟨_, ⟨_, rfl, _⟩, _⟩; rfl) meets_ref07_IsWord
theorem sd_cipher_isWord_R_word07 : SoundAt prg n_cipher_isWord (fnSpec R_word07) := w_cipher_isWord.sound mixed (ctx_cons sd_cipher_within_R_compress_within ctx_nil) (fnSpec_ok _) (by rintro _ _ ⟨_, ⟨_, rfl, _⟩, _⟩; rfl) meets_cipher_isWord
theorem sd_cipher_holderErr_R_holdErr : SoundAt prg n_cipher_holderErr (fnSpec R_holdErr) := w_cipher_holderErr.sound mixed (ctx_cons sd_cipher_within_R_compress_within (ctx_cons sd_cipher_unless_R_compress_unless (ctx_cons sd_cipher_keyErr_R_keyErr (ctx_cons sd_cipher_first_R_compress_first ctx_nil)))) (fnSpec_ok _) (by rintro _ _ ⟨_, ⟨_, rfl, _⟩, _⟩; rfl) meets_cipher_holderErr
theorem sd_ref07_HolderErr_R_HolderErr : SoundAt prg n_ref07_HolderErr (fnSpec R_HolderErr) := w_ref07_HolderErr.sound mixed (ctx_cons sd_base_IsUser_Q_user (ctx_cons sd_ref07_KeyErr_R_keyErr ctx_nil)) (fnSpec_ok _) (by rintro _ _ ⟨_, ⟨_, rfl, _⟩, _⟩; rfl) meets_ref07_HolderErr
theorem sd_cipher_check_R_check : SoundAt prg n_cipher_check (fnSpec R_check) := w_cipher_check.sound mixed ctx_nil (fnSpec_ok _) (by rintro _ _ ⟨_, ⟨_, rfl, _⟩, _⟩; rfl) meets_check
theorem sd_cipher_wrap_R_wrap : SoundAt prg n_cipher_wrap (fnSpec R_wrap) := w_cipher_wrap.sound mixed (ctx_cons sd_cipher_check_R_check (ctx_cons sd_cipher_crypt_R_crypt ctx_nil)) (fnSpec_ok _) (by rintro _ _ ⟨_, ⟨_, _, rfl, _⟩, _⟩; rfl) meets_wrap
theorem sd_cipher_Wrap_S_Wrap : SoundAt prg n_cipher_Wrap S_Wrap := w_cipher_Wrap.sound mixed (ctx_cons sd_cipher_holderErr_R_holdErr (ctx_cons sd_cipher_keyErr_R_keyErr (ctx_cons sd_cipher_first_R_compress_first (ctx_cons sd_cipher_wrap_R_wrap ctx_nil)))) (mkS_ok _ _) (by rintro _ _ ⟨_, _, rfl, _⟩; rfl) meets_Wrap
theorem sd_cipher_unwrap_S_unwrap : SoundAt prg n_cipher_unwrap S_unwrap := w_cipher_unwrap.sound mixed (ctx_cons sd_cipher_check_R_check (ctx_cons sd_cipher_crypt_R_crypt ctx_nil)) (mkR_ok _ _) (by rintro _ _ ⟨_, ⟨_, _, rfl, _⟩, _⟩; rfl) meets_unwrap
theorem sd_cipher_CheckFields_f1_R_fieldErr : SoundAt prg n_cipher_CheckFields_f1 (fnSpec R_fieldErr) := w_cipher_CheckFields_f1.sound mixed (ctx_cons sd_cipher_within_R_compress_within (ctx_cons sd_cipher_unless_R_compress_unless (ctx_cons sd_cipher_first_R_compress_first ctx_nil))) (fnSpec_ok _) (by rintro _ _ ⟨_, ⟨_, _, _, rfl, _⟩, _⟩; rfl) meets_fieldErr
theorem sd_cipher_each_depository_api_CipherField_S_each : SoundAt prg n_cipher_each_depository_api_CipherField S_each := w_cipher_each_depository_api_CipherField.sound mixed (ctx_cons sd_cipher_CheckFields_f1_R_fieldErr ctx_nil) (mkR_ok _ _) (by rintro _ _ ⟨_, ⟨_, rfl, _⟩, _⟩; rfl) meets_each
theorem sd_cipher_CheckFields_R_CheckFields : SoundAt prg n_cipher_CheckFields (mkR true R_CheckFields) := w_cipher_CheckFields.sound mixed (ctx_cons sd_cipher_unless_R_compress_unless (ctx_cons sd_cipher_first_R_compress_first (ctx_cons sd_cipher_each_depository_api_CipherField_S_each ctx_nil))) (mkR_ok _ _) (by rintro _ _ ⟨_, ⟨_, rfl, _⟩, _⟩; rfl) meets_CheckFields
theorem sd_cipher_fieldsErr_R_fieldsErr : SoundAt prg n_cipher_fieldsErr (fnSpec R_fieldsErr) := w_cipher_fieldsErr.sound mixed (ctx_cons sd_cipher_CheckFields_R_CheckFields ctx_nil) (fnSpec_ok _) (by rintro _ _ ⟨_, ⟨_, rfl, _⟩, _⟩; rfl) meets_fieldsErr
theorem sd_cipher_at_f1_R_atf : SoundAt prg n_cipher_at_f1 (fnSpec R_atf) := w_cipher_at_f1.sound mixed ctx_nil (fnSpec_ok _) (by rintro _ _ ⟨_, ⟨_, _, rfl, _⟩, _⟩; rfl) meets_atf
theorem sd_slices_BinarySearchFunc_depository_api_CipherField_depository_api_CipherField_int_R_bs : SoundAt prg n_slices_BinarySearchFunc_depository_api_CipherField_depository_api_CipherField_int (mkR true R_bs) := w_slices_BinarySearchFunc_depository_api_CipherField_depository_api_CipherField_int.sound mixed (ctx_cons sd_cipher_at_f1_R_atf ctx_nil) (mkR_ok _ _) (by rintro _ _ ⟨_, ⟨_, _, rfl, _⟩, _⟩; rfl) meets_bs
theorem sd_cipher_at_R_at : SoundAt prg n_cipher_at (mkR true R_at) := w_cipher_at.sound mixed (ctx_cons sd_slices_BinarySearchFunc_depository_api_CipherField_depository_api_CipherField_int_R_bs ctx_nil) (mkR_ok _ _) (by rintro _ _ ⟨_, ⟨_, _, rfl, _⟩, _⟩; rfl) meets_at
theorem sd_cipher_keyFor_R_keyFor : SoundAt prg n_cipher_keyFor (mkR true R_keyFor) := w_cipher_keyFor.sound mixed (ctx_cons sd_cipher_at_R_at (ctx_cons sd_cipher_unwrap_S_unwrap ctx_nil)) (mkR_ok _ _) (by rintro _ _ ⟨_, ⟨_, _, _, rfl, _⟩, _⟩; rfl) meets_keyFor
theorem sd_ref07_CopyFields_R_copyF : SoundAt prg n_ref07_CopyFields (mkR true R_copyF) := w_ref07_CopyFields.sound mixed ctx_nil (mkR_ok _ _) (by rintro _ _ ⟨_, ⟨_, rfl, _⟩, _⟩; rfl) meets_CopyFields
theorem sd_slices_Clone_depository_api_CipherField_depository_api_CipherField_R_copyF : SoundAt prg n_slices_Clone_depository_api_CipherField_depository_api_CipherField (mkR true R_copyF) := w_slices_Clone_depository_api_CipherField_depository_api_CipherField.sound mixed ctx_nil (mkR_ok _ _) (by rintro _ _ ⟨_, ⟨_, rfl, _⟩, _⟩; rfl) meets_Clone
theorem sd_slices_Insert_depository_api_CipherField_depository_api_CipherField_M_Insert : SoundAt prg n_slices_Insert_depository_api_CipherField_depository_api_CipherField (mkM M_Insert) := w_slices_Insert_depository_api_CipherField_depository_api_CipherField.soundM mixed ctx_nil (by rintro _ _ _ ⟨_, _, rfl, _⟩; rfl) meets_Insert
theorem sd_cipher_Added_R_Added : SoundAt prg n_cipher_Added (mkR true R_Added) := w_cipher_Added.sound mixed (ctx_cons sd_cipher_fieldsErr_R_fieldsErr (ctx_cons sd_cipher_holderErr_R_holdErr (ctx_cons sd_cipher_first_R_compress_first (ctx_cons sd_cipher_keyFor_R_keyFor (ctx_cons sd_cipher_at_R_at (ctx_cons sd_cipher_unless_R_compress_unless (ctx_cons sd_slices_Clone_depository_api_CipherField_depository_api_CipherField_R_copyF (ctx_cons sd_cipher_wrap_R_wrap (ctx_cons sd_slices_Insert_depository_api_CipherField_depository_api_CipherField_M_Insert ctx_nil))))))))) (mkR_ok _ _) (by rintro _ _ ⟨_, ⟨_, _, _, _, rfl, _⟩, _⟩; rfl) meets_Added
theorem sd_cipher_fileErr_R_fileErr : SoundAt prg n_cipher_fileErr (fnSpec R_fileErr) := w_cipher_fileErr.sound mixed (ctx_cons sd_cipher_fieldsErr_R_fieldsErr (ctx_cons sd_cipher_isWord_R_word07 (ctx_cons sd_cipher_unless_R_compress_unless (ctx_cons sd_cipher_first_R_compress_first ctx_nil)))) (fnSpec_ok _) (by rintro _ _ ⟨_, ⟨_, rfl, _⟩, _⟩; rfl) meets_fileErr
theorem sd_ref07_Copy_R_Copy : SoundAt prg n_ref07_Copy (mkR false R_Copy) := w_ref07_Copy.sound mixed (ctx_cons sd_ref07_CopyFields_R_copyF ctx_nil) (mkR_ok _ _) (by rintro _ _ ⟨_, ⟨_, rfl, _⟩, _⟩; rfl) meets_Copy
theorem sd_cipher_ReadAt_R_ReadAt : SoundAt prg n_cipher_ReadAt (mkR true R_ReadAt) := w_cipher_ReadAt.sound mixed (ctx_cons sd_cipher_fileErr_R_fileErr (ctx_cons sd_cipher_holderErr_R_holdErr (ctx_cons sd_cipher_within_R_compress_within (ctx_cons sd_cipher_unless_R_compress_unless (ctx_cons sd_cipher_first_R_compress_first (ctx_cons sd_cipher_keyFor_R_keyFor (ctx_cons sd_cipher_crypt_R_crypt ctx_nil))))))) (mkR_ok _ _) (by rintro _ _ ⟨_, ⟨_, _, _, _, _, rfl, _⟩, _⟩; rfl) meets_ReadAt
theorem sd_cipher_Crypt_R_Crypt : SoundAt prg n_cipher_Crypt (mkR true R_Crypt) := w_cipher_Crypt.sound mixed (ctx_cons sd_cipher_isWord_R_word07 (ctx_cons sd_cipher_keyErr_R_keyErr (ctx_cons sd_cipher_within_R_compress_within (ctx_cons sd_cipher_unless_R_compress_unless (ctx_cons sd_cipher_first_R_compress_first (ctx_cons sd_cipher_crypt_R_crypt ctx_nil)))))) (mkR_ok _ _) (by rintro _ _ ⟨_, ⟨_, _, _, rfl, _⟩, _⟩; rfl) meets_Crypt
theorem sd_law06_Unit_R_Unit0 : SoundAt prg n_law06_Unit (fnSpec R_Unit0) := w_law06_Unit.sound mixed (ctx_cons sd_base_Zeros_R_Zeros ctx_nil) (fnSpec_ok _) (by rintro _ _ ⟨_, ⟨rfl, _⟩, _⟩; rfl) meets_Unit0
theorem sd_compress_data_matches_f1_S_matches_f : SoundAt prg n_compress_data_matches_f1 S_matches_f := at_matches_f (ctx_cons sd_compress_data_room_R_compress_data_room (ctx_cons sd_compress_data_match_R_compress_data_match ctx_nil))
theorem sd_strings_Repeat_R_Repeat : SoundAt prg n_strings_Repeat (fnSpec R_Repeat) := at_Repeat
theorem sd_strings_Builder_copyCheck_M_copyCheck : SoundAt prg n_strings_Builder_copyCheck (mkM M_copyCheck) := at_copyCheck
theorem sd_strings_Builder_String_M_String : SoundAt prg n_strings_Builder_String (mkM M_String) := at_String
theorem sd_compress_data_matches_S_matches : SoundAt prg n_compress_data_matches S_matches := w_compress_data_matches.sound mixed (ctx_cons sd_compress_data_matches_f1_S_matches_f ctx_nil) (mkS_ok _ _) (by rintro _ _ ⟨_, _, rfl, _⟩; rfl) meets_matches
theorem sd_compress_data_greatest_R_greatest : SoundAt prg n_compress_data_greatest (fnSpec R_greatest) := w_compress_data_greatest.sound mixed (ctx_cons sd_compress_data_matches_S_matches (ctx_cons sd_compress_data_matches_f1_S_matches_f ctx_nil)) (fnSpec_ok _) (by rintro _ _ ⟨_, ⟨_, _, rfl, _⟩, _⟩; rfl) meets_greatest
theorem sd_compress_data_nearest_R_nearest : SoundAt prg n_compress_data_nearest (fnSpec R_nearest) := w_compress_data_nearest.sound mixed (ctx_cons sd_compress_data_matches_S_matches (ctx_cons sd_compress_data_matches_f1_S_matches_f ctx_nil)) (fnSpec_ok _) (by rintro _ _ ⟨_, ⟨_, _, _, rfl, _⟩, _⟩; rfl) meets_nearest
theorem sd_compress_data_cost_R_cost : SoundAt prg n_compress_data_cost (fnSpec R_cost) := w_compress_data_cost.sound mixed (ctx_cons sd_compress_data_greatest_R_greatest ctx_nil) (fnSpec_ok _) (by rintro _ _ ⟨_, ⟨_, _, _, rfl, _⟩, _⟩; rfl) meets_cost
theorem sd_compress_data_costs_S_costs : SoundAt prg n_compress_data_costs S_costs := w_compress_data_costs.sound mixed (ctx_cons sd_compress_data_cost_R_cost ctx_nil) (mkS_ok _ _) (by rintro _ _ ⟨_, rfl, _⟩; rfl) meets_costs
theorem sd_compress_data_optimal_S_optimal : SoundAt prg n_compress_data_optimal S_optimal := w_compress_data_optimal.sound mixed (ctx_cons sd_compress_data_costs_S_costs (ctx_cons sd_compress_data_literal_R_compress_data_literal (ctx_cons sd_compress_data_nearest_R_nearest (ctx_cons sd_compress_made_R_compress_made ctx_nil)))) (mkS_ok _ _) (by rintro _ _ ⟨_, rfl, _⟩; rfl) meets_optimal
theorem sd_strings_Builder_WriteByte_M_WriteByte : SoundAt prg n_strings_Builder_WriteByte (mkM M_WriteByte) := w_strings_Builder_WriteByte.soundM mixed (ctx_cons sd_strings_Builder_copyCheck_M_copyCheck ctx_nil) (by rintro _ _ _ ⟨_, rfl, _⟩; rfl) meets_WriteByte
theorem sd_strings_Builder_WriteString_M_WriteString : SoundAt prg n_strings_Builder_WriteString (mkM M_WriteString) := w_strings_Builder_WriteString.soundM mixed (ctx_cons sd_strings_Builder_copyCheck_M_copyCheck ctx_nil) (by rintro _ _ _ ⟨_, rfl, _⟩; rfl) meets_WriteString
theorem sd_compress_chunk_S_chunk : SoundAt prg n_compress_chunk S_chunk := w_compress_chunk.sound mixed (ctx_cons sd_compress_isCopy_R_compress_isCopy (ctx_cons sd_compress_tokenBytes_R_tokenBytes (ctx_cons sd_compress_made_R_compress_made (ctx_cons sd_strings_Builder_WriteByte_M_WriteByte (ctx_cons sd_strings_Builder_WriteString_M_WriteString (ctx_cons sd_strings_Builder_Len_M_Len (ctx_cons sd_strings_Builder_String_M_String (ctx_cons sd_compress_head_R_head ctx_nil)))))))) (mkS_ok _ _) (by rintro _ _ ⟨_, rfl, _⟩; rfl) meets_chunk
theorem sd_compress_Encode_S_Encode : SoundAt prg n_compress_Encode S_Encode := w_compress_Encode.sound mixed (ctx_cons sd_compress_dataErr_R_ref06_DataErr (ctx_cons sd_compress_head_R_head (ctx_cons sd_compress_data_optimal_S_optimal (ctx_cons sd_compress_chunk_S_chunk ctx_nil)))) (mkS_ok _ _) (by rintro _ _ ⟨_, rfl, _⟩; rfl) meets_Encode
theorem sd_compress_zeros_R_zeros : SoundAt prg n_compress_zeros (fnSpec R_zeros) := w_compress_zeros.sound mixed (ctx_cons sd_strings_Repeat_R_Repeat ctx_nil) (fnSpec_ok _) (by rintro _ _ ⟨_, ⟨_, rfl, _⟩, _⟩; rfl) meets_zeros
theorem sd_compress_PackUnit_S_PackUnit : SoundAt prg n_compress_PackUnit S_PackUnit := w_compress_PackUnit.sound mixed (ctx_cons sd_compress_zeros_R_zeros (ctx_cons sd_compress_data_optimal_S_optimal (ctx_cons sd_compress_chunk_S_chunk (ctx_cons sd_compress_clusters_R_clusters ctx_nil)))) (mkS_ok _ _) (by rintro _ _ ⟨_, rfl, _⟩; rfl) meets_PackUnit
theorem sd_compress_UnpackUnit_S_unpack : SoundAt prg n_compress_UnpackUnit S_unpack := w_compress_UnpackUnit.sound mixed (ctx_cons sd_compress_zeros_R_zeros (ctx_cons sd_compress_opened_S_opened (ctx_cons sd_compress_unless_R_compress_unless (ctx_cons sd_compress_first_R_compress_first (ctx_cons sd_compress_tokens_S_tokensP (ctx_cons sd_compress_expanded_S_expanded (ctx_cons sd_compress_clusters_R_clusters ctx_nil))))))) (mkS_ok _ _) (by rintro _ _ ⟨_, rfl, _⟩; rfl) meets_UnpackUnit
theorem sd_cipher_WriteAt_R_WriteAt : SoundAt prg n_cipher_WriteAt (mkR false R_WriteAt) := w_cipher_WriteAt.sound mixed (ctx_cons sd_cipher_fileErr_R_fileErr (ctx_cons sd_cipher_holderErr_R_holdErr (ctx_cons sd_cipher_within_R_compress_within (ctx_cons sd_cipher_unless_R_compress_unless (ctx_cons sd_cipher_first_R_compress_first (ctx_cons sd_cipher_keyFor_R_keyFor (ctx_cons sd_slices_Clone_depository_api_CipherField_depository_api_CipherField_R_copyF (ctx_cons sd_cipher_crypt_R_crypt (ctx_cons sd_strings_Repeat_R_Repeat ctx_nil))))))))) (mkR_ok _ _) (by rintro _ _ ⟨_, ⟨_, _, _, _, rfl, _⟩, _⟩; rfl) meets_WriteAt
theorem sd_top_cipherShown_R_shown : SoundAt prg n_top_cipherShown (fnSpec R_shown) := w_top_cipherShown.sound mixed (ctx_cons sd_law06_Unit_R_Unit0 (ctx_cons sd_compress_PackUnit_S_PackUnit (ctx_cons sd_cipher_Crypt_R_Crypt (ctx_cons sd_compress_UnpackUnit_S_unpack ctx_nil)))) (fnSpec_ok _) (by rintro _ _ ⟨_, ⟨rfl, _⟩, _⟩; rfl) meets_cipherShown
theorem sd_top_TopCipherOverCompress_R_lawTop : SoundAt prg n_top_TopCipherOverCompress (fnSpec R_lawTop) := w_top_TopCipherOverCompress.sound mixed (ctx_cons sd_top_cipherShown_R_shown (ctx_cons sd_ref07_HolderErr_R_HolderErr (ctx_cons sd_ref07_KeyErr_R_keyErr (ctx_cons sd_ref07_IsWord_Q_word07 (ctx_cons sd_law06_Unit_S_Unit (ctx_cons sd_compress_PackUnit_S_PackUnit (ctx_cons sd_cipher_Wrap_S_Wrap (ctx_cons sd_cipher_Added_R_Added (ctx_cons sd_ref07_CopyFields_R_copyF (ctx_cons sd_cipher_WriteAt_R_WriteAt (ctx_cons sd_cipher_ReadAt_R_ReadAt (ctx_cons sd_ref07_Copy_R_Copy (ctx_cons sd_compress_UnpackUnit_S_unpack (ctx_cons sd_compress_Encode_S_Encode (ctx_cons sd_compress_Decode_S_decode (ctx_cons sd_base_Within_R_compress_within ctx_nil)))))))))))))))) (fnSpec_ok _) (by rintro _ _ ⟨_, ⟨_, _, _, _, _, _, rfl, _⟩, _⟩; rfl) meets_lawTop
end Go.Dv.Try
end
