/-
  A part of the proof: own texts, laid together by a tool of our own: F04q F04r F04s F04t F04u F04v F04w F04x F04A.
-/
import Derived.Test.YteiglmkppgjcbaaWalks2
import Derived.Test.YteiglmkppgjcbaaDv4
import Derived.KernelRfl
import Derived.Test.YteiglmkppgjcbaaWalks1
section
/-
  Contracts of chapter 4: room.
-/
namespace Go.Dv.Try
open Go Go.Dv

/-- The error of a request. -/
def askE (s : List UInt8) (n c near : Int) : Int := andE (bmErr s n) ((1 ≤ c ∧ c ≤ 4096) ∧ 0 ≤ near ∧ near ≤ 4095)
def S_openAsk : Spec := mkS false false fun ps K => ∃ (s : List UInt8) (n c near : Int), ps = [.str s, pI n, .agg [pI c, pI near]] ∧ s.length ≤ 1000000 ∧ K (.tup [.agg [.row T_uint8 1 (s.map byteP), .pv (pI n)], .pv (pI (askE s n c near))])
theorem meets_openAsk : Meets (ctxOf [(n_bitmap_open, S_open), (n_bitmap_first, S_first2), (n_bitmap_unless, fnSpec R_bitmap_unless), (n_bitmap_within, fnB Q_within)]) s_bitmap_openAsk c_bitmap_openAsk r_bitmap_openAsk S_openAsk := by
  rintro _ K ⟨s, n, c, near, rfl, hs, hK⟩
  unfold askE andE at hK
  by_cases he : bmErr s n = 0
  · simp only [he, ne_eq, not_true_eq_false, if_false] at hK
    (repeat' ((conv => whnf); (fail_if_success (refine ⟨(?_ : Nat), (?_ : _ < _), ?_⟩)); (fail_if_success (refine ⟨(?_ : RV), ?_⟩)); (fail_if_success (refine ⟨(?_ : List RV), ?_⟩)); first | refine CMP (fun _ => ?_) (fun _ => ?_) | refine And.intro rfl ?_ | refine ⟨_, ⟨_, _, rfl, rfl⟩, ?_⟩ | refine ⟨_, ⟨_, _, _, rfl, rfl⟩, ?_⟩ | refine ⟨_, _, rfl, fun h => absurd h (by omega), fun _ => ?_⟩ | refine ⟨_, _, rfl, (by repeat' (first | omega | assumption | exact trivial | refine And.intro ?_ ?_)), ?_⟩ | fail)) <;> try (conv => whnf)
    · rename_i h1 h2 h3
      rw [if_pos ⟨h1, h2⟩] at hK
      (refine ⟨_, ?_, ?_, hK⟩ <;> repeat' (first | exact rfl | exact trivial | exact flat_runs _ | exact flat_pI _ | exact (fun _ h => by cases h) | refine ⟨?_, ?_⟩))
    · rename_i h1 h2 h3
      rw [if_neg (fun h => h2 h.2)] at hK
      (refine ⟨_, ?_, ?_, hK⟩ <;> repeat' (first | exact rfl | exact trivial | exact flat_runs _ | exact flat_pI _ | exact (fun _ h => by cases h) | refine ⟨?_, ?_⟩))
    · rename_i h1 h2
      rw [if_neg (fun h => h1 h.1)] at hK
      (refine ⟨_, ?_, ?_, hK⟩ <;> repeat' (first | exact rfl | exact trivial | exact flat_runs _ | exact flat_pI _ | exact (fun _ h => by cases h) | refine ⟨?_, ?_⟩))
  · rw [if_pos he] at hK
    (repeat' ((conv => whnf); (fail_if_success (refine ⟨(?_ : Nat), (?_ : _ < _), ?_⟩)); (fail_if_success (refine ⟨(?_ : RV), ?_⟩)); (fail_if_success (refine ⟨(?_ : List RV), ?_⟩)); first | refine CMP (fun _ => ?_) (fun _ => ?_) | refine And.intro rfl ?_ | refine ⟨_, ⟨_, _, rfl, rfl⟩, ?_⟩ | refine ⟨_, ⟨_, _, _, rfl, rfl⟩, ?_⟩ | refine ⟨_, _, rfl, fun _ => ?_, fun h => absurd h (by omega)⟩ | refine ⟨_, _, rfl, (by repeat' (first | omega | assumption | exact trivial | refine And.intro ?_ ?_)), ?_⟩ | fail)) <;> try (conv => whnf)
    all_goals (refine ⟨_, ?_, ?_, hK⟩ <;> repeat' (first | exact rfl | exact trivial | exact flat_runs _ | exact flat_pI _ | exact (fun _ h => by cases h) | refine ⟨?_, ?_⟩))

def R_room_f1 (ps : List PV) (p : Prop) : Prop := ∃ (r : Rn) (c : Int), ps = [r.pv, .cptr (pI c)] ∧ p = (r.n < c)
theorem meets_room_f1 : Meets (ctxOf []) s_bitmap_bitmap_room_f1 c_bitmap_bitmap_room_f1 r_bitmap_bitmap_room_f1 (fnB R_room_f1) := by
  rintro _ K ⟨_, ⟨r, c, rfl, rfl⟩, hK⟩
  (repeat' ((conv => whnf); (fail_if_success (refine ⟨(?_ : Nat), (?_ : _ < _), ?_⟩)); (fail_if_success (refine ⟨(?_ : RV), ?_⟩)); (fail_if_success (refine ⟨(?_ : List RV), ?_⟩)); first | refine CMP (fun _ => ?_) (fun _ => ?_) | fail)) <;> try (conv => whnf)
  all_goals exact ⟨.pv (.bool _), rfl, trivial, hK _ (by first | (simp; omega) | simp)⟩
def cloR (c : Int) : PV := .clo n_bitmap_bitmap_room_f1 [.cptr (pI c)]
def small (c : Int) (r : Rn) : Bool := decide (r.n < c)
def S_IndexF : Spec := mkS true false fun ps K => ∃ (l : List Rn) (c : Int), ps = [.sl 2 (l.map Rn.pv), cloR c] ∧ l.length ≤ 1000000 ∧
  ((∀ r ∈ l, small c r = false) → K (.pv (pI (-1)))) ∧ ∀ (i : Nat) (r : Rn), l[i]? = some r → small c r = true → (∀ r ∈ l.take i, small c r = false) → K (.pv (pI i))
theorem meets_IndexF : Meets (ctxOf [(n_bitmap_bitmap_room_f1, fnB R_room_f1)]) s_slices_IndexFunc_depository_api_Run_depository_api_Run c_slices_IndexFunc_depository_api_Run_depository_api_Run r_slices_IndexFunc_depository_api_Run_depository_api_Run S_IndexF := by
  rintro _ K ⟨l, c, rfl, hl, hK1, hK2⟩
  (repeat' ((conv => whnf); (fail_if_success (refine ⟨(?_ : Nat), (?_ : _ < _), ?_⟩)); (fail_if_success (refine ⟨(?_ : RV), ?_⟩)); (fail_if_success (refine ⟨(?_ : List RV), ?_⟩)); first | (show _ ≤ (9223372036854775807 : Nat) → _; first | rw [List.length_map, tab_len] | rw [List.length_map] | rw [List.length_replicate] | skip; intro _) | fail)) <;> try (conv => whnf)
  refine ⟨fun m env σ => ∃ i : Nat, (i + m = l.length ∧ ∀ r ∈ l.take i, small c r = false) ∧ σ = [] ∧ env = [(0, .pv (.sl 2 (l.map Rn.pv))), (1, .pv (cloR c)), (7, .pv (pI l.length)), (8, .pv (pI i))], l.length, ⟨0, ⟨by omega, fun r h => (by cases h)⟩, rfl, rfl⟩, ?_⟩
  rintro m env σ ⟨i, ⟨hi, h0⟩, rfl, rfl⟩
  (repeat' ((conv => whnf); (fail_if_success (refine ⟨(?_ : Nat), (?_ : _ < _), ?_⟩)); (fail_if_success (refine ⟨(?_ : RV), ?_⟩)); (fail_if_success (refine ⟨(?_ : List RV), ?_⟩)); first | refine N64 (by omega) ?_ | refine CMP (fun _ => ?_) (fun _ => ?_) | refine IDXn (by omega) (fun _ _ => ?_) | refine ⟨_, ⟨_, _, rfl, rfl⟩, ?_⟩ | fail)) <;> try (conv => whnf)
  · rename_i r hr h
    have hK := hK2 i r hr (by simpa [small] using h) h0
    (refine ⟨_, ?_, ?_, hK⟩ <;> repeat' (first | exact rfl | exact trivial | exact flat_runs _ | exact flat_pI _ | exact (fun _ h => by cases h) | refine ⟨?_, ?_⟩))
  · rename_i r hr h
    refine ⟨m - 1, by omega, i + 1, ⟨by omega, fun x hx => ?_⟩, rfl, rfl⟩
    rw [List.take_add_one, hr] at hx
    rcases List.mem_append.1 hx with hx | hx
    · exact h0 x hx
    · simp at hx; subst hx; simpa [small] using h
  · have : i = l.length := by omega
    subst this
    rw [List.take_length] at h0
    have hK := hK1 h0
    (refine ⟨_, ?_, ?_, hK⟩ <;> repeat' (first | exact rfl | exact trivial | exact flat_runs _ | exact flat_pI _ | exact (fun _ h => by cases h) | refine ⟨?_, ?_⟩))

/-- The entries that stay. -/
def roomL (c : Int) (l : List Rn) : List Rn := l.filter fun r => !small c r
def M_delete (xs : List AV) (σ : Sto) (K : AV → Sto → Prop) : Prop :=
  ∃ (ap : Bool) (L : List Rn) (c : Int), xs = [.own 0, .pv (cloR c)] ∧ σ = [.row T_api_Run 2 ap (L.map Rn.pv)] ∧ L.length ≤ 1000000 ∧
    (roomL c L = L → K (.own 0) [.row T_api_Run 2 ap (L.map Rn.pv)]) ∧ ∀ (R : List Rn) (k : Nat), R.take k = roomL c L → k ≤ R.length → K (.sub 0 2 0 k) [.row T_api_Run 2 ap (R.map Rn.pv)]
theorem meets_delete : MeetsM (ctxOf [(n_slices_IndexFunc_depository_api_Run_depository_api_Run, S_IndexF), (n_bitmap_bitmap_room_f1, fnB R_room_f1)]) s_slices_DeleteFunc_depository_api_Run_depository_api_Run c_slices_DeleteFunc_depository_api_Run_depository_api_Run r_slices_DeleteFunc_depository_api_Run_depository_api_Run (mkM M_delete) := by
  rintro _ _ K ⟨ap, L, c, rfl, rfl, hl, hK1, hK2⟩
  refine ⟨L, c, rfl, hl, fun h => ?_, fun i r hr hs h0 => ?_⟩
  · (repeat' ((conv => whnf); (fail_if_success (refine ⟨(?_ : Nat), (?_ : _ < _), ?_⟩)); (fail_if_success (refine ⟨(?_ : RV), ?_⟩)); (fail_if_success (refine ⟨(?_ : List RV), ?_⟩)); first | refine CMP_t (by omega) ?_ | fail)) <;> try (conv => whnf)
    refine hK1 ?_
    unfold roomL
    rw [List.filter_eq_self]
    intro r hr; rw [h r hr]; rfl
  · have hi := lt_of_get hr
    (repeat' ((conv => whnf); (fail_if_success (refine ⟨(?_ : Nat), (?_ : _ < _), ?_⟩)); (fail_if_success (refine ⟨(?_ : RV), ?_⟩)); (fail_if_success (refine ⟨(?_ : List RV), ?_⟩)); first | refine N64 (by omega) ?_ | refine CMP_f (by omega) ?_ | fail)) <;> try (conv => whnf)
    refine ⟨fun m env σ => ∃ (k j : Nat) (R : List Rn), (j + m = L.length ∧ k < j ∧ R.length = L.length ∧ R.take k = roomL c (L.take j) ∧ R.drop j = L.drop j) ∧ σ = [.row T_api_Run 2 ap (R.map Rn.pv)] ∧ env = [(0, .own 0), (1, .pv (cloR c)), (5, .pv (pI k)), (6, .pv (pI j))], L.length - (i + 1), ⟨i, i + 1, L, ⟨by omega, by omega, rfl, ?_, rfl⟩, rfl, rfl⟩, ?_⟩
    · rw [List.take_add_one, hr, show (some r).toList = [r] from rfl]
      have e1 : roomL c (L.take i) = L.take i := by
        unfold roomL
        rw [List.filter_eq_self]
        intro x hx; rw [h0 x hx]; rfl
      show _ = roomL c (L.take i ++ [r])
      unfold roomL at e1 ⊢
      rw [List.filter_append, e1]
      simp [hs]
    rintro m env σ ⟨k, j, R, ⟨hj, hkj, hR, ht, hd⟩, rfl, rfl⟩
    have hget : ∀ x, R[j]? = some x → L[j]? = some x := by
      intro x hx
      have h1 : (R.drop j)[0]? = R[j]? := by rw [List.getElem?_drop]; rfl
      have h2 : (L.drop j)[0]? = L[j]? := by rw [List.getElem?_drop]; rfl
      rw [← h2, ← hd, h1]; exact hx
    have hd1 : R.drop (j + 1) = L.drop (j + 1) := by have := congrArg (List.drop 1) hd; rwa [List.drop_drop, List.drop_drop] at this
    (repeat' ((conv => whnf); (fail_if_success (refine ⟨(?_ : Nat), (?_ : _ < _), ?_⟩)); (fail_if_success (refine ⟨(?_ : RV), ?_⟩)); (fail_if_success (refine ⟨(?_ : List RV), ?_⟩)); first | refine N64 (by omega) ?_ | refine NOT_t ?_ | refine NOT_f ?_ | refine CMP (fun _ => ?_) (fun _ => ?_) | (show _ ≤ (9223372036854775807 : Nat) → _; first | rw [List.length_map, tab_len] | rw [List.length_map] | rw [List.length_replicate] | skip; intro _) | refine OWN (by omega) ?_ | refine GETn (by omega) (fun _ _ => ?_) | refine And.intro rfl ?_ | refine ⟨_, ⟨_, _, rfl, rfl⟩, ?_⟩ | fail)) <;> try (conv => whnf)
    · rename_i x hx hns
      have hxL := hget x hx
      refine ⟨m - 1, by omega, k, j + 1, R, ⟨by omega, by omega, hR, ?_, ?_⟩, rfl, rfl⟩
      · rw [ht, List.take_add_one (l := L), hxL]
        unfold roomL
        rw [List.filter_append]
        have : small c x = true := by unfold small; simpa using hns
        simp [this]
      · exact hd1
    · rename_i x hx hns y hy
      have hxL := hget x hx
      have e1 : (R.map Rn.pv).set (k : Int).toNat (.agg [pI x.s, pI x.n]) = (R.set k x).map Rn.pv := by rw [Int.toNat_natCast, ← set_map]; rfl
      refine ⟨m - 1, by omega, k + 1, j + 1, R.set k x, ⟨by omega, by omega, by simp [hR], ?_, ?_⟩, congrArg (fun l => [Blk.row _ _ _ l]) e1, rfl⟩
      · rw [List.take_add_one, List.take_set, List.set_eq_of_length_le (by rw [List.length_take]; omega), List.getElem?_set_self (by omega), ht, List.take_add_one (l := L), hxL]
        unfold roomL
        rw [List.filter_append]
        have hsm : small c x = false := by unfold small; simpa using hns
        simp [hsm]
      · rw [List.drop_set_of_lt (by omega)]; exact hd1
    · have : j = L.length := by omega
      subst this
      rw [List.take_length] at ht
      refine .inr ?_
      (repeat' ((conv => whnf); (fail_if_success (refine ⟨(?_ : Nat), (?_ : _ < _), ?_⟩)); (fail_if_success (refine ⟨(?_ : RV), ?_⟩)); (fail_if_success (refine ⟨(?_ : List RV), ?_⟩)); first | refine And.intro (by (simp; omega)) ?_ | fail)) <;> try (conv => whnf)
      have hl1 : (cut (k : Int).toNat ((k : Int).toNat + ((R.map Rn.pv).length - (k : Int).toNat)) (R.map Rn.pv)).length = R.length - k := by
        rw [cut_len (by rw [List.length_map, Int.toNat_natCast]; omega), List.length_map, Int.toNat_natCast]; omega
      have e : ((R.map Rn.pv).take (k : Int).toNat ++ ((List.replicate (cut (k : Int).toNat ((k : Int).toNat + ((R.map Rn.pv).length - (k : Int).toNat)) (R.map Rn.pv)).length (PV.agg [.int .i64 0, .int .i64 0])).take ((R.map Rn.pv).length - (k : Int).toNat)) ++
          (R.map Rn.pv).drop ((k : Int).toNat + min (List.replicate (cut (k : Int).toNat ((k : Int).toNat + ((R.map Rn.pv).length - (k : Int).toNat)) (R.map Rn.pv)).length (PV.agg [.int .i64 0, .int .i64 0])).length ((R.map Rn.pv).length - (k : Int).toNat))) = (R.take k ++ List.replicate (R.length - k) (⟨0, 0⟩ : Rn)).map Rn.pv := by
        rw [hl1, List.length_replicate, List.length_map, Int.toNat_natCast, Nat.min_self, List.drop_eq_nil_of_le (by rw [List.length_map]; omega), List.append_nil, List.map_append, ← List.map_take, List.take_of_length_le (l := List.replicate (R.length - k) (PV.agg [.int .i64 0, .int .i64 0])) (by rw [List.length_replicate]; omega), List.map_replicate]
        rfl
      refine .inr ⟨by rw [e]; simp; omega, ?_⟩
      have hh := hK2 (R.take k ++ List.replicate (R.length - k) ⟨0, 0⟩) k (by rw [List.take_append_of_le_length (by rw [List.length_take]; omega), List.take_take, Nat.min_self]; exact ht) (by simp; omega)
      rw [← e] at hh
      exact hh

def S_room : Spec := mkS false false fun ps K => ∃ (B : List UInt8) (n c : Int), ps = [bmP B n, pI c] ∧ (0 ≤ n ∧ n ≤ 8 * B.length ∧ B.length ≤ 100000) ∧ K (.pv (.sl 2 ((roomL c (runsP (extP B 0) n.toNat)).map Rn.pv)))
theorem runsP_bound {p : Nat → Bool} {n : Nat} : (runsP p n).length ≤ n := (runsP_ok p n).2.1
theorem meets_room : Meets (ctxOf [(n_bitmap_bitmap_extents, S_extents), (n_slices_DeleteFunc_depository_api_Run_depository_api_Run, mkM M_delete), (n_bitmap_bitmap_room_f1, fnB R_room_f1)]) s_bitmap_bitmap_room c_bitmap_bitmap_room r_bitmap_bitmap_room S_room := by
  rintro _ K ⟨B, n, c, rfl, ⟨h0, h1, h2⟩, hK⟩
  (repeat' ((conv => whnf); (fail_if_success (refine ⟨(?_ : Nat), (?_ : _ < _), ?_⟩)); (fail_if_success (refine ⟨(?_ : RV), ?_⟩)); (fail_if_success (refine ⟨(?_ : List RV), ?_⟩)); first | refine ⟨_, _, _, rfl, (by repeat' (first | omega | assumption | exact trivial | refine And.intro ?_ ?_)), ?_⟩ | fail)) <;> try (conv => whnf)
  have hb := @runsP_bound (extP B 0) n.toNat
  refine ⟨true, runsP (extP B 0) n.toNat, c, rfl, rfl, by omega, fun h => ?_, fun R k ht hk => ?_⟩
  · (conv => whnf)
    rw [h] at hK
    exact ⟨.pv (.sl _ _), rfl, trivial, hK⟩
  · (conv => whnf)
    have e : cut 0 (0 + k) (R.map Rn.pv) = (roomL c (runsP (extP B 0) n.toNat)).map Rn.pv := by
      rw [Nat.zero_add, cut_map, ← ht]; rfl
    rw [← e] at hK
    exact ⟨.pv (.sl _ _), ⟨by rw [List.length_map]; omega, rfl⟩, trivial, hK⟩

/-- What is found of a list: where its first entry begins. -/
def headS (l : List Rn) : Int := match l with | [] => 0 | r :: _ => r.s
def headE (l : List Rn) : Int := match l with | [] => 16 | _ :: _ => 0
def fitE (s : List UInt8) (n c near : Int) : Int := if askE s n c near ≠ 0 then askE s n c near else headE (roomL c (runsP (extP s 0) n.toNat))
def firstR (s : List UInt8) (n c : Int) : Int := if askE s n c 0 ≠ 0 then 0 else headS (roomL c (runsP (extP s 0) n.toNat))
theorem askE_ok {s : List UInt8} {n c near : Int} (h : askE s n c near = 0) : bmErr s n = 0 ∧ (1 ≤ c ∧ c ≤ 4096) ∧ 0 ≤ near ∧ near ≤ 4095 := by
  unfold askE andE at h
  split at h
  · rename_i h'; exact absurd h h'
  · rename_i h'
    split at h
    · rename_i h2; exact ⟨Decidable.of_not_not h', h2⟩
    · cases h
theorem roomL_len {c : Int} {l : List Rn} : (roomL c l).length ≤ l.length := List.length_filter_le _ _
def S_FirstFit : Spec := mkS true false fun ps K => ∃ (s : List UInt8) (n c : Int), ps = [.str s, pI n, pI c] ∧ s.length ≤ 100000 ∧ K (.tup [.pv (pI (firstR s n c)), .pv (pI (fitE s n c 0))])
theorem meets_FirstFit : Meets (ctxOf [(n_bitmap_openAsk, S_openAsk), (n_bitmap_bitmap_room, S_room)]) s_bitmap_FirstFit c_bitmap_FirstFit r_bitmap_FirstFit S_FirstFit := by
  rintro _ K ⟨s, n, c, rfl, hs, hK⟩
  unfold firstR fitE at hK
  by_cases he : askE s n c 0 = 0
  · obtain ⟨h0, h7, h8⟩ := askE_ok he
    obtain ⟨h1, h2, h3, h4, h5⟩ := bmErr_ok h0
    simp only [he, ne_eq, not_true_eq_false, if_false] at hK
    have hb := @runsP_bound (extP s 0) n.toNat
    have hb2 := @roomL_len c (runsP (extP s 0) n.toNat)
    (repeat' ((conv => whnf); (fail_if_success (refine ⟨(?_ : Nat), (?_ : _ < _), ?_⟩)); (fail_if_success (refine ⟨(?_ : RV), ?_⟩)); (fail_if_success (refine ⟨(?_ : List RV), ?_⟩)); first | refine CMP_f (by omega) ?_ | (show _ ≤ (9223372036854775807 : Nat) → _; first | rw [List.length_map, tab_len] | rw [List.length_map] | rw [List.length_replicate] | skip; intro _) | refine And.intro rfl ?_ | refine ⟨_, _, _, rfl, (by repeat' (first | omega | assumption | exact trivial | refine And.intro ?_ ?_)), ?_⟩ | refine ⟨_, _, _, _, rfl, (by repeat' (first | omega | assumption | exact trivial | refine And.intro ?_ ?_)), ?_⟩ | fail)) <;> try (conv => whnf)
    generalize roomL c (runsP (extP s 0) n.toNat) = R at *
    cases R with
    | nil =>
      refine ⟨fun m env σ => σ = [] ∧ env = [(25, .pv (.sl 2 [])), (26, .pv (pI 0)), (27, .pv (pI 0))], 0, ⟨rfl, rfl⟩, ?_⟩
      rintro m env σ ⟨rfl, rfl⟩
      (repeat' ((conv => whnf); (fail_if_success (refine ⟨(?_ : Nat), (?_ : _ < _), ?_⟩)); (fail_if_success (refine ⟨(?_ : RV), ?_⟩)); (fail_if_success (refine ⟨(?_ : List RV), ?_⟩)); first | refine CMP_f (by omega) ?_ | fail)) <;> try (conv => whnf)
      (refine ⟨_, ?_, ?_, hK⟩ <;> repeat' (first | exact rfl | exact trivial | exact flat_runs _ | exact flat_pI _ | exact (fun _ h => by cases h) | refine ⟨?_, ?_⟩))
    | cons r R =>
      refine ⟨fun m env σ => σ = [] ∧ env = [(25, .pv (.sl 2 ((r :: R).map Rn.pv))), (26, .pv (pI (r :: R).length)), (27, .pv (pI 0))], 0, ⟨rfl, by rw [← List.length_map (f := Rn.pv)]⟩, ?_⟩
      rintro m env σ ⟨rfl, rfl⟩
      (repeat' ((conv => whnf); (fail_if_success (refine ⟨(?_ : Nat), (?_ : _ < _), ?_⟩)); (fail_if_success (refine ⟨(?_ : RV), ?_⟩)); (fail_if_success (refine ⟨(?_ : List RV), ?_⟩)); first | refine CMP (fun _ => ?_) (fun _ => ?_) | refine IDX (by omega) (fun _ _ => ?_) | refine And.intro rfl ?_ | fail)) <;> try (conv => whnf)
      · rename_i x hx
        have hx : r = x := by simpa using hx
        subst hx
        (refine ⟨_, ?_, ?_, hK⟩ <;> repeat' (first | exact rfl | exact trivial | exact flat_runs _ | exact flat_pI _ | exact (fun _ h => by cases h) | refine ⟨?_, ?_⟩))
      · rename_i h
        exfalso; apply h; simp
  · rw [if_pos he, if_pos he] at hK
    (repeat' ((conv => whnf); (fail_if_success (refine ⟨(?_ : Nat), (?_ : _ < _), ?_⟩)); (fail_if_success (refine ⟨(?_ : RV), ?_⟩)); (fail_if_success (refine ⟨(?_ : List RV), ?_⟩)); first | refine CMP_t (by omega) ?_ | refine And.intro rfl ?_ | refine ⟨_, _, _, _, rfl, (by repeat' (first | omega | assumption | exact trivial | refine And.intro ?_ ?_)), ?_⟩ | fail)) <;> try (conv => whnf)
    (refine ⟨_, ?_, ?_, hK⟩ <;> repeat' (first | exact rfl | exact trivial | exact flat_runs _ | exact flat_pI _ | exact (fun _ h => by cases h) | refine ⟨?_, ?_⟩))

/-- The shortest run, of several the first one. -/
def minF (b : Rn) : List Rn → Rn
  | [] => b
  | x :: l => minF (if x.n < b.n then x else b) l
theorem minF_snoc (b : Rn) : ∀ (l : List Rn) (x : Rn), minF b (l ++ [x]) = if x.n < (minF b l).n then x else minF b l := by
  intro l
  induction l generalizing b with
  | nil => intro x; rfl
  | cons y l ih => intro x; exact ih _ x
def R_min_f1 (ps : List PV) (x : PV) : Prop := ∃ a b : Rn, ps = [a.pv, b.pv] ∧ (rnB a ∧ rnB b) ∧ x = pI (a.n - b.n)
theorem meets_min_f1 : Meets (ctxOf []) s_bitmap_BestFit_f1 c_bitmap_BestFit_f1 r_bitmap_BestFit_f1 (fnSpec R_min_f1) := by
  rintro _ K ⟨_, ⟨a, b, rfl, ⟨⟨h1, h2, h3, h4⟩, ⟨h5, h6, h7, h8⟩⟩, rfl⟩, hK⟩
  (repeat' ((conv => whnf); (fail_if_success (refine ⟨(?_ : Nat), (?_ : _ < _), ?_⟩)); (fail_if_success (refine ⟨(?_ : RV), ?_⟩)); (fail_if_success (refine ⟨(?_ : List RV), ?_⟩)); first | refine N64 (by omega) ?_ | fail)) <;> try (conv => whnf)
  (refine ⟨_, ?_, ?_, hK⟩ <;> repeat' (first | exact rfl | exact trivial | exact flat_runs _ | exact flat_pI _ | exact (fun _ h => by cases h) | refine ⟨?_, ?_⟩))
theorem minF_mem (b : Rn) : ∀ l : List Rn, minF b l = b ∨ minF b l ∈ l := by
  intro l
  induction l generalizing b with
  | nil => exact .inl rfl
  | cons x l ih =>
    rcases ih (if x.n < b.n then x else b) with h | h
    · unfold minF; rw [h]
      split
      · exact .inr (by simp)
      · exact .inl rfl
    · exact .inr (by unfold minF; simp [h])
def S_MinFunc : Spec := mkS true false fun ps K => ∃ (b : Rn) (l : List Rn), ps = [.sl 2 ((b :: l).map Rn.pv), .clo n_bitmap_BestFit_f1 []] ∧ (l.length ≤ 1000000 ∧ ∀ r ∈ b :: l, rnB r) ∧ K (.pv (minF b l).pv)
theorem meets_MinFunc : Meets (ctxOf [(n_bitmap_BestFit_f1, fnSpec R_min_f1)]) s_slices_MinFunc_depository_api_Run_depository_api_Run c_slices_MinFunc_depository_api_Run_depository_api_Run r_slices_MinFunc_depository_api_Run_depository_api_Run S_MinFunc := by
  rintro _ K ⟨b, l, rfl, ⟨hl, hB⟩, hK⟩
  have hlen : (b :: l).length = l.length + 1 := rfl
  (repeat' ((conv => whnf); (fail_if_success (refine ⟨(?_ : Nat), (?_ : _ < _), ?_⟩)); (fail_if_success (refine ⟨(?_ : RV), ?_⟩)); (fail_if_success (refine ⟨(?_ : List RV), ?_⟩)); first | refine CMP_f (by omega) ?_ | (show _ ≤ (9223372036854775807 : Nat) → _; first | rw [List.length_map, tab_len] | rw [List.length_map] | rw [List.length_replicate] | skip; intro _) | refine IDXp (by assumption) (by omega) (fun _ _ _ => ?_) | refine And.intro rfl ?_ | fail)) <;> try (conv => whnf)
  · rename_i x hx hxB
    have hx : b = x := by simpa using hx
    subst hx
    have hmB : ∀ k, rnB (minF b (l.take k)) := fun k => by
      rcases minF_mem b (l.take k) with h | h
      · rw [h]; exact hxB
      · exact hB _ (List.mem_cons_of_mem _ (List.mem_of_mem_take h))
    refine ⟨fun m env σ => ∃ (i : Nat), (i + m = l.length) ∧ σ = [.box 48 [.pv (pI 0), .pv (pI 0)], .box 48 [.pv (pI (minF b (l.take i)).s), .pv (pI (minF b (l.take i)).n)]] ∧ env = [(0, .pv (.sl 2 ((b :: l).map Rn.pv))), (1, .pv (.clo n_bitmap_BestFit_f1 [])), (4, .ref 0 0 0), (5, .ref 1 0 0), (6, .pv (pI ((i + 1 : Nat) : Int)))], l.length, ⟨0, by omega, rfl, rfl⟩, ?_⟩
    rintro m env σ ⟨i, hi, rfl, rfl⟩
    have hget : ∀ x, (b :: l)[i + 1]? = some x → l[i]? = some x := fun x hx => by simpa using hx
    (repeat' ((conv => whnf); (fail_if_success (refine ⟨(?_ : Nat), (?_ : _ < _), ?_⟩)); (fail_if_success (refine ⟨(?_ : RV), ?_⟩)); (fail_if_success (refine ⟨(?_ : List RV), ?_⟩)); first | refine CMP (fun _ => ?_) (fun _ => ?_) | (show _ ≤ (9223372036854775807 : Nat) → _; first | rw [List.length_map, tab_len] | rw [List.length_map] | rw [List.length_replicate] | skip; intro _) | refine IDXn (by omega) (fun _ _ => ?_) | refine And.intro rfl ?_ | fail)) <;> try (conv => whnf)
    · rename_i y hy
      have hyB := hB y (List.mem_of_getElem? hy)
      refine ⟨_, ⟨y, minF b (l.take i), rfl, ⟨hyB, hmB i⟩, rfl⟩, ?_⟩
      (repeat' ((conv => whnf); (fail_if_success (refine ⟨(?_ : Nat), (?_ : _ < _), ?_⟩)); (fail_if_success (refine ⟨(?_ : RV), ?_⟩)); (fail_if_success (refine ⟨(?_ : List RV), ?_⟩)); first | refine N64 (by omega) ?_ | refine CMP (fun _ => ?_) (fun _ => ?_) | refine IDXh (by assumption) ?_ | refine And.intro rfl ?_ | fail)) <;> try (conv => whnf)
      · rename_i hlt
        refine ⟨m - 1, by omega, i + 1, by omega, ?_, rfl⟩
        rw [List.take_add_one, hget y hy, show (some y).toList = [y] from rfl, minF_snoc, if_pos (by omega)]
      · rename_i hlt
        refine ⟨m - 1, by omega, i + 1, by omega, ?_, rfl⟩
        rw [List.take_add_one, hget y hy, show (some y).toList = [y] from rfl, minF_snoc, if_neg (by omega)]
    · rename_i h
      rw [hlen] at h
      have : i = l.length := by omega
      subst this
      rw [List.take_length]
      exact ⟨.pv (minF b l).pv, rfl, flat_runs [minF b l] (minF b l).pv (by simp), hK⟩

def minS (l : List Rn) : Int := match l with | [] => 0 | b :: l => (minF b l).s
def bestR (s : List UInt8) (n c : Int) : Int := if askE s n c 0 ≠ 0 then 0 else minS (roomL c (runsP (extP s 0) n.toNat))
def S_BestFit : Spec := mkS true false fun ps K => ∃ (s : List UInt8) (n c : Int), ps = [.str s, pI n, pI c] ∧ s.length ≤ 100000 ∧ K (.tup [.pv (pI (bestR s n c)), .pv (pI (fitE s n c 0))])
theorem runsP_rnB {p : Nat → Bool} {n : Nat} (h : n ≤ 1000000) : ∀ r ∈ runsP p n, rnB r := by
  intro r hr
  have := (runsP_ok p n).1 r hr
  unfold rnB; omega
theorem meets_BestFit : Meets (ctxOf [(n_bitmap_openAsk, S_openAsk), (n_bitmap_bitmap_room, S_room), (n_slices_MinFunc_depository_api_Run_depository_api_Run, S_MinFunc)]) s_bitmap_BestFit c_bitmap_BestFit r_bitmap_BestFit S_BestFit := by
  rintro _ K ⟨s, n, c, rfl, hs, hK⟩
  unfold bestR fitE at hK
  by_cases he : askE s n c 0 = 0
  · obtain ⟨h0, h7, h8⟩ := askE_ok he
    obtain ⟨h1, h2, h3, h4, h5⟩ := bmErr_ok h0
    simp only [he, ne_eq, not_true_eq_false, if_false] at hK
    have hb := @runsP_bound (extP s 0) n.toNat
    have hb2 := @roomL_len c (runsP (extP s 0) n.toNat)
    have hB : ∀ r ∈ roomL c (runsP (extP s 0) n.toNat), rnB r := fun r hr => runsP_rnB (by omega) r (List.mem_filter.1 hr).1
    (repeat' ((conv => whnf); (fail_if_success (refine ⟨(?_ : Nat), (?_ : _ < _), ?_⟩)); (fail_if_success (refine ⟨(?_ : RV), ?_⟩)); (fail_if_success (refine ⟨(?_ : List RV), ?_⟩)); first | refine CMP_f (by omega) ?_ | refine CMP (fun _ => ?_) (fun _ => ?_) | (show _ ≤ (9223372036854775807 : Nat) → _; first | rw [List.length_map, tab_len] | rw [List.length_map] | rw [List.length_replicate] | skip; intro _) | refine And.intro rfl ?_ | refine ⟨_, _, _, rfl, (by repeat' (first | omega | assumption | exact trivial | refine And.intro ?_ ?_)), ?_⟩ | refine ⟨_, _, _, _, rfl, (by repeat' (first | omega | assumption | exact trivial | refine And.intro ?_ ?_)), ?_⟩ | fail)) <;> try (conv => whnf)
    · rename_i h
      have : roomL c (runsP (extP s 0) n.toNat) = [] := List.eq_nil_of_length_eq_zero (by omega)
      rw [this] at hK
      (refine ⟨_, ?_, ?_, hK⟩ <;> repeat' (first | exact rfl | exact trivial | exact flat_runs _ | exact flat_pI _ | exact (fun _ h => by cases h) | refine ⟨?_, ?_⟩))
    · rename_i h
      obtain ⟨r, R, e⟩ : ∃ r R, roomL c (runsP (extP s 0) n.toNat) = r :: R := by
        cases hc : roomL c (runsP (extP s 0) n.toNat) with
        | nil => rw [hc] at h; exact absurd rfl h
        | cons r R => exact ⟨r, R, rfl⟩
      rw [e] at hK hB hb2 ⊢
      have hlen : (r :: R).length = R.length + 1 := rfl
      refine ⟨r, R, rfl, ⟨by omega, hB⟩, ?_⟩
      (repeat' ((conv => whnf); (fail_if_success (refine ⟨(?_ : Nat), (?_ : _ < _), ?_⟩)); (fail_if_success (refine ⟨(?_ : RV), ?_⟩)); (fail_if_success (refine ⟨(?_ : List RV), ?_⟩)); first | refine And.intro rfl ?_ | fail)) <;> try (conv => whnf)
      (refine ⟨_, ?_, ?_, hK⟩ <;> repeat' (first | exact rfl | exact trivial | exact flat_runs _ | exact flat_pI _ | exact (fun _ h => by cases h) | refine ⟨?_, ?_⟩))
  · rw [if_pos he, if_pos he] at hK
    (repeat' ((conv => whnf); (fail_if_success (refine ⟨(?_ : Nat), (?_ : _ < _), ?_⟩)); (fail_if_success (refine ⟨(?_ : RV), ?_⟩)); (fail_if_success (refine ⟨(?_ : List RV), ?_⟩)); first | refine CMP_t (by omega) ?_ | refine And.intro rfl ?_ | refine ⟨_, _, _, _, rfl, (by repeat' (first | omega | assumption | exact trivial | refine And.intro ?_ ?_)), ?_⟩ | fail)) <;> try (conv => whnf)
    (refine ⟨_, ?_, ?_, hK⟩ <;> repeat' (first | exact rfl | exact trivial | exact flat_runs _ | exact flat_pI _ | exact (fun _ h => by cases h) | refine ⟨?_, ?_⟩))

/-- The nearest place of a run. -/
def clampI (near c : Int) (r : Rn) : Int := min (max near r.s) (r.s + r.n - c)
/-- The nearest place so far, and the next run. -/
def nearStep (near c : Int) (b : Option Int) (r : Rn) : Option Int :=
  match b with
  | none => some (clampI near c r)
  | some x => if awayI (clampI near c r) near < awayI x near then some (clampI near c r) else some x
def nearF (near c : Int) (l : List Rn) : Option Int := l.foldl (nearStep near c) none
theorem nearF_snoc (near c : Int) (l : List Rn) (r : Rn) : nearF near c (l ++ [r]) = nearStep near c (nearF near c l) r := by simp [nearF]
def optI (o : Option Int) : Int := o.getD 0
theorem clamp_bound {near c : Int} {r : Rn} (hn : 0 ≤ near ∧ near ≤ 4095) (hr : 0 ≤ r.s ∧ r.s ≤ 1000000 ∧ 0 ≤ r.n ∧ r.n ≤ 1000000) (hc : 0 ≤ c ∧ c ≤ r.n) : 0 ≤ clampI near c r ∧ clampI near c r ≤ 2000000 := by
  unfold clampI; omega
theorem nearF_bound {near c : Int} {l : List Rn} (hn : 0 ≤ near ∧ near ≤ 4095) (hc : 0 ≤ c) (hl : ∀ r ∈ l, 0 ≤ r.s ∧ r.s ≤ 1000000 ∧ 0 ≤ r.n ∧ r.n ≤ 1000000 ∧ c ≤ r.n) : ∀ x, nearF near c l = some x → 0 ≤ x ∧ x ≤ 2000000 := by
  unfold nearF
  suffices H : ∀ (b : Option Int), (∀ x, b = some x → 0 ≤ x ∧ x ≤ 2000000) → ∀ x, l.foldl (nearStep near c) b = some x → 0 ≤ x ∧ x ≤ 2000000 from H none (fun _ h => by cases h)
  induction l with
  | nil => intro b hb x hx; exact hb x hx
  | cons r l ih =>
    intro b hb
    refine ih (fun r hr => hl r (by simp [hr])) _ ?_
    intro x hx
    have h1 := hl r (by simp)
    have h2 := clamp_bound hn ⟨h1.1, h1.2.1, h1.2.2.1, h1.2.2.2.1⟩ ⟨hc, h1.2.2.2.2⟩
    unfold nearStep at hx
    split at hx
    · cases hx; exact h2
    · split at hx
      · cases hx; exact h2
      · cases hx; exact hb _ rfl
def S_near : Spec := mkS true false fun ps K => ∃ (B : List UInt8) (n c near : Int), ps = [bmP B n, .agg [pI c, pI near]] ∧ (0 ≤ n ∧ n ≤ 4096 ∧ n ≤ 8 * B.length ∧ B.length ≤ 100000 ∧ 1 ≤ c ∧ c ≤ 4096 ∧ 0 ≤ near ∧ near ≤ 4095) ∧ K (.tup [.pv (pI (optI (nearF near c (roomL c (runsP (extP B 0) n.toNat))))), .pv (pB (nearF near c (roomL c (runsP (extP B 0) n.toNat))).isSome)])
theorem meets_near : Meets (ctxOf [(n_bitmap_bitmap_room, S_room), (n_bitmap_away, fnSpec R_away)]) s_bitmap_bitmap_near c_bitmap_bitmap_near r_bitmap_bitmap_near S_near := by
  rintro _ K ⟨B, n, c, near, rfl, ⟨h1, h2, h3, h4, h5, h6, h7, h8⟩, hK⟩
  have hb := @runsP_bound (extP B 0) n.toNat
  have hb2 := @roomL_len c (runsP (extP B 0) n.toNat)
  have hR : ∀ r ∈ roomL c (runsP (extP B 0) n.toNat), 0 ≤ r.s ∧ r.s ≤ 1000000 ∧ 0 ≤ r.n ∧ r.n ≤ 1000000 ∧ c ≤ r.n := fun r hr => by
    obtain ⟨h9, h10⟩ := List.mem_filter.1 hr
    have := (runsP_ok (extP B 0) n.toNat).1 r h9
    simp [small] at h10
    omega
  refine ⟨B, n, c, rfl, by omega, ?_⟩
  generalize roomL c (runsP (extP B 0) n.toNat) = R at *
  (repeat' ((conv => whnf); (fail_if_success (refine ⟨(?_ : Nat), (?_ : _ < _), ?_⟩)); (fail_if_success (refine ⟨(?_ : RV), ?_⟩)); (fail_if_success (refine ⟨(?_ : List RV), ?_⟩)); first | (show _ ≤ (9223372036854775807 : Nat) → _; first | rw [List.length_map, tab_len] | rw [List.length_map] | rw [List.length_replicate] | skip; intro _) | fail)) <;> try (conv => whnf)
  refine ⟨fun m env σ => ∃ (i : Nat), (i + m = R.length) ∧ σ = [.box 54 [.pv (pI c), .pv (pI near)]] ∧ env = [(3, .ref 0 0 0), (6, .pv (pI (optI (nearF near c (R.take i))))), (7, .pv (pB (nearF near c (R.take i)).isSome)), (14, .pv (.sl 2 (R.map Rn.pv))), (15, .pv (pI R.length)), (16, .pv (pI i))], R.length, ⟨0, by omega, rfl, rfl⟩, ?_⟩
  rintro m env σ ⟨i, hi, rfl, rfl⟩
  have hbd := nearF_bound (l := R.take i) ⟨h7, h8⟩ (by omega) (fun r hr => hR r (List.mem_of_mem_take hr))
  by_cases hlt : i < R.length
  · obtain ⟨r, hr⟩ : ∃ r, R[i]? = some r := ⟨R[i], List.getElem?_eq_getElem hlt⟩
    have hrb := hR r (List.mem_of_getElem? hr)
    have e1 : R.take (i + 1) = R.take i ++ [r] := by rw [List.take_add_one, hr]; rfl
    have e2 := nearF_snoc near c (R.take i) r
    rw [← e1] at e2
    have hcl := clamp_bound (near := near) (c := c) (r := r) ⟨h7, h8⟩ (by omega) (by omega)
    generalize nearF near c (R.take i) = b at *
    cases b with
    | none =>
      simp only [Option.isSome_none, optI, Option.getD_none]
      (repeat' ((conv => whnf); (fail_if_success (refine ⟨(?_ : Nat), (?_ : _ < _), ?_⟩)); (fail_if_success (refine ⟨(?_ : RV), ?_⟩)); (fail_if_success (refine ⟨(?_ : List RV), ?_⟩)); first | refine N64 (by omega) ?_ | refine NOT_f ?_ | refine CMP_t (by omega) ?_ | refine MAX ?_ | refine MIN ?_ | refine IDXh (by assumption) ?_ | refine And.intro rfl ?_ | fail)) <;> try (conv => whnf)
      refine ⟨m - 1, by omega, i + 1, by omega, rfl, ?_⟩
      rw [e2]; rfl
    | some x =>
      simp only [Option.isSome_some, optI, Option.getD_some]
      have hx := hbd x rfl
      unfold clampI at hcl
      (repeat' ((conv => whnf); (fail_if_success (refine ⟨(?_ : Nat), (?_ : _ < _), ?_⟩)); (fail_if_success (refine ⟨(?_ : RV), ?_⟩)); (fail_if_success (refine ⟨(?_ : List RV), ?_⟩)); first | refine N64 (by omega) ?_ | refine NOT_t ?_ | refine CMP_t (by omega) ?_ | refine CMP (fun _ => ?_) (fun _ => ?_) | refine MAX ?_ | refine MIN ?_ | refine IDXh (by assumption) ?_ | refine And.intro rfl ?_ | refine ⟨_, ⟨_, _, rfl, (by repeat' (first | omega | assumption | exact trivial | refine And.intro ?_ ?_)), rfl⟩, ?_⟩ | fail)) <;> try (conv => whnf)
      · rename_i h
        have e3 : nearStep near c (some x) r = some (clampI near c r) := if_pos h
        refine ⟨m - 1, by omega, i + 1, by omega, rfl, ?_⟩
        rw [e2, e3]; rfl
      · rename_i h
        have e3 : nearStep near c (some x) r = some x := if_neg h
        refine ⟨m - 1, by omega, i + 1, by omega, rfl, ?_⟩
        rw [e2, e3]; rfl
  · (repeat' ((conv => whnf); (fail_if_success (refine ⟨(?_ : Nat), (?_ : _ < _), ?_⟩)); (fail_if_success (refine ⟨(?_ : RV), ?_⟩)); (fail_if_success (refine ⟨(?_ : List RV), ?_⟩)); first | refine CMP_f (by omega) ?_ | fail)) <;> try (conv => whnf)
    have : i = R.length := by omega
    subst this
    rw [List.take_length]
    (refine ⟨_, ?_, ?_, hK⟩ <;> repeat' (first | exact rfl | exact trivial | exact flat_runs _ | exact flat_pI _ | exact (fun _ h => by cases h) | refine ⟨?_, ?_⟩))

def nearO (s : List UInt8) (n c near : Int) : Option Int := nearF near c (roomL c (runsP (extP s 0) n.toNat))
def nearR (s : List UInt8) (n c near : Int) : Int := if askE s n c near ≠ 0 then 0 else optI (nearO s n c near)
def nearE (s : List UInt8) (n c near : Int) : Int := if askE s n c near ≠ 0 then askE s n c near else if (nearO s n c near).isSome then 0 else 16
def S_NearFit : Spec := mkS true false fun ps K => ∃ (s : List UInt8) (n c near : Int), ps = [.str s, pI n, .agg [pI c, pI near]] ∧ s.length ≤ 100000 ∧ K (.tup [.pv (pI (nearR s n c near)), .pv (pI (nearE s n c near))])
theorem meets_NearFit : Meets (ctxOf [(n_bitmap_openAsk, S_openAsk), (n_bitmap_bitmap_near, S_near), (n_bitmap_unless, fnSpec R_bitmap_unless)]) s_bitmap_NearFit c_bitmap_NearFit r_bitmap_NearFit S_NearFit := by
  rintro _ K ⟨s, n, c, near, rfl, hs, hK⟩
  unfold nearR nearE nearO at hK
  by_cases he : askE s n c near = 0
  · obtain ⟨h0, h7, h8⟩ := askE_ok he
    obtain ⟨h1, h2, h3, h4, h5⟩ := bmErr_ok h0
    simp only [he, ne_eq, not_true_eq_false, if_false] at hK
    (repeat' ((conv => whnf); (fail_if_success (refine ⟨(?_ : Nat), (?_ : _ < _), ?_⟩)); (fail_if_success (refine ⟨(?_ : RV), ?_⟩)); (fail_if_success (refine ⟨(?_ : List RV), ?_⟩)); first | refine CMP_f (by omega) ?_ | refine And.intro rfl ?_ | refine ⟨_, ⟨_, _, rfl, rfl⟩, ?_⟩ | refine ⟨_, _, _, _, rfl, (by repeat' (first | omega | assumption | exact trivial | refine And.intro ?_ ?_)), ?_⟩ | fail)) <;> try (conv => whnf)
    generalize nearF near c (roomL c (runsP (extP s 0) n.toNat)) = b at *
    cases b <;> (refine ⟨_, ?_, ?_, hK⟩ <;> repeat' (first | exact rfl | exact trivial | exact flat_runs _ | exact flat_pI _ | exact (fun _ h => by cases h) | refine ⟨?_, ?_⟩))
  · rw [if_pos he, if_pos he] at hK
    (repeat' ((conv => whnf); (fail_if_success (refine ⟨(?_ : Nat), (?_ : _ < _), ?_⟩)); (fail_if_success (refine ⟨(?_ : RV), ?_⟩)); (fail_if_success (refine ⟨(?_ : List RV), ?_⟩)); first | refine CMP_t (by omega) ?_ | refine And.intro rfl ?_ | refine ⟨_, _, _, _, rfl, (by repeat' (first | omega | assumption | exact trivial | refine And.intro ?_ ?_)), ?_⟩ | fail)) <;> try (conv => whnf)
    (refine ⟨_, ?_, ?_, hK⟩ <;> repeat' (first | exact rfl | exact trivial | exact flat_runs _ | exact flat_pI _ | exact (fun _ h => by cases h) | refine ⟨?_, ?_⟩))
end Go.Dv.Try
end
section
/-
  Contracts of chapter 4: room in the reference.
-/
namespace Go.Dv.Try
open Go Go.Dv

def S_refExt : Spec := mkS true false fun ps K => ∃ (s : List UInt8) (n v : Int), ps = [.str s, pI n, pI v] ∧ (0 ≤ n ∧ n ≤ 4096 ∧ n ≤ 8 * s.length ∧ s.length ≤ 100000) ∧ K (.fresh T_api_Run 2 (runsPv (extP s v) n.toNat))
theorem meets_refExt : Meets (ctxOf [(n_ref04_Bits, S_Bits), (n_ref04_RunsOf, S_RunsOf)]) s_ref04_Extents c_ref04_Extents r_ref04_Extents S_refExt := by
  rintro _ K ⟨s, n, v, rfl, ⟨h0, h1, h2, h3⟩, hK⟩
  obtain ⟨n, rfl⟩ : ∃ k : Nat, n = k := ⟨n.toNat, by omega⟩
  rw [Int.toNat_natCast] at hK
  (repeat' ((conv => whnf); (fail_if_success (refine ⟨(?_ : Nat), (?_ : _ < _), ?_⟩)); (fail_if_success (refine ⟨(?_ : RV), ?_⟩)); (fail_if_success (refine ⟨(?_ : List RV), ?_⟩)); first | refine ⟨_, _, rfl, (by repeat' (first | omega | assumption | exact trivial | refine And.intro ?_ ?_)), ?_⟩ | fail)) <;> try (conv => whnf)
  refine ⟨bitsL s n, v, extP s v, rfl, ⟨by simp; omega, fun i x hx => ?_⟩, ?_⟩
  · have hi := lt_of_get hx
    rw [bitsL_len] at hi
    rw [bitsL_get hi] at hx
    rw [← Option.some.inj hx]
    simp [extP]
  · rw [bitsL_len]
    (conv => whnf)
    exact ⟨.fresh _ _ _, ⟨rfl, rfl, rfl, rfl⟩, flat_runsPv _ _, hK⟩

theorem room_split {c : Int} {L : List Rn} {i : Nat} {r : Rn} (h : ∀ x ∈ L.take i, small c x = true) (hr : L[i]? = some r) (hs : small c r = false) : roomL c L = r :: roomL c (L.drop (i + 1)) := by
  have hi := lt_of_get hr
  have e : L = L.take i ++ (r :: L.drop (i + 1)) := by
    rw [List.getElem?_eq_getElem hi] at hr
    rw [← Option.some.inj hr, ← List.drop_eq_getElem_cons hi, List.take_append_drop]
  conv => lhs; rw [e]
  unfold roomL
  rw [List.filter_append]
  have : (L.take i).filter (fun r => !small c r) = [] := by
    rw [List.filter_eq_nil_iff]; intro x hx; simp [h x hx]
  rw [this]
  simp [hs]
theorem room_none {c : Int} {L : List Rn} (h : ∀ x ∈ L, small c x = true) : roomL c L = [] := by
  unfold roomL
  rw [List.filter_eq_nil_iff]; intro x hx; simp [h x hx]
theorem room_snoc (c : Int) (L : List Rn) (r : Rn) : roomL c (L ++ [r]) = if small c r then roomL c L else roomL c L ++ [r] := by
  unfold roomL
  rw [List.filter_append]
  cases h : small c r <;> simp [h]
def headR (l : List Rn) : Int := match l with | [] => -1 | r :: _ => r.s
def extL (s : List UInt8) (n : Int) : List Rn := runsP (extP s 0) n.toNat
def S_refFirst : Spec := mkS true false fun ps K => ∃ (s : List UInt8) (n c : Int), ps = [.str s, pI n, pI c] ∧ (0 ≤ n ∧ n ≤ 4096 ∧ n ≤ 8 * s.length ∧ s.length ≤ 100000) ∧ K (.pv (pI (headR (roomL c (extL s n)))))
theorem meets_refFirst : Meets (ctxOf [(n_ref04_Extents, S_refExt)]) s_ref04_First c_ref04_First r_ref04_First S_refFirst := by
  rintro _ K ⟨s, n, c, rfl, ⟨h0, h1, h2, h3⟩, hK⟩
  have hb := @runsP_bound (extP s 0) n.toNat
  unfold extL at hK
  (repeat' ((conv => whnf); (fail_if_success (refine ⟨(?_ : Nat), (?_ : _ < _), ?_⟩)); (fail_if_success (refine ⟨(?_ : RV), ?_⟩)); (fail_if_success (refine ⟨(?_ : List RV), ?_⟩)); first | refine ⟨_, _, _, rfl, (by repeat' (first | omega | assumption | exact trivial | refine And.intro ?_ ?_)), ?_⟩ | fail)) <;> try (conv => whnf)
  unfold runsPv
  generalize runsP (extP s 0) n.toNat = L at *
  refine ⟨fun m env σ => ∃ (i : Nat), (i + m = L.length ∧ ∀ x ∈ L.take i, small c x = true) ∧ σ = [.row T_api_Run 2 true (L.map Rn.pv)] ∧ env = [(2, .pv (pI c)), (7, .own 0), (8, .pv (pI i))], L.length, ⟨0, ⟨by omega, fun x h => (by cases h)⟩, rfl, rfl⟩, ?_⟩
  rintro m env σ ⟨i, ⟨hi, hs⟩, rfl, rfl⟩
  (repeat' ((conv => whnf); (fail_if_success (refine ⟨(?_ : Nat), (?_ : _ < _), ?_⟩)); (fail_if_success (refine ⟨(?_ : RV), ?_⟩)); (fail_if_success (refine ⟨(?_ : List RV), ?_⟩)); first | refine N64 (by omega) ?_ | refine CMP (fun _ => ?_) (fun _ => ?_) | (show _ ≤ (9223372036854775807 : Nat) → _; first | rw [List.length_map, tab_len] | rw [List.length_map] | rw [List.length_replicate] | skip; intro _) | refine GEThn (by assumption) ?_ | refine OWN (by omega) ?_ | refine GETn (by omega) (fun _ _ => ?_) | fail)) <;> try (conv => whnf)
  · rename_i r hr hge
    rw [room_split hs hr (by simp [small]; omega)] at hK
    (refine ⟨_, ?_, ?_, hK⟩ <;> repeat' (first | exact rfl | exact trivial | exact flat_runs _ | exact flat_pI _ | exact (fun _ h => by cases h) | refine ⟨?_, ?_⟩))
  · rename_i r hr hge
    refine ⟨m - 1, by omega, i + 1, ⟨by omega, fun x hx => ?_⟩, rfl, rfl⟩
    rw [List.take_add_one, hr] at hx
    rcases List.mem_append.1 hx with hx | hx
    · exact hs x hx
    · simp at hx; subst hx; simp [small]; omega
  · have : i = L.length := by omega
    subst this
    rw [List.take_length] at hs
    rw [room_none hs] at hK
    (refine ⟨_, ?_, ?_, hK⟩ <;> repeat' (first | exact rfl | exact trivial | exact flat_runs _ | exact flat_pI _ | exact (fun _ h => by cases h) | refine ⟨?_, ?_⟩))

def minO (l : List Rn) : Option Rn := match l with | [] => none | b :: l => some (minF b l)
theorem minO_snoc (l : List Rn) (x : Rn) : minO (l ++ [x]) = some (match minO l with | none => x | some m => if x.n < m.n then x else m) := by
  cases l with
  | nil => rfl
  | cons b l => simp [minO, minF_snoc]
def optS (o : Option Rn) : Int := match o with | none => -1 | some r => r.s
def S_refBest : Spec := mkS true false fun ps K => ∃ (s : List UInt8) (n c : Int), ps = [.str s, pI n, pI c] ∧ (0 ≤ n ∧ n ≤ 4096 ∧ n ≤ 8 * s.length ∧ s.length ≤ 100000) ∧ K (.pv (pI (optS (minO (roomL c (extL s n))))))
theorem meets_refBest : Meets (ctxOf [(n_ref04_Extents, S_refExt)]) s_ref04_Best c_ref04_Best r_ref04_Best S_refBest := by
  rintro _ K ⟨s, n, c, rfl, ⟨h0, h1, h2, h3⟩, hK⟩
  have hb := @runsP_bound (extP s 0) n.toNat
  unfold extL at hK
  (repeat' ((conv => whnf); (fail_if_success (refine ⟨(?_ : Nat), (?_ : _ < _), ?_⟩)); (fail_if_success (refine ⟨(?_ : RV), ?_⟩)); (fail_if_success (refine ⟨(?_ : List RV), ?_⟩)); first | refine ⟨_, _, _, rfl, (by repeat' (first | omega | assumption | exact trivial | refine And.intro ?_ ?_)), ?_⟩ | fail)) <;> try (conv => whnf)
  unfold runsPv
  generalize runsP (extP s 0) n.toNat = L at *
  refine ⟨fun m env σ => ∃ (i : Nat) (k : Int), (i + m = L.length ∧ ((k = -1 ∧ minO (roomL c (L.take i)) = none) ∨ (0 ≤ k ∧ k < i ∧ minO (roomL c (L.take i)) = L[k.toNat]?))) ∧ σ = [.row T_api_Run 2 true (L.map Rn.pv)] ∧ env = [(2, .pv (pI c)), (7, .own 0), (8, .pv (pI k)), (9, .pv (pI i))], L.length, ⟨0, -1, ⟨by omega, .inl ⟨rfl, rfl⟩⟩, rfl, rfl⟩, ?_⟩
  rintro m env σ ⟨i, k, ⟨hi, hk⟩, rfl, rfl⟩
  by_cases hlt : i < L.length
  · obtain ⟨r, hr⟩ : ∃ r, L[i]? = some r := ⟨L[i], List.getElem?_eq_getElem hlt⟩
    have e1 : L.take (i + 1) = L.take i ++ [r] := by rw [List.take_add_one, hr]; rfl
    have e2 := room_snoc c (L.take i) r
    rw [← e1] at e2
    rcases hk with ⟨rfl, hk⟩ | ⟨hk0, hki, hk⟩
    · (repeat' ((conv => whnf); (fail_if_success (refine ⟨(?_ : Nat), (?_ : _ < _), ?_⟩)); (fail_if_success (refine ⟨(?_ : RV), ?_⟩)); (fail_if_success (refine ⟨(?_ : List RV), ?_⟩)); first | refine N64 (by omega) ?_ | refine CMP_t (by omega) ?_ | refine CMP (fun _ => ?_) (fun _ => ?_) | (show _ ≤ (9223372036854775807 : Nat) → _; first | rw [List.length_map, tab_len] | rw [List.length_map] | rw [List.length_replicate] | skip; intro _) | refine GEThn (by assumption) ?_ | refine OWN (by omega) ?_ | refine And.intro rfl ?_ | fail)) <;> try (conv => whnf)
      · rename_i hge
        refine ⟨m - 1, by omega, i + 1, i, ⟨by omega, .inr ⟨by omega, by omega, ?_⟩⟩, rfl, rfl⟩
        rw [e2, if_neg (by simp [small]; omega), minO_snoc, hk, Int.toNat_natCast, hr]
      · rename_i hge
        refine ⟨m - 1, by omega, i + 1, -1, ⟨by omega, .inl ⟨rfl, ?_⟩⟩, rfl, rfl⟩
        rw [e2, if_pos (by simp [small]; omega)]; exact hk
    · obtain ⟨q, hq⟩ : ∃ q, L[k.toNat]? = some q := ⟨L[k.toNat]'(by omega), List.getElem?_eq_getElem (by omega)⟩
      rw [hq] at hk
      (repeat' ((conv => whnf); (fail_if_success (refine ⟨(?_ : Nat), (?_ : _ < _), ?_⟩)); (fail_if_success (refine ⟨(?_ : RV), ?_⟩)); (fail_if_success (refine ⟨(?_ : List RV), ?_⟩)); first | refine N64 (by omega) ?_ | refine CMP_t (by omega) ?_ | refine CMP_f (by omega) ?_ | refine CMP (fun _ => ?_) (fun _ => ?_) | (show _ ≤ (9223372036854775807 : Nat) → _; first | rw [List.length_map, tab_len] | rw [List.length_map] | rw [List.length_replicate] | skip; intro _) | refine GEThn (by assumption) ?_ | refine OWN (by omega) ?_ | refine And.intro rfl ?_ | fail)) <;> try (conv => whnf)
      · rename_i hge hlt2
        refine ⟨m - 1, by omega, i + 1, i, ⟨by omega, .inr ⟨by omega, by omega, ?_⟩⟩, rfl, rfl⟩
        rw [e2, if_neg (by simp [small]; omega), minO_snoc, hk, Int.toNat_natCast, hr]
        simp only; rw [if_pos hlt2]
      · rename_i hge hlt2
        refine ⟨m - 1, by omega, i + 1, k, ⟨by omega, .inr ⟨by omega, by omega, ?_⟩⟩, rfl, rfl⟩
        rw [e2, if_neg (by simp [small]; omega), minO_snoc, hk, hq]
        simp only; rw [if_neg hlt2]
      · rename_i hge
        refine ⟨m - 1, by omega, i + 1, k, ⟨by omega, .inr ⟨by omega, by omega, ?_⟩⟩, rfl, rfl⟩
        rw [e2, if_pos (by simp [small]; omega), hq]; exact hk
  · have hi : i = L.length := by omega
    subst hi
    rw [List.take_length] at hk
    rcases hk with ⟨rfl, hk⟩ | ⟨hk0, hki, hk⟩
    · rw [hk] at hK
      (repeat' ((conv => whnf); (fail_if_success (refine ⟨(?_ : Nat), (?_ : _ < _), ?_⟩)); (fail_if_success (refine ⟨(?_ : RV), ?_⟩)); (fail_if_success (refine ⟨(?_ : List RV), ?_⟩)); first | refine CMP_t (by omega) ?_ | refine CMP_f (by omega) ?_ | (show _ ≤ (9223372036854775807 : Nat) → _; first | rw [List.length_map, tab_len] | rw [List.length_map] | rw [List.length_replicate] | skip; intro _) | fail)) <;> try (conv => whnf)
      (refine ⟨_, ?_, ?_, hK⟩ <;> repeat' (first | exact rfl | exact trivial | exact flat_runs _ | exact flat_pI _ | exact (fun _ h => by cases h) | refine ⟨?_, ?_⟩))
    · obtain ⟨q, hq⟩ : ∃ q, L[k.toNat]? = some q := ⟨L[k.toNat]'(by omega), List.getElem?_eq_getElem (by omega)⟩
      rw [hk, hq] at hK
      (repeat' ((conv => whnf); (fail_if_success (refine ⟨(?_ : Nat), (?_ : _ < _), ?_⟩)); (fail_if_success (refine ⟨(?_ : RV), ?_⟩)); (fail_if_success (refine ⟨(?_ : List RV), ?_⟩)); first | refine CMP_f (by omega) ?_ | (show _ ≤ (9223372036854775807 : Nat) → _; first | rw [List.length_map, tab_len] | rw [List.length_map] | rw [List.length_replicate] | skip; intro _) | refine GEThn (by assumption) ?_ | refine OWN (by omega) ?_ | fail)) <;> try (conv => whnf)
      (refine ⟨_, ?_, ?_, hK⟩ <;> repeat' (first | exact rfl | exact trivial | exact flat_runs _ | exact flat_pI _ | exact (fun _ h => by cases h) | refine ⟨?_, ?_⟩))
end Go.Dv.Try
end
section
/-
  Contracts of chapter 4: the nearest place in the reference; where two bitmaps differ.
-/
namespace Go.Dv.Try
open Go Go.Dv

def R_Size (ps : List PV) (x : PV) : Prop := ∃ n : Int, ps = [pI n] ∧ (-1000000000000 ≤ n ∧ n ≤ 1000000000000) ∧ x = pI (max n (0 - n))
theorem meets_Size : Meets (ctxOf []) s_base_Size c_base_Size r_base_Size (fnSpec R_Size) := by
  rintro _ K ⟨_, ⟨n, rfl, ⟨h1, h2⟩, rfl⟩, hK⟩
  (repeat' ((conv => whnf); (fail_if_success (refine ⟨(?_ : Nat), (?_ : _ < _), ?_⟩)); (fail_if_success (refine ⟨(?_ : RV), ?_⟩)); (fail_if_success (refine ⟨(?_ : List RV), ?_⟩)); first | refine N64 (by omega) ?_ | refine MAX ?_ | fail)) <;> try (conv => whnf)
  (refine ⟨_, ?_, ?_, hK⟩ <;> repeat' (first | exact rfl | exact trivial | exact flat_runs _ | exact flat_pI _ | exact (fun _ h => by cases h) | refine ⟨?_, ?_⟩))
def optM (o : Option Int) : Int := o.getD (-1)
def nearL (near c : Int) (l : List Rn) : Option Int := nearF near c (roomL c l)
theorem clamp_min {near c : Int} {r : Rn} (hc : c ≤ r.n) {k : Int} (h1 : r.s ≤ k) (h2 : k + c ≤ r.s + r.n) : awayI (clampI near c r) near ≤ awayI k near ∧ (awayI k near ≤ awayI (clampI near c r) near → k = clampI near c r) := by
  unfold awayI clampI; omega
theorem clamp_in {near c : Int} {r : Rn} (hc : c ≤ r.n) : r.s ≤ clampI near c r ∧ clampI near c r + c ≤ r.s + r.n := by
  unfold clampI; omega
/-- The best of some places, where one may be known ahead. -/
def BestTo (near s k : Int) (o : Option Int) (b : Int) : Prop :=
  (b = optM o ∧ ∀ j, s ≤ j → j < k → ∃ x, o = some x ∧ awayI x near ≤ awayI j near) ∨
  (s ≤ b ∧ b < k ∧ (∀ j, s ≤ j → j < k → awayI b near ≤ awayI j near) ∧ ∀ x, o = some x → awayI b near < awayI x near)
theorem best_end {near c : Int} {r : Rn} {o : Option Int} {b k : Int} (hk : ¬ k + c ≤ r.s + r.n) (hsk : r.s ≤ k) (hk2 : k = r.s ∨ k - 1 + c ≤ r.s + r.n) (h : BestTo near r.s k o b) : b = optM (if small c r then o else nearStep near c o r) := by
  unfold small
  by_cases hc : r.n < c
  · rw [if_pos (by simpa using hc)]
    rcases h with ⟨h, _⟩ | ⟨h1, h2, _⟩
    · exact h
    · omega
  · rw [if_neg (by simpa using hc)]
    have hin := @clamp_in near c r (by omega)
    rcases h with ⟨h, h3⟩ | ⟨h1, h2, h3, h4⟩
    · obtain ⟨x, rfl, hx⟩ := h3 (clampI near c r) hin.1 (by omega)
      have : nearStep near c (some x) r = some x := if_neg (by omega)
      rw [this]; exact h
    · have hm := @clamp_min near c r (by omega) b h1 (by omega)
      have e := hm.2 (h3 _ hin.1 (by omega))
      cases o with
      | none => exact e
      | some x =>
        have : nearStep near c (some x) r = some (clampI near c r) := if_pos (by rw [← e]; exact h4 x rfl)
        rw [this]; exact e
theorem best_take {near s k b : Int} {o : Option Int} (h : BestTo near s k o b) (hb : (b < 0 ∧ o = none ∧ ¬ s ≤ b) ∨ awayI k near < awayI b near) (hs : s ≤ k) : BestTo near s (k + 1) o k := by
  refine .inr ⟨hs, by omega, fun j h1 h2 => ?_, fun x hx => ?_⟩
  · by_cases e : j = k
    · rw [e]; exact Int.le_refl _
    · rcases h with ⟨h, h3⟩ | ⟨h3, h4, h5, h6⟩
      · obtain ⟨x, rfl, hx⟩ := h3 j h1 (by omega)
        rcases hb with ⟨_, hn, _⟩ | hb
        · cases hn
        · rw [show b = x from h] at hb; omega
      · rcases hb with ⟨_, _, hb⟩ | hb
        · exact absurd h3 hb
        · have := h5 j h1 (by omega); omega
  · rcases h with ⟨h, h3⟩ | ⟨h3, h4, h5, h6⟩
    · subst hx
      rcases hb with ⟨_, hn, _⟩ | hb
      · cases hn
      · rw [show b = x from h] at hb; exact hb
    · rcases hb with ⟨_, hn, _⟩ | hb
      · rw [hn] at hx; cases hx
      · have := h6 x hx; omega
theorem best_keep {near s k b : Int} {o : Option Int} (h : BestTo near s k o b) (hb : ¬ awayI k near < awayI b near) (ho : b = optM o → o ≠ none) : BestTo near s (k + 1) o b := by
  rcases h with ⟨h, h3⟩ | ⟨h3, h4, h5, h6⟩
  · refine .inl ⟨h, fun j h1 h2 => ?_⟩
    by_cases e : j = k
    · cases o with
      | none => exact absurd rfl (ho h)
      | some x => rw [show b = x from h] at hb; exact ⟨x, rfl, by rw [e]; omega⟩
    · exact h3 j h1 (by omega)
  · refine .inr ⟨h3, by omega, fun j h1 h2 => ?_, h6⟩
    by_cases e : j = k
    · rw [e]; omega
    · exact h5 j h1 (by omega)
theorem size_away (a b : Int) : max (a - b) (0 - (a - b)) = awayI a b := by unfold awayI; omega
def S_refNear : Spec := mkS true false fun ps K => ∃ (s : List UInt8) (n c near : Int), ps = [.str s, pI n, .agg [pI c, pI near]] ∧ (0 ≤ n ∧ n ≤ 4096 ∧ n ≤ 8 * s.length ∧ s.length ≤ 100000 ∧ 1 ≤ c ∧ c ≤ 4096 ∧ 0 ≤ near ∧ near ≤ 4095) ∧ K (.pv (pI (optM (nearL near c (extL s n)))))
theorem meets_refNear : Meets (ctxOf [(n_ref04_Extents, S_refExt), (n_base_Size, fnSpec R_Size)]) s_ref04_Near c_ref04_Near r_ref04_Near S_refNear := by
  rintro _ K ⟨s, n, c, near, rfl, ⟨h0, h1, h2, h3, h4, h5, h6, h7⟩, hK⟩
  have hb := @runsP_bound (extP s 0) n.toNat
  have hr0 := (runsP_ok (extP s 0) n.toNat).1
  unfold extL at hK
  (repeat' ((conv => whnf); (fail_if_success (refine ⟨(?_ : Nat), (?_ : _ < _), ?_⟩)); (fail_if_success (refine ⟨(?_ : RV), ?_⟩)); (fail_if_success (refine ⟨(?_ : List RV), ?_⟩)); first | refine ⟨_, _, _, rfl, (by repeat' (first | omega | assumption | exact trivial | refine And.intro ?_ ?_)), ?_⟩ | fail)) <;> try (conv => whnf)
  unfold runsPv
  generalize runsP (extP s 0) n.toNat = L at *
  refine ⟨fun m env σ => ∃ (i : Nat), (i + m = L.length) ∧ σ = [.box 54 [.pv (pI c), .pv (pI near)], .row T_api_Run 2 true (L.map Rn.pv)] ∧ env = [(5, .ref 0 0 0), (7, .own 1), (8, .pv (pI (optM (nearL near c (L.take i))))), (9, .pv (pI i))], L.length, ⟨0, by omega, rfl, rfl⟩, ?_⟩
  rintro m env σ ⟨i, hi, rfl, rfl⟩
  by_cases hlt : i < L.length
  · obtain ⟨r, hr⟩ : ∃ r, L[i]? = some r := ⟨L[i], List.getElem?_eq_getElem hlt⟩
    obtain ⟨hs0, hn1, hsn⟩ := hr0 r (List.mem_of_getElem? hr)
    have e1 : L.take (i + 1) = L.take i ++ [r] := by rw [List.take_add_one, hr]; rfl
    have e2 : nearL near c (L.take (i + 1)) = if small c r then nearL near c (L.take i) else nearStep near c (nearL near c (L.take i)) r := by
      unfold nearL
      rw [e1, room_snoc]
      split
      · rfl
      · exact nearF_snoc _ _ _ _
    have hbd : ∀ x, nearL near c (L.take i) = some x → 0 ≤ x ∧ x ≤ 2000000 := nearF_bound ⟨h6, h7⟩ (by omega) (fun r hr => by
      obtain ⟨h8, h9⟩ := List.mem_filter.1 hr
      have := hr0 r (List.mem_of_mem_take h8)
      simp [small] at h9
      omega)
    (repeat' ((conv => whnf); (fail_if_success (refine ⟨(?_ : Nat), (?_ : _ < _), ?_⟩)); (fail_if_success (refine ⟨(?_ : RV), ?_⟩)); (fail_if_success (refine ⟨(?_ : List RV), ?_⟩)); first | refine CMP_t (by omega) ?_ | (show _ ≤ (9223372036854775807 : Nat) → _; first | rw [List.length_map, tab_len] | rw [List.length_map] | rw [List.length_replicate] | skip; intro _) | refine GEThn (by assumption) ?_ | refine OWN (by omega) ?_ | fail)) <;> try (conv => whnf)
    generalize nearL near c (L.take i) = o at *
    refine ⟨fun m' env σ => ∃ (k b : Int), (m' = (r.s + r.n + 1 - k).toNat ∧ r.s ≤ k ∧ (k = r.s ∨ k - 1 + c ≤ r.s + r.n) ∧ -1 ≤ b ∧ b ≤ 2000000 ∧ (b < 0 ↔ b = optM o ∧ o = none) ∧ BestTo near r.s k o b) ∧ σ = [.box 54 [.pv (pI c), .pv (pI near)], .row T_api_Run 2 true (L.map Rn.pv)] ∧ env = [(5, .ref 0 0 0), (7, .own 1), (8, .pv (pI b)), (9, .pv (pI i)), (10, .pv (pI k))], (r.n + 1).toNat, ⟨r.s, optM o, ⟨by omega, by omega, .inl rfl, ?_, ?_, ?_, .inl ⟨rfl, fun j h1 h2 => by omega⟩⟩, rfl, rfl⟩, ?_⟩
    · cases o with
      | none => exact Int.le_refl _
      | some x => have := hbd x rfl; simp [optM]; omega
    · cases o with
      | none => decide
      | some x => have := hbd x rfl; simp [optM]; omega
    · cases o with
      | none => simp [optM]
      | some x => have := hbd x rfl; simp [optM]; omega
    rintro m' env σ ⟨k, b, ⟨hm, hk, hk2, hb1, hb2, hb3, hB⟩, rfl, rfl⟩
    (repeat' ((conv => whnf); (fail_if_success (refine ⟨(?_ : Nat), (?_ : _ < _), ?_⟩)); (fail_if_success (refine ⟨(?_ : RV), ?_⟩)); (fail_if_success (refine ⟨(?_ : List RV), ?_⟩)); first | refine N64 (by omega) ?_ | refine CMP (fun _ => ?_) (fun _ => ?_) | refine GEThn (by assumption) ?_ | refine OWN (by omega) ?_ | refine And.intro rfl ?_ | refine ⟨_, ⟨_, rfl, (by repeat' (first | omega | assumption | exact trivial | refine And.intro ?_ ?_)), rfl⟩, ?_⟩ | fail)) <;> try (conv => whnf)
    · rename_i hle hneg
      obtain ⟨e1', e2'⟩ := hb3.1 hneg
      refine ⟨(r.s + r.n + 1 - (k + 1)).toNat, by omega, k + 1, k, ⟨rfl, by omega, .inr (by omega), by omega, by omega, ?_, best_take hB (.inl ⟨hneg, e2', by omega⟩) hk⟩, rfl, rfl⟩
      constructor
      · intro h; omega
      · rintro ⟨h, h'⟩; rw [h'] at h; simp [optM] at h; omega
    · rename_i hle hneg hc
      rw [size_away, size_away] at hc
      refine ⟨(r.s + r.n + 1 - (k + 1)).toNat, by omega, k + 1, k, ⟨rfl, by omega, .inr (by omega), by omega, by omega, ?_, best_take hB (.inr hc) hk⟩, rfl, rfl⟩
      constructor
      · intro h; omega
      · rintro ⟨h, h'⟩; rw [h'] at h; simp [optM] at h; omega
    · rename_i hle hneg hc
      rw [size_away, size_away] at hc
      exact ⟨(r.s + r.n + 1 - (k + 1)).toNat, by omega, k + 1, b, ⟨rfl, by omega, .inr (by omega), hb1, hb2, hb3, best_keep hB hc (fun h h' => hneg (hb3.2 ⟨h, h'⟩))⟩, rfl, rfl⟩
    · rename_i hle
      have := best_end hle hk hk2 hB
      refine ⟨m - 1, by omega, i + 1, by omega, rfl, ?_⟩
      rw [e2, ← this]; rfl
  · have hi : i = L.length := by omega
    subst hi
    rw [List.take_length]
    (repeat' ((conv => whnf); (fail_if_success (refine ⟨(?_ : Nat), (?_ : _ < _), ?_⟩)); (fail_if_success (refine ⟨(?_ : RV), ?_⟩)); (fail_if_success (refine ⟨(?_ : List RV), ?_⟩)); first | refine CMP_f (by omega) ?_ | (show _ ≤ (9223372036854775807 : Nat) → _; first | rw [List.length_map, tab_len] | rw [List.length_map] | rw [List.length_replicate] | skip; intro _) | fail)) <;> try (conv => whnf)
    (refine ⟨_, ?_, ?_, hK⟩ <;> repeat' (first | exact rfl | exact trivial | exact flat_runs _ | exact flat_pI _ | exact (fun _ h => by cases h) | refine ⟨?_, ?_⟩))

def S_refDiff : Spec := mkS true false fun ps K => ∃ (a b : List UInt8) (n : Int), ps = [.str a, .str b, pI n] ∧ (0 ≤ n ∧ n ≤ 4096 ∧ n ≤ 8 * a.length ∧ a.length ≤ 100000 ∧ n ≤ 8 * b.length ∧ b.length ≤ 100000) ∧ K (.fresh T_api_Run 2 (runsPv (diffP a b) n.toNat))
theorem meets_refDiff : Meets (ctxOf [(n_ref04_Bits, S_Bits), (n_ref04_RunsOf, S_RunsOf), (n_base_Mod, fnSpec R_base_Mod)]) s_ref04_Differences c_ref04_Differences r_ref04_Differences S_refDiff := by
  rintro _ K ⟨a, b, n, rfl, ⟨h0, h1, h2, h3, h4, h5⟩, hK⟩
  obtain ⟨n, rfl⟩ : ∃ k : Nat, n = k := ⟨n.toNat, by omega⟩
  rw [Int.toNat_natCast] at hK
  have eb : ∀ s, bitsL s n = tab (fun i => ((bitN s i : Nat) : Int)) n := fun s => rfl
  (repeat' ((conv => whnf); (fail_if_success (refine ⟨(?_ : Nat), (?_ : _ < _), ?_⟩)); (fail_if_success (refine ⟨(?_ : RV), ?_⟩)); (fail_if_success (refine ⟨(?_ : List RV), ?_⟩)); first | refine ⟨_, _, rfl, (by repeat' (first | omega | assumption | exact trivial | refine And.intro ?_ ?_)), ?_⟩ | fail)) <;> try (conv => whnf)
  refine ⟨fun m env σ => ∃ (i : Nat), (i + m = n) ∧ σ = [.row T_int 1 true ((tab (fun j => if j < i then (((bitN a j + bitN b j) % 2 : Nat) : Int) else ((bitN a j : Nat) : Int)) n).map pI), .row T_int 1 true ((tab (fun i => ((bitN b i : Nat) : Int)) n).map pI)] ∧ env = [(2, .pv (pI n)), (7, .own 0), (8, .own 1), (9, .pv (pI i))], n, ⟨0, by omega, by rw [eb, eb]; simp, rfl⟩, ?_⟩
  rintro m env σ ⟨i, hi, rfl, rfl⟩
  have ha := bitN_le a i
  have hb := bitN_le b i
  by_cases hlt : i < n
  · (repeat' ((conv => whnf); (fail_if_success (refine ⟨(?_ : Nat), (?_ : _ < _), ?_⟩)); (fail_if_success (refine ⟨(?_ : RV), ?_⟩)); (fail_if_success (refine ⟨(?_ : List RV), ?_⟩)); first | refine GETt (by omega) ?_ | refine CMP_t (by omega) ?_ | refine OWNt (by omega) ?_ | refine And.intro rfl ?_ | fail)) <;> try (conv => whnf)
    rw [Int.toNat_natCast, if_neg (Nat.lt_irrefl i)]
    (repeat' ((conv => whnf); (fail_if_success (refine ⟨(?_ : Nat), (?_ : _ < _), ?_⟩)); (fail_if_success (refine ⟨(?_ : RV), ?_⟩)); (fail_if_success (refine ⟨(?_ : List RV), ?_⟩)); first | refine N64 (by omega) ?_ | refine GETt (by omega) ?_ | refine OWNt (by omega) ?_ | refine And.intro rfl ?_ | refine ⟨_, ⟨_, _, rfl, (by repeat' (first | omega | assumption | exact trivial | refine And.intro ?_ ?_)), rfl⟩, ?_⟩ | fail)) <;> try (conv => whnf)
    refine ⟨m - 1, by omega, i + 1, by omega, ?_, rfl⟩
    rw [Int.toNat_natCast, set_map, tab_set]
    refine congrArg (fun x => [Blk.row _ _ _ (List.map pI x), _]) (tab_ext fun j _ => ?_)
    by_cases hj : j = i
    · rw [if_pos hj, hj, if_pos (by omega)]; omega
    · rw [if_neg hj]
      by_cases h2 : j < i
      · rw [if_pos h2, if_pos (by omega)]
      · rw [if_neg h2, if_neg (by omega)]
  · have : i = n := by omega
    subst this
    (repeat' ((conv => whnf); (fail_if_success (refine ⟨(?_ : Nat), (?_ : _ < _), ?_⟩)); (fail_if_success (refine ⟨(?_ : RV), ?_⟩)); (fail_if_success (refine ⟨(?_ : List RV), ?_⟩)); first | refine CMP_f (by omega) ?_ | fail)) <;> try (conv => whnf)
    refine ⟨_, 1, diffP a b, rfl, ⟨by simp; omega, fun j x hx => ?_⟩, ?_⟩
    · obtain ⟨hj, rfl⟩ := tab_get' hx
      have ha := bitN_le a j
      have hb := bitN_le b j
      rw [if_pos hj]
      unfold diffP
      rw [decide_eq_true_iff]
      omega
    · rw [tab_len]
      (conv => whnf)
      exact ⟨.fresh _ _ _, ⟨rfl, rfl, rfl, rfl⟩, flat_runsPv _ _, hK⟩
end Go.Dv.Try
end
section
/-
  Contracts of chapter 4: runs that are gathered.
-/
namespace Go.Dv.Try
open Go Go.Dv

/-- What is taken of runs, one after the other: the runs, and what is left. -/
def gathL : Int → List Rn → List Rn
  | _, [] => []
  | c, r :: l => if c = 0 then [] else ⟨r.s, min r.n c⟩ :: gathL (c - min r.n c) l
def gathN : Int → List Rn → Int
  | c, [] => c
  | c, r :: l => if c = 0 then 0 else gathN (c - min r.n c) l
/-- The extents in the order in which they are gathered. -/
def SortL (near : Int) (L S : List Rn) : Prop := S.Perm L ∧ S.Pairwise (fun x y => ltG near y x = false)
theorem sortL_one {near : Int} {L S T : List Rn} (h1 : SortL near L S) (h2 : SortL near L T) : S = T := by
  have hp : S.Perm T := h1.1.trans h2.1.symm
  exact hp.eq_of_pairwise (fun a b _ _ hab hba => ltG_tri hba hab) h1.2 h2.2
def gerr (left : Int) (n : Nat) : Int := if left ≠ 0 then 16 else if n ≤ 64 then 0 else 8
theorem gerr_ok {n : Nat} (h : n ≤ 64) : gerr 0 n = 0 := by unfold gerr; rw [if_neg (by decide), if_pos h]
theorem gerr_large {n : Nat} (h : ¬ n ≤ 64) : gerr 0 n = 8 := by unfold gerr; rw [if_neg (by decide), if_neg h]
theorem gerr_full {c : Int} {n : Nat} (h : c ≠ 0) : gerr c n = 16 := by unfold gerr; rw [if_pos h]
def S_Gathered : Spec := mkS true false fun ps K => ∃ (s : List UInt8) (n c near : Int), ps = [.str s, pI n, .agg [pI c, pI near]] ∧ s.length ≤ 100000 ∧
  (askE s n c near ≠ 0 → K (.tup [.fresh T_api_Run 2 [], .pv (pI (askE s n c near))])) ∧
  (askE s n c near = 0 → ∀ x, nearO s n c near = some x → K (.tup [.fresh T_api_Run 2 ([(⟨x, c⟩ : Rn)].map Rn.pv), .pv (pI 0)])) ∧
  (askE s n c near = 0 → nearO s n c near = none → ∀ S, SortL near (extL s n) S →
    (gerr (gathN c S) (gathL c S).length = 0 → K (.tup [.fresh T_api_Run 2 ((gathL c S).map Rn.pv), .pv (pI 0)])) ∧ (gerr (gathN c S) (gathL c S).length ≠ 0 → K (.tup [.fresh T_api_Run 2 [], .pv (pI (gerr (gathN c S) (gathL c S).length))])))
set_option maxHeartbeats 2000000 in
theorem meets_Gathered : Meets (ctxOf [(n_bitmap_openAsk, S_openAsk), (n_bitmap_bitmap_near, S_near), (n_bitmap_bitmap_extents, S_extents), (n_slices_SortStableFunc_depository_api_Run_depository_api_Run, mkM M_stable), (n_bitmap_Gathered_f1, fnSpec R_cmpG), (n_bitmap_first, S_first2), (n_bitmap_unless, fnSpec R_bitmap_unless)]) s_bitmap_Gathered c_bitmap_Gathered r_bitmap_Gathered S_Gathered := by
  rintro _ K ⟨s, n, c, near, rfl, hs, hK1, hK2, hK3⟩
  by_cases he : askE s n c near = 0
  · obtain ⟨h0, h7, h8⟩ := askE_ok he
    obtain ⟨h1, h2, h3, h4, h5⟩ := bmErr_ok h0
    have hK2 := hK2 he
    have hK3 := hK3 he
    unfold nearO at hK2 hK3
    (repeat' ((conv => whnf); (fail_if_success (refine ⟨(?_ : Nat), (?_ : _ < _), ?_⟩)); (fail_if_success (refine ⟨(?_ : RV), ?_⟩)); (fail_if_success (refine ⟨(?_ : List RV), ?_⟩)); first | refine CMP_f (by omega) ?_ | refine And.intro rfl ?_ | refine ⟨_, _, _, _, rfl, (by repeat' (first | omega | assumption | exact trivial | refine And.intro ?_ ?_)), ?_⟩ | fail)) <;> try (conv => whnf)
    generalize nearF near c (roomL c (runsP (extP s 0) n.toNat)) = b at *
    cases b with
    | some x =>
      have hK := hK2 x rfl
      (repeat' ((conv => whnf); (fail_if_success (refine ⟨(?_ : Nat), (?_ : _ < _), ?_⟩)); (fail_if_success (refine ⟨(?_ : RV), ?_⟩)); (fail_if_success (refine ⟨(?_ : List RV), ?_⟩)); first | refine And.intro rfl ?_ | fail)) <;> try (conv => whnf)
      (refine ⟨_, ?_, ?_, hK⟩ <;> repeat' (first | exact rfl | exact trivial | exact flat_runs _ | exact flat_pI _ | exact (fun _ h => by cases h) | refine ⟨?_, ?_⟩))
    | none =>
      have hK3 := hK3 rfl
      (repeat' ((conv => whnf); (fail_if_success (refine ⟨(?_ : Nat), (?_ : _ < _), ?_⟩)); (fail_if_success (refine ⟨(?_ : RV), ?_⟩)); (fail_if_success (refine ⟨(?_ : List RV), ?_⟩)); first | refine ⟨_, _, _, rfl, (by repeat' (first | omega | assumption | exact trivial | refine And.intro ?_ ?_)), ?_⟩ | fail)) <;> try (conv => whnf)
      have hb := @runsP_bound (extP s 0) n.toNat
      have hr0 := (runsP_ok (extP s 0) n.toNat).1
      refine ⟨true, runsP (extP s 0) n.toNat, c, near, rfl, rfl, ⟨by omega, runsP_rnB (by omega), by unfold nearB; omega⟩, fun S hp hS => ?_⟩
      obtain ⟨hK4, hK5⟩ := hK3 S ⟨hp, hS⟩
      have hlen : S.length ≤ 4096 := by rw [hp.length_eq]; omega
      have hS1 : ∀ r ∈ S, 1 ≤ r.n ∧ r.n ≤ 4096 := fun r hr => by have := hr0 r (hp.mem_iff.1 hr); omega
      (repeat' ((conv => whnf); (fail_if_success (refine ⟨(?_ : Nat), (?_ : _ < _), ?_⟩)); (fail_if_success (refine ⟨(?_ : RV), ?_⟩)); (fail_if_success (refine ⟨(?_ : List RV), ?_⟩)); first | (show _ ≤ (9223372036854775807 : Nat) → _; first | rw [List.length_map, tab_len] | rw [List.length_map] | rw [List.length_replicate] | skip; intro _) | fail)) <;> try (conv => whnf)
      refine ⟨fun m env σ => ∃ (i : Nat) (left : Int) (out : List Rn), (i + m = S.length ∧ 0 ≤ left ∧ left ≤ 4096 ∧ out.length ≤ i ∧ out ++ gathL left (S.drop i) = gathL c S ∧ gathN left (S.drop i) = gathN c S) ∧ σ = [.row T_api_Run 2 true (out.map Rn.pv), .row T_api_Run 2 true (S.map Rn.pv)] ∧ env = [(13, .own 0), (14, .pv (pI left)), (47, .own 1), (48, .pv (pI S.length)), (49, .pv (pI i))], S.length, ⟨0, c, [], ⟨by omega, by omega, by omega, by simp, rfl, rfl⟩, rfl, rfl⟩, ?_⟩
      rintro m env σ ⟨i, left, out, ⟨hi, hl0, hl1, ho, hg, hgn⟩, rfl, rfl⟩
      have stop : (left = 0 ∨ ¬ i < S.length) → out = gathL c S ∧ left = gathN c S := by
        intro h
        rw [← hg, ← hgn]
        by_cases hlt : i < S.length
        · have h0 : left = 0 := by rcases h with h | h; exact h; exact absurd hlt h
          rw [List.drop_eq_getElem_cons hlt]
          subst h0
          simp [gathL, gathN]
        · rw [List.drop_eq_nil_of_le (by omega)]
          simp [gathL, gathN]
      have fin : (left = 0 ∨ ¬ i < S.length) → (gerr left out.length = 0 → K (.tup [.fresh T_api_Run 2 (out.map Rn.pv), .pv (pI 0)])) ∧ (gerr left out.length ≠ 0 → K (.tup [.fresh T_api_Run 2 [], .pv (pI (gerr left out.length))])) := by
        intro h
        obtain ⟨e1, e2⟩ := stop h
        rw [e1, e2]; exact ⟨hK4, hK5⟩
      by_cases hlt : i < S.length
      · obtain ⟨r, hr⟩ : ∃ r, S[i]? = some r := ⟨S[i], List.getElem?_eq_getElem hlt⟩
        have hr1 := hS1 r (List.mem_of_getElem? hr)
        by_cases hz : left = 0
        · obtain ⟨f1, f2⟩ := fin (.inl hz)
          subst hz
          by_cases h64 : out.length ≤ 64
          · have hK := f1 (gerr_ok h64)
            (repeat' ((conv => whnf); (fail_if_success (refine ⟨(?_ : Nat), (?_ : _ < _), ?_⟩)); (fail_if_success (refine ⟨(?_ : RV), ?_⟩)); (fail_if_success (refine ⟨(?_ : List RV), ?_⟩)); first | refine CMP_t (by omega) ?_ | refine CMP_f (by decide) ?_ | (show _ ≤ (9223372036854775807 : Nat) → _; first | rw [List.length_map, tab_len] | rw [List.length_map] | rw [List.length_replicate] | skip; intro _) | refine GEThn (by assumption) ?_ | refine OWN (by omega) ?_ | refine And.intro rfl ?_ | refine ⟨_, ⟨_, _, rfl, rfl⟩, ?_⟩ | refine ⟨_, _, rfl, fun h => absurd h (by decide), fun _ => ?_⟩ | fail)) <;> try (conv => whnf)
            (refine ⟨_, ?_, ?_, hK⟩ <;> repeat' (first | exact rfl | exact trivial | exact flat_runs _ | exact flat_pI _ | exact (fun _ h => by cases h) | refine ⟨?_, ?_⟩))
          · rw [gerr_large h64] at f2
            have hK := f2 (by decide)
            (repeat' ((conv => whnf); (fail_if_success (refine ⟨(?_ : Nat), (?_ : _ < _), ?_⟩)); (fail_if_success (refine ⟨(?_ : RV), ?_⟩)); (fail_if_success (refine ⟨(?_ : List RV), ?_⟩)); first | refine CMP_t (by omega) ?_ | refine CMP_f (by omega) ?_ | refine CMP_t (by decide) ?_ | (show _ ≤ (9223372036854775807 : Nat) → _; first | rw [List.length_map, tab_len] | rw [List.length_map] | rw [List.length_replicate] | skip; intro _) | refine GEThn (by assumption) ?_ | refine OWN (by omega) ?_ | refine And.intro rfl ?_ | refine ⟨_, ⟨_, _, rfl, rfl⟩, ?_⟩ | refine ⟨_, _, rfl, fun h => absurd h (by decide), fun _ => ?_⟩ | fail)) <;> try (conv => whnf)
            (refine ⟨_, ?_, ?_, hK⟩ <;> repeat' (first | exact rfl | exact trivial | exact flat_runs _ | exact flat_pI _ | exact (fun _ h => by cases h) | refine ⟨?_, ?_⟩))
        · have ed : S.drop i = r :: S.drop (i + 1) := by
            rw [List.getElem?_eq_getElem hlt] at hr
            rw [List.drop_eq_getElem_cons hlt, Option.some.inj hr]
          rw [ed] at hg hgn
          simp only [gathL, gathN, if_neg hz] at hg hgn
          (repeat' ((conv => whnf); (fail_if_success (refine ⟨(?_ : Nat), (?_ : _ < _), ?_⟩)); (fail_if_success (refine ⟨(?_ : RV), ?_⟩)); (fail_if_success (refine ⟨(?_ : List RV), ?_⟩)); first | refine N64 (by omega) ?_ | refine CMP_t (by omega) ?_ | refine CMP_f (by omega) ?_ | refine MIN ?_ | refine GEThn (by assumption) ?_ | refine OWN (by omega) ?_ | refine And.intro rfl ?_ | refine And.intro (by (simp; omega)) ?_ | fail)) <;> try (conv => whnf)
          refine ⟨m - 1, by omega, i + 1, left - min r.n left, out ++ [⟨r.s, min r.n left⟩], ⟨by omega, by omega, by omega, by simp; omega, ?_, hgn⟩, ?_, rfl⟩
          · rw [← hg, List.append_assoc]; rfl
          · rw [List.map_append]; rfl
      · obtain ⟨f1, f2⟩ := fin (.inr hlt)
        by_cases hz : left = 0
        · subst hz
          by_cases h64 : out.length ≤ 64
          · have hK := f1 (gerr_ok h64)
            (repeat' ((conv => whnf); (fail_if_success (refine ⟨(?_ : Nat), (?_ : _ < _), ?_⟩)); (fail_if_success (refine ⟨(?_ : RV), ?_⟩)); (fail_if_success (refine ⟨(?_ : List RV), ?_⟩)); first | refine CMP_t (by omega) ?_ | refine CMP_f (by omega) ?_ | refine CMP_f (by decide) ?_ | (show _ ≤ (9223372036854775807 : Nat) → _; first | rw [List.length_map, tab_len] | rw [List.length_map] | rw [List.length_replicate] | skip; intro _) | refine And.intro rfl ?_ | refine ⟨_, ⟨_, _, rfl, rfl⟩, ?_⟩ | refine ⟨_, _, rfl, fun h => absurd h (by decide), fun _ => ?_⟩ | fail)) <;> try (conv => whnf)
            (refine ⟨_, ?_, ?_, hK⟩ <;> repeat' (first | exact rfl | exact trivial | exact flat_runs _ | exact flat_pI _ | exact (fun _ h => by cases h) | refine ⟨?_, ?_⟩))
          · rw [gerr_large h64] at f2
            have hK := f2 (by decide)
            (repeat' ((conv => whnf); (fail_if_success (refine ⟨(?_ : Nat), (?_ : _ < _), ?_⟩)); (fail_if_success (refine ⟨(?_ : RV), ?_⟩)); (fail_if_success (refine ⟨(?_ : List RV), ?_⟩)); first | refine CMP_t (by omega) ?_ | refine CMP_f (by omega) ?_ | refine CMP_t (by decide) ?_ | (show _ ≤ (9223372036854775807 : Nat) → _; first | rw [List.length_map, tab_len] | rw [List.length_map] | rw [List.length_replicate] | skip; intro _) | refine And.intro rfl ?_ | refine ⟨_, ⟨_, _, rfl, rfl⟩, ?_⟩ | refine ⟨_, _, rfl, fun h => absurd h (by decide), fun _ => ?_⟩ | fail)) <;> try (conv => whnf)
            (refine ⟨_, ?_, ?_, hK⟩ <;> repeat' (first | exact rfl | exact trivial | exact flat_runs _ | exact flat_pI _ | exact (fun _ h => by cases h) | refine ⟨?_, ?_⟩))
        · rw [gerr_full hz] at f2
          have hK := f2 (by decide)
          (repeat' ((conv => whnf); (fail_if_success (refine ⟨(?_ : Nat), (?_ : _ < _), ?_⟩)); (fail_if_success (refine ⟨(?_ : RV), ?_⟩)); (fail_if_success (refine ⟨(?_ : List RV), ?_⟩)); first | refine CMP_t (by omega) ?_ | refine CMP_f (by omega) ?_ | refine CMP (fun _ => ?_) (fun _ => ?_) | (show _ ≤ (9223372036854775807 : Nat) → _; first | rw [List.length_map, tab_len] | rw [List.length_map] | rw [List.length_replicate] | skip; intro _) | refine And.intro rfl ?_ | refine ⟨_, ⟨_, _, rfl, rfl⟩, ?_⟩ | refine ⟨_, _, rfl, fun _ => ?_, fun h => absurd h (by decide)⟩ | fail)) <;> try (conv => whnf)
          all_goals (refine ⟨_, ?_, ?_, hK⟩ <;> repeat' (first | exact rfl | exact trivial | exact flat_runs _ | exact flat_pI _ | exact (fun _ h => by cases h) | refine ⟨?_, ?_⟩))
  · have hK := hK1 he
    (repeat' ((conv => whnf); (fail_if_success (refine ⟨(?_ : Nat), (?_ : _ < _), ?_⟩)); (fail_if_success (refine ⟨(?_ : RV), ?_⟩)); (fail_if_success (refine ⟨(?_ : List RV), ?_⟩)); first | refine CMP_t (by omega) ?_ | refine And.intro rfl ?_ | refine ⟨_, _, _, _, rfl, (by repeat' (first | omega | assumption | exact trivial | refine And.intro ?_ ?_)), ?_⟩ | fail)) <;> try (conv => whnf)
    (refine ⟨_, ?_, ?_, hK⟩ <;> repeat' (first | exact rfl | exact trivial | exact flat_runs _ | exact flat_pI _ | exact (fun _ h => by cases h) | refine ⟨?_, ?_⟩))
end Go.Dv.Try
end
section
/-
  Contracts of chapter 4: runs that are gathered, in the reference.
-/
namespace Go.Dv.Try
open Go Go.Dv

theorem sumN_nonneg : ∀ {l : List Rn}, (∀ r ∈ l, 0 ≤ r.n) → 0 ≤ sumN l := by
  intro l
  induction l with
  | nil => intro _; exact Int.le_refl _
  | cons y l ih => intro hl; rw [sumN_cons]; have := hl y (by simp); have := ih (fun x hx => hl x (by simp [hx])); omega
theorem gathN_zero : ∀ {l : List Rn} {c : Int}, 0 ≤ c → c ≤ sumN l → (∀ r ∈ l, 0 ≤ r.n) → gathN c l = 0 := by
  intro l
  induction l with
  | nil => intro c h0 h _; simp [sumN] at h; unfold gathN; omega
  | cons r l ih =>
    intro c h0 h hr
    have h2 := sumN_nonneg (l := l) fun x hx => hr x (by simp [hx])
    rw [sumN_cons] at h
    unfold gathN
    split
    · rfl
    · exact ih (by omega) (by omega) fun x hx => hr x (by simp [hx])
theorem gathN_full : ∀ {l : List Rn} {c : Int}, 0 ≤ c → sumN l < c → (∀ r ∈ l, 0 ≤ r.n) → gathN c l ≠ 0 := by
  intro l
  induction l with
  | nil => intro c h0 h _; simp [sumN] at h; unfold gathN; omega
  | cons r l ih =>
    intro c h0 h hr
    have h1 := hr r (by simp)
    have h2 := sumN_nonneg (l := l) fun x hx => hr x (by simp [hx])
    rw [sumN_cons] at h
    unfold gathN
    rw [if_neg (by omega)]
    exact ih (by omega) (by omega) fun x hx => hr x (by simp [hx])
def sortG (near : Int) (L : List Rn) : List Rn := L.mergeSort (fun x y => !ltG near y x)
theorem sortG_ok (near : Int) (L : List Rn) : SortL near L (sortG near L) := by
  have ho := ltG_ord near
  refine ⟨List.mergeSort_perm _ _, ?_⟩
  have := List.pairwise_mergeSort (le := fun x y => !ltG near y x) (fun a b c h1 h2 => by
    simp at h1 h2 ⊢; exact ho.trans _ _ _ h1 h2) (fun a b => by
    cases h : ltG near b a with
    | false => simp
    | true => simp [ho.asymm _ _ h]) L
  exact this.imp fun h => by simpa using h
def gathR (s : List UInt8) (n c near : Int) : List Rn :=
  if n - cntN s n.toNat < c then [] else match nearL near c (extL s n) with
    | some x => [⟨x, c⟩]
    | none => if 64 < (gathL c (sortG near (extL s n))).length then [] else gathL c (sortG near (extL s n))
def gathE (s : List UInt8) (n c near : Int) : Int :=
  if n - cntN s n.toNat < c then 16 else match nearL near c (extL s n) with
    | some _ => 0
    | none => if 64 < (gathL c (sortG near (extL s n))).length then 8 else 0
def S_refGathered : Spec := mkS true false fun ps K => ∃ (s : List UInt8) (n : Nat) (c near : Int), ps = [.str s, pI n, .agg [pI c, pI near]] ∧ (n ≤ 4096 ∧ n ≤ 8 * s.length ∧ s.length ≤ 100000 ∧ 1 ≤ c ∧ c ≤ 4096 ∧ 0 ≤ near ∧ near ≤ 4095) ∧
  K (.tup [.fresh T_api_Run 2 ((gathR s n c near).map Rn.pv), .pv (pI (gathE s n c near))])
/-- The best one so far of those that are not taken. -/
def BestOf (near : Int) (L : List Rn) (t : Nat → Bool) (i : Nat) (b : Int) : Prop :=
  (b = -1 ∧ ∀ j, j < i → t j = true) ∨ ∃ (q : Nat) (y : Rn), b = q ∧ q < i ∧ L[q]? = some y ∧ t q = false ∧ ∀ j x, j < i → t j = false → L[j]? = some x → ltG near x y = false
theorem best_none {near : Int} {L : List Rn} {t : Nat → Bool} {i : Nat} {x : Rn} (h : BestOf near L t i (-1)) (ht : t i = false) (hx : L[i]? = some x) : BestOf near L t (i + 1) i := by
  refine .inr ⟨i, x, rfl, by omega, hx, ht, fun j z hj htj hz => ?_⟩
  by_cases e : j = i
  · subst e; rw [get_inj hz hx]; exact (ltG_ord near).irrefl _
  · rcases h with ⟨_, h⟩ | ⟨q, y, h, _⟩
    · rw [h j (by omega)] at htj; cases htj
    · omega
theorem best_some {near : Int} {L : List Rn} {t : Nat → Bool} {i q : Nat} {x y : Rn} (h : BestOf near L t i q) (ht : t i = false) (hx : L[i]? = some x) (hy : L[q]? = some y) (hl : ltG near x y = true) : BestOf near L t (i + 1) i := by
  have ho := ltG_ord near
  refine .inr ⟨i, x, rfl, by omega, hx, ht, fun j z hj htj hz => ?_⟩
  by_cases e : j = i
  · subst e; rw [get_inj hz hx]; exact ho.irrefl _
  · rcases h with ⟨h, _⟩ | ⟨q', y', h1, h2, h3, h4, h5⟩
    · omega
    · have : q' = q := by omega
      subst this
      rw [get_inj hy h3] at hl
      exact ho.trans _ _ _ (ho.asymm _ _ hl) (h5 j z (by omega) htj hz)
theorem best_stay {near : Int} {L : List Rn} {t : Nat → Bool} {i q : Nat} {x y : Rn} (h : BestOf near L t i q) (hx : L[i]? = some x) (hy : L[q]? = some y) (hl : ltG near x y = false) : BestOf near L t (i + 1) q := by
  rcases h with ⟨h, _⟩ | ⟨q', y', h1, h2, h3, h4, h5⟩
  · omega
  · have : q' = q := by omega
    subst this
    refine .inr ⟨q', y', rfl, by omega, h3, h4, fun j z hj htj hz => ?_⟩
    by_cases e : j = i
    · subst e; rw [get_inj hz hx, get_inj h3 hy]; exact hl
    · exact h5 j z (by omega) htj hz
theorem best_skip {near : Int} {L : List Rn} {t : Nat → Bool} {i : Nat} {b : Int} (h : BestOf near L t i b) (ht : t i = true) : BestOf near L t (i + 1) b := by
  rcases h with ⟨h, h2⟩ | ⟨q', y', h1, h2, h3, h4, h5⟩
  · refine .inl ⟨h, fun j hj => ?_⟩
    by_cases e : j = i
    · rw [e]; exact ht
    · exact h2 j (by omega)
  · refine .inr ⟨q', y', h1, by omega, h3, h4, fun j z hj htj hz => ?_⟩
    by_cases e : j = i
    · rw [e, ht] at htj; cases htj
    · exact h5 j z (by omega) htj hz
/-- The best one of all that are not taken is the next one in order. -/
theorem best_next {near : Int} {L S : List Rn} {t : Nat → Bool} {k : Nat} {b : Int} (hS : SortL near L S) (hnd : L.Nodup) (ht : ∀ (j : Nat) (x : Rn), L[j]? = some x → (t j = true ↔ x ∈ S.take k)) (hk : k < S.length) (h : BestOf near L t L.length b) : ∃ (q : Nat) (y : Rn), b = q ∧ L[q]? = some y ∧ S[k]? = some y ∧ t q = false := by
  have hndS : S.Nodup := hS.1.nodup_iff.2 hnd
  obtain ⟨z, hz⟩ : ∃ z, S[k]? = some z := ⟨S[k], List.getElem?_eq_getElem hk⟩
  have hzn : z ∉ S.take k := by
    intro hm
    obtain ⟨j, hj⟩ := mem_get.1 hm
    have hjk : j < k := by have := lt_of_get hj; simp at this; omega
    rw [List.getElem?_take_of_lt hjk] at hj
    have := (List.getElem?_inj (lt_of_get hj) hndS).1 (hj.trans hz.symm)
    omega
  obtain ⟨j, hj⟩ := mem_get.1 (hS.1.mem_iff.1 (List.mem_of_getElem? hz))
  have htj : t j = false := by
    cases hc : t j with
    | false => rfl
    | true => exact absurd ((ht j z hj).1 hc) hzn
  rcases h with ⟨h, h2⟩ | ⟨q, y, h1, h2, h3, h4, h5⟩
  · rw [h2 j (lt_of_get hj)] at htj; cases htj
  · have e1 := h5 j z (lt_of_get hj) htj hj
    have hyn : y ∉ S.take k := fun hm => by rw [(ht q y h3).2 hm] at h4; cases h4
    obtain ⟨i, hi⟩ := mem_get.1 (hS.1.mem_iff.2 (List.mem_of_getElem? h3))
    have hik : k ≤ i := by
      refine Decidable.of_not_not fun hc => hyn ?_
      exact mem_get.2 ⟨i, by rw [List.getElem?_take_of_lt (by omega)]; exact hi⟩
    have e2 : ltG near y z = false := by
      by_cases e : i = k
      · subst e; rw [get_inj hi hz]; exact (ltG_ord near).irrefl _
      · have h6 := lt_of_get hi
        have := (List.pairwise_iff_getElem.1 hS.2) k i hk h6 (by omega)
        rw [List.getElem?_eq_getElem h6] at hi
        rw [List.getElem?_eq_getElem hk] at hz
        rw [Option.some.inj hi, Option.some.inj hz] at this
        exact this
    have := ltG_tri e1 e2
    subst this
    exact ⟨q, z, h1, h3, hz, h4⟩

theorem runsP_nodup (p : Nat → Bool) (n : Nat) : (runsP p n).Nodup := by
  have h0 := (runsP_ok p n).1
  refine ((runsP_apart p n).1.imp_of_mem fun {a b} ha hb h e => ?_)
  have := h0 a ha
  subst e; omega
theorem ltG_iff2 {near : Int} {x y : Rn} (h : y.s < x.s) : (ltG near x y = true) ↔ (y.n < x.n ∨ y.n = x.n ∧ awayI x.s near < awayI y.s near) := by
  rw [ltG_iff]; omega
set_option maxHeartbeats 4000000 in
theorem meets_refGathered : Meets (ctxOf [(n_ref04_Count, fnSpec R_refCount), (n_ref04_Near, S_refNear), (n_ref04_Extents, S_refExt), (n_base_Size, fnSpec R_Size)]) s_ref04_Gathered c_ref04_Gathered r_ref04_Gathered S_refGathered := by
  rintro _ K ⟨s, n, c, near, rfl, ⟨h1, h2, h3, h4, h5, h6, h7⟩, hK⟩
  have hcnt := cntN_le s n
  unfold gathR gathE at hK
  rw [Int.toNat_natCast] at hK
  by_cases hfull : (n : Int) - cntN s n < c
  · rw [if_pos hfull, if_pos hfull] at hK
    (repeat' ((conv => whnf); (fail_if_success (refine ⟨(?_ : Nat), (?_ : _ < _), ?_⟩)); (fail_if_success (refine ⟨(?_ : RV), ?_⟩)); (fail_if_success (refine ⟨(?_ : List RV), ?_⟩)); first | refine N64 (by omega) ?_ | refine CMP_t (by omega) ?_ | refine And.intro rfl ?_ | refine ⟨_, ⟨_, _, rfl, (by repeat' (first | omega | assumption | exact trivial | refine And.intro ?_ ?_)), rfl⟩, ?_⟩ | fail)) <;> try (conv => whnf)
    (refine ⟨_, ?_, ?_, hK⟩ <;> repeat' (first | exact rfl | exact trivial | exact flat_runs _ | exact flat_pI _ | exact (fun _ h => by cases h) | refine ⟨?_, ?_⟩))
  rw [if_neg hfull, if_neg hfull] at hK
  have hb := @runsP_bound (extP s 0) n
  have hr0 := (runsP_ok (extP s 0) n).1
  have hap := (runsP_apart (extP s 0) n).1
  have hnd := runsP_nodup (extP s 0) n
  have hsum : sumN (runsP (extP s 0) n) = n - cntN s n := (sumN_runs _ _).trans (cntP_zero s n)
  have eL : extL s n = runsP (extP s 0) n := by unfold extL; rw [Int.toNat_natCast]
  have hnb : ∀ x, nearL near c (extL s n) = some x → 0 ≤ x := fun x hx => by
    refine (nearF_bound ⟨h6, h7⟩ (by omega) (fun r hr => ?_) x hx).1
    obtain ⟨h8, h9⟩ := List.mem_filter.1 hr
    rw [eL] at h8
    have := hr0 r h8
    simp [small] at h9
    omega
  (repeat' ((conv => whnf); (fail_if_success (refine ⟨(?_ : Nat), (?_ : _ < _), ?_⟩)); (fail_if_success (refine ⟨(?_ : RV), ?_⟩)); (fail_if_success (refine ⟨(?_ : List RV), ?_⟩)); first | refine N64 (by omega) ?_ | refine CMP_f (by omega) ?_ | refine CMP (fun _ => ?_) (fun _ => ?_) | (show _ ≤ (9223372036854775807 : Nat) → _; first | rw [List.length_map, tab_len] | rw [List.length_map] | rw [List.length_replicate] | skip; intro _) | refine And.intro rfl ?_ | refine ⟨_, ⟨_, _, rfl, (by repeat' (first | omega | assumption | exact trivial | refine And.intro ?_ ?_)), rfl⟩, ?_⟩ | refine ⟨_, _, _, rfl, (by repeat' (first | omega | assumption | exact trivial | refine And.intro ?_ ?_)), ?_⟩ | refine ⟨_, _, _, _, rfl, (by repeat' (first | omega | assumption | exact trivial | refine And.intro ?_ ?_)), ?_⟩ | fail)) <;> try (conv => whnf)
  · rename_i hge
    cases hnl : nearL near c (extL s n) with
    | none => rw [hnl] at hge; simp [optM] at hge
    | some x =>
      rw [hnl] at hK
      (conv => whnf)
      (refine ⟨_, ?_, ?_, hK⟩ <;> repeat' (first | exact rfl | exact trivial | exact flat_runs _ | exact flat_pI _ | exact (fun _ h => by cases h) | refine ⟨?_, ?_⟩))
  rename_i hge _
  have hnl : nearL near c (extL s n) = none := by
    cases hnl : nearL near c (extL s n) with
    | none => rfl
    | some x => rw [hnl] at hge; exact absurd (hnb x hnl) hge
  rw [hnl] at hK
  rw [eL] at hK
  unfold runsPv
  simp only [Int.toNat_natCast]
  generalize runsP (extP s 0) n = L at *
  have hS := sortG_ok near L
  generalize sortG near L = S at *
  have hSn : ∀ r ∈ S, 1 ≤ r.n ∧ r.n ≤ 4096 := fun r hr => by have := hr0 r (hS.1.mem_iff.1 hr); omega
  have hSl : S.length = L.length := hS.1.length_eq
  have hg0 : gathN c S = 0 := gathN_zero (by omega) (by rw [sumN_perm hS.1, hsum]; omega) fun r hr => by have := hSn r hr; omega
  replace hK : (64 < (gathL c S).length → K (.tup [.fresh T_api_Run 2 [], .pv (pI 8)])) ∧ (¬ 64 < (gathL c S).length → K (.tup [.fresh T_api_Run 2 ((gathL c S).map Rn.pv), .pv (pI 0)])) := by
    constructor
    · intro h
      simp only [if_pos h] at hK
      exact hK
    · intro h
      simp only [if_neg h] at hK
      exact hK
  have ho := ltG_ord near
  (repeat' ((conv => whnf); (fail_if_success (refine ⟨(?_ : Nat), (?_ : _ < _), ?_⟩)); (fail_if_success (refine ⟨(?_ : RV), ?_⟩)); (fail_if_success (refine ⟨(?_ : List RV), ?_⟩)); first | refine And.intro (by (simp; omega)) ?_ | fail)) <;> try (conv => whnf)
  have eff : List.replicate (L.map Rn.pv).length (PV.bool false) = (tab (fun _ => false) L.length).map pB := by
    rw [List.length_map, ← tab_const, List.map_replicate]
  rw [eff]
  refine ⟨fun m env σ => ∃ (k : Nat) (need : Int) (out : List Rn) (t : Nat → Bool), (m = need.toNat ∧ 0 ≤ need ∧ need ≤ 4096 ∧ k ≤ S.length ∧ out.length = k ∧ out ++ gathL need (S.drop k) = gathL c S ∧ gathN need (S.drop k) = 0 ∧ ∀ (j : Nat) (x : Rn), L[j]? = some x → (t j = true ↔ x ∈ S.take k)) ∧ σ = [.box 54 [.pv (pI c), .pv (pI near)], .row T_api_Run 2 true (L.map Rn.pv), .row T_bool 1 true ((tab t L.length).map pB), .row T_api_Run 2 true (out.map Rn.pv)] ∧ env = [(5, .ref 0 0 0), (9, .own 1), (10, .own 2), (11, .own 3), (12, .pv (pI need))], c.toNat, ⟨0, c, [], fun _ => false, ⟨rfl, by omega, by omega, by omega, rfl, rfl, hg0, fun j x _ => by simp⟩, rfl, rfl⟩, ?_⟩
  rintro m env σ ⟨k, need, out, t, ⟨hm, hn0, hn1, hk, hol, hg, hgn, ht⟩, rfl, rfl⟩
  by_cases hpos : 0 < need
  · have hkS : k < S.length := by
      refine Decidable.of_not_not fun hc => ?_
      rw [List.drop_eq_nil_of_le (by omega)] at hgn
      unfold gathN at hgn
      omega
    (repeat' ((conv => whnf); (fail_if_success (refine ⟨(?_ : Nat), (?_ : _ < _), ?_⟩)); (fail_if_success (refine ⟨(?_ : RV), ?_⟩)); (fail_if_success (refine ⟨(?_ : List RV), ?_⟩)); first | refine CMP_t (by omega) ?_ | fail)) <;> try (conv => whnf)
    refine ⟨fun m' env σ => ∃ (i : Nat) (b : Int), (i + m' = L.length ∧ BestOf near L t i b) ∧ σ = [.box 54 [.pv (pI c), .pv (pI near)], .row T_api_Run 2 true (L.map Rn.pv), .row T_bool 1 true ((tab t L.length).map pB), .row T_api_Run 2 true (out.map Rn.pv)] ∧ env = [(5, .ref 0 0 0), (9, .own 1), (10, .own 2), (11, .own 3), (12, .pv (pI need)), (13, .pv (pI b)), (14, .pv (pI i))], L.length, ⟨0, -1, ⟨by omega, .inl ⟨rfl, fun j h => by omega⟩⟩, rfl, rfl⟩, ?_⟩
    rintro m' env σ ⟨i, b, ⟨hi, hB⟩, rfl, rfl⟩
    by_cases hlt : i < L.length
    · obtain ⟨x, hx⟩ : ∃ x, L[i]? = some x := ⟨L[i], List.getElem?_eq_getElem hlt⟩
      have hx0 := hr0 x (List.mem_of_getElem? hx)
      cases hti : t i with
      | true =>
        (repeat' ((conv => whnf); (fail_if_success (refine ⟨(?_ : Nat), (?_ : _ < _), ?_⟩)); (fail_if_success (refine ⟨(?_ : RV), ?_⟩)); (fail_if_success (refine ⟨(?_ : List RV), ?_⟩)); first | refine CMP_t (by omega) ?_ | (show _ ≤ (9223372036854775807 : Nat) → _; first | rw [List.length_map, tab_len] | rw [List.length_map] | rw [List.length_replicate] | skip; intro _) | refine GETt (by omega) ?_ | refine OWNt (by omega) ?_ | fail)) <;> try (conv => whnf)
        rw [show t ((i : Nat) : Int).toNat = true from hti]
        (repeat' ((conv => whnf); (fail_if_success (refine ⟨(?_ : Nat), (?_ : _ < _), ?_⟩)); (fail_if_success (refine ⟨(?_ : RV), ?_⟩)); (fail_if_success (refine ⟨(?_ : List RV), ?_⟩)); first | refine N64 (by omega) ?_ | fail)) <;> try (conv => whnf)
        exact ⟨m' - 1, by omega, i + 1, b, ⟨by omega, best_skip hB hti⟩, rfl, rfl⟩
      | false =>
        (repeat' ((conv => whnf); (fail_if_success (refine ⟨(?_ : Nat), (?_ : _ < _), ?_⟩)); (fail_if_success (refine ⟨(?_ : RV), ?_⟩)); (fail_if_success (refine ⟨(?_ : List RV), ?_⟩)); first | refine CMP_t (by omega) ?_ | (show _ ≤ (9223372036854775807 : Nat) → _; first | rw [List.length_map, tab_len] | rw [List.length_map] | rw [List.length_replicate] | skip; intro _) | refine GETt (by omega) ?_ | refine OWNt (by omega) ?_ | fail)) <;> try (conv => whnf)
        rw [show t ((i : Nat) : Int).toNat = false from hti]
        have hB' := hB
        rcases hB with ⟨rfl, _⟩ | ⟨q, y, rfl, hqi, hy, _⟩
        · (repeat' ((conv => whnf); (fail_if_success (refine ⟨(?_ : Nat), (?_ : _ < _), ?_⟩)); (fail_if_success (refine ⟨(?_ : RV), ?_⟩)); (fail_if_success (refine ⟨(?_ : List RV), ?_⟩)); first | refine N64 (by omega) ?_ | refine CMP_t (by omega) ?_ | refine And.intro rfl ?_ | fail)) <;> try (conv => whnf)
          exact ⟨m' - 1, by omega, i + 1, i, ⟨by omega, best_none hB' hti hx⟩, rfl, rfl⟩
        · have hy0 := hr0 y (List.mem_of_getElem? hy)
          have hql : q < L.length := by omega
          have hyx : y.s < x.s := by
            have := (List.pairwise_iff_getElem.1 hap) q i hql hlt hqi
            rw [List.getElem?_eq_getElem hql] at hy
            rw [List.getElem?_eq_getElem hlt] at hx
            rw [Option.some.inj hy, Option.some.inj hx] at this
            omega
          have hlti := @ltG_iff2 near x y hyx
          (repeat' ((conv => whnf); (fail_if_success (refine ⟨(?_ : Nat), (?_ : _ < _), ?_⟩)); (fail_if_success (refine ⟨(?_ : RV), ?_⟩)); (fail_if_success (refine ⟨(?_ : List RV), ?_⟩)); first | refine N64 (by omega) ?_ | refine CMP_f (by omega) ?_ | refine CMP (fun _ => ?_) (fun _ => ?_) | refine GEThn (by assumption) ?_ | refine OWN (by omega) ?_ | refine And.intro rfl ?_ | refine ⟨_, ⟨_, rfl, (by repeat' (first | omega | assumption | exact trivial | refine And.intro ?_ ?_)), rfl⟩, ?_⟩ | fail)) <;> try (conv => whnf)
          · rename_i hgt
            exact ⟨m' - 1, by omega, i + 1, i, ⟨by omega, best_some hB' hti hx hy (hlti.2 (.inl hgt))⟩, rfl, rfl⟩
          · rename_i hngt heq hsz
            rw [size_away, size_away] at hsz
            exact ⟨m' - 1, by omega, i + 1, i, ⟨by omega, best_some hB' hti hx hy (hlti.2 (.inr ⟨heq.symm, hsz⟩))⟩, rfl, rfl⟩
          · rename_i hngt heq hsz
            rw [size_away, size_away] at hsz
            refine ⟨m' - 1, by omega, i + 1, q, ⟨by omega, best_stay hB' hx hy ?_⟩, rfl, rfl⟩
            rw [← Bool.not_eq_true, hlti]; omega
          · rename_i hngt heq
            refine ⟨m' - 1, by omega, i + 1, q, ⟨by omega, best_stay hB' hx hy ?_⟩, rfl, rfl⟩
            rw [← Bool.not_eq_true, hlti]; omega
    · have : i = L.length := by omega
      subst this
      obtain ⟨q, y, rfl, hy, hyS, htq⟩ := best_next hS hnd ht hkS hB
      have hql := lt_of_get hy
      have hy0 := hr0 y (List.mem_of_getElem? hy)
      have ed : S.drop k = y :: S.drop (k + 1) := by
        rw [List.getElem?_eq_getElem hkS] at hyS
        rw [List.drop_eq_getElem_cons hkS, Option.some.inj hyS]
      rw [ed] at hg hgn
      simp only [gathL, gathN, if_neg (show ¬ need = 0 by omega)] at hg hgn
      (repeat' ((conv => whnf); (fail_if_success (refine ⟨(?_ : Nat), (?_ : _ < _), ?_⟩)); (fail_if_success (refine ⟨(?_ : RV), ?_⟩)); (fail_if_success (refine ⟨(?_ : List RV), ?_⟩)); first | refine N64 (by omega) ?_ | refine CMP_f (by omega) ?_ | refine MIN ?_ | (show _ ≤ (9223372036854775807 : Nat) → _; first | rw [List.length_map, tab_len] | rw [List.length_map] | rw [List.length_replicate] | skip; intro _) | refine GEThn (by assumption) ?_ | refine GETt (by omega) ?_ | refine OWNt (by omega) ?_ | refine OWN (by omega) ?_ | refine And.intro rfl ?_ | refine And.intro (by (simp; omega)) ?_ | fail)) <;> try (conv => whnf)
      refine ⟨(need - min need y.n).toNat, by omega, k + 1, need - min need y.n, out ++ [⟨y.s, min need y.n⟩], fun j => if j = q then true else t j, ⟨rfl, by omega, by omega, by omega, by simp [hol], ?_, ?_, fun j x hx => ?_⟩, ?_, rfl⟩
      · rw [← hg, Int.min_comm, List.append_assoc]; rfl
      · rw [Int.min_comm]; exact hgn
      · rw [List.take_add_one, hyS]
        simp only [List.mem_append, Option.toList_some, List.mem_singleton]
        by_cases hj : j = q
        · subst hj
          rw [if_pos rfl]
          simp [get_inj hx hy]
        · rw [if_neg hj, ht j x hx]
          constructor
          · exact .inl
          · rintro (h | h)
            · exact h
            · subst h
              exact absurd ((List.getElem?_inj (lt_of_get hx) hnd).1 (hx.trans hy.symm)) hj
      · rw [Int.toNat_natCast, show PV.bool true = pB true from rfl, set_map, tab_set, List.map_append]
        rfl
  · have hz : need = 0 := by omega
    subst hz
    have hout : out = gathL c S := by
      rw [← hg]
      cases hd : S.drop k <;> simp [gathL]
    rw [← hout] at hK
    (repeat' ((conv => whnf); (fail_if_success (refine ⟨(?_ : Nat), (?_ : _ < _), ?_⟩)); (fail_if_success (refine ⟨(?_ : RV), ?_⟩)); (fail_if_success (refine ⟨(?_ : List RV), ?_⟩)); first | refine CMP_f (by omega) ?_ | refine CMP (fun _ => ?_) (fun _ => ?_) | (show _ ≤ (9223372036854775807 : Nat) → _; first | rw [List.length_map, tab_len] | rw [List.length_map] | rw [List.length_replicate] | skip; intro _) | fail)) <;> try (conv => whnf)
    · have hK := hK.1 (by omega)
      (refine ⟨_, ?_, ?_, hK⟩ <;> repeat' (first | exact rfl | exact trivial | exact flat_runs _ | exact flat_pI _ | exact (fun _ h => by cases h) | refine ⟨?_, ?_⟩))
    · have hK := hK.2 (by omega)
      (refine ⟨_, ?_, ?_, hK⟩ <;> repeat' (first | exact rfl | exact trivial | exact flat_runs _ | exact flat_pI _ | exact (fun _ h => by cases h) | refine ⟨?_, ?_⟩))
end Go.Dv.Try
end
section
/-
  Contracts of chapter 4: the examples; how answers are compared.
-/
namespace Go.Dv.Try
open Go Go.Dv

def Q_same (ps : List PV) (p : Prop) : Prop := ∃ (s w : List UInt8) (e c : Int), ps = [.str s, pI e, .str w, pI c] ∧ p = (e = c ∧ (c ≠ 0 ∧ s = [] ∨ c = 0 ∧ s = w))
theorem meets_same : Meets (ctxOf []) s_law04_same c_law04_same r_law04_same (fnB Q_same) := by
  rintro _ K ⟨_, ⟨s, w, e, c, rfl, rfl⟩, hK⟩
  (repeat' ((conv => whnf); (fail_if_success (refine ⟨(?_ : Nat), (?_ : _ < _), ?_⟩)); (fail_if_success (refine ⟨(?_ : RV), ?_⟩)); (fail_if_success (refine ⟨(?_ : List RV), ?_⟩)); first | refine CMP_t (by omega) ?_ | refine CMP_f (by omega) ?_ | refine CMP (fun _ => ?_) (fun _ => ?_) | fail)) <;> try (conv => whnf)
  all_goals (refine ⟨.pv (.bool _), rfl, trivial, hK _ ?_⟩; simp_all)
def Q_sameAt (ps : List PV) (p : Prop) : Prop := ∃ n e w c : Int, ps = [pI n, pI e, pI w, pI c] ∧ p = (e = (if c = 0 ∧ w < 0 then 16 else c) ∧ ((if c = 0 ∧ w < 0 then 16 else c) ≠ 0 ∧ n = 0 ∨ (if c = 0 ∧ w < 0 then 16 else c) = 0 ∧ n = w))
theorem meets_sameAt : Meets (ctxOf []) s_law04_sameAt c_law04_sameAt r_law04_sameAt (fnB Q_sameAt) := by
  rintro _ K ⟨_, ⟨n, e, w, c, rfl, rfl⟩, hK⟩
  by_cases h : c = 0 ∧ w < 0
  · simp only [if_pos h] at hK
    (repeat' ((conv => whnf); (fail_if_success (refine ⟨(?_ : Nat), (?_ : _ < _), ?_⟩)); (fail_if_success (refine ⟨(?_ : RV), ?_⟩)); (fail_if_success (refine ⟨(?_ : List RV), ?_⟩)); first | refine CMP_t (by omega) ?_ | refine CMP_f (by omega) ?_ | refine CMP (fun _ => ?_) (fun _ => ?_) | fail)) <;> try (conv => whnf)
    all_goals (refine ⟨.pv (.bool _), rfl, trivial, hK _ ?_⟩; simp_all)
  · simp only [if_neg h] at hK
    (repeat' ((conv => whnf); (fail_if_success (refine ⟨(?_ : Nat), (?_ : _ < _), ?_⟩)); (fail_if_success (refine ⟨(?_ : RV), ?_⟩)); (fail_if_success (refine ⟨(?_ : List RV), ?_⟩)); first | refine CMP_t (by omega) ?_ | refine CMP_f (by omega) ?_ | refine CMP (fun _ => ?_) (fun _ => ?_) | fail)) <;> try (conv => whnf)
    all_goals (refine ⟨.pv (.bool _), rfl, trivial, hK _ ?_⟩; simp_all)
def Q_sameRuns (ps : List PV) (p : Prop) : Prop := ∃ (a b : List Rn) (w : PV) (e c : Int), ps = [.sl 2 (a.map Rn.pv), pI e, w, pI c] ∧ (c = 0 → w = .sl 2 (b.map Rn.pv)) ∧ p = (e = c ∧ (c ≠ 0 ∧ a = [] ∨ c = 0 ∧ a = b))
theorem meets_sameRuns : Meets (ctxOf [(n_base_SameRuns, fnB Q_SameRuns)]) s_law04_sameRuns c_law04_sameRuns r_law04_sameRuns (fnB Q_sameRuns) := by
  rintro _ K ⟨_, ⟨a, b, w, e, c, rfl, hw, rfl⟩, hK⟩
  by_cases hc : c = 0
  · subst hc
    rw [hw rfl]
    (repeat' ((conv => whnf); (fail_if_success (refine ⟨(?_ : Nat), (?_ : _ < _), ?_⟩)); (fail_if_success (refine ⟨(?_ : RV), ?_⟩)); (fail_if_success (refine ⟨(?_ : List RV), ?_⟩)); first | refine CMP_t (by omega) ?_ | refine CMP_f (by omega) ?_ | refine CMP (fun _ => ?_) (fun _ => ?_) | refine ⟨_, ⟨_, _, rfl, rfl⟩, ?_⟩ | fail)) <;> try (conv => whnf)
    all_goals (refine ⟨.pv (.bool _), rfl, trivial, hK _ ?_⟩; simp_all)
  · (repeat' ((conv => whnf); (fail_if_success (refine ⟨(?_ : Nat), (?_ : _ < _), ?_⟩)); (fail_if_success (refine ⟨(?_ : RV), ?_⟩)); (fail_if_success (refine ⟨(?_ : List RV), ?_⟩)); first | refine CMP_t (by omega) ?_ | refine CMP_f (by omega) ?_ | refine CMP (fun _ => ?_) (fun _ => ?_) | (show _ ≤ (9223372036854775807 : Nat) → _; first | rw [List.length_map, tab_len] | rw [List.length_map] | rw [List.length_replicate] | skip; intro _) | fail)) <;> try (conv => whnf)
    all_goals (refine ⟨.pv (.bool _), rfl, trivial, hK _ ?_⟩; simp_all)

def twelve : List UInt8 := [143, 1]
def S_true0 : Spec := mkS true true fun ps K => ps = [] ∧ K (.pv (.bool true))
theorem ok_true0 : FnOk S_true0 := by
  refine ⟨fun _ => ⟨rfl, fun ps K h => ?_⟩, fun _ _ h => h, rfl⟩
  obtain ⟨rfl, hK⟩ := h
  exact ⟨_, hK, fun K' h => ⟨rfl, h⟩⟩
theorem meets_awake : Meets (ctxOf [(n_bitmap_CountOf, S_CountOf), (n_bitmap_ExtentsOf, S_ExtentsOf), (n_bitmap_NearFit, S_NearFit), (n_bitmap_Gathered, S_Gathered), (n_bitmap_Marked, S_Marked 1), (n_base_SameRuns, fnB Q_SameRuns)]) s_law04_awake c_law04_awake r_law04_awake S_true0 := by
  rintro _ K ⟨rfl, hK⟩
  have e1 : R_CountOf twelve 12 = 6 := by decide +kernel
  have e2 : bmErr twelve 12 = 0 := by decide +kernel
  have e3 : extR twelve 12 0 = [⟨4, 3⟩, ⟨9, 3⟩] := by decide +kernel
  have e4 : nearR twelve 12 2 7 = 5 := by decide +kernel
  have e5 : nearE twelve 12 2 7 = 0 := by decide +kernel
  have e6 : askE twelve 12 5 9 = 0 := by decide +kernel
  have e7 : nearO twelve 12 5 9 = none := by decide +kernel
  have e8 : extL twelve 12 = [⟨4, 3⟩, ⟨9, 3⟩] := by decide +kernel
  have e9 : changeR twelve 12 [⟨4, 2⟩] 1 = [191, 1] := by decide +kernel
  have e10 : changeE twelve 12 [⟨4, 2⟩] 1 = 0 := by decide +kernel
  have e11 : andE 0 (0 ≤ (0 : Int) ∧ (0 : Int) ≤ 1) = 0 := by decide
  have hS : SortL 9 (extL twelve 12) [⟨9, 3⟩, ⟨4, 3⟩] := by
    rw [e8]
    exact ⟨.swap _ _ _, by decide +kernel⟩
  refine ⟨twelve, 12, rfl, by decide, ?_⟩
  rw [e1, e2]
  refine ⟨twelve, 12, 0, rfl, by decide, ?_⟩
  rw [e3, e2, e11]
  (repeat' ((conv => whnf); (fail_if_success (refine ⟨(?_ : Nat), (?_ : _ < _), ?_⟩)); (fail_if_success (refine ⟨(?_ : RV), ?_⟩)); (fail_if_success (refine ⟨(?_ : List RV), ?_⟩)); first | refine And.intro rfl ?_ | fail)) <;> try (conv => whnf)
  refine ⟨twelve, 12, 2, 7, rfl, by decide, ?_⟩
  rw [e4, e5]
  (repeat' ((conv => whnf); (fail_if_success (refine ⟨(?_ : Nat), (?_ : _ < _), ?_⟩)); (fail_if_success (refine ⟨(?_ : RV), ?_⟩)); (fail_if_success (refine ⟨(?_ : List RV), ?_⟩)); first | refine And.intro rfl ?_ | fail)) <;> try (conv => whnf)
  refine ⟨twelve, 12, 5, 9, rfl, by decide, fun h => absurd e6 h, fun _ x h => (by rw [e7] at h; cases h), fun _ _ S hS2 => ?_⟩
  have : S = [⟨9, 3⟩, ⟨4, 3⟩] := sortL_one hS2 hS
  subst this
  refine ⟨fun _ => ?_, fun h => absurd (by decide) h⟩
  rw [show gathL 5 [⟨9, 3⟩, ⟨4, 3⟩] = [⟨9, 3⟩, ⟨4, 2⟩] by decide +kernel]
  (repeat' ((conv => whnf); (fail_if_success (refine ⟨(?_ : Nat), (?_ : _ < _), ?_⟩)); (fail_if_success (refine ⟨(?_ : RV), ?_⟩)); (fail_if_success (refine ⟨(?_ : List RV), ?_⟩)); first | refine And.intro rfl ?_ | fail)) <;> try (conv => whnf)
  refine ⟨twelve, 12, [⟨4, 2⟩], rfl, by decide, ?_⟩
  rw [e9, e10]
  (repeat' ((conv => whnf); (fail_if_success (refine ⟨(?_ : Nat), (?_ : _ < _), ?_⟩)); (fail_if_success (refine ⟨(?_ : RV), ?_⟩)); (fail_if_success (refine ⟨(?_ : List RV), ?_⟩)); first | refine CMP_t (by omega) ?_ | refine And.intro rfl ?_ | fail)) <;> try (conv => whnf)
  refine ⟨_, ⟨[⟨4, 3⟩, ⟨9, 3⟩], [⟨4, 3⟩, ⟨9, 3⟩], rfl, rfl⟩, ?_⟩
  (repeat' ((conv => whnf); (fail_if_success (refine ⟨(?_ : Nat), (?_ : _ < _), ?_⟩)); (fail_if_success (refine ⟨(?_ : RV), ?_⟩)); (fail_if_success (refine ⟨(?_ : List RV), ?_⟩)); first | refine CMP_t (by omega) ?_ | refine CMP_t (by assumption) ?_ | refine And.intro rfl ?_ | fail)) <;> try (conv => whnf)
  refine ⟨_, ⟨[⟨9, 3⟩, ⟨4, 2⟩], [⟨9, 3⟩, ⟨4, 2⟩], rfl, rfl⟩, ?_⟩
  (repeat' ((conv => whnf); (fail_if_success (refine ⟨(?_ : Nat), (?_ : _ < _), ?_⟩)); (fail_if_success (refine ⟨(?_ : RV), ?_⟩)); (fail_if_success (refine ⟨(?_ : List RV), ?_⟩)); first | refine CMP_t (by omega) ?_ | refine CMP_t (by assumption) ?_ | refine CMP_t (by decide) ?_ | fail)) <;> try (conv => whnf)
  (refine ⟨_, ?_, ?_, hK⟩ <;> repeat' (first | exact rfl | exact trivial | exact flat_runs _ | exact flat_pI _ | exact (fun _ h => by cases h) | refine ⟨?_, ?_⟩))
end Go.Dv.Try
end
section
/-
  The laws of chapter 4: bits; extents; marks.
-/
namespace Go.Dv.Try
open Go Go.Dv

def R_lawChecks (ps : List PV) (x : PV) : Prop := ∃ (s : List UInt8) (n a : Int), ps = [.str s, pI n, pI a] ∧ x = pB true
theorem meets_lawChecks : Meets (ctxOf [(n_law04_awake, S_true0), (n_law04_short, fnB Q_short), (n_bitmap_CheckBitmap, fnSpec R_Err04), (n_bitmap_NewBitmap, S_NewBitmap), (n_bitmap_BitAt, S_BitAt), (n_bitmap_CountOf, S_CountOf), (n_ref04_SizeErr, fnSpec R_SizeErr), (n_base_Zeros, fnSpec R_Zeros), (n_base_Ceil, fnSpec R_Ceil8), (n_ref04_Err, fnSpec R_Err04), (n_ref04_Count, fnSpec R_refCount), (n_base_Within, fnB Q_within), (n_ref04_Bit, fnSpec R_Bit04)]) s_law04_BitmapChecks c_law04_BitmapChecks r_law04_BitmapChecks (fnSpec R_lawChecks) := by
  rintro _ K ⟨_, ⟨s, n, a, rfl, rfl⟩, hK⟩
  by_cases hs : s.length ≤ 600
  case neg =>
    (repeat' ((conv => whnf); (fail_if_success (refine ⟨(?_ : Nat), (?_ : _ < _), ?_⟩)); (fail_if_success (refine ⟨(?_ : RV), ?_⟩)); (fail_if_success (refine ⟨(?_ : List RV), ?_⟩)); first | refine NOT_t ?_ | refine NOT_f ?_ | refine CMP_f (by omega) ?_ | refine And.intro rfl ?_ | refine ⟨_, ⟨_, rfl, rfl⟩, ?_⟩ | fail)) <;> try (conv => whnf)
    (refine ⟨_, ?_, ?_, hK⟩ <;> repeat' (first | exact rfl | exact trivial | exact flat_runs _ | exact flat_pI _ | exact (fun _ h => by cases h) | refine ⟨?_, ?_⟩))
  by_cases he : bmErr s n = 0
  · obtain ⟨h1, h2, h3, h4, h5⟩ := bmErr_ok he
    have hz : sizeErr n = 0 := by unfold sizeErr; rw [if_pos ⟨h1, h2⟩]
    have hnew : newR n = zerosL (len8 n.toNat) := by unfold newR; rw [if_pos hz]
    have hl8 : len8 n.toNat ≤ 600 := by unfold len8; omega
    have hc8 := ceil8_len8 h1
    obtain ⟨k, rfl⟩ : ∃ k : Nat, n = k := ⟨n.toNat, by omega⟩
    have hcnt : R_CountOf s k = cntN s k := by unfold R_CountOf; rw [if_pos he, Int.toNat_natCast]
    have hnn : ¬ newR k ≠ zerosL (ceil8 k).toNat := by rw [hnew, hc8, Int.toNat_natCast]; exact fun h => h rfl
    by_cases ha : 0 ≤ a ∧ a ≤ (k : Int) - 1
    · have e1 : andE (bmErr s k) (0 ≤ a ∧ a ≤ (k : Int) - 1) = 0 := by unfold andE; rw [if_neg (fun h => h he), if_pos ha]
      have e2 : bitR s k a = bitN s a.toNat := by unfold bitR; rw [if_pos e1]
      (repeat' ((conv => whnf); (fail_if_success (refine ⟨(?_ : Nat), (?_ : _ < _), ?_⟩)); (fail_if_success (refine ⟨(?_ : RV), ?_⟩)); (fail_if_success (refine ⟨(?_ : List RV), ?_⟩)); first | refine N64 (by omega) ?_ | refine NOT_t ?_ | refine CMP_t (by omega) ?_ | refine CMP_f (by omega) ?_ | refine And.intro rfl ?_ | refine ⟨_, ⟨_, rfl, rfl⟩, ?_⟩ | refine ⟨_, ⟨_, _, _, rfl, rfl⟩, ?_⟩ | refine ⟨_, ⟨_, rfl, (by repeat' (first | omega | assumption | exact trivial | refine And.intro ?_ ?_)), rfl⟩, ?_⟩ | refine ⟨_, ⟨_, _, rfl, (by repeat' (first | omega | assumption | exact trivial | refine And.intro ?_ ?_)), rfl⟩, ?_⟩ | refine ⟨_, rfl, (by repeat' (first | omega | assumption | exact trivial | refine And.intro ?_ ?_)), ?_⟩ | refine ⟨_, _, rfl, (by repeat' (first | omega | assumption | exact trivial | refine And.intro ?_ ?_)), ?_⟩ | fail)) <;> try (conv => whnf)
      refine ⟨_, ⟨s, a.toNat, by rw [Int.toNat_of_nonneg ha.1], by omega, rfl⟩, ?_⟩
      (repeat' ((conv => whnf); (fail_if_success (refine ⟨(?_ : Nat), (?_ : _ < _), ?_⟩)); (fail_if_success (refine ⟨(?_ : RV), ?_⟩)); (fail_if_success (refine ⟨(?_ : List RV), ?_⟩)); first | refine CMP_t (by omega) ?_ | fail)) <;> try (conv => whnf)
      (refine ⟨_, ?_, ?_, hK⟩ <;> repeat' (first | exact rfl | exact trivial | exact flat_runs _ | exact flat_pI _ | exact (fun _ h => by cases h) | refine ⟨?_, ?_⟩))
    · have e1 : andE (bmErr s k) (0 ≤ a ∧ a ≤ (k : Int) - 1) = 2 := by unfold andE; rw [if_neg (fun h => h he), if_neg ha]
      have e2 : bitR s k a = 0 := by unfold bitR; rw [e1, if_neg (by decide)]
      (repeat' ((conv => whnf); (fail_if_success (refine ⟨(?_ : Nat), (?_ : _ < _), ?_⟩)); (fail_if_success (refine ⟨(?_ : RV), ?_⟩)); (fail_if_success (refine ⟨(?_ : List RV), ?_⟩)); first | refine N64 (by omega) ?_ | refine NOT_t ?_ | refine NOT_f ?_ | refine CMP_t (by omega) ?_ | refine CMP_f (by omega) ?_ | refine And.intro rfl ?_ | refine ⟨_, ⟨_, rfl, rfl⟩, ?_⟩ | refine ⟨_, ⟨_, _, _, rfl, rfl⟩, ?_⟩ | refine ⟨_, ⟨_, rfl, (by repeat' (first | omega | assumption | exact trivial | refine And.intro ?_ ?_)), rfl⟩, ?_⟩ | refine ⟨_, ⟨_, _, rfl, (by repeat' (first | omega | assumption | exact trivial | refine And.intro ?_ ?_)), rfl⟩, ?_⟩ | refine ⟨_, rfl, (by repeat' (first | omega | assumption | exact trivial | refine And.intro ?_ ?_)), ?_⟩ | refine ⟨_, _, rfl, (by repeat' (first | omega | assumption | exact trivial | refine And.intro ?_ ?_)), ?_⟩ | fail)) <;> try (conv => whnf)
      (refine ⟨_, ?_, ?_, hK⟩ <;> repeat' (first | exact rfl | exact trivial | exact flat_runs _ | exact flat_pI _ | exact (fun _ h => by cases h) | refine ⟨?_, ?_⟩))
  · have e1 : andE (bmErr s n) (0 ≤ a ∧ a ≤ n - 1) = bmErr s n := by unfold andE; rw [if_pos he]
    have e2 : bitR s n a = 0 := by unfold bitR; rw [e1, if_neg he]
    have e3 : R_CountOf s n = 0 := by unfold R_CountOf; rw [if_neg he]
    by_cases hz : sizeErr n = 0
    · have hn := sizeErr0 hz
      have hl8 : len8 n.toNat ≤ 600 := by unfold len8; omega
      have hc8 := ceil8_len8 hn.1
      have hnn : ¬ newR n ≠ zerosL (ceil8 n).toNat := by unfold newR; rw [if_pos hz, hc8, Int.toNat_natCast]; exact fun h => h rfl
      (repeat' ((conv => whnf); (fail_if_success (refine ⟨(?_ : Nat), (?_ : _ < _), ?_⟩)); (fail_if_success (refine ⟨(?_ : RV), ?_⟩)); (fail_if_success (refine ⟨(?_ : List RV), ?_⟩)); first | refine NOT_t ?_ | refine CMP_t (by omega) ?_ | refine CMP_f (by omega) ?_ | refine And.intro rfl ?_ | refine ⟨_, ⟨_, rfl, rfl⟩, ?_⟩ | refine ⟨_, ⟨_, rfl, (by repeat' (first | omega | assumption | exact trivial | refine And.intro ?_ ?_)), rfl⟩, ?_⟩ | refine ⟨_, ⟨_, _, rfl, (by repeat' (first | omega | assumption | exact trivial | refine And.intro ?_ ?_)), rfl⟩, ?_⟩ | refine ⟨_, rfl, (by repeat' (first | omega | assumption | exact trivial | refine And.intro ?_ ?_)), ?_⟩ | refine ⟨_, _, rfl, (by repeat' (first | omega | assumption | exact trivial | refine And.intro ?_ ?_)), ?_⟩ | fail)) <;> try (conv => whnf)
      (refine ⟨_, ?_, ?_, hK⟩ <;> repeat' (first | exact rfl | exact trivial | exact flat_runs _ | exact flat_pI _ | exact (fun _ h => by cases h) | refine ⟨?_, ?_⟩))
    · have hnn : ¬ newR n ≠ [] := by unfold newR; rw [if_neg hz]; exact fun h => h rfl
      (repeat' ((conv => whnf); (fail_if_success (refine ⟨(?_ : Nat), (?_ : _ < _), ?_⟩)); (fail_if_success (refine ⟨(?_ : RV), ?_⟩)); (fail_if_success (refine ⟨(?_ : List RV), ?_⟩)); first | refine NOT_t ?_ | refine CMP_t (by omega) ?_ | refine CMP_f (by omega) ?_ | refine And.intro rfl ?_ | refine ⟨_, ⟨_, rfl, rfl⟩, ?_⟩ | refine ⟨_, ⟨_, _, rfl, (by repeat' (first | omega | assumption | exact trivial | refine And.intro ?_ ?_)), rfl⟩, ?_⟩ | refine ⟨_, rfl, (by repeat' (first | omega | assumption | exact trivial | refine And.intro ?_ ?_)), ?_⟩ | refine ⟨_, _, rfl, (by repeat' (first | omega | assumption | exact trivial | refine And.intro ?_ ?_)), ?_⟩ | fail)) <;> try (conv => whnf)
      (refine ⟨_, ?_, ?_, hK⟩ <;> repeat' (first | exact rfl | exact trivial | exact flat_runs _ | exact flat_pI _ | exact (fun _ h => by cases h) | refine ⟨?_, ?_⟩))

def R_lawExtents (ps : List PV) (x : PV) : Prop := ∃ (a b : List UInt8) (n v : Int), ps = [.str a, .str b, .agg [pI n, pI v]] ∧ x = pB true
theorem meets_lawExtents : Meets (ctxOf [(n_law04_awake, S_true0), (n_law04_short, fnB Q_short), (n_bitmap_ExtentsOf, S_ExtentsOf), (n_bitmap_DifferenceOf, S_DifferenceOf), (n_ref04_Err, fnSpec R_Err04), (n_law04_sameRuns, fnB Q_sameRuns), (n_ref04_Differences, S_refDiff), (n_base_Within, fnB Q_within), (n_ref04_Extents, S_refExt)]) s_law04_BitmapExtents c_law04_BitmapExtents r_law04_BitmapExtents (fnSpec R_lawExtents) := by
  rintro _ K ⟨_, ⟨a, b, n, v, rfl, rfl⟩, hK⟩
  by_cases hs : a.length ≤ 600
  case neg =>
    (repeat' ((conv => whnf); (fail_if_success (refine ⟨(?_ : Nat), (?_ : _ < _), ?_⟩)); (fail_if_success (refine ⟨(?_ : RV), ?_⟩)); (fail_if_success (refine ⟨(?_ : List RV), ?_⟩)); first | refine NOT_t ?_ | refine NOT_f ?_ | refine CMP_f (by omega) ?_ | refine And.intro rfl ?_ | refine ⟨_, ⟨_, rfl, rfl⟩, ?_⟩ | fail)) <;> try (conv => whnf)
    (refine ⟨_, ?_, ?_, hK⟩ <;> repeat' (first | exact rfl | exact trivial | exact flat_runs _ | exact flat_pI _ | exact (fun _ h => by cases h) | refine ⟨?_, ?_⟩))
  by_cases hs2 : b.length ≤ 600
  case neg =>
    (repeat' ((conv => whnf); (fail_if_success (refine ⟨(?_ : Nat), (?_ : _ < _), ?_⟩)); (fail_if_success (refine ⟨(?_ : RV), ?_⟩)); (fail_if_success (refine ⟨(?_ : List RV), ?_⟩)); first | refine NOT_t ?_ | refine NOT_f ?_ | refine CMP_t (by omega) ?_ | refine CMP_f (by omega) ?_ | refine And.intro rfl ?_ | refine ⟨_, ⟨_, rfl, rfl⟩, ?_⟩ | fail)) <;> try (conv => whnf)
    (refine ⟨_, ?_, ?_, hK⟩ <;> repeat' (first | exact rfl | exact trivial | exact flat_runs _ | exact flat_pI _ | exact (fun _ h => by cases h) | refine ⟨?_, ?_⟩))
  by_cases he : bmErr a n = 0
  · obtain ⟨h1, h2, h3, h4, h5⟩ := bmErr_ok he
    by_cases hf : bmErr b n = 0
    · obtain ⟨g1, g2, g3, g4, g5⟩ := bmErr_ok hf
      have e2 : bm2Err a b n = 0 := by unfold bm2Err; rw [if_neg (fun h => h he), hf]
      have e1 : diffR a b n = runsP (diffP a b) n.toNat := by unfold diffR; rw [if_pos e2]
      (repeat' ((conv => whnf); (fail_if_success (refine ⟨(?_ : Nat), (?_ : _ < _), ?_⟩)); (fail_if_success (refine ⟨(?_ : RV), ?_⟩)); (fail_if_success (refine ⟨(?_ : List RV), ?_⟩)); first | refine NOT_t ?_ | refine CMP_t (by omega) ?_ | refine And.intro rfl ?_ | refine ⟨_, ⟨_, rfl, rfl⟩, ?_⟩ | refine ⟨_, ⟨_, _, rfl, (by repeat' (first | omega | assumption | exact trivial | refine And.intro ?_ ?_)), rfl⟩, ?_⟩ | refine ⟨_, _, _, rfl, (by repeat' (first | omega | assumption | exact trivial | refine And.intro ?_ ?_)), ?_⟩ | fail)) <;> try (conv => whnf)
      refine ⟨_, ⟨diffR a b n, runsP (diffP a b) n.toNat, _, _, 0, rfl, fun _ => rfl, rfl⟩, CMP_t ⟨e2, .inr ⟨rfl, e1⟩⟩ ?_⟩
      by_cases hv : 0 ≤ v ∧ v ≤ 1
      · have x1 : andE (bmErr a n) (0 ≤ v ∧ v ≤ 1) = 0 := by unfold andE; rw [if_neg (fun h => h he), if_pos hv]
        have x2 : extR a n v = runsP (extP a v) n.toNat := by unfold extR; rw [if_pos x1]
        (repeat' ((conv => whnf); (fail_if_success (refine ⟨(?_ : Nat), (?_ : _ < _), ?_⟩)); (fail_if_success (refine ⟨(?_ : RV), ?_⟩)); (fail_if_success (refine ⟨(?_ : List RV), ?_⟩)); first | refine NOT_t ?_ | refine CMP_t (by omega) ?_ | refine CMP_f (by omega) ?_ | refine ⟨_, ⟨_, _, _, rfl, rfl⟩, ?_⟩ | refine ⟨_, _, _, rfl, (by repeat' (first | omega | assumption | exact trivial | refine And.intro ?_ ?_)), ?_⟩ | fail)) <;> try (conv => whnf)
        refine ⟨_, ⟨extR a n v, runsP (extP a v) n.toNat, _, _, 0, rfl, fun _ => rfl, rfl⟩, CMP_t ⟨x1, .inr ⟨rfl, x2⟩⟩ ?_⟩
        (conv => whnf)
        (refine ⟨_, ?_, ?_, hK⟩ <;> repeat' (first | exact rfl | exact trivial | exact flat_runs _ | exact flat_pI _ | exact (fun _ h => by cases h) | refine ⟨?_, ?_⟩))
      · have x1 : andE (bmErr a n) (0 ≤ v ∧ v ≤ 1) = 2 := by unfold andE; rw [if_neg (fun h => h he), if_neg hv]
        have x2 : extR a n v = [] := by unfold extR; rw [x1, if_neg (by decide)]
        (repeat' ((conv => whnf); (fail_if_success (refine ⟨(?_ : Nat), (?_ : _ < _), ?_⟩)); (fail_if_success (refine ⟨(?_ : RV), ?_⟩)); (fail_if_success (refine ⟨(?_ : List RV), ?_⟩)); first | refine NOT_t ?_ | refine NOT_f ?_ | refine CMP_t (by omega) ?_ | refine CMP_f (by omega) ?_ | refine ⟨_, ⟨_, _, _, rfl, rfl⟩, ?_⟩ | fail)) <;> try (conv => whnf)
        refine ⟨_, ⟨extR a n v, [], _, _, 2, rfl, fun h => absurd h (by decide), rfl⟩, CMP_t ⟨x1, .inl ⟨by decide, x2⟩⟩ ?_⟩
        (conv => whnf)
        (refine ⟨_, ?_, ?_, hK⟩ <;> repeat' (first | exact rfl | exact trivial | exact flat_runs _ | exact flat_pI _ | exact (fun _ h => by cases h) | refine ⟨?_, ?_⟩))
    · have e2 : bm2Err a b n = bmErr b n := by unfold bm2Err; rw [if_neg (fun h => h he)]
      have e1 : diffR a b n = [] := by unfold diffR; rw [e2, if_neg hf]
      (repeat' ((conv => whnf); (fail_if_success (refine ⟨(?_ : Nat), (?_ : _ < _), ?_⟩)); (fail_if_success (refine ⟨(?_ : RV), ?_⟩)); (fail_if_success (refine ⟨(?_ : List RV), ?_⟩)); first | refine NOT_t ?_ | refine CMP_t (by omega) ?_ | refine CMP_f (by omega) ?_ | refine And.intro rfl ?_ | refine ⟨_, ⟨_, rfl, rfl⟩, ?_⟩ | refine ⟨_, ⟨_, _, rfl, (by repeat' (first | omega | assumption | exact trivial | refine And.intro ?_ ?_)), rfl⟩, ?_⟩ | refine ⟨_, _, _, rfl, (by repeat' (first | omega | assumption | exact trivial | refine And.intro ?_ ?_)), ?_⟩ | fail)) <;> try (conv => whnf)
      refine ⟨_, ⟨diffR a b n, [], _, _, bmErr b n, rfl, fun h => absurd h hf, rfl⟩, CMP_t ⟨e2, .inl ⟨hf, e1⟩⟩ ?_⟩
      by_cases hv : 0 ≤ v ∧ v ≤ 1
      · have x1 : andE (bmErr a n) (0 ≤ v ∧ v ≤ 1) = 0 := by unfold andE; rw [if_neg (fun h => h he), if_pos hv]
        have x2 : extR a n v = runsP (extP a v) n.toNat := by unfold extR; rw [if_pos x1]
        (repeat' ((conv => whnf); (fail_if_success (refine ⟨(?_ : Nat), (?_ : _ < _), ?_⟩)); (fail_if_success (refine ⟨(?_ : RV), ?_⟩)); (fail_if_success (refine ⟨(?_ : List RV), ?_⟩)); first | refine NOT_t ?_ | refine CMP_t (by omega) ?_ | refine CMP_f (by omega) ?_ | refine ⟨_, ⟨_, _, _, rfl, rfl⟩, ?_⟩ | refine ⟨_, _, _, rfl, (by repeat' (first | omega | assumption | exact trivial | refine And.intro ?_ ?_)), ?_⟩ | fail)) <;> try (conv => whnf)
        refine ⟨_, ⟨extR a n v, runsP (extP a v) n.toNat, _, _, 0, rfl, fun _ => rfl, rfl⟩, CMP_t ⟨x1, .inr ⟨rfl, x2⟩⟩ ?_⟩
        (conv => whnf)
        (refine ⟨_, ?_, ?_, hK⟩ <;> repeat' (first | exact rfl | exact trivial | exact flat_runs _ | exact flat_pI _ | exact (fun _ h => by cases h) | refine ⟨?_, ?_⟩))
      · have x1 : andE (bmErr a n) (0 ≤ v ∧ v ≤ 1) = 2 := by unfold andE; rw [if_neg (fun h => h he), if_neg hv]
        have x2 : extR a n v = [] := by unfold extR; rw [x1, if_neg (by decide)]
        (repeat' ((conv => whnf); (fail_if_success (refine ⟨(?_ : Nat), (?_ : _ < _), ?_⟩)); (fail_if_success (refine ⟨(?_ : RV), ?_⟩)); (fail_if_success (refine ⟨(?_ : List RV), ?_⟩)); first | refine NOT_t ?_ | refine NOT_f ?_ | refine CMP_t (by omega) ?_ | refine CMP_f (by omega) ?_ | refine ⟨_, ⟨_, _, _, rfl, rfl⟩, ?_⟩ | fail)) <;> try (conv => whnf)
        refine ⟨_, ⟨extR a n v, [], _, _, 2, rfl, fun h => absurd h (by decide), rfl⟩, CMP_t ⟨x1, .inl ⟨by decide, x2⟩⟩ ?_⟩
        (conv => whnf)
        (refine ⟨_, ?_, ?_, hK⟩ <;> repeat' (first | exact rfl | exact trivial | exact flat_runs _ | exact flat_pI _ | exact (fun _ h => by cases h) | refine ⟨?_, ?_⟩))
  · have e2 : bm2Err a b n = bmErr a n := by unfold bm2Err; rw [if_pos he]
    have e1 : diffR a b n = [] := by unfold diffR; rw [e2, if_neg he]
    have x1 : andE (bmErr a n) (0 ≤ v ∧ v ≤ 1) = bmErr a n := by unfold andE; rw [if_pos he]
    have x2 : extR a n v = [] := by unfold extR; rw [x1, if_neg he]
    (repeat' ((conv => whnf); (fail_if_success (refine ⟨(?_ : Nat), (?_ : _ < _), ?_⟩)); (fail_if_success (refine ⟨(?_ : RV), ?_⟩)); (fail_if_success (refine ⟨(?_ : List RV), ?_⟩)); first | refine NOT_t ?_ | refine CMP_t (by omega) ?_ | refine CMP_f (by omega) ?_ | refine And.intro rfl ?_ | refine ⟨_, ⟨_, rfl, rfl⟩, ?_⟩ | refine ⟨_, ⟨_, _, rfl, (by repeat' (first | omega | assumption | exact trivial | refine And.intro ?_ ?_)), rfl⟩, ?_⟩ | refine ⟨_, _, _, rfl, (by repeat' (first | omega | assumption | exact trivial | refine And.intro ?_ ?_)), ?_⟩ | fail)) <;> try (conv => whnf)
    refine ⟨_, ⟨diffR a b n, [], _, _, bmErr a n, rfl, fun h => absurd h he, rfl⟩, CMP_t ⟨e2, .inl ⟨he, e1⟩⟩ ?_⟩
    (repeat' ((conv => whnf); (fail_if_success (refine ⟨(?_ : Nat), (?_ : _ < _), ?_⟩)); (fail_if_success (refine ⟨(?_ : RV), ?_⟩)); (fail_if_success (refine ⟨(?_ : List RV), ?_⟩)); first | refine NOT_t ?_ | refine CMP_t (by omega) ?_ | refine CMP_f (by omega) ?_ | fail)) <;> try (conv => whnf)
    refine ⟨_, ⟨extR a n v, [], _, _, bmErr a n, rfl, fun h => absurd h he, rfl⟩, CMP_t ⟨x1, .inl ⟨he, x2⟩⟩ ?_⟩
    (conv => whnf)
    (refine ⟨_, ?_, ?_, hK⟩ <;> repeat' (first | exact rfl | exact trivial | exact flat_runs _ | exact flat_pI _ | exact (fun _ h => by cases h) | refine ⟨?_, ?_⟩))

end Go.Dv.Try
end
section
/-
  The laws of chapter 4: room.
-/
namespace Go.Dv.Try
open Go Go.Dv

/-- What the program gathers. -/
def gatP (s : List UInt8) (n c near : Int) : List Rn :=
  if askE s n c near ≠ 0 then [] else match nearO s n c near with
    | some x => [⟨x, c⟩]
    | none => if gerr (gathN c (sortG near (extL s n))) (gathL c (sortG near (extL s n))).length = 0 then gathL c (sortG near (extL s n)) else []
def gatPE (s : List UInt8) (n c near : Int) : Int :=
  if askE s n c near ≠ 0 then askE s n c near else match nearO s n c near with
    | some _ => 0
    | none => gerr (gathN c (sortG near (extL s n))) (gathL c (sortG near (extL s n))).length
theorem gat_conj {s : List UInt8} {n c near : Int} {K : RV → Prop} (hK : K (.tup [.fresh T_api_Run 2 ((gatP s n c near).map Rn.pv), .pv (pI (gatPE s n c near))])) :
    (askE s n c near ≠ 0 → K (.tup [.fresh T_api_Run 2 [], .pv (pI (askE s n c near))])) ∧
    (askE s n c near = 0 → ∀ x, nearO s n c near = some x → K (.tup [.fresh T_api_Run 2 ([(⟨x, c⟩ : Rn)].map Rn.pv), .pv (pI 0)])) ∧
    (askE s n c near = 0 → nearO s n c near = none → ∀ S, SortL near (extL s n) S →
    (gerr (gathN c S) (gathL c S).length = 0 → K (.tup [.fresh T_api_Run 2 ((gathL c S).map Rn.pv), .pv (pI 0)])) ∧ (gerr (gathN c S) (gathL c S).length ≠ 0 → K (.tup [.fresh T_api_Run 2 [], .pv (pI (gerr (gathN c S) (gathL c S).length))]))) := by
  unfold gatP gatPE at hK
  refine ⟨fun h => ?_, fun h x hx => ?_, fun h hx S hS => ?_⟩
  · rw [if_pos h, if_pos h] at hK; exact hK
  · simp only [h, hx, ne_eq, not_true_eq_false, if_false] at hK; exact hK
  · simp only [h, hx, ne_eq, not_true_eq_false, if_false] at hK
    have := sortL_one hS (sortG_ok near (extL s n))
    subst this
    refine ⟨fun h => ?_, fun h => ?_⟩
    · simp only [if_pos h] at hK; rw [h] at hK; exact hK
    · simp only [if_neg h] at hK; exact hK
def S_GatheredD : Spec := mkS true false fun ps K => ∃ (s : List UInt8) (n c near : Int), ps = [.str s, pI n, .agg [pI c, pI near]] ∧ s.length ≤ 100000 ∧ K (.tup [.fresh T_api_Run 2 ((gatP s n c near).map Rn.pv), .pv (pI (gatPE s n c near))])
theorem meets_GatheredD : Meets (ctxOf [(n_bitmap_openAsk, S_openAsk), (n_bitmap_bitmap_near, S_near), (n_bitmap_bitmap_extents, S_extents), (n_slices_SortStableFunc_depository_api_Run_depository_api_Run, mkM M_stable), (n_bitmap_Gathered_f1, fnSpec R_cmpG), (n_bitmap_first, S_first2), (n_bitmap_unless, fnSpec R_bitmap_unless)]) s_bitmap_Gathered c_bitmap_Gathered r_bitmap_Gathered S_GatheredD :=
  fun args K ⟨s, n, c, near, h1, h2, hK⟩ => meets_Gathered args K ⟨s, n, c, near, h1, h2, gat_conj hK⟩
theorem room_sum {c : Int} {l : List Rn} (hl : ∀ r ∈ l, 0 ≤ r.n) (h : roomL c l ≠ []) : c ≤ sumN l := by
  induction l with
  | nil => exact absurd rfl h
  | cons r l ih =>
    rw [sumN_cons]
    have h0 := sumN_nonneg (l := l) fun x hx => hl x (by simp [hx])
    have h1 := hl r (by simp)
    by_cases hs : small c r = true
    · have : roomL c (r :: l) = roomL c l := by unfold roomL; simp [hs]
      rw [this] at h
      have := ih (fun x hx => hl x (by simp [hx])) h
      omega
    · have : c ≤ r.n := by simpa [small] using hs
      omega
theorem nearL_room {near c : Int} {l : List Rn} {x : Int} (h : nearL near c l = some x) : roomL c l ≠ [] := by
  intro h'; unfold nearL at h; rw [h'] at h; cases h
theorem ext_sum {s : List UInt8} {n : Int} (h : 0 ≤ n) : sumN (extL s n) = n - cntN s n.toNat := by
  unfold extL
  have := (sumN_runs (extP s 0) n.toNat).trans (cntP_zero s n.toNat)
  rw [this]; omega
theorem ext_pos {s : List UInt8} {n : Int} : ∀ r ∈ extL s n, 0 ≤ r.n := fun r hr => by have := (runsP_ok (extP s 0) n.toNat).1 r hr; omega
/-- What the program gathers is what the reference does. -/
theorem gat_eq {s : List UInt8} {n c near : Int} (h : askE s n c near = 0) : gatP s n c near = gathR s n c near ∧ gatPE s n c near = gathE s n c near := by
  obtain ⟨h0, h1, h2⟩ := askE_ok h
  obtain ⟨g1, g2, g3, g4, g5⟩ := bmErr_ok h0
  have hS := sortG_ok near (extL s n)
  have hsum := @ext_sum s n g1
  have hsS := sumN_perm hS.1
  have hSp : ∀ r ∈ sortG near (extL s n), 0 ≤ r.n := fun r hr => ext_pos r (hS.1.mem_iff.1 hr)
  have eno : nearO s n c near = nearL near c (extL s n) := rfl
  unfold gatP gatPE gathR gathE
  simp only [h, eno, ne_eq, not_true_eq_false, if_false]
  by_cases hf : n - cntN s n.toNat < c
  · simp only [if_pos hf]
    cases hn : nearL near c (extL s n) with
    | some x => have := room_sum ext_pos (nearL_room hn); omega
    | none =>
      have hg := gathN_full (c := c) (by omega) (by omega) hSp
      simp only [gerr_full hg]
      simp
  · rw [if_neg hf, if_neg hf]
    cases hn : nearL near c (extL s n) with
    | some x => exact ⟨rfl, rfl⟩
    | none =>
      have hg := gathN_zero (c := c) (by omega) (by omega) hSp
      simp only [hg]
      by_cases hl : (gathL c (sortG near (extL s n))).length ≤ 64
      · have h64 : ¬ 64 < (gathL c (sortG near (extL s n))).length := by omega
        simp only [gerr_ok hl, if_neg h64, if_true, and_self]
      · have h64 : 64 < (gathL c (sortG near (extL s n))).length := by omega
        simp only [gerr_large hl, if_pos h64]
        simp
theorem ext_starts {s : List UInt8} {n c : Int} : ∀ r ∈ roomL c (extL s n), 0 ≤ r.s := fun r hr => ((runsP_ok (extP s 0) n.toNat).1 r (List.mem_filter.1 hr).1).1
/-- An answer with a place, or none. -/
def SameAt (n e w c : Int) : Prop := e = (if c = 0 ∧ w < 0 then 16 else c) ∧ ((if c = 0 ∧ w < 0 then 16 else c) ≠ 0 ∧ n = 0 ∨ (if c = 0 ∧ w < 0 then 16 else c) = 0 ∧ n = w)
theorem sameAt_err {d : Int} (h : d ≠ 0) : SameAt 0 d 0 d := by
  unfold SameAt; rw [if_neg (fun h' => h h'.1)]; exact ⟨rfl, .inl ⟨h, rfl⟩⟩
theorem sameAt_place {x : Int} (h : 0 ≤ x) : SameAt x 0 x 0 := by
  unfold SameAt; rw [if_neg (by omega)]; exact ⟨rfl, .inr ⟨rfl, rfl⟩⟩
theorem sameAt_none : SameAt 0 16 (-1) 0 := by
  unfold SameAt; rw [if_pos (by decide)]; exact ⟨rfl, .inl ⟨by decide, rfl⟩⟩

def R_lawRoom (ps : List PV) (x : PV) : Prop := ∃ (s : List UInt8) (n c near : Int), ps = [.str s, pI n, .agg [pI c, pI near]] ∧ x = pB true
theorem meets_lawRoom : Meets (ctxOf [(n_law04_awake, S_true0), (n_law04_short, fnB Q_short), (n_bitmap_FirstFit, S_FirstFit), (n_bitmap_BestFit, S_BestFit), (n_bitmap_NearFit, S_NearFit), (n_bitmap_Gathered, S_GatheredD), (n_ref04_Err, fnSpec R_Err04), (n_base_Within, fnB Q_within), (n_law04_sameAt, fnB Q_sameAt), (n_law04_sameRuns, fnB Q_sameRuns), (n_ref04_First, S_refFirst), (n_ref04_Best, S_refBest), (n_ref04_Near, S_refNear), (n_ref04_Gathered, S_refGathered)]) s_law04_BitmapRoom c_law04_BitmapRoom r_law04_BitmapRoom (fnSpec R_lawRoom) := by
  rintro _ K ⟨_, ⟨s, n, c, near, rfl, rfl⟩, hK⟩
  by_cases hs : s.length ≤ 600
  case neg =>
    (repeat' ((conv => whnf); (fail_if_success (refine ⟨(?_ : Nat), (?_ : _ < _), ?_⟩)); (fail_if_success (refine ⟨(?_ : RV), ?_⟩)); (fail_if_success (refine ⟨(?_ : List RV), ?_⟩)); first | refine NOT_t ?_ | refine NOT_f ?_ | refine CMP_f (by omega) ?_ | refine And.intro rfl ?_ | refine ⟨_, ⟨_, rfl, rfl⟩, ?_⟩ | fail)) <;> try (conv => whnf)
    (refine ⟨_, ?_, ?_, hK⟩ <;> repeat' (first | exact rfl | exact trivial | exact flat_runs _ | exact flat_pI _ | exact (fun _ h => by cases h) | refine ⟨?_, ?_⟩))
  -- the error of all four
  have bad : ∀ d : Int, d ≠ 0 → askE s n c 0 = d → askE s n c near = d → firstR s n c = 0 ∧ fitE s n c 0 = d ∧ bestR s n c = 0 ∧ nearR s n c near = 0 ∧ nearE s n c near = d ∧ gatP s n c near = [] ∧ gatPE s n c near = d := by
    intro d hd h1 h2
    unfold firstR fitE bestR nearR nearE gatP gatPE
    rw [h1, h2, if_pos hd, if_pos hd, if_pos hd, if_pos hd, if_pos hd, if_pos hd, if_pos hd]
    exact ⟨rfl, rfl, rfl, rfl, rfl, rfl, rfl⟩
  by_cases he : bmErr s n = 0
  · by_cases hc : 1 ≤ c ∧ c ≤ 4096
    · obtain ⟨g1, g2, g3, g4, g5⟩ := bmErr_ok he
      have h0 : askE s n c 0 = 0 := by unfold askE andE; rw [if_neg (fun h => h he), if_pos ⟨hc, by decide, by decide⟩]
      have b1 : firstR s n c = headS (roomL c (extL s n)) := by unfold firstR; rw [if_neg (fun h => h h0)]; rfl
      have b2 : fitE s n c 0 = headE (roomL c (extL s n)) := by unfold fitE; rw [if_neg (fun h => h h0)]; rfl
      have b3 : bestR s n c = minS (roomL c (extL s n)) := by unfold bestR; rw [if_neg (fun h => h h0)]; rfl
      have c1 : SameAt (headS (roomL c (extL s n))) (headE (roomL c (extL s n))) (headR (roomL c (extL s n))) 0 := by
        have hp := @ext_starts s n c
        cases hR : roomL c (extL s n) with
        | nil => exact sameAt_none
        | cons r R => rw [hR] at hp; exact sameAt_place (hp r (by simp))
      have c2 : SameAt (minS (roomL c (extL s n))) (headE (roomL c (extL s n))) (optS (minO (roomL c (extL s n)))) 0 := by
        have hp := @ext_starts s n c
        cases hR : roomL c (extL s n) with
        | nil => exact sameAt_none
        | cons r R =>
          rw [hR] at hp
          refine sameAt_place (hp (minF r R) ?_)
          rcases minF_mem r R with h | h
          · rw [h]; simp
          · simp [h]
      by_cases hn : 0 ≤ near ∧ near ≤ 4095
      · have h2 : askE s n c near = 0 := by unfold askE andE; rw [if_neg (fun h => h he), if_pos ⟨hc, hn⟩]
        obtain ⟨d1, d2⟩ := gat_eq h2
        have b4 : nearR s n c near = optI (nearO s n c near) := by unfold nearR; rw [if_neg (fun h => h h2)]
        have b5 : nearE s n c near = if (nearO s n c near).isSome then 0 else 16 := by unfold nearE; rw [if_neg (fun h => h h2)]
        have eno : nearO s n c near = nearL near c (extL s n) := rfl
        have c3 : SameAt (optI (nearO s n c near)) (if (nearO s n c near).isSome then 0 else 16) (optM (nearL near c (extL s n))) 0 := by
          rw [← eno]
          cases ho : nearO s n c near with
          | none => exact sameAt_none
          | some x =>
            refine sameAt_place (x := x) ?_
            refine (nearF_bound hn (by omega) (fun r hr => ?_) x ho).1
            obtain ⟨h8, h9⟩ := List.mem_filter.1 hr
            have := (runsP_ok (extP s 0) n.toNat).1 r h8
            simp [small] at h9
            omega
        rw [← b1, ← b2] at c1
        rw [← b3, ← b2] at c2
        rw [← b4, ← b5] at c3
        obtain ⟨n, rfl⟩ : ∃ k : Nat, n = k := ⟨n.toNat, by omega⟩
        (repeat' ((conv => whnf); (fail_if_success (refine ⟨(?_ : Nat), (?_ : _ < _), ?_⟩)); (fail_if_success (refine ⟨(?_ : RV), ?_⟩)); (fail_if_success (refine ⟨(?_ : List RV), ?_⟩)); first | refine NOT_t ?_ | refine CMP_t (by omega) ?_ | refine CMP_f (by omega) ?_ | refine CMP_t (by assumption) ?_ | refine And.intro rfl ?_ | refine ⟨_, ⟨_, rfl, rfl⟩, ?_⟩ | refine ⟨_, ⟨_, _, _, rfl, rfl⟩, ?_⟩ | refine ⟨_, ⟨_, _, _, _, rfl, rfl⟩, ?_⟩ | refine ⟨_, ⟨_, _, rfl, (by repeat' (first | omega | assumption | exact trivial | refine And.intro ?_ ?_)), rfl⟩, ?_⟩ | refine ⟨_, _, _, rfl, (by repeat' (first | omega | assumption | exact trivial | refine And.intro ?_ ?_)), ?_⟩ | refine ⟨_, _, _, _, rfl, (by repeat' (first | omega | assumption | exact trivial | refine And.intro ?_ ?_)), ?_⟩ | fail)) <;> try (conv => whnf)
        refine ⟨_, ⟨gatP s n c near, gathR s n c near, _, _, _, rfl, fun _ => rfl, rfl⟩, CMP_t ⟨d2, ?_⟩ ?_⟩
        · by_cases hz : gathE s n c near = 0
          · exact .inr ⟨hz, d1⟩
          · refine .inl ⟨hz, ?_⟩
            rw [d1]
            unfold gathE at hz
            unfold gathR
            split
            · rfl
            · rename_i hf
              rw [if_neg hf] at hz
              split
              · rename_i hx; rw [hx] at hz; exact absurd rfl hz
              · rename_i hx
                rw [hx] at hz
                simp only at hz
                split
                · rfl
                · rename_i h64; rw [if_neg h64] at hz; exact absurd rfl hz
        · (conv => whnf)
          (refine ⟨_, ?_, ?_, hK⟩ <;> repeat' (first | exact rfl | exact trivial | exact flat_runs _ | exact flat_pI _ | exact (fun _ h => by cases h) | refine ⟨?_, ?_⟩))
      · have h2 : askE s n c near = 2 := by unfold askE andE; rw [if_neg (fun h => h he), if_neg (fun h => hn h.2)]
        have b4 : nearR s n c near = 0 := by unfold nearR; rw [if_pos (by rw [h2]; decide)]
        have b5 : nearE s n c near = 2 := by unfold nearE; rw [if_pos (by rw [h2]; decide)]; exact h2
        have d1 : gatP s n c near = [] := by unfold gatP; rw [if_pos (by rw [h2]; decide)]
        have d2 : gatPE s n c near = 2 := by unfold gatPE; rw [if_pos (by rw [h2]; decide)]; exact h2
        rw [← b1, ← b2] at c1
        rw [← b3, ← b2] at c2
        (repeat' ((conv => whnf); (fail_if_success (refine ⟨(?_ : Nat), (?_ : _ < _), ?_⟩)); (fail_if_success (refine ⟨(?_ : RV), ?_⟩)); (fail_if_success (refine ⟨(?_ : List RV), ?_⟩)); first | refine NOT_t ?_ | refine NOT_f ?_ | refine CMP_t (by omega) ?_ | refine CMP_f (by omega) ?_ | refine CMP_t (by assumption) ?_ | refine And.intro rfl ?_ | refine ⟨_, ⟨_, rfl, rfl⟩, ?_⟩ | refine ⟨_, ⟨_, _, _, rfl, rfl⟩, ?_⟩ | refine ⟨_, ⟨_, _, _, _, rfl, rfl⟩, ?_⟩ | refine ⟨_, ⟨_, _, rfl, (by repeat' (first | omega | assumption | exact trivial | refine And.intro ?_ ?_)), rfl⟩, ?_⟩ | refine ⟨_, _, _, rfl, (by repeat' (first | omega | assumption | exact trivial | refine And.intro ?_ ?_)), ?_⟩ | refine ⟨_, _, _, _, rfl, (by repeat' (first | omega | assumption | exact trivial | refine And.intro ?_ ?_)), ?_⟩ | fail)) <;> try (conv => whnf)
        refine ⟨_, ⟨gatP s n c near, [], _, _, 2, rfl, fun h => absurd h (by decide), rfl⟩, CMP_t ⟨d2, .inl ⟨by decide, d1⟩⟩ ?_⟩
        (conv => whnf)
        (refine ⟨_, ?_, ?_, hK⟩ <;> repeat' (first | exact rfl | exact trivial | exact flat_runs _ | exact flat_pI _ | exact (fun _ h => by cases h) | refine ⟨?_, ?_⟩))
    · have h1 : askE s n c 0 = 2 := by unfold askE andE; rw [if_neg (fun h => h he), if_neg (fun h => hc h.1)]
      have h2 : askE s n c near = 2 := by unfold askE andE; rw [if_neg (fun h => h he), if_neg (fun h => hc h.1)]
      obtain ⟨a1, a2, a3, a4, a5, a6, a7⟩ := bad 2 (by decide) h1 h2
      (repeat' ((conv => whnf); (fail_if_success (refine ⟨(?_ : Nat), (?_ : _ < _), ?_⟩)); (fail_if_success (refine ⟨(?_ : RV), ?_⟩)); (fail_if_success (refine ⟨(?_ : List RV), ?_⟩)); first | refine NOT_t ?_ | refine NOT_f ?_ | refine CMP_t (by omega) ?_ | refine CMP_f (by omega) ?_ | refine And.intro rfl ?_ | refine ⟨_, ⟨_, rfl, rfl⟩, ?_⟩ | refine ⟨_, ⟨_, _, _, rfl, rfl⟩, ?_⟩ | refine ⟨_, ⟨_, _, _, _, rfl, rfl⟩, ?_⟩ | refine ⟨_, ⟨_, _, rfl, (by repeat' (first | omega | assumption | exact trivial | refine And.intro ?_ ?_)), rfl⟩, ?_⟩ | refine ⟨_, _, _, rfl, (by repeat' (first | omega | assumption | exact trivial | refine And.intro ?_ ?_)), ?_⟩ | refine ⟨_, _, _, _, rfl, (by repeat' (first | omega | assumption | exact trivial | refine And.intro ?_ ?_)), ?_⟩ | fail)) <;> try (conv => whnf)
      rw [a1, a2, a3, a4, a5, a6, a7]
      (conv => whnf)
      refine ⟨_, ⟨[], [], _, _, 2, rfl, fun h => absurd h (by decide), rfl⟩, CMP_t ⟨rfl, .inl ⟨by decide, rfl⟩⟩ ?_⟩
      (conv => whnf)
      (refine ⟨_, ?_, ?_, hK⟩ <;> repeat' (first | exact rfl | exact trivial | exact flat_runs _ | exact flat_pI _ | exact (fun _ h => by cases h) | refine ⟨?_, ?_⟩))
  · have h1 : askE s n c 0 = bmErr s n := by unfold askE andE; rw [if_pos he]
    have h2 : askE s n c near = bmErr s n := by unfold askE andE; rw [if_pos he]
    obtain ⟨a1, a2, a3, a4, a5, a6, a7⟩ := bad (bmErr s n) he h1 h2
    (repeat' ((conv => whnf); (fail_if_success (refine ⟨(?_ : Nat), (?_ : _ < _), ?_⟩)); (fail_if_success (refine ⟨(?_ : RV), ?_⟩)); (fail_if_success (refine ⟨(?_ : List RV), ?_⟩)); first | refine NOT_t ?_ | refine CMP_t (by omega) ?_ | refine CMP_f (by omega) ?_ | refine And.intro rfl ?_ | refine ⟨_, ⟨_, rfl, rfl⟩, ?_⟩ | refine ⟨_, ⟨_, _, _, _, rfl, rfl⟩, ?_⟩ | refine ⟨_, ⟨_, _, rfl, (by repeat' (first | omega | assumption | exact trivial | refine And.intro ?_ ?_)), rfl⟩, ?_⟩ | refine ⟨_, _, _, rfl, (by repeat' (first | omega | assumption | exact trivial | refine And.intro ?_ ?_)), ?_⟩ | refine ⟨_, _, _, _, rfl, (by repeat' (first | omega | assumption | exact trivial | refine And.intro ?_ ?_)), ?_⟩ | fail)) <;> try (conv => whnf)
    rw [a1, a2, a3, a4, a5, a6, a7]
    (conv => whnf)
    refine ⟨_, ⟨[], [], _, _, bmErr s n, rfl, fun h => absurd h he, rfl⟩, CMP_t ⟨rfl, .inl ⟨he, rfl⟩⟩ ?_⟩
    (conv => whnf)
    (refine ⟨_, ?_, ?_, hK⟩ <;> repeat' (first | exact rfl | exact trivial | exact flat_runs _ | exact flat_pI _ | exact (fun _ h => by cases h) | refine ⟨?_, ?_⟩))
end Go.Dv.Try
end
section
/-
  The laws of chapter 4: marked and cleared.
-/
namespace Go.Dv.Try
open Go Go.Dv

/-- The bits of the extents with value 1. -/
theorem inRs_runs (p : Nat → Bool) : ∀ (n i : Nat), inRs (runsP p n) i = (decide (i < n) && p i) := by
  intro n
  induction n with
  | zero => intro i; simp [runsP, inRs]
  | succ n ih =>
    intro i
    have h0 := (runsP_ok p n).1
    unfold runsP
    cases hp : p n with
    | false =>
      simp only [Bool.false_eq_true, if_false, ih]
      by_cases h : i = n
      · subst h; simp [hp]
      · have : decide (i < n) = decide (i < n + 1) := decide_eq_decide.2 (by omega)
        rw [this]
    | true =>
      simp only [if_true]
      have main : (inRs (runsP p n) i || decide (i = n)) = (decide (i < n + 1) && p i) := by
        rw [ih]
        by_cases h : i = n
        · subst h; simp [hp]
        · have : decide (i < n) = decide (i < n + 1) := decide_eq_decide.2 (by omega)
          rw [this]; simp [h]
      rw [← main]
      rcases snoc_or (runsP p n) with e | ⟨a, r, e⟩
      · rw [e, addRun_nil]
        simp only [inRs, inR, List.any_cons, List.any_nil, Bool.or_false, Bool.false_or]
        exact decide_eq_decide.2 (by omega)
      · have hr := h0 r (by rw [e]; simp)
        rw [e, addRun_snoc]
        split
        · rename_i he
          simp only [inRs, List.any_append, List.any_cons, List.any_nil, Bool.or_false, Bool.or_assoc]
          congr 1
          simp only [inR]
          rw [← Bool.decide_or]
          exact decide_eq_decide.2 (by constructor <;> intro h <;> omega)
        · simp only [inRs, List.any_append, List.any_cons, List.any_nil, Bool.or_false]
          congr 1
          simp only [inR]
          exact decide_eq_decide.2 (by omega)
/-- Runs that lie apart have no error. -/
theorem runsErr_apart {l : List Rn} {n : Int} (hl : l.length ≤ 64) (hok : ∀ r ∈ l, runOk n r) (hp : l.Pairwise (fun a b => ∀ i, ¬ (inR a i = true ∧ inR b i = true))) : runsErr l n = 0 := by
  unfold runsErr
  rw [if_neg (by omega)]
  have H : ∀ (l : List Rn) (t : Nat → Bool), (∀ r ∈ l, runOk n r) → l.Pairwise (fun a b => ∀ i, ¬ (inR a i = true ∧ inR b i = true)) → (∀ r ∈ l, ∀ i, inR r i = true → t i = false) → runsGo n t l = 0 := by
    intro l
    induction l with
    | nil => intro t _ _ _; rfl
    | cons r l ih =>
      intro t h1 h2 h3
      unfold runsGo
      rw [if_pos (h1 r (by simp)), if_neg, ih _ (fun x hx => h1 x (by simp [hx])) (List.pairwise_cons.1 h2).2 (fun x hx i hi => ?_)]
      · unfold orR
        have h4 := h3 x (by simp [hx]) i hi
        have h5 := (List.pairwise_cons.1 h2).1 x hx i
        rw [h4, Bool.false_or]
        cases hr : inR r i with
        | false => rfl
        | true => exact absurd ⟨hr, hi⟩ h5
      · intro hh
        obtain ⟨j, h4, h5, h6⟩ := hits_iff.1 hh
        have hok := h1 r (by simp)
        unfold runOk at hok
        have := h3 r (by simp) j (by simp only [inR, decide_eq_true_eq]; omega)
        rw [this] at h6; cases h6
  exact H l _ hok hp fun _ _ _ _ => rfl
theorem runs_noErr {p : Nat → Bool} {n : Nat} (h : (runsP p n).length ≤ 64) : runsErr (runsP p n) n = 0 := by
  refine runsErr_apart h (fun r hr => ?_) ((runsP_apart p n).1.imp_of_mem fun {a b} ha hb hab i hi => ?_)
  · have := (runsP_ok p n).1 r hr
    unfold runOk; omega
  · simp only [inR, decide_eq_true_eq] at hi
    omega
theorem markErr_ok {f : Nat → Nat} {n : Int} {l : List Rn} {v : Nat} (h : markErr f n l v = 0) : runsErr l n = 0 ∧ ∀ i, inRs l i = true → f i ≠ v := by
  unfold markErr at h
  by_cases hr : runsErr l n = 0
  · rw [if_neg (fun h' => h' hr)] at h
    refine ⟨hr, fun i hi he => ?_⟩
    unfold inRs at hi
    obtain ⟨r, hrl, hri⟩ := List.any_eq_true.1 hi
    obtain ⟨_, hok, _⟩ := runsErr_ok hr
    have := hok r hrl
    unfold runOk at this
    simp only [inR, decide_eq_true_eq] at hri
    rw [if_pos] at h
    · cases h
    · exact List.any_eq_true.2 ⟨r, hrl, hits_iff.2 ⟨i, by omega, by omega, by simpa using he⟩⟩
  · rw [if_pos hr] at h; exact absurd h hr
theorem markErr_busy {f : Nat → Nat} {n : Int} {l : List Rn} {v : Nat} (hr : runsErr l n = 0) : markErr f n l v = 0 ∨ markErr f n l v = 18 := by
  unfold markErr
  rw [if_neg (fun h' => h' hr)]
  split
  · exact .inr rfl
  · exact .inl rfl
theorem markErr_mk {f : Nat → Nat} {n : Int} {l : List Rn} {v : Nat} (hr : runsErr l n = 0) (h : ∀ i, inRs l i = true → f i ≠ v) : markErr f n l v = 0 := by
  unfold markErr
  rw [if_neg (fun h' => h' hr), if_neg]
  intro ha
  obtain ⟨r, hrl, hh⟩ := List.any_eq_true.1 ha
  obtain ⟨j, h1, h2, h3⟩ := hits_iff.1 hh
  obtain ⟨_, hok, _⟩ := runsErr_ok hr
  have := hok r hrl
  unfold runOk at this
  refine h j ?_ (by simpa using h3)
  unfold inRs
  exact List.any_eq_true.2 ⟨r, hrl, by simp only [inR, decide_eq_true_eq]; omega⟩
/-- How many of the first numbers are in runs that lie apart. -/
theorem cntP_or (p q : Nat → Bool) : ∀ n, (∀ i, i < n → ¬ (p i = true ∧ q i = true)) → cntP (fun i => p i || q i) n = cntP p n + cntP q n := by
  intro n
  induction n with
  | zero => intro _; rfl
  | succ n ih =>
    intro h
    unfold cntP
    rw [ih fun i hi => h i (by omega)]
    have := h n (by omega)
    cases hp : p n <;> cases hq : q n <;> simp_all <;> omega
theorem cntP_run {r : Rn} {N : Nat} (h : 0 ≤ r.s ∧ 0 ≤ r.n) : ∀ n, (cntP (inR r) n : Int) = if (n : Int) ≤ r.s then 0 else if (n : Int) ≤ r.s + r.n then n - r.s else r.n := by
  intro n
  induction n with
  | zero => simp [cntP]; omega
  | succ n ih =>
    have e : (cntP (inR r) (n + 1) : Int) = cntP (inR r) n + (inR r n).toNat := Int.natCast_add _ _
    rw [e, ih]
    by_cases hi : r.s ≤ n ∧ (n : Int) < r.s + r.n
    · have : inR r n = true := by simp only [inR, decide_eq_true_eq]; exact hi
      rw [this, Bool.toNat_true]
      repeat' split
      all_goals omega
    · have : inR r n = false := by simp only [inR, decide_eq_false_iff_not]; exact hi
      rw [this, Bool.toNat_false]
      repeat' split
      all_goals omega
theorem cntP_false : ∀ n, cntP (fun _ => false) n = 0 := by
  intro n
  induction n with
  | zero => rfl
  | succ n ih => unfold cntP; rw [ih]; rfl
theorem cntP_runs {n : Nat} : ∀ {l : List Rn}, (∀ r ∈ l, runOk n r) → l.Pairwise (fun a b => ∀ i, ¬ (inR a i = true ∧ inR b i = true)) → (cntP (inRs l) n : Int) = sumN l := by
  intro l
  induction l with
  | nil => intro _ _; rw [inRs_nil, cntP_false]; rfl
  | cons r l ih =>
    intro h1 h2
    obtain ⟨h3, h4⟩ := List.pairwise_cons.1 h2
    have e : inRs (r :: l) = fun i => inR r i || inRs l i := by funext i; simp [inRs]
    rw [e, cntP_or _ _ n fun i _ h => ?_, sumN_cons]
    · have h5 := ih (fun x hx => h1 x (by simp [hx])) h4
      have hr := h1 r (by simp)
      unfold runOk at hr
      have h6 := cntP_run (r := r) (N := n) (by omega) n
      rw [if_neg (by omega)] at h6
      split at h6 <;> omega
    · obtain ⟨ha, hb⟩ := h
      unfold inRs at hb
      obtain ⟨x, hx, hxi⟩ := List.any_eq_true.1 hb
      exact h3 x hx i ⟨ha, hxi⟩
theorem cntN_cntP (s : List UInt8) (n : Nat) : cntN s n = cntP (fun i => decide (bitN s i = 1)) n := by
  have := cntP_one s n
  have e : (fun i => decide ((bitN s i : Int) = 1)) = fun i => decide (bitN s i = 1) := by funext i; exact decide_eq_decide.2 (by omega)
  rw [e] at this; omega

theorem mark_zero0 {n : Int} {l : List Rn} : markErr (fun _ => 0) n l 1 = runsErr l n := by
  by_cases h : runsErr l n = 0
  · rw [markErr_mk h fun _ _ => by decide, h]
  · unfold markErr; rw [if_pos h]
theorem sumN_take {l : List Rn} (h : ∀ r ∈ l, 0 ≤ r.n) (i : Nat) : 0 ≤ sumN (l.take i) ∧ sumN (l.take i) ≤ sumN l := by
  have h1 := sumN_nonneg (l := l.take i) fun r hr => h r (List.mem_of_mem_take hr)
  have h2 := sumN_nonneg (l := l.drop i) fun r hr => h r (List.mem_of_mem_drop hr)
  have := sumN_app (l.take i) (l.drop i)
  rw [List.take_append_drop] at this
  omega
theorem sumN_next {l : List Rn} {i : Nat} {r : Rn} (h : l[i]? = some r) : sumN (l.take (i + 1)) = sumN (l.take i) + r.n := by
  rw [List.take_add_one, h, sumN_app]
  show sumN (l.take i) + sumN [r] = _
  rw [sumN_cons]; simp
theorem len_sum : ∀ {l : List Rn}, (∀ r ∈ l, 1 ≤ r.n) → (l.length : Int) ≤ sumN l := by
  intro l
  induction l with
  | nil => intro _; exact Int.le_refl _
  | cons r l ih => intro h; rw [sumN_cons, List.length_cons]; have := h r (by simp); have := ih fun x hx => h x (by simp [hx]); omega
theorem cntP_le (p : Nat → Bool) : ∀ n, cntP p n ≤ n := by
  intro n
  induction n with
  | zero => exact Nat.le_refl _
  | succ n ih => unfold cntP; cases p n <;> simp <;> omega
theorem bmErr_bm {f : Nat → Nat} (hf : ∀ i, f i ≤ 1) {k : Nat} (h : k ≤ 4096) : bmErr (bmOf f k) k = 0 := by
  have hz : sizeErr (k : Int) = 0 := by unfold sizeErr; rw [if_pos (by omega)]
  unfold bmErr
  rw [if_neg (fun h => h hz), if_neg, if_pos]
  · intro i hi hki
    rw [bmOf_bit hf, if_neg (by omega)]
  · rw [bmOf_len, ceil8_len8 (by omega), Int.toNat_natCast]; exact fun h => h rfl
theorem bm_self {s : List UInt8} {k : Nat} (h : bmErr s k = 0) {f : Nat → Nat} (hf : ∀ i, f i ≤ 1) (e : ∀ i, i < k → f i = bitN s i) : bmOf f k = s := by
  obtain ⟨h1, h2, h3, h4, h5⟩ := bmErr_ok h
  rw [ceil8_len8 (by omega), Int.toNat_natCast] at h4
  refine (bm_eq hf (by omega) (fun j hj => (e j hj).symm) fun j hj hj2 => h5 j hj2 (by omega)).symm
/-- The same contract for a string of any length. -/
def R_Err04w (ps : List PV) (x : PV) : Prop := ∃ (s : List UInt8) (n : Int), ps = [.str s, pI n] ∧ 0 ≤ s.length ∧ x = pI (bmErr s n)
theorem meets_refErrW : Meets (ctxOf [(n_ref04_SizeErr, fnSpec R_SizeErr), (n_base_Ceil, fnSpec R_Ceil8), (n_ref04_Bit, fnSpec R_Bit04)]) s_ref04_Err c_ref04_Err r_ref04_Err (fnSpec R_Err04w) := by
  rintro _ K ⟨_, ⟨s, n, rfl, _, rfl⟩, hK⟩
  unfold bmErr at hK
  refine ⟨_, ⟨n, rfl, rfl⟩, ?_⟩
  refine fun b hb => ?_
  rcases cmp hb with ⟨rfl, h⟩ | ⟨rfl, h⟩
  · rw [if_pos h] at hK
    exact ⟨.pv (pI _), rfl, trivial, hK⟩
  rw [if_neg h] at hK
  have hn : 0 ≤ n ∧ n ≤ 4096 := by
    refine Decidable.of_not_not fun h2 => h ?_
    unfold sizeErr; rw [if_neg h2]; decide
  refine ⟨_, ⟨n, rfl, by omega, rfl⟩, ?_⟩
  refine fun b hb => ?_
  rcases cmp hb with ⟨rfl, h2⟩ | ⟨rfl, h2⟩
  · rw [if_pos h2] at hK
    exact ⟨.pv (pI _), rfl, trivial, hK⟩
  rw [if_neg h2] at hK
  have hl : (s.length : Int) = ceil8 n := Decidable.of_not_not h2
  unfold ceil8 at hl
  have hs : s.length ≤ 1000000 := by omega
  refine ⟨fun m env σ => ∃ i : Nat, (i + m = 8 * s.length ∧ n ≤ i ∧ ∀ j, j < i → n.toNat ≤ j → bitN s j = 0) ∧ σ = [] ∧ env = [(0, .pv (.str s)), (6, .pv (pI i))], 8 * s.length - n.toNat, ⟨n.toNat, ⟨by omega, by omega, fun j hj hj2 => by omega⟩, rfl, by rw [show ((n.toNat : Nat) : Int) = n by omega]⟩, ?_⟩
  rintro m env σ ⟨i, ⟨hi, hni, h0⟩, rfl, rfl⟩
  refine fun x hx => ?_
  have hx := n64 hx (by omega)
  rw [hx]
  refine fun b hb => ?_
  rcases cmp hb with ⟨rfl, h3⟩ | ⟨rfl, h3⟩
  · refine ⟨_, ⟨s, i, rfl, by omega, rfl⟩, ?_⟩
    refine fun b hb => ?_
    rcases cmp hb with ⟨rfl, h4⟩ | ⟨rfl, h4⟩
    · rw [if_neg (fun h5 => h4 (by rw [h5 i (by omega) (by omega)]; rfl))] at hK
      exact ⟨.pv (pI _), rfl, trivial, hK⟩
    · refine fun y hy => ?_
      have hy := n64 hy (by omega)
      rw [hy]
      refine ⟨m - 1, by omega, i + 1, ⟨by omega, by omega, fun j hj hj2 => ?_⟩, rfl, rfl⟩
      by_cases hji : j < i
      · exact h0 j hji hj2
      · have : j = i := by omega
        subst this
        have := Decidable.of_not_not h4
        omega
  · rw [if_pos (fun j hj hj2 => h0 j (by omega) hj2)] at hK
    exact ⟨.pv (pI _), rfl, trivial, hK⟩
def R_lawBack (ps : List PV) (x : PV) : Prop := ∃ (s : List UInt8) (n : Int) (l : List Rn), ps = [.str s, pI n, .sl 2 (l.map Rn.pv)] ∧ x = pB true
set_option maxHeartbeats 4000000 in
theorem meets_lawBack : Meets (ctxOf [(n_law04_awake, S_true0), (n_base_Within, fnB Q_within), (n_ref04_Err, fnSpec R_Err04w), (n_ref04_RunsErr, S_RunsErr), (n_bitmap_CountOf, S_CountOf), (n_bitmap_ExtentsOf, S_ExtentsOf), (n_bitmap_BitmapOf, S_BitmapOf), (n_bitmap_Marked, S_Marked 1), (n_bitmap_Cleared, S_Marked 0), (n_base_CopyRuns, S_CopyRuns)]) s_law04_BitmapBack c_law04_BitmapBack r_law04_BitmapBack (fnSpec R_lawBack) := by
  rintro _ K ⟨_, ⟨s, n, l, rfl, rfl⟩, hK⟩
  by_cases hn : 0 ≤ n ∧ n ≤ 1000
  case neg =>
    (repeat' ((conv => whnf); (fail_if_success (refine ⟨(?_ : Nat), (?_ : _ < _), ?_⟩)); (fail_if_success (refine ⟨(?_ : RV), ?_⟩)); (fail_if_success (refine ⟨(?_ : List RV), ?_⟩)); first | refine NOT_t ?_ | refine NOT_f ?_ | refine CMP_f (by omega) ?_ | refine And.intro rfl ?_ | refine ⟨_, ⟨_, _, _, rfl, rfl⟩, ?_⟩ | fail)) <;> try (conv => whnf)
    (refine ⟨_, ?_, ?_, hK⟩ <;> repeat' (first | exact rfl | exact trivial | exact flat_runs _ | exact flat_pI _ | exact (fun _ h => by cases h) | refine ⟨?_, ?_⟩))
  by_cases he : bmErr s n = 0
  case neg =>
    (repeat' ((conv => whnf); (fail_if_success (refine ⟨(?_ : Nat), (?_ : _ < _), ?_⟩)); (fail_if_success (refine ⟨(?_ : RV), ?_⟩)); (fail_if_success (refine ⟨(?_ : List RV), ?_⟩)); first | refine NOT_t ?_ | refine CMP_t (by omega) ?_ | refine And.intro rfl ?_ | refine ⟨_, ⟨_, _, _, rfl, rfl⟩, ?_⟩ | refine ⟨_, ⟨_, _, rfl, (by repeat' (first | omega | assumption | exact trivial | refine And.intro ?_ ?_)), rfl⟩, ?_⟩ | fail)) <;> try (conv => whnf)
    (refine ⟨_, ?_, ?_, hK⟩ <;> repeat' (first | exact rfl | exact trivial | exact flat_runs _ | exact flat_pI _ | exact (fun _ h => by cases h) | refine ⟨?_, ?_⟩))
  have hs : s.length ≤ 1000000 := by
    obtain ⟨_, _, _, h4, _⟩ := bmErr_ok he
    unfold ceil8 at h4
    omega
  by_cases hl : l.length ≤ 64
  case neg =>
    (repeat' ((conv => whnf); (fail_if_success (refine ⟨(?_ : Nat), (?_ : _ < _), ?_⟩)); (fail_if_success (refine ⟨(?_ : RV), ?_⟩)); (fail_if_success (refine ⟨(?_ : List RV), ?_⟩)); first | refine NOT_t ?_ | refine CMP_t (by omega) ?_ | refine CMP_f (by omega) ?_ | (show _ ≤ (9223372036854775807 : Nat) → _; first | rw [List.length_map, tab_len] | rw [List.length_map] | rw [List.length_replicate] | skip; intro _) | refine And.intro rfl ?_ | refine ⟨_, ⟨_, _, _, rfl, rfl⟩, ?_⟩ | refine ⟨_, ⟨_, _, rfl, (by repeat' (first | omega | assumption | exact trivial | refine And.intro ?_ ?_)), rfl⟩, ?_⟩ | fail)) <;> try (conv => whnf)
    (refine ⟨_, ?_, ?_, hK⟩ <;> repeat' (first | exact rfl | exact trivial | exact flat_runs _ | exact flat_pI _ | exact (fun _ h => by cases h) | refine ⟨?_, ?_⟩))
  by_cases hr : runsErr l n = 0
  case neg =>
    (repeat' ((conv => whnf); (fail_if_success (refine ⟨(?_ : Nat), (?_ : _ < _), ?_⟩)); (fail_if_success (refine ⟨(?_ : RV), ?_⟩)); (fail_if_success (refine ⟨(?_ : List RV), ?_⟩)); first | refine NOT_t ?_ | refine CMP_t (by omega) ?_ | refine CMP_f (by omega) ?_ | (show _ ≤ (9223372036854775807 : Nat) → _; first | rw [List.length_map, tab_len] | rw [List.length_map] | rw [List.length_replicate] | skip; intro _) | refine And.intro rfl ?_ | refine ⟨_, ⟨_, _, _, rfl, rfl⟩, ?_⟩ | refine ⟨_, ⟨_, _, rfl, (by repeat' (first | omega | assumption | exact trivial | refine And.intro ?_ ?_)), rfl⟩, ?_⟩ | refine ⟨_, _, rfl, (by repeat' (first | omega | assumption | exact trivial | refine And.intro ?_ ?_)), ?_⟩ | fail)) <;> try (conv => whnf)
    (refine ⟨_, ?_, ?_, hK⟩ <;> repeat' (first | exact rfl | exact trivial | exact flat_runs _ | exact flat_pI _ | exact (fun _ h => by cases h) | refine ⟨?_, ?_⟩))
  obtain ⟨k, rfl⟩ : ∃ k : Nat, n = k := ⟨n.toNat, by omega⟩
  obtain ⟨_, hok, hpw⟩ := runsErr_ok hr
  have c1 : R_CountOf s k = cntN s k := by unfold R_CountOf; rw [if_pos he, Int.toNat_natCast]
  have x1 : ∀ v : Int, 0 ≤ v ∧ v ≤ 1 → andE (bmErr s k) (0 ≤ v ∧ v ≤ 1) = 0 := fun v hv => by unfold andE; rw [if_neg (fun h => h he), if_pos hv]
  have x2 : ∀ v : Int, 0 ≤ v ∧ v ≤ 1 → extR s k v = runsP (extP s v) k := fun v hv => by unfold extR; rw [if_pos (x1 v hv), Int.toNat_natCast]
  have hA := x2 1 (by decide)
  have hA0 := x1 1 (by decide)
  have hB := x2 0 (by decide)
  have hB0 := x1 0 (by decide)
  have sA : sumN (runsP (extP s 1) k) = cntN s k := (sumN_runs _ _).trans (cntP_one s k)
  have sB : sumN (runsP (extP s 0) k) = k - cntN s k := (sumN_runs _ _).trans (cntP_zero s k)
  have pA : ∀ r ∈ runsP (extP s 1) k, 1 ≤ r.n := fun r hr => ((runsP_ok _ _).1 r hr).2.1
  have pB : ∀ r ∈ runsP (extP s 0) k, 1 ≤ r.n := fun r hr => ((runsP_ok _ _).1 r hr).2.1
  have hcnt := cntN_le s k
  have lA := len_sum pA
  have lB := len_sum pB
  have ofA : (runsP (extP s 1) k).length ≤ 64 → ofE (runsP (extP s 1) k) k = 0 ∧ ofR (runsP (extP s 1) k) k = s := fun h64 => by
    have h0 : sizeErr (k : Int) = 0 := by unfold sizeErr; rw [if_pos (by omega)]
    have h1 : ofE (runsP (extP s 1) k) k = 0 := by unfold ofE; rw [if_neg (fun h => h h0), mark_zero0]; exact runs_noErr h64
    refine ⟨h1, ?_⟩
    unfold ofR
    rw [if_pos h1, Int.toNat_natCast]
    refine bm_self he (markF_le (fun _ => Nat.zero_le _) (Nat.le_refl _)) fun i hi => ?_
    unfold markF
    rw [inRs_runs]
    have := bitN_le s i
    by_cases hb : bitN s i = 1
    · have : extP s 1 i = true := by unfold extP; rw [hb]; rfl
      rw [this, hb, if_pos (by simp [hi])]
    · have hb0 : bitN s i = 0 := by omega
      have : extP s 1 i = false := by unfold extP; rw [hb0]; rfl
      rw [this, if_neg (by simp), hb0]
  generalize runsP (extP s 1) k = A at *
  generalize runsP (extP s 0) k = B at *
  have nA := fun i => sumN_take (l := A) (fun r hr => by have := pA r hr; omega) i
  have nB := fun i => sumN_take (l := B) (fun r hr => by have := pB r hr; omega) i
  have pL : ∀ r ∈ l, 1 ≤ r.n := fun r hr => (hok r hr).2.1
  have nL := fun i => sumN_take (l := l) (fun r hr => by have := pL r hr; omega) i
  have sL := cntP_runs (n := k) hok hpw
  have sL2 := cntP_le (inRs l) k
  -- marked, and cleared again
  have hm := markErr_busy (f := bitN s) (v := 1) hr
  have e1 : changeE s k l 1 = markErr (bitN s) k l 1 := by unfold changeE; rw [if_neg (fun h => h he)]
  have hmk : markErr (bitN s) k l 1 = 0 → changeR s k l 1 = bmOf (markF (bitN s) l 1) k ∧ R_CountOf (bmOf (markF (bitN s) l 1) k) k = cntN s k + sumN l ∧ bmErr (bmOf (markF (bitN s) l 1) k) k = 0 ∧ changeE (bmOf (markF (bitN s) l 1) k) k l 0 = 0 ∧ changeR (bmOf (markF (bitN s) l 1) k) k l 0 = s ∧ (bmOf (markF (bitN s) l 1) k).length ≤ 1000 := fun h => by
    have hf := markF_le (bitN_le s) (l := l) (Nat.le_refl 1)
    obtain ⟨_, hne⟩ := markErr_ok h
    have b1 := bmErr_bm hf (k := k) (by omega)
    have bits := bmOf_bit hf k
    have q1 : changeR s k l 1 = bmOf (markF (bitN s) l 1) k := by unfold changeR; rw [e1, if_pos h, Int.toNat_natCast]
    have q2 : R_CountOf (bmOf (markF (bitN s) l 1) k) k = cntN s k + sumN l := by
      unfold R_CountOf
      rw [if_pos b1, Int.toNat_natCast, cntN_cntP]
      have ec : cntP (fun i => decide (bitN (bmOf (markF (bitN s) l 1) k) i = 1)) k = cntP (fun i => decide (bitN s i = 1) || inRs l i) k := by
        have : ∀ m, m ≤ k → cntP (fun i => decide (bitN (bmOf (markF (bitN s) l 1) k) i = 1)) m = cntP (fun i => decide (bitN s i = 1) || inRs l i) m := by
          intro m
          induction m with
          | zero => intro _; rfl
          | succ m ih =>
            intro hmk
            unfold cntP
            rw [ih (by omega)]
            congr 2
            rw [bits, if_pos (by omega)]
            unfold markF
            cases hi : inRs l m <;> simp
        exact this k (Nat.le_refl _)
      rw [ec, cntP_or _ _ _ fun i _ h' => by
        obtain ⟨h1, h2⟩ := h'
        exact hne i h2 (by simpa using h1), cntN_cntP s k]
      omega
    have q3 : changeE (bmOf (markF (bitN s) l 1) k) k l 0 = 0 := by
      unfold changeE
      rw [if_neg (fun h => h b1)]
      refine markErr_mk hr fun i hi => ?_
      rw [bits]
      have hik : i < k := by
        unfold inRs at hi
        obtain ⟨r, hrl, hri⟩ := List.any_eq_true.1 hi
        have := hok r hrl
        unfold runOk at this
        simp only [inR, decide_eq_true_eq] at hri
        omega
      rw [if_pos hik]
      unfold markF
      rw [if_pos hi]; decide
    have q4 : changeR (bmOf (markF (bitN s) l 1) k) k l 0 = s := by
      unfold changeR
      rw [if_pos q3, Int.toNat_natCast]
      refine bm_self he (markF_le (bitN_le _) (by omega)) fun i hi => ?_
      show (if inRs l i then 0 else bitN (bmOf (markF (bitN s) l 1) k) i) = _
      rw [bits, if_pos hi]
      unfold markF
      cases hin : inRs l i with
      | true =>
        have := hne i hin
        have := bitN_le s i
        simp; omega
      | false => simp
    exact ⟨q1, q2, b1, q3, q4, by rw [bmOf_len]; unfold len8; omega⟩
  rw [← hA] at nA lA pA
  (repeat' ((conv => whnf); (fail_if_success (refine ⟨(?_ : Nat), (?_ : _ < _), ?_⟩)); (fail_if_success (refine ⟨(?_ : RV), ?_⟩)); (fail_if_success (refine ⟨(?_ : List RV), ?_⟩)); first | refine NOT_t ?_ | refine CMP_t (by omega) ?_ | refine CMP_f (by omega) ?_ | (show _ ≤ (9223372036854775807 : Nat) → _; first | rw [List.length_map, tab_len] | rw [List.length_map] | rw [List.length_replicate] | skip; intro _) | refine And.intro rfl ?_ | refine ⟨_, ⟨_, _, _, rfl, rfl⟩, ?_⟩ | refine ⟨_, ⟨_, _, rfl, (by repeat' (first | omega | assumption | exact trivial | refine And.intro ?_ ?_)), rfl⟩, ?_⟩ | refine ⟨_, _, rfl, (by repeat' (first | omega | assumption | exact trivial | refine And.intro ?_ ?_)), ?_⟩ | refine ⟨_, _, _, rfl, (by repeat' (first | omega | assumption | exact trivial | refine And.intro ?_ ?_)), ?_⟩ | fail)) <;> try (conv => whnf)
  rw [hA, hB]
  rw [hA] at nA lA pA
  (repeat' ((conv => whnf); (fail_if_success (refine ⟨(?_ : Nat), (?_ : _ < _), ?_⟩)); (fail_if_success (refine ⟨(?_ : RV), ?_⟩)); (fail_if_success (refine ⟨(?_ : List RV), ?_⟩)); first | refine N64 (by omega) ?_ | refine CMP_f (by omega) ?_ | fail)) <;> try (conv => whnf)
  rw [c1]
  refine ⟨fun m env σ => ∃ i : Nat, (i + m = A.length) ∧ σ = [.row T_api_Run 2 true (A.map Rn.pv), .row T_api_Run 2 true (B.map Rn.pv)] ∧ env = [(0, .pv (.str s)), (1, .pv (pI k)), (2, .pv (.sl 2 (l.map Rn.pv))), (7, .pv (pI (cntN s k))), (9, .own 0), (11, .own 1), (13, .pv (pI (sumN (A.take i)))), (14, .pv (pI i))], A.length, ⟨0, by omega, rfl, rfl⟩, ?_⟩
  rintro m env σ ⟨i, hi, rfl, rfl⟩
  have hi1 := nA i
  have hi2 := nA (i + 1)
  by_cases hlt : i < A.length
  · obtain ⟨r, hr0⟩ : ∃ r, A[i]? = some r := ⟨A[i], List.getElem?_eq_getElem hlt⟩
    have hnx := sumN_next hr0
    (repeat' ((conv => whnf); (fail_if_success (refine ⟨(?_ : Nat), (?_ : _ < _), ?_⟩)); (fail_if_success (refine ⟨(?_ : RV), ?_⟩)); (fail_if_success (refine ⟨(?_ : List RV), ?_⟩)); first | refine N64 (by omega) ?_ | refine CMP_t (by omega) ?_ | (show _ ≤ (9223372036854775807 : Nat) → _; first | rw [List.length_map, tab_len] | rw [List.length_map] | rw [List.length_replicate] | skip; intro _) | refine GEThn (by assumption) ?_ | refine OWN (by omega) ?_ | fail)) <;> try (conv => whnf)
    refine ⟨m - 1, by omega, i + 1, by omega, rfl, ?_⟩
    rw [hnx]; rfl
  have hiA : i = A.length := by omega
  subst hiA
  rw [List.take_length] at *
  clear hi1 hi2 hlt hi
  rw [sA]
  (repeat' ((conv => whnf); (fail_if_success (refine ⟨(?_ : Nat), (?_ : _ < _), ?_⟩)); (fail_if_success (refine ⟨(?_ : RV), ?_⟩)); (fail_if_success (refine ⟨(?_ : List RV), ?_⟩)); first | refine CMP_f (by omega) ?_ | (show _ ≤ (9223372036854775807 : Nat) → _; first | rw [List.length_map, tab_len] | rw [List.length_map] | rw [List.length_replicate] | skip; intro _) | fail)) <;> try (conv => whnf)
  refine ⟨fun m env σ => ∃ i : Nat, (i + m = B.length) ∧ σ = [.row T_api_Run 2 true (A.map Rn.pv), .row T_api_Run 2 true (B.map Rn.pv)] ∧ env = [(0, .pv (.str s)), (1, .pv (pI k)), (2, .pv (.sl 2 (l.map Rn.pv))), (7, .pv (pI (cntN s k))), (9, .own 0), (11, .own 1), (13, .pv (pI (cntN s k + sumN (B.take i)))), (15, .pv (pI i))], B.length, ⟨0, by omega, rfl, by simp⟩, ?_⟩
  rintro m env σ ⟨i, hi, rfl, rfl⟩
  have hi1 := nB i
  have hi2 := nB (i + 1)
  by_cases hlt : i < B.length
  · obtain ⟨r, hr0⟩ : ∃ r, B[i]? = some r := ⟨B[i], List.getElem?_eq_getElem hlt⟩
    have hnx := sumN_next hr0
    (repeat' ((conv => whnf); (fail_if_success (refine ⟨(?_ : Nat), (?_ : _ < _), ?_⟩)); (fail_if_success (refine ⟨(?_ : RV), ?_⟩)); (fail_if_success (refine ⟨(?_ : List RV), ?_⟩)); first | refine N64 (by omega) ?_ | refine CMP_t (by omega) ?_ | (show _ ≤ (9223372036854775807 : Nat) → _; first | rw [List.length_map, tab_len] | rw [List.length_map] | rw [List.length_replicate] | skip; intro _) | refine GEThn (by assumption) ?_ | refine OWN (by omega) ?_ | fail)) <;> try (conv => whnf)
    refine ⟨m - 1, by omega, i + 1, by omega, rfl, ?_⟩
    rw [hnx, ← Int.add_assoc]; rfl
  have hiB : i = B.length := by omega
  subst hiB
  rw [List.take_length, sB]
  clear hi1 hi2 hlt hi
  have o12 : A.length ≤ 64 → ofE A k = 0 ∧ ¬ ofR A k ≠ s := fun h => ⟨(ofA h).1, fun h' => h' (ofA h).2⟩
  by_cases hm0 : markErr (bitN s) k l 1 = 0
  case neg =>
    have e18 : changeE s k l 1 = 18 := by rw [e1]; omega
    by_cases h64 : A.length ≤ 64
    · obtain ⟨o1, o2⟩ := o12 h64
      (repeat' ((conv => whnf); (fail_if_success (refine ⟨(?_ : Nat), (?_ : _ < _), ?_⟩)); (fail_if_success (refine ⟨(?_ : RV), ?_⟩)); (fail_if_success (refine ⟨(?_ : List RV), ?_⟩)); first | refine CMP_t (by omega) ?_ | refine CMP_f (by omega) ?_ | (show _ ≤ (9223372036854775807 : Nat) → _; first | rw [List.length_map, tab_len] | rw [List.length_map] | rw [List.length_replicate] | skip; intro _) | refine ⟨_, rfl, (by repeat' (first | omega | assumption | exact trivial | refine And.intro ?_ ?_)), ?_⟩ | refine ⟨_, _, _, rfl, (by repeat' (first | omega | assumption | exact trivial | refine And.intro ?_ ?_)), ?_⟩ | refine ⟨_, _, rfl, ?_⟩ | fail)) <;> try (conv => whnf)
      (refine ⟨_, ?_, ?_, hK⟩ <;> repeat' (first | exact rfl | exact trivial | exact flat_runs _ | exact flat_pI _ | exact (fun _ h => by cases h) | refine ⟨?_, ?_⟩))
    · (repeat' ((conv => whnf); (fail_if_success (refine ⟨(?_ : Nat), (?_ : _ < _), ?_⟩)); (fail_if_success (refine ⟨(?_ : RV), ?_⟩)); (fail_if_success (refine ⟨(?_ : List RV), ?_⟩)); first | refine CMP_t (by omega) ?_ | refine CMP_f (by omega) ?_ | (show _ ≤ (9223372036854775807 : Nat) → _; first | rw [List.length_map, tab_len] | rw [List.length_map] | rw [List.length_replicate] | skip; intro _) | refine ⟨_, rfl, (by repeat' (first | omega | assumption | exact trivial | refine And.intro ?_ ?_)), ?_⟩ | refine ⟨_, _, _, rfl, (by repeat' (first | omega | assumption | exact trivial | refine And.intro ?_ ?_)), ?_⟩ | fail)) <;> try (conv => whnf)
      (refine ⟨_, ?_, ?_, hK⟩ <;> repeat' (first | exact rfl | exact trivial | exact flat_runs _ | exact flat_pI _ | exact (fun _ h => by cases h) | refine ⟨?_, ?_⟩))
  obtain ⟨q1, q2, q3, q4, q5, q6⟩ := hmk hm0
  rw [← q1] at q2 q3 q4 q5 q6
  have e0 : changeE s k l 1 = 0 := e1.trans hm0
  clear hmk
  by_cases h64 : A.length ≤ 64
  · obtain ⟨o1, o2⟩ := o12 h64
    (repeat' ((conv => whnf); (fail_if_success (refine ⟨(?_ : Nat), (?_ : _ < _), ?_⟩)); (fail_if_success (refine ⟨(?_ : RV), ?_⟩)); (fail_if_success (refine ⟨(?_ : List RV), ?_⟩)); first | refine CMP_t (by omega) ?_ | refine CMP_f (by omega) ?_ | (show _ ≤ (9223372036854775807 : Nat) → _; first | rw [List.length_map, tab_len] | rw [List.length_map] | rw [List.length_replicate] | skip; intro _) | refine ⟨_, rfl, (by repeat' (first | omega | assumption | exact trivial | refine And.intro ?_ ?_)), ?_⟩ | refine ⟨_, _, rfl, (by repeat' (first | omega | assumption | exact trivial | refine And.intro ?_ ?_)), ?_⟩ | refine ⟨_, _, _, rfl, (by repeat' (first | omega | assumption | exact trivial | refine And.intro ?_ ?_)), ?_⟩ | refine ⟨_, _, rfl, ?_⟩ | fail)) <;> try (conv => whnf)
    refine ⟨fun m env σ => ∃ i : Nat, (i + m = l.length) ∧ σ = [] ∧ env = [(0, .pv (.str s)), (2, .pv (.sl 2 (l.map Rn.pv))), (7, .pv (pI (cntN s k))), (20, .pv (pI (R_CountOf (changeR s k l 1) k))), (21, .pv (pI (bmErr (changeR s k l 1) k))), (22, .pv (.str (changeR (changeR s k l 1) k l 0))), (23, .pv (pI (changeE (changeR s k l 1) k l 0))), (24, .pv (pI (sumN (l.take i)))), (25, .pv (pI i))], l.length, ⟨0, by omega, rfl, rfl⟩, ?_⟩
    rintro m env σ ⟨i, hi, rfl, rfl⟩
    have hi1 := nL i
    have hi2 := nL (i + 1)
    by_cases hlt : i < l.length
    · obtain ⟨r, hr0⟩ : ∃ r, l[i]? = some r := ⟨l[i], List.getElem?_eq_getElem hlt⟩
      have hnx := sumN_next hr0
      (repeat' ((conv => whnf); (fail_if_success (refine ⟨(?_ : Nat), (?_ : _ < _), ?_⟩)); (fail_if_success (refine ⟨(?_ : RV), ?_⟩)); (fail_if_success (refine ⟨(?_ : List RV), ?_⟩)); first | refine N64 (by omega) ?_ | refine CMP_t (by omega) ?_ | (show _ ≤ (9223372036854775807 : Nat) → _; first | rw [List.length_map, tab_len] | rw [List.length_map] | rw [List.length_replicate] | skip; intro _) | refine IDXh (by assumption) ?_ | fail)) <;> try (conv => whnf)
      refine ⟨m - 1, by omega, i + 1, by omega, rfl, ?_⟩
      rw [hnx]; rfl
    · have hil : i = l.length := by omega
      subst hil
      rw [List.take_length] at hi1 ⊢
      (repeat' ((conv => whnf); (fail_if_success (refine ⟨(?_ : Nat), (?_ : _ < _), ?_⟩)); (fail_if_success (refine ⟨(?_ : RV), ?_⟩)); (fail_if_success (refine ⟨(?_ : List RV), ?_⟩)); first | refine N64 (by omega) ?_ | refine CMP_t (by omega) ?_ | refine CMP_f (by omega) ?_ | (show _ ≤ (9223372036854775807 : Nat) → _; first | rw [List.length_map, tab_len] | rw [List.length_map] | rw [List.length_replicate] | skip; intro _) | fail)) <;> try (conv => whnf)
      (refine ⟨_, ?_, ?_, hK⟩ <;> repeat' (first | exact rfl | exact trivial | exact flat_runs _ | exact flat_pI _ | exact (fun _ h => by cases h) | refine ⟨?_, ?_⟩))
  · (repeat' ((conv => whnf); (fail_if_success (refine ⟨(?_ : Nat), (?_ : _ < _), ?_⟩)); (fail_if_success (refine ⟨(?_ : RV), ?_⟩)); (fail_if_success (refine ⟨(?_ : List RV), ?_⟩)); first | refine CMP_f (by omega) ?_ | (show _ ≤ (9223372036854775807 : Nat) → _; first | rw [List.length_map, tab_len] | rw [List.length_map] | rw [List.length_replicate] | skip; intro _) | refine ⟨_, rfl, (by repeat' (first | omega | assumption | exact trivial | refine And.intro ?_ ?_)), ?_⟩ | refine ⟨_, _, rfl, (by repeat' (first | omega | assumption | exact trivial | refine And.intro ?_ ?_)), ?_⟩ | refine ⟨_, _, _, rfl, (by repeat' (first | omega | assumption | exact trivial | refine And.intro ?_ ?_)), ?_⟩ | fail)) <;> try (conv => whnf)
    refine ⟨fun m env σ => ∃ i : Nat, (i + m = l.length) ∧ σ = [] ∧ env = [(0, .pv (.str s)), (2, .pv (.sl 2 (l.map Rn.pv))), (7, .pv (pI (cntN s k))), (20, .pv (pI (R_CountOf (changeR s k l 1) k))), (21, .pv (pI (bmErr (changeR s k l 1) k))), (22, .pv (.str (changeR (changeR s k l 1) k l 0))), (23, .pv (pI (changeE (changeR s k l 1) k l 0))), (24, .pv (pI (sumN (l.take i)))), (25, .pv (pI i))], l.length, ⟨0, by omega, rfl, rfl⟩, ?_⟩
    rintro m env σ ⟨i, hi, rfl, rfl⟩
    have hi1 := nL i
    have hi2 := nL (i + 1)
    by_cases hlt : i < l.length
    · obtain ⟨r, hr0⟩ : ∃ r, l[i]? = some r := ⟨l[i], List.getElem?_eq_getElem hlt⟩
      have hnx := sumN_next hr0
      (repeat' ((conv => whnf); (fail_if_success (refine ⟨(?_ : Nat), (?_ : _ < _), ?_⟩)); (fail_if_success (refine ⟨(?_ : RV), ?_⟩)); (fail_if_success (refine ⟨(?_ : List RV), ?_⟩)); first | refine N64 (by omega) ?_ | refine CMP_t (by omega) ?_ | (show _ ≤ (9223372036854775807 : Nat) → _; first | rw [List.length_map, tab_len] | rw [List.length_map] | rw [List.length_replicate] | skip; intro _) | refine IDXh (by assumption) ?_ | fail)) <;> try (conv => whnf)
      refine ⟨m - 1, by omega, i + 1, by omega, rfl, ?_⟩
      rw [hnx]; rfl
    · have hil : i = l.length := by omega
      subst hil
      rw [List.take_length] at hi1 ⊢
      (repeat' ((conv => whnf); (fail_if_success (refine ⟨(?_ : Nat), (?_ : _ < _), ?_⟩)); (fail_if_success (refine ⟨(?_ : RV), ?_⟩)); (fail_if_success (refine ⟨(?_ : List RV), ?_⟩)); first | refine N64 (by omega) ?_ | refine CMP_t (by omega) ?_ | refine CMP_f (by omega) ?_ | (show _ ≤ (9223372036854775807 : Nat) → _; first | rw [List.length_map, tab_len] | rw [List.length_map] | rw [List.length_replicate] | skip; intro _) | fail)) <;> try (conv => whnf)
      (refine ⟨_, ?_, ?_, hK⟩ <;> repeat' (first | exact rfl | exact trivial | exact flat_runs _ | exact flat_pI _ | exact (fun _ h => by cases h) | refine ⟨?_, ?_⟩)) 
end Go.Dv.Try
end
