/-
  A part of the proof: own texts, laid together by a tool of our own: DvCell DvArgs DvSig.
-/
import Derived.Test.YteiglmkppgjcbaaDv4
import Derived.Deep.Slices
import Derived.OpenShut
section
/-
  Arguments of any shape that is made of numbers, truth values, strings, structs and slices: what stands in a world, read by the statement, is a value of the contracts.
-/
namespace Go.Dv
open Go Go.ChangeShapes Go.WideShapes Go.Deep

/-- The kinds of cells. -/
inductive CT where
  | bool
  | int (k : IntKind)
  | str
  | sl (ag : Bool) (cs : List CT)

mutual
def HasC : CT → PV → Prop
  | .bool, x => ∃ b, x = .bool b
  | .int k, x => ∃ n, x = .int k n ∧ (Lit.int k n).wf = true
  | .str, x => ∃ l, x = .str l ∧ l.length ≤ maxLen
  | .sl ag cs, x => ∃ els, x = .sl cs.length els ∧ els.length ≤ maxLen ∧ ∀ y ∈ els, (ag = true → ∃ zs, y = .agg zs ∧ HasL cs zs) ∧ (ag = false → HasL cs [y])
def HasL : List CT → List PV → Prop
  | [], xs => xs = []
  | c :: cs, xs => ∃ y ys, xs = y :: ys ∧ HasC c y ∧ HasL cs ys
end

theorem hasL_append : ∀ (cs ds : List CT) (xs ys : List PV), HasL cs xs → HasL ds ys → HasL (cs ++ ds) (xs ++ ys)
  | [], _, _, _, h, h2 => by simp only [HasL] at h; subst h; exact h2
  | c :: cs, ds, xs, ys, h, h2 => by
    simp only [HasL] at h
    obtain ⟨y, zs, rfl, h3, h4⟩ := h
    simp only [List.cons_append, HasL]
    exact ⟨_, _, rfl, h3, hasL_append cs ds zs ys h4 h2⟩
theorem hasL_len : ∀ (cs : List CT) (xs : List PV), HasL cs xs → xs.length = cs.length
  | [], _, h => by simp only [HasL] at h; subst h; rfl
  | c :: cs, xs, h => by
    simp only [HasL] at h
    obtain ⟨y, zs, rfl, h3, h4⟩ := h
    simp [hasL_len cs zs h4]

theorem hasC_one : ∀ (c : CT) (x : PV), HasC c x → x.one = true ∧ ∀ l, x ≠ .agg l
  | .bool, x, h => by simp only [HasC] at h; obtain ⟨b, rfl⟩ := h; exact ⟨rfl, by simp⟩
  | .int k, x, h => by simp only [HasC] at h; obtain ⟨b, rfl, _⟩ := h; exact ⟨rfl, by simp⟩
  | .str, x, h => by simp only [HasC] at h; obtain ⟨b, rfl, _⟩ := h; exact ⟨rfl, by simp⟩
  | .sl _ _, x, h => by simp only [HasC] at h; obtain ⟨b, rfl, _⟩ := h; exact ⟨rfl, by simp⟩
theorem hasL_one : ∀ (cs : List CT) (xs : List PV), HasL cs xs → ∀ x ∈ xs, x.one = true
  | [], _, h => by simp only [HasL] at h; subst h; simp
  | c :: cs, xs, h => by
    simp only [HasL] at h
    obtain ⟨y, zs, rfl, h3, h4⟩ := h
    intro x hx
    rcases List.mem_cons.1 hx with rfl | hx
    · exact (hasC_one c _ h3).1
    · exact hasL_one cs zs h4 x hx

def isAg (P : Program) (e : TypeId) : Bool := match P.underlying e with | some (.struct _) => true | some (.array _ _) => true | _ => false

/-- The fields of a struct, one behind the other. -/
noncomputable def flatFs (P : Program) (g : TypeId → Option (List CT)) : List Field → Nat → Option (List CT) :=
  fun l => List.rec (motive := fun _ => Nat → Option (List CT)) (fun _ => some []) (fun f _ ih off =>
    (g f.type).bind fun cs => bif Nat.beq f.offset off && Nat.beq cs.length (P.cellsOf f.type) then (ih (off + cs.length)).map fun ds => cs ++ ds else none) l

/-- The cells of an array's elements. -/
noncomputable def repK (cs : List CT) (m : Nat) : List CT := Nat.rec (motive := fun _ => List CT) [] (fun _ ih => cs ++ ih) m
theorem repK_len (cs : List CT) (m : Nat) : (repK cs m).length = m * cs.length := by
  induction m with
  | zero => show 0 = _; simp
  | succ m ih => show (cs ++ repK cs m).length = _; rw [List.length_append, ih, Nat.add_mul, Nat.one_mul, Nat.add_comm]

/-- The cells of a type. -/
noncomputable def flatT (P : Program) (n : Nat) : TypeId → Option (List CT) :=
  Nat.rec (motive := fun _ => TypeId → Option (List CT)) (fun _ => none) (fun _ ih t =>
    match P.underlying t with
    | some .bool => some [.bool]
    | some (.int k) => some [.int k]
    | some .string => some [.str]
    | some (.slice e) => (ih e).bind fun cs => bif Nat.beq cs.length (P.cellsOf e) && Nat.ble 1 cs.length && (isAg P e || Nat.beq cs.length 1) then some [.sl (isAg P e) cs] else none
    | some (.struct fs) => (flatFs P ih fs.toList 0).bind fun cs => bif Nat.beq cs.length (P.cellsOf t) then some cs else none
    | some (.array m e) => bif Nat.ble m 64 then (ih e).bind fun cs => bif Nat.beq cs.length (P.cellsOf e) && Nat.beq (m * cs.length) (P.cellsOf t) then some (repK cs m) else none else none
    | _ => none) n

section
variable {H : Type} {enc : TypeId × Value → H} {P : Program} {w : World} {base : Nat} {spare : Nat → Bool} {held : Bool}

theorem rdCs_of (ok : Nat → Prop) (b : Nat) : ∀ (xs : List PV) (vs : List Value) (o : Nat), RdL ok w xs vs → (∀ j, j < vs.length → w.cell? ⟨b, o + j, none⟩ = vs[j]?) → (∀ x ∈ xs, x.one = true) → RdCs ok w b o xs := by
  intro xs
  induction xs with
  | nil => intro vs o _ _ _; simp [RdCs]
  | cons x xs ih =>
    intro vs o h hc h1
    simp only [RdL] at h
    obtain ⟨v, r, rfl, h2, h3⟩ := h
    simp only [RdCs]
    refine ⟨⟨h1 x (by simp), v, by simpa using hc 0 (by simp), h2⟩, ih r (o + 1) h3 (fun j hj => ?_) (fun y hy => h1 y (by simp [hy]))⟩
    have := hc (j + 1) (by simp; omega)
    simp at this
    rw [← this]; congr 2; omega

theorem rdRow_of (ok : Nat → Prop) (b sz : Nat) (f : Nat → PV) : ∀ (k i o : Nat), (∀ j, i ≤ j → j < i + k → RdRow ok w b sz (o + (j - i) * sz) [f j]) → RdRow ok w b sz o ((List.range' i k).map f) := by
  intro k
  induction k with
  | zero => intro i o _; simp [RdRow]
  | succ k ih =>
    intro i o h
    rw [List.range'_succ, List.map_cons]
    have h0 := h i (Nat.le_refl _) (by omega)
    rw [Nat.sub_self, Nat.zero_mul, Nat.add_zero] at h0
    have h1 := ih (i + 1) (o + sz) (fun j h1 h2 => by
      have := h j (by omega) (by omega)
      rw [show o + sz + (j - (i + 1)) * sz = o + (j - i) * sz by
        obtain ⟨q, rfl⟩ : ∃ q, j = i + 1 + q := ⟨j - (i + 1), by omega⟩
        rw [show i + 1 + q - (i + 1) = q by omega, show i + 1 + q - i = q + 1 by omega, Nat.add_mul, Nat.one_mul]; omega]
      exact this)
    generalize f i = x at h0
    cases x <;> (simp only [RdRow] at h0 ⊢; exact ⟨h0.1, h1⟩)

theorem flatFs_rd (ok : Nat → Prop) {n k : Nat} (ih : ∀ (t : TypeId) (cs : List Value) (x : DataW H × List MemPlace) (cts : List CT), flatT P n t = some cts → DataW.trod enc P w base spare held k t cs = some x → ∃ xs, HasL cts xs ∧ RdL ok w xs cs) (cs : List Value) :
    ∀ (l : List Field) (off : Nat) (cts : List CT), flatFs P (flatT P n) l off = some cts → off + cts.length = cs.length → (∀ (i : Nat) (f : Field), l[i]? = some f → ∃ x, DataW.trod enc P w base spare held k f.type ((cs.drop f.offset).take (P.cellsOf f.type)) = some x) → ∃ xs, HasL cts xs ∧ RdL ok w xs (cs.drop off) := by
  intro l
  induction l with
  | nil =>
    intro off cts h hl _
    simp only [flatFs] at h
    injection h with h
    subst h
    exact ⟨[], by simp [HasL], by simp only [RdL]; exact List.drop_eq_nil_of_le (by simp at hl; omega)⟩
  | cons f l ihl =>
    intro off cts h hl hx
    have h' : ((flatT P n f.type).bind fun cs => bif Nat.beq f.offset off && Nat.beq cs.length (P.cellsOf f.type) then (flatFs P (flatT P n) l (off + cs.length)).map fun ds => cs ++ ds else none) = some cts := h
    obtain ⟨c1, h1, h2⟩ := Option.bind_eq_some_iff.1 h'
    cases hb : (Nat.beq f.offset off && Nat.beq c1.length (P.cellsOf f.type)) with
    | false => rw [hb] at h2; cases h2
    | true =>
      rw [hb] at h2
      simp only [cond_true] at h2
      obtain ⟨c2, h3, rfl⟩ := Option.map_eq_some_iff.1 h2
      rw [Bool.and_eq_true] at hb
      have e1 := Nat.eq_of_beq_eq_true hb.1
      have e2 := Nat.eq_of_beq_eq_true hb.2
      obtain ⟨x, hx0⟩ := hx 0 f rfl
      obtain ⟨xs1, g1, g2⟩ := ih _ _ _ _ h1 hx0
      rw [List.length_append] at hl
      obtain ⟨xs2, g3, g4⟩ := ihl (off + c1.length) c2 h3 (by omega) (fun i f' hf => hx (i + 1) f' (by simpa using hf))
      refine ⟨xs1 ++ xs2, hasL_append _ _ _ _ g1 g3, ?_⟩
      rw [rdL_append]
      rw [e1, ← e2] at g2
      refine ⟨_, _, ?_, g2, g4⟩
      rw [← List.drop_drop, List.take_append_drop]

/-- What the statement reads is a value of the contracts. -/
theorem flat_rd (ok : Nat → Prop) (hok : ∀ b, b < w.heap.size → ok b) : ∀ (n k : Nat) (t : TypeId) (cs : List Value) (x : DataW H × List MemPlace) (cts : List CT), flatT P n t = some cts → DataW.trod enc P w base spare held k t cs = some x → ∃ xs, HasL cts xs ∧ RdL ok w xs cs := by
  intro n
  induction n with
  | zero => intro k t cs x cts h; cases h
  | succ n ih =>
    intro k t cs x cts h hx
    have h' : (match P.underlying t with
      | some .bool => some [CT.bool]
      | some (.int k) => some [CT.int k]
      | some .string => some [CT.str]
      | some (.slice e) => (flatT P n e).bind fun cs => bif Nat.beq cs.length (P.cellsOf e) && Nat.ble 1 cs.length && (isAg P e || Nat.beq cs.length 1) then some [CT.sl (isAg P e) cs] else none
      | some (.struct fs) => (flatFs P (flatT P n) fs.toList 0).bind fun cs => bif Nat.beq cs.length (P.cellsOf t) then some cs else none
      | some (.array m e) => bif Nat.ble m 64 then (flatT P n e).bind fun cs => bif Nat.beq cs.length (P.cellsOf e) && Nat.beq (m * cs.length) (P.cellsOf t) then some (repK cs m) else none else none
      | _ => none) = some cts := h
    split at h'
    · rename_i ht
      injection h' with h'; subst h'
      obtain ⟨b, rfl, _⟩ := DataW.trod_bool ht hx
      exact ⟨[.bool b], by simp [HasL, HasC], by simp [RdL, Rd]⟩
    · rename_i kk ht
      injection h' with h'; subst h'
      obtain ⟨b, rfl, _, hw⟩ := DataW.trod_int ht hx
      exact ⟨[.int kk b], by simp [HasL, HasC, hw], by simp [RdL, Rd]⟩
    · rename_i ht
      injection h' with h'; subst h'
      obtain ⟨s, rfl, _, hs⟩ := DataW.trod_string ht hx
      exact ⟨[.str s.data.toList], by simp [HasL, HasC]; exact hs, by simp [RdL, Rd]⟩
    · rename_i e ht
      obtain ⟨c1, h1, h2⟩ := Option.bind_eq_some_iff.1 h'
      cases hb : (Nat.beq c1.length (P.cellsOf e) && Nat.ble 1 c1.length && (isAg P e || Nat.beq c1.length 1)) with
      | false => rw [hb] at h2; cases h2
      | true =>
        rw [hb] at h2
        simp only [cond_true, Option.some.injEq] at h2
        subst h2
        rw [Bool.and_eq_true, Bool.and_eq_true] at hb
        have e1 := Nat.eq_of_beq_eq_true hb.1.1
        have e2 := Nat.le_of_ble_eq_true hb.1.2
        rcases open_slice ht hx with ⟨rfl, _⟩ | ⟨a, len, cap, m, q, D, Pl, rfl, hba, hl, hm, hmm, _, hel⟩
        · refine ⟨[.sl c1.length []], ?_, ?_⟩
          · simp only [HasL, HasC]
            exact ⟨_, _, rfl, ⟨[], rfl, by simp, by simp⟩, rfl⟩
          · simp only [RdL, Rd]
            exact ⟨_, _, rfl, ⟨none, 0, rfl, by simp, by simp [maxLen], .inl trivial⟩, rfl⟩
        · have hlm : len ≤ m := by rw [hmm]; split <;> omega
          have each : ∀ i, i < len → ∃ q : List PV × List Value, HasL c1 q.1 ∧ RdL ok w q.1 q.2 ∧ q.2.length = c1.length ∧ ∀ j, j < c1.length → w.cell? ((a.add (i * c1.length)).add j) = q.2[j]? := by
            intro i hi
            obtain ⟨cs', g1, g2⟩ := hel i (by omega)
            obtain ⟨xs, g3, g4⟩ := ih _ _ _ _ _ h1 g2
            obtain ⟨_, g5, g6⟩ := World.cells?_some g1
            exact ⟨(xs, cs'), g3, g4, by rw [g5, e1], fun j hj => by rw [e1]; exact g6 j (by omega)⟩
          obtain ⟨f, hf⟩ := choose_lt each
          have hlr : ((List.range' 0 len).map fun i => if isAg P e = true then PV.agg (f i).1 else (f i).1.headD (.nil 0)).length = len := by simp
          refine ⟨[.sl c1.length ((List.range' 0 len).map fun i => if isAg P e = true then PV.agg (f i).1 else (f i).1.headD (.nil 0))], ?_, ?_⟩
          · simp only [HasL, HasC]
            refine ⟨_, _, rfl, ⟨_, rfl, by rw [hlr]; omega, ?_⟩, rfl⟩
            intro y hy
            obtain ⟨i, hi, rfl⟩ := List.mem_map.1 hy
            have hi : i < len := by simp at hi; exact hi
            refine ⟨fun hg => ?_, fun hg => ?_⟩
            · rw [if_pos hg]; exact ⟨_, rfl, (hf i hi).1⟩
            · rw [if_neg (by rw [hg]; decide)]
              rw [hg, Bool.false_or] at hb
              have e3 := Nat.eq_of_beq_eq_true hb.2
              have h6 := (hf i hi).1
              have h7 := hasL_len _ _ h6
              rw [e3] at h7
              obtain ⟨z, hz⟩ := List.length_eq_one_iff.1 h7
              rw [hz] at h6 ⊢
              exact h6
          · simp only [RdL, Rd]
            refine ⟨_, _, rfl, ⟨some a, cap, by rw [hlr], by rw [hlr]; exact hl, hm, ?_⟩, rfl⟩
            by_cases h0 : len = 0
            · left; subst h0; rfl
            right
            obtain ⟨g1, g2, g3, g4⟩ := hf 0 (by omega)
            have hc0 := g4 0 (by omega)
            rw [Nat.zero_mul] at hc0
            have ea : (a.add 0).add 0 = a := rfl
            rw [ea] at hc0
            obtain ⟨v, hv⟩ : ∃ v, (f 0).2[0]? = some v := by rw [List.getElem?_eq_getElem (by omega)]; exact ⟨_, rfl⟩
            rw [hv] at hc0
            have hspot : a.spot = none := by
              unfold World.cell? at hc0
              split at hc0
              · split at hc0
                · cases hc0
                · rename_i hs; simpa using hs
              · cases hc0
            have hlt : a.block < w.heap.size := by
              unfold World.cell? at hc0
              split at hc0
              · rename_i hs
                by_cases hh : a.block < w.heap.size
                · exact hh
                · rw [Array.getElem?_eq_none (by omega)] at hs; cases hs
              · cases hc0
            have hadd : ∀ j, a.add j = ⟨a.block, a.off + j, none⟩ := by
              intro j
              unfold Addr.add
              split
              · rename_i h; subst h; obtain ⟨b, o, s⟩ := a; simp only at hspot; subst hspot; rfl
              · rfl
            refine ⟨a.block, a.off, ?_, hok _ hlt, ?_⟩
            · obtain ⟨b, o, s⟩ := a; simp only at hspot; subst hspot; rfl
            refine rdRow_of ok _ _ _ len 0 a.off (fun i _ hi => ?_)
            obtain ⟨g1, g2, g3, g4⟩ := hf i (by omega)
            rw [Nat.sub_zero]
            have g4' : ∀ j, j < (f i).2.length → w.cell? ⟨a.block, a.off + i * c1.length + j, none⟩ = (f i).2[j]? := by
              intro j hj
              rw [← g4 j (by omega), add_add, hadd, Nat.add_assoc]
            by_cases hg : isAg P e = true
            · rw [if_pos hg]
              simp only [RdRow]
              exact ⟨⟨hasL_len _ _ g1, rdCs_of ok _ _ _ _ g2 g4' (hasL_one _ _ g1)⟩, trivial⟩
            · rw [if_neg hg]
              have hg' : isAg P e = false := by simpa using hg
              rw [hg', Bool.false_or] at hb
              have e3 := Nat.eq_of_beq_eq_true hb.2
              have h7 := hasL_len _ _ g1
              rw [e3] at h7
              obtain ⟨z, hz⟩ := List.length_eq_one_iff.1 h7
              rw [hz] at g1 g2 ⊢
              have h8 := hasL_one _ _ g1 z (by simp)
              simp only [RdL] at g2
              obtain ⟨v', r, hv', h9, rfl⟩ := g2
              have h10 := g4' 0 (by rw [hv']; simp)
              rw [hv'] at h10
              have hna : ∀ l, z ≠ .agg l := by
                match c1, g1 with
                | c :: cs, g1 => simp only [HasL] at g1; obtain ⟨y, ys, hy, h11, _⟩ := g1; injection hy with hy _; subst hy; exact (hasC_one c _ h11).2
              show RdRow ok w a.block c1.length _ [z]
              cases z with
              | agg l => exact absurd rfl (hna l)
              | _ => simp only [RdRow]; exact ⟨⟨e3, h8, v', by simpa using h10, h9⟩, trivial⟩
    · rename_i fs ht
      obtain ⟨c1, h1, h2⟩ := Option.bind_eq_some_iff.1 h'
      cases hb : Nat.beq c1.length (P.cellsOf t) with
      | false => rw [hb] at h2; cases h2
      | true =>
        rw [hb] at h2
        simp only [cond_true, Option.some.injEq] at h2
        subst h2
        have e1 := Nat.eq_of_beq_eq_true hb
        obtain ⟨xs, q, rfl, _, hl, hxl, hf⟩ := DataW.trod_struct ht hx
        have := flatFs_rd (k := q) ok (fun t cs x cts => ih q t cs x cts) cs fs.toList 0 c1 h1 (by omega) (fun i f hi => ?_)
        · simpa using this
        · have hi' : fs[i]? = some f := by simpa using hi
          rw [hf i f hi']
          have : i < fs.size := by
            by_cases hh : i < fs.size
            · exact hh
            · rw [Array.getElem?_eq_none (by omega)] at hi'; cases hi'
          rw [List.getElem?_eq_getElem (by omega)]
          exact ⟨_, rfl⟩
    · rename_i m e ht
      cases hm : Nat.ble m 64 with
      | false => rw [hm] at h'; cases h'
      | true =>
        rw [hm] at h'
        simp only [cond_true] at h'
        obtain ⟨c1, h1, h2⟩ := Option.bind_eq_some_iff.1 h'
        cases hb : (Nat.beq c1.length (P.cellsOf e) && Nat.beq (m * c1.length) (P.cellsOf t)) with
        | false => rw [hb] at h2; cases h2
        | true =>
          rw [hb] at h2
          simp only [cond_true, Option.some.injEq] at h2
          subst h2
          rw [Bool.and_eq_true] at hb
          have e1 := Nat.eq_of_beq_eq_true hb.1
          have e2 := Nat.eq_of_beq_eq_true hb.2
          obtain ⟨xs, q, rfl, _, hl, hxl, hf⟩ := DataW.trod_array ht hx
          have main : ∀ (k i : Nat), i + k = m → ∃ ys, HasL (repK c1 k) ys ∧ RdL ok w ys (cs.drop (i * c1.length)) := by
            intro k
            induction k with
            | zero =>
              intro i hi
              refine ⟨[], by show HasL [] []; simp [HasL], ?_⟩
              simp only [RdL]
              exact List.drop_eq_nil_of_le (by rw [hl, ← e2, show i = m by omega]; exact Nat.le_refl _)
            | succ k ihk =>
              intro i hi
              have hget := hf i (by omega)
              have : i < xs.length := by omega
              rw [List.getElem?_eq_getElem this] at hget
              obtain ⟨ys1, g1, g2⟩ := ih _ _ _ _ _ h1 hget
              obtain ⟨ys2, g3, g4⟩ := ihk (i + 1) (by omega)
              refine ⟨ys1 ++ ys2, hasL_append _ _ _ _ g1 g3, ?_⟩
              rw [rdL_append]
              rw [← e1] at g2
              refine ⟨_, _, ?_, g2, g4⟩
              rw [Nat.add_mul, Nat.one_mul, ← List.drop_drop, List.take_append_drop]
          obtain ⟨ys, g1, g2⟩ := main m 0 (by omega)
          exact ⟨ys, g1, by simpa using g2⟩
    · cases h'
end
end Go.Dv
end
section
/-
  A law's arguments, all together: what the statement reads are values of the contract.
-/
namespace Go.Dv
open Go Go.ChangeShapes Go.WideShapes Go.Deep Go.RowKit

/-- Parameters, each by whether it is a struct and by its cells. -/
def HasPs : List (Bool × List CT) → List PV → Prop
  | [], xs => xs = []
  | p :: r, xs => ∃ y ys, xs = y :: ys ∧ (p.1 = true → ∃ zs, y = .agg zs ∧ HasL p.2 zs) ∧ (p.1 = false → HasL p.2 [y]) ∧ HasPs r ys

/-- The parameters' cells, of these types. -/
noncomputable def sigOf (P : Program) (ts : List TypeId) : List (Bool × Option (List CT)) := ts.map fun t => (isAg P t, flatT P 8 t)

section
variable {H : Type} {enc : TypeId × Value → H} {P : Program} {w : World} {base : Nat}

theorem okWide_one {n : Nat} {t : TypeId} {c : List CT} {v : Value} {r : Reach} {b0 : Nat} (hf : flatT P n t = some c) (ha : isAg P t = false) (hv : Value.okWide P w r b0 t v) : v.cells.toList = [v] := by
  cases n with
  | zero => cases hf
  | succ n =>
    have h' : (match P.underlying t with
      | some .bool => some [CT.bool]
      | some (.int k) => some [CT.int k]
      | some .string => some [CT.str]
      | some (.slice e) => (flatT P n e).bind fun cs => bif Nat.beq cs.length (P.cellsOf e) && Nat.ble 1 cs.length && (isAg P e || Nat.beq cs.length 1) then some [CT.sl (isAg P e) cs] else none
      | some (.struct fs) => (flatFs P (flatT P n) fs.toList 0).bind fun cs => bif Nat.beq cs.length (P.cellsOf t) then some cs else none
      | some (.array m e) => bif Nat.ble m 64 then (flatT P n e).bind fun cs => bif Nat.beq cs.length (P.cellsOf e) && Nat.beq (m * cs.length) (P.cellsOf t) then some (repK cs m) else none else none
      | _ => none) = some c := hf
    unfold isAg at ha
    split at h'
    · rename_i ht
      obtain ⟨b, rfl⟩ := okWide_bool ht hv
      rfl
    · rename_i ht
      obtain ⟨b, rfl⟩ := okWide_int ht hv
      rfl
    · rename_i ht
      obtain ⟨b, rfl⟩ := okWide_string ht hv
      rfl
    · rename_i ht
      obtain ⟨a, l, c, rfl⟩ := okWide_slice ht hv
      rfl
    · rename_i ht
      rw [ht] at ha
      cases ha
    · rename_i ht
      rw [ht] at ha
      cases ha
    · cases h'

theorem args_rd (ok : Nat → Prop) (hok : ∀ b, b < w.heap.size → ok b) {sp : Nat → Bool} {held : Bool} {r : Reach} {b0 : Nat} : ∀ (ts : List TypeId) (sig : List (Bool × List CT)) (vs : List Value) (ds : List (DataW H)) (ps : List MemPlace),
    sigOf P ts = sig.map (fun p => (p.1, some p.2)) → (∀ (j : Nat) t v, ts[j]? = some t → vs[j]? = some v → Value.okWide P w r b0 t v) → DataW.TrodAll enc P w base sp held ts vs ds ps → ∃ xs, HasPs sig xs ∧ RdL ok w xs vs := by
  intro ts
  induction ts with
  | nil =>
    intro sig vs ds ps hs _ h
    obtain ⟨rfl, rfl, rfl⟩ := trodAll_nil h
    cases sig with
    | nil => exact ⟨[], by simp [HasPs], by simp [RdL]⟩
    | cons => simp [sigOf] at hs
  | cons t ts ih =>
    intro sig vs ds ps hs hval h
    obtain ⟨v, vs', d, ds', p, q, rfl, rfl, rfl, h1, h2⟩ := trodAll_cons h
    cases sig with
    | nil => simp [sigOf] at hs
    | cons s sig =>
      simp only [sigOf, List.map_cons, List.cons.injEq, Prod.mk.injEq] at hs
      obtain ⟨⟨hs1, hs2⟩, hs3⟩ := hs
      obtain ⟨xs, g1, g2⟩ := ih sig vs' ds' q hs3 (fun j t v ht hv => hval (j + 1) t v (by simpa using ht) (by simpa using hv)) h2
      obtain ⟨k, hk⟩ := h1
      obtain ⟨ys, g3, g4⟩ := flat_rd ok hok 8 k t _ _ _ hs2 hk
      have hv := hval 0 t v rfl rfl
      cases hag : isAg P t with
      | false =>
        rw [okWide_one hs2 hag hv] at g4
        match ys, g4 with
        | [], g4 => simp only [RdL] at g4; cases g4
        | y :: ys, g4 =>
          simp only [RdL] at g4
          obtain ⟨v', r, e, g5, g6⟩ := g4
          injection e with e1 e2
          subst e1; subst e2
          have : ys = [] := by
            cases ys with
            | nil => rfl
            | cons z zs => simp only [RdL] at g6; obtain ⟨_, _, e, _⟩ := g6; cases e
          subst this
          refine ⟨y :: xs, ?_, ?_⟩
          · simp only [HasPs]
            exact ⟨y, xs, rfl, fun h => absurd (hs1.trans h) (by rw [hag]; decide), fun _ => g3, g1⟩
          · simp only [RdL]
            exact ⟨v, vs', rfl, g5, g2⟩
      | true =>
        have hst : ∃ cs, v = .agg cs := by
          unfold isAg at hag
          split at hag
          · rename_i fs h; obtain ⟨cs, h, _⟩ := okWide_struct h hv; exact ⟨cs, h⟩
          · rename_i m e h
            simp only [Value.okWide, h] at hv
            obtain ⟨cs, h1, _⟩ := hv
            exact ⟨cs, h1⟩
          · cases hag
        obtain ⟨cs, rfl⟩ := hst
        refine ⟨.agg ys :: xs, ?_, ?_⟩
        · simp only [HasPs]
          exact ⟨_, xs, rfl, fun _ => ⟨ys, rfl, g3⟩, fun h => absurd (hs1.trans h) (by rw [hag]; decide), g1⟩
        · simp only [RdL, Rd]
          exact ⟨_, vs', rfl, ⟨fun c hc => by exact hasL_one _ _ g3 c hc, cs, rfl, by simpa [Value.cells] using g4⟩, g2⟩

/-- A call of a law. -/
theorem calls_law {f : FuncId} {S : Spec} (h : SoundAt P f S) (hmu : S.mu = false) {sig : List (Bool × List CT)} (hrun : ∀ xs, HasPs sig xs → S.run xs fun r => r = .pv (.bool true)) {ts : List TypeId} (hsig : sigOf P ts = sig.map (fun p => (p.1, some p.2)))
    {args : Array Value} {ds : List (DataW H)} {ps : List MemPlace} {r : Reach} {b0 : Nat} (hval : ∀ (j : Nat) t v, ts[j]? = some t → args.toList[j]? = some v → Value.okWide P w r b0 t v) (hA : DataW.TrodAll enc P w 0 (fun _ => true) true ts args.toList ds ps) :
    Calls P f args w fun e w' => e = .returned (.bool true) ∧ Below w.heap.size w w' := by
  obtain ⟨xs, h1, h2⟩ := args_rd (fun b => b < w.heap.size) (fun _ hb => hb) ts sig _ _ _ hsig hval hA
  exact calls_true h hmu h2 (hrun xs h1)
end

theorem list_of {α : Type} {g : α → PV} {q : α → Prop} : ∀ {els : List PV}, (∀ y ∈ els, ∃ t, y = g t ∧ q t) → ∃ l : List α, els = l.map g ∧ ∀ t ∈ l, q t := by
  intro els
  induction els with
  | nil => intro _; exact ⟨[], rfl, by simp⟩
  | cons y ys ih =>
    intro h
    obtain ⟨t, rfl, ht⟩ := h y (by simp)
    obtain ⟨l, rfl, hl⟩ := ih fun z hz => h z (by simp [hz])
    exact ⟨t :: l, rfl, by simpa using ⟨ht, hl⟩⟩
end Go.Dv
end
section
/-
  What parameters of common makes are.
-/
namespace Go.Dv
open Go

theorem sig_ints {y : PV} (h : HasL [.sl false [.int .i64]] [y]) : ∃ c : List Int, y = .sl 1 (c.map pI) ∧ ∀ x ∈ c, (Lit.int .i64 x).wf = true := by
  simp only [HasL, HasC] at h
  obtain ⟨_, _, e, ⟨els, rfl, _, h⟩, rfl⟩ := h
  injection e with e _
  subst e
  obtain ⟨l, rfl, hl⟩ := list_of (g := pI) (q := fun x => (Lit.int .i64 x).wf = true) fun z hz => by
    obtain ⟨y, ys, e, ⟨n, rfl, hn⟩, rfl⟩ := (h z hz).2 trivial
    injection e with e _
    exact ⟨n, e, hn⟩
  exact ⟨l, rfl, hl⟩
theorem sig_str {y : PV} (h : HasL [.str] [y]) : ∃ d : List UInt8, y = .str d ∧ d.length ≤ maxLen := by
  simp only [HasL, HasC] at h
  obtain ⟨_, _, e, ⟨l, rfl, hl⟩, rfl⟩ := h
  injection e with e _
  subst e
  exact ⟨l, rfl, hl⟩
theorem sig_int {k : IntKind} {y : PV} (h : HasL [.int k] [y]) : ∃ n : Int, y = .int k n ∧ (Lit.int k n).wf = true := by
  simp only [HasL, HasC] at h
  obtain ⟨_, _, e, ⟨l, rfl, hl⟩, rfl⟩ := h
  injection e with e _
  subst e
  exact ⟨l, rfl, hl⟩
end Go.Dv
end
