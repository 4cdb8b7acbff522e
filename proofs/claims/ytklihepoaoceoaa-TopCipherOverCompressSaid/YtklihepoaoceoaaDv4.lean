/-
  A part of the proof: own texts, laid together by a tool of our own: DvVc DvFn DvFnM DvLib DvOpen DvCell DvArgs DvStep DvShort DvBase DvSort DvSig.
-/
import Derived.Test.YtklihepoaoceoaaDv3
import Derived.ControlIn
import Derived.OwnWalk
import Derived.RangeFuncLeaves
import Derived.WalkKit
import Derived.ProofKit
import Derived.OpenShut
import Derived.Carry
import Derived.Deep.Slices
section
/-
  The verifier's condition holds the model's run of the code.
-/
set_option linter.unusedSimpArgs false
namespace Go.Dv
open Go.RowKit

/-! ### What looks the same -/
theorem canon_eq (env : Env) (ps : List Nat) : ∀ (K : Env → Prop), canon env ps K = K (ps.map fun p => (p, lookF p env)) := by
  induction ps with
  | nil => intro K; rfl
  | cons p ps ih =>
    intro K
    show look p (fun v => canon env ps fun r => K ((p, v) :: r)) env = _
    rw [look_eq, ih]; rfl

theorem canon_same {env env' : Env} (h : ∀ p, lookF p env' = lookF p env) (ps : List Nat) (K : Env → Prop) : canon env' ps K = canon env ps K := by
  rw [canon_eq, canon_eq]
  congr 1
  exact List.map_congr_left fun p _ => by rw [h p]

theorem gc_same {pin : List Nat} {env env' : Env} (h : ∀ p, lookF p env' = lookF p env) (σ : Sto) (ps : List Nat) (K : Env → Sto → Prop) : gc pin env' σ ps K = gc pin env σ ps K := canon_same h ps _

theorem same_seqQ {B : Env → Sto → Prop} {Q : Ex → Env → Sto → Prop} (hB : Same B) (hQ : ∀ e, Same (Q e)) : ∀ e, Same (seqQ B Q e)
  | .normal => hB
  | .exit i => hQ (.exit i)
  | .ret => hQ .ret

theorem same_blockQ {id : Nat} {Q : Ex → Env → Sto → Prop} (hQ : ∀ e, Same (Q e)) : ∀ e, Same (blockQ id Q e)
  | .normal => hQ .normal
  | .ret => hQ .ret
  | .exit i => by
    intro env env' σ h
    show (match Nat.beq i id with | true => Q .normal env' σ | false => Q (.exit i) env' σ) = (match Nat.beq i id with | true => Q .normal env σ | false => Q (.exit i) env σ)
    cases Nat.beq i id with
    | true => exact hQ .normal _ _ _ h
    | false => exact hQ (.exit i) _ _ _ h

theorem evF_same {env env' : Env} (h : ∀ p, lookF p env' = lookF p env) (o : Operand) : evF env' o = evF env o := evF_congr fun t _ => h t

theorem vc_same (Γ : Ctx) (pin ps : List Nat) : ∀ (c : PC) (Q : Ex → Env → Sto → Prop), (∀ e, Same (Q e)) → Same (vc Γ pin ps c Q) := by
  intro c
  induction c with
  | skip => intro Q hQ; exact hQ .normal
  | region ops => intro Q _ env env' σ h; exact canon_same h ps _
  | draw ops aft =>
    intro Q _ env env' σ h
    show (drawOk Γ ops aft = true ∧ canon env' ps _) = (drawOk Γ ops aft = true ∧ canon env ps _)
    rw [canon_same h]
  | drawD ops aft =>
    intro Q _ env env' σ h
    show (statD Γ ops aft = true ∧ canon env' ps _) = (statD Γ ops aft = true ∧ canon env ps _)
    rw [canon_same h]
  | seq a b iha ihb => intro Q hQ; exact iha _ (same_seqQ (ihb Q hQ) hQ)
  | cond c t e iht ihe =>
    intro Q hQ env env' σ h
    show ev env' c _ = ev env c _
    rw [ev_eq, ev_eq, evF_same h]
    cases evF env c with
    | pv x => cases x with
      | bool b => cases b with
        | true => exact iht Q hQ _ _ _ h
        | false => exact ihe Q hQ _ _ _ h
      | _ => rfl
    | _ => rfl
  | block id b ih => intro Q hQ; exact ih _ (same_blockQ hQ)
  | loop live b ih => intro Q _ env env' σ h; exact gc_same h σ live _
  | rangeF f qs aops b ih =>
    intro Q _ env env' σ h
    exact canon_same h ps _
  | exit id => intro Q hQ; exact hQ (.exit id)
  | ret => intro Q hQ; exact hQ .ret

/-! ### Drawn orders: what the check says -/
theorem zipIdx_all {α : Type} (l : List α) (p : α × Nat → Bool) (h : l.zipIdx.all p = true) (i : Nat) (x : α) (hi : l[i]? = some x) : p (x, i) = true := by
  rw [List.all_eq_true] at h
  apply h
  rw [List.mem_zipIdx_iff_getElem?]
  exact hi

section
variable {cx : Cx} {env : Env} {σ : Sto} {vals : List Value} {a : Act} {w w' : World} {n : Nat} {Γ : Ctx} {ps : List Nat}

theorem drawn_of {ops : Array Oper} {l : List PO} {aft : List (List Nat)} (hl : l.length = ops.size) (haft : aft = ops.toList.map fun o => (o.after.toList.filter fun e => Region.binds .any e).map (·.on))
    (h : drawOk Γ l aft = true) (d : PO) : Drawn Γ ops (fun i => l.getD i d) (fun i => aft.getD i []) (fun i => (befs aft).getD i []) := by
  unfold drawOk at h
  simp only [Bool.and_eq_true] at h
  obtain ⟨⟨h0, h1⟩, h2⟩ := h
  have hlen : aft.length = ops.size := by rw [haft]; simp
  have get : ∀ (i : Nat) (o : Oper), ops[i]? = some o → aft.getD i [] = (o.after.toList.filter fun e => Region.binds .any e).map (·.on) := by
    intro i o ho
    rw [haft]
    simp [List.getD_eq_getElem?_getD, ho]
  have row : ∀ i, i < ops.size → aft[i]? = some (aft.getD i []) := by
    intro i hi
    rw [List.getD_eq_getElem?_getD, List.getElem?_eq_getElem (by omega)]; rfl
  have lrow : ∀ i, i < ops.size → l[i]? = some (l.getD i d) := by
    intro i hi
    rw [List.getD_eq_getElem?_getD, List.getElem?_eq_getElem (by omega)]; rfl
  unfold befOk at h1
  refine ⟨fun i o ho j hj => ?_, fun i o ho e he hb => ?_, fun i hi j hj => ?_, fun i hi j hj => ?_, fun i j hi hj => ?_⟩
  · rw [get i o ho] at hj
    obtain ⟨e, he, rfl⟩ := List.mem_map.1 hj
    obtain ⟨h3, h4⟩ := List.mem_filter.1 he
    exact ⟨e, by simpa using h3, h4, rfl⟩
  · rw [get i o ho]
    exact List.mem_map.2 ⟨e, List.mem_filter.2 ⟨by simpa using he, hb⟩, rfl⟩
  · have := zipIdx_all aft _ h1 i _ (row i hi)
    simp only [Bool.and_eq_true, List.all_eq_true] at this
    exact Nat.le_of_ble_eq_true (this.1 j hj)
  · have := zipIdx_all aft _ h1 i _ (row i hi)
    simp only [Bool.and_eq_true, List.all_eq_true, Bool.or_eq_true, List.any_eq_true] at this
    rcases this.2 j hj with h3 | ⟨e, h3, h4⟩
    · exact .inl (List.contains_iff_mem.1 h3)
    · exact .inr ⟨e, h3, List.contains_iff_mem.1 h4⟩
  · have := zipIdx_all l _ (zipIdx_all l _ h2 i _ (lrow i hi)) j _ (lrow j (by omega))
    simp only [Bool.or_eq_true, Bool.not_eq_true', Bool.and_eq_true] at this
    rcases this with (h3 | h3) | h3
    · exfalso
      have : Nat.blt j i = true := Nat.ble_eq_true_of_le hj
      rw [this] at h3; cases h3
    · exact .inl (List.contains_iff_mem.1 h3)
    · exact .inr ⟨h3.1, h3.2⟩

/-! ### Code -/
def Post (C : Cx → Prop) (n : Nat) (Q : Ex → Env → Sto → Prop) : Exit → Act → World → Prop
  | .normal, a, w => ∃ cx env σ vals, C cx ∧ a.tmps.size = n ∧ Rel cx env σ vals a w ∧ Q .normal env σ
  | .exit i, a, w => ∃ cx env σ vals, C cx ∧ a.tmps.size = n ∧ Rel cx env σ vals a w ∧ Q (.exit i) env σ
  | .ret, a, w => ∃ cx env σ vals, C cx ∧ a.tmps.size = n ∧ Rel cx env σ vals a w ∧ Q .ret env σ
  | _, _, _ => False

/-- A setting with one more deferred mark, block D. -/
def Cx.mark (cx : Cx) (w : World) (D : Nat) (hD : D < w.heap.size) (hs : cx.w1.heap.size ≤ w.heap.size) : Cx :=
  { cx with
    w1 := w
    keep := fun b => cx.keep b ∨ b = D
    hk := fun b hb => by
      rcases hb with hb | rfl
      · exact Nat.lt_of_lt_of_le (cx.hk b hb) hs
      · exact hD
    defers := { target := .collected D, args := #[] } :: cx.defers }

/-- The settings of a call: what stays is no cells; a mark may come. -/
structure Wide (P : Program) (pin : List Nat) (C : Cx → Prop) : Prop where
  pin : ∀ cx, C cx → PinOk pin cx
  gh : ∀ cx, C cx → ∀ x v, ¬ cx.gh x v
  lo : ∀ cx, C cx → cx.lo = 0
  keep : ∀ cx, C cx → ∀ b, cx.keep b → ∃ o : Obj, cx.w1.heap[b]? = some o ∧ o.isCells = false
  mark : ∀ (cx : Cx) (w : World) (D : Nat) (hD : D < w.heap.size) (hs : cx.w1.heap.size ≤ w.heap.size), C cx → (∀ b, cx.keep b → w.heap[b]? = cx.w1.heap[b]?) → cx.w0.heap.size ≤ D → cx.w1.heap.size ≤ D →
    w.heap[D]? = some (.deferred (some [])) → C (cx.mark w D hD hs)

theorem rel_canon (hr : Rel cx env σ vals a w) {K : Env → Prop} (h : canon env ps K) : ∃ env', K env' ∧ Rel cx env' σ vals a w := by
  rw [canon_eq] at h
  refine ⟨_, h, hr.s, fun p => ?_, hr.defers, hr.gh, hr.lo⟩
  rcases lookF_canon env ps p with hc | hc
  · rw [hc]; exact hr.env p
  · rw [hc]; simp only [RA]

theorem comped_of {P : Program} {dr : Bool} {ops : Array Oper} {l : List PO} (h : mapO (compO P dr ops n) ops.toList = some l) (d : PO) : l.length = ops.size ∧ Comped P dr ops n (fun i => l.getD i d) ∧ Comped P dr ops n (fun i => (l.map PO.plain).getD i d) := by
  have h1 := (mapO_spec _ _ _ h).1
  have hlen : l.length = ops.size := by
    have := congrArg List.length h1
    simpa using this.symm
  have get : ∀ i : Nat, i < ops.size → ∃ o po, ops[i]? = some o ∧ compO P dr ops n o = some po ∧ l[i]? = some po := by
    intro i hi
    have hi2 : i < l.length := by omega
    have := congrArg (·[i]?) h1
    simp only [List.getElem?_map] at this
    rw [List.getElem?_eq_getElem (by simpa using hi), List.getElem?_eq_getElem hi2] at this
    simp only [Option.map_some, Option.some.injEq] at this
    exact ⟨ops[i], l[i], Array.getElem?_eq_getElem hi, by simpa using this, List.getElem?_eq_getElem hi2⟩
  refine ⟨hlen, fun i hi => ?_, fun i hi => ?_⟩
  · obtain ⟨o, po, h2, h3, h4⟩ := get i hi
    exact ⟨o, po, h2, h3, .inl (by simp [List.getD_eq_getElem?_getD, h4])⟩
  · obtain ⟨o, po, h2, h3, h4⟩ := get i hi
    exact ⟨o, po, h2, h3, .inr (by simp [List.getD_eq_getElem?_getD, h4])⟩

theorem list_range {α : Type} (l : List α) (d : α) : (List.range l.length).map (fun i => l.getD i d) = l := by
  apply List.ext_getElem?
  intro i
  by_cases h : i < l.length
  · rw [List.getElem?_map, List.getElem?_eq_getElem (by simpa using h)]; simp [List.getD_eq_getElem?_getD, h]
  · rw [List.getElem?_eq_none (by simp; omega), List.getElem?_eq_none (by omega)]

open Classical in
noncomputable def leastN (p : Nat → Prop) : Nat := if h : ∃ n, p n ∧ ∀ m, p m → n ≤ m then Classical.choose h else 0

theorem leastN_spec {p : Nat → Prop} {n : Nat} (h : p n) : p (leastN p) ∧ ∀ m, p m → leastN p ≤ m := by
  have hex : ∃ n, p n ∧ ∀ m, p m → n ≤ m := by
    induction n using Nat.strongRecOn with
    | _ n ih =>
      by_cases hm : ∃ m, m < n ∧ p m
      · obtain ⟨m, h1, h2⟩ := hm; exact ih m h1 h2
      · exact ⟨n, h, fun m hp => Nat.le_of_not_lt fun hlt => hm ⟨m, hlt, hp⟩⟩
  unfold leastN
  rw [dif_pos hex]
  exact Classical.choose_spec hex

theorem strip_skip {pc : PC} (h : some PC.skip = some (strip pc)) : pc = .skip := by cases pc <;> first | rfl | cases h
theorem strip_ret {pc : PC} (h : some PC.ret = some (strip pc)) : pc = .ret := by cases pc <;> first | rfl | cases h
theorem strip_exit {id : Nat} {pc : PC} (h : some (PC.exit id) = some (strip pc)) : pc = .exit id := by cases pc <;> first | (cases h; rfl) | cases h
theorem strip_region {l : List PO} {pc : PC} (h : some (PC.region l) = some (strip pc)) : pc = .region l := by cases pc <;> first | (cases h; rfl) | cases h
theorem strip_draw {l : List PO} {aft : List (List Nat)} {pc : PC} (h : some (PC.draw l aft) = some (strip pc)) : pc = .draw l aft ∨ pc = .drawD l aft := by cases pc <;> first | (cases h; exact .inl rfl) | (cases h; exact .inr rfl) | cases h
theorem strip_seq {a b pc : PC} (h : some (PC.seq a b) = some (strip pc)) : ∃ a' b', pc = .seq a' b' ∧ a = strip a' ∧ b = strip b' := by
  cases pc <;> first | (cases h; exact ⟨_, _, rfl, rfl, rfl⟩) | cases h
theorem strip_cond {x : Operand} {a b pc : PC} (h : some (PC.cond x a b) = some (strip pc)) : ∃ a' b', pc = .cond x a' b' ∧ a = strip a' ∧ b = strip b' := by
  cases pc <;> first | (cases h; exact ⟨_, _, rfl, rfl, rfl⟩) | cases h
theorem strip_block {id : Nat} {b pc : PC} (h : some (PC.block id b) = some (strip pc)) : ∃ b', pc = .block id b' ∧ b = strip b' := by
  cases pc <;> first | (cases h; exact ⟨_, rfl, rfl⟩) | cases h
theorem strip_loop {b pc : PC} (h : some (PC.loop [] b) = some (strip pc)) : ∃ live b', pc = .loop live b' ∧ b = strip b' := by
  cases pc <;> first | (cases h; exact ⟨_, _, rfl, rfl⟩) | cases h

theorem simple_seq {a b : PC} (h : simpleC (.seq a b) = true) : simpleC a = true ∧ simpleC b = true := by
  have h : (match simpleC a with | true => simpleC b | false => false) = true := h
  cases ha : simpleC a with
  | true => rw [ha] at h; exact ⟨rfl, h⟩
  | false => rw [ha] at h; cases h
theorem simple_cond {c : Operand} {a b : PC} (h : simpleC (.cond c a b) = true) : simpleC a = true ∧ simpleC b = true := by
  have h : (match simpleC a with | true => simpleC b | false => false) = true := h
  cases ha : simpleC a with
  | true => rw [ha] at h; exact ⟨rfl, h⟩
  | false => rw [ha] at h; cases h

theorem strip_simple (c : PC) : simpleC (strip c) = simpleC c := by
  induction c with
  | seq a b iha ihb =>
    show (match simpleC (strip a) with | true => simpleC (strip b) | false => false) = (match simpleC a with | true => simpleC b | false => false)
    rw [iha, ihb]
  | cond c a b iha ihb =>
    show (match simpleC (strip a) with | true => simpleC (strip b) | false => false) = (match simpleC a with | true => simpleC b | false => false)
    rw [iha, ihb]
  | block id b ih => exact ih
  | _ => rfl

theorem rel_drew' {cx : Cx} {env : Env} {σ : Sto} {vals : List Value} {a : Act} {w : World} (h : Rel cx env σ vals a w) : Rel cx env σ vals a { w with drawn := w.drawn + 1 } := rel_drew h

section range
variable {P : Program}

/-- A round's setting. -/
def Cx.round (cx : Cx) (w : World) (okI : Nat → Prop) (W : World) (hI : ∀ b, okI b ∨ cx.keep b → b < W.heap.size) (gh : AV → Value → Prop) : Cx :=
  { cx with
    w1 := W
    keep := fun b => (okI b ∨ cx.keep b) ∨ ∃ o : Obj, W.heap[b]? = some o ∧ o.isCells = false
    hk := fun b hb => by
      rcases hb with hb | ⟨o, ho, _⟩
      · exact hI b hb
      · exact (Array.getElem?_eq_some_iff.1 ho).1
    defers := []
    gh := gh }

/-- The setting between two rounds. -/
def Cx.between (cx : Cx) (w : World) (okI : Nat → Prop) (hI : ∀ b, okI b ∨ cx.keep b → b < w.heap.size) : Cx :=
  { cx with w1 := w, keep := fun b => okI b ∨ cx.keep b, hk := hI }

theorem range_sound {pin : List Nat} {C : Cx → Prop} (hW : Wide P pin C) (hΓ : Sound P Γ) {m : Nat} (h1 : 1 ≤ m) {cx : Cx} (hC : C cx) (hP : cx.P = P) {f : Operand} {pa : Array Tmp} {asg body : Code} {l : List PO} {pb : PC} (hl : compA n asg = some l) (hps : ∀ p ∈ pa.toList, p < n) {Q : Ex → Env → Sto → Prop}
    (hbody : ∀ (cx' : Cx) (_ : cx'.lo = 0) (F : Fence) (k : Nat) (Q : Ex → Env → Sto → Prop) (env : Env) (σ : Sto) (vals : List Value) (a : Act) (w : World), Free F → cx'.P = P → a.tmps.size = n → Rel cx' env σ vals a w → (∀ e, Same (Q e)) → vc Γ pin ps pb Q env σ → body.wpIn F k P (Post (· = cx') n Q) a w)
    {env : Env} {σ : Sto} {vals : List Value} {a : Act} {w : World} (hn : a.tmps.size = n) (hr : Rel cx env σ vals a w) (h : rangeVC Γ pa.toList l (vc Γ pin ps pb) Q (evF env f) env σ) :
    (Code.rangeFunc f pa asg body).wpIn Fence.wide m P (Post C n Q) a w := by
  have hf := hr.ev f
  revert hf h
  cases evF env f with
  | pv x =>
    cases x with
    | clo g caps =>
      rintro ⟨L, I, hiter, hprim, hI0, hstep, hdone⟩ hf
      simp only [RA, Rd] at hf
      obtain ⟨cv, hfv, hcaps⟩ := hf
      obtain ⟨hseq, eg⟩ := (hΓ g).2.2.2.1 (m - 1) w (Ok cx σ vals w) caps cv L (fun b hb => hb.2.1) hcaps hiter
      have hIb : ∀ b, Ok cx σ vals w b ∨ cx.keep b → b < w.heap.size := fun b hb => by
        rcases hb with hb | hb
        · exact hb.2.1
        · exact Nat.lt_of_lt_of_le (cx.hk b hb) hr.s.fr.size
      let cxL := cx.between w (Ok cx σ vals w) hIb
      have hngh := hW.gh cx hC
      have hrL : Rel cxL env σ vals a w := by
        refine ⟨⟨hr.s.below, hr.s.one, hr.s.len, hr.s.sto, hr.s.dis, ⟨Nat.le_refl _, fun _ _ => rfl, fun b hm hb => ?_⟩, ⟨hr.s.pin.vs, hr.s.pin.len, hr.s.pin.refr, hr.s.pin.refb⟩⟩, hr.env, hr.defers, fun x v hg => absurd hg (hngh x v), hr.lo⟩
        rcases hb with hb | hb
        · exact hb.2.2 hm
        · exact hr.s.fr.mutn b hm hb
      -- between the rounds
      let I' : List { x : List PV // x ∈ L } → World → Prop := fun pre W => ∃ σ' vals', I (pre.map (·.1)) σ' ∧ Rel cxL env σ' vals' a W
      let Ix' : Code → List { x : List PV // x ∈ L } → World → Prop := fun c pre W => match c with
        | .ret => ∃ σ' vals', (pre.map (·.1) <+: L → Q .ret env σ') ∧ Rel cxL env σ' vals' a W
        | .exit i => ∃ σ' vals', (pre.map (·.1) <+: L → Q (.exit i) env σ') ∧ Rel cxL env σ' vals' a W
        | _ => False
      have hrow : ∀ {A : World} {row : Option Nat}, (∀ r, row = some r → w.heap.size ≤ r ∧ ∃ o : Obj, A.heap[r]? = some o ∧ o.isCells = false) → ∀ r, row = some r → cxL.own r ∧ cxL.w1.heap.size ≤ r ∧ ∃ o : Obj, A.heap[r]? = some o ∧ o.isCells = false :=
        fun hr' r e => ⟨cx.hown _ (Nat.le_trans hr.s.below.size (hr' r e).1), (hr' r e).1, (hr' r e).2⟩
      have hI' : OwnFrom w.heap.size I' := by
        rintro pre A B row ⟨σ', vals', h2, h3⟩ hg hrw
        exact ⟨σ', vals', h2, rel_other h3 hg (hrow hrw)⟩
      have hIx' : ∀ c, OwnFrom w.heap.size (Ix' c) := by
        intro c pre A B row hs hg hrw
        cases c <;> first
          | exact hs.elim
          | (obtain ⟨σ', vals', h2, h3⟩ := hs; exact ⟨σ', vals', h2, rel_other h3 hg (hrow hrw)⟩)
      -- behind a mark
      have marked : ∀ (D : Nat) (W : World) (σ' : Sto) (vals' : List Value), w.heap.size ≤ D → W.heap[D]? = some (.deferred (some [])) → Rel cxL env σ' vals' a W →
          ∃ cx2, C cx2 ∧ Rel cx2 env σ' vals' { a with defers := { target := .collected D, args := #[] } :: a.defers } W := by
        intro D W σ' vals' hD hK hR
        have hDlt : D < W.heap.size := (Array.getElem?_eq_some_iff.1 hK).1
        have hs : cx.w1.heap.size ≤ W.heap.size := Nat.le_trans hr.s.fr.size hR.s.fr.size
        have hkeep : ∀ b, cx.keep b → W.heap[b]? = cx.w1.heap[b]? := fun b hb => (hR.s.fr.same b (.inr hb)).trans (hr.s.fr.same b hb)
        refine ⟨cx.mark W D hDlt hs, hW.mark cx W D hDlt hs hC hkeep (Nat.le_trans hr.s.below.size hD) (Nat.le_trans hr.s.fr.size hD) hK, ?_⟩
        refine ⟨⟨hR.s.below, hR.s.one, hR.s.len, hR.s.sto, hR.s.dis, ⟨Nat.le_refl _, fun _ _ => rfl, fun b hm hb => ?_⟩, ⟨hR.s.pin.vs, hR.s.pin.len, hR.s.pin.refr, hR.s.pin.refb⟩⟩, hR.env, ?_, fun x v hg => absurd hg (hngh x v), hR.lo⟩
        · rcases hb with hb | rfl
          · exact hR.s.fr.mutn b hm (.inr hb)
          · obtain ⟨cur, e, fr, hc⟩ := mut_cells hR.s hm
            rw [hK] at hc; cases hc
        · show _ :: a.defers = _ :: cx.defers
          rw [hr.defers]
      obtain ⟨hmv, hasg⟩ := asg_spec (P := P) asg l hl
      let t₀ : { x : List PV // x ∈ L } → Act := fun x => ⟨(pa.toList.zip (x.1.map encV)).foldl (fun t p => t.setIfInBounds p.1 p.2) a.tmps, []⟩
      have hzip : ∀ x : { x : List PV // x ∈ L }, (pa.zip (x.1.map encV).toArray).foldl (fun t (p, v) => t.setIfInBounds p v) a.tmps = (t₀ x).tmps := by
        intro x
        show _ = (pa.toList.zip (x.1.map encV)).foldl (fun t p => t.setIfInBounds p.1 p.2) a.tmps
        rw [← Array.foldl_toList]
        simp
      refine wpIn_rangeFunc_ownG (F := Fence.wide) (n := m) rfl h1 (gf := g) (lb := cv) hfv trivial (fun args w => eg args w) (w0 := w) hseq
        (fun h k => ⟨Nat.le_trans h.1 k.1, fun b hb => (k.2 b hb).trans (h.2 b hb)⟩)
        (fun W j o o' hj ho hc _ => ⟨(by simp [World.putObj]), fun b hb => World.putObj_heap_other (fun e => by have := hb.2.1; omega)⟩)
        (Below.refl _ _) (fun x => by simpa using (hprim x.1 x.2).1)
        I' Ix' hI' hIx' ⟨σ, vals, hI0, hrL⟩ (fun x => moveAct l (t₀ x)) ?assign ?body ?done ?stop
      case assign =>
        intro j x W K hK
        rw [hzip x]
        exact hasg _ _ _ (t₀ x) W (.inr ⟨j, rfl⟩) hK
      case body =>
        rintro j pre x W ⟨σ', vals', hI2, hR⟩ hlen
        have hIb' : ∀ b, Ok cx σ vals w b ∨ cx.keep b → b < W.heap.size := fun b hb => Nat.lt_of_lt_of_le (hIb b hb) hR.s.fr.size
        let cx' := cx.round w (Ok cx σ vals w) W hIb' (fun y v => ∃ p, y = lookF p env ∧ v = a.tmps.getD p undef)
        have hR' : Rel cx' env σ' vals' ⟨a.tmps, []⟩ W := by
          refine ⟨⟨hR.s.below, hR.s.one, hR.s.len, hR.s.sto, hR.s.dis, ⟨Nat.le_refl _, fun _ _ => rfl, fun b hm hb => ?_⟩, ⟨hR.s.pin.vs, hR.s.pin.len, hR.s.pin.refr, hR.s.pin.refb⟩⟩, hR.env, rfl, ?_, hR.lo⟩
          · rcases hb with hb | ⟨o, ho, hoc⟩
            · exact hR.s.fr.mutn b hm hb
            · obtain ⟨cur, e, fr, hc⟩ := mut_cells hR.s hm
              rw [ho] at hc; cases hc; cases hoc
          · rintro y v ⟨p, rfl, rfl⟩
            exact hR.env p
        obtain ⟨env1, hv1, hR1, hn1⟩ := puts_rel (cx := cx') (n := n) (hW.lo cx hC) _ pa.toList x.1 env a.tmps [] (hprim x.1 x.2).1 (hprim x.1 x.2).2 hps hn hR' (hstep _ x.1 σ' x.2 (by simpa using hlen) hI2)
        obtain ⟨env2, hv2, hR2, hn2⟩ := moves_rel (cx := cx') (n := n) (hW.lo cx hC) _ l env1 (t₀ x) hmv hn1 hR1 hv1
        have hsame : ∀ e, Same (roundQ Q env I L (pre.map (·.1) ++ [x.1]) e) := by
          intro e env env' σ _
          cases e <;> rfl
        refine wpIn_mono (hbody cx' (hW.lo cx hC) _ _ _ env2 σ' vals' _ W (.inr ⟨j, rfl⟩) hP hn2 hR2 hsame hv2) ?_
        -- back outside
        have back : ∀ (env3 : Env) (σ3 : Sto) (vals3 : List Value) (a3 : Act) (W3 : World), Rel cx' env3 σ3 vals3 a3 W3 → KeepsFrom w.heap.size W W3 ∧ KpOf (Ok cx σ vals w) W W3 ∧ Rel cxL env σ3 vals3 a W3 := by
          intro env3 σ3 vals3 a3 W3 h3
          refine ⟨⟨h3.s.fr.size, fun k o _ ho hoc => (h3.s.fr.same k (.inr ⟨o, ho, hoc⟩)).trans ho⟩, ⟨h3.s.fr.size, fun b hb => h3.s.fr.same b (.inl (.inl hb))⟩, ?_⟩
          refine ⟨⟨h3.s.below, h3.s.one, h3.s.len, h3.s.sto, h3.s.dis, ⟨Nat.le_trans hR.s.fr.size h3.s.fr.size, fun b hb => (h3.s.fr.same b (.inl hb)).trans (hR.s.fr.same b hb), fun b hm hb => h3.s.fr.mutn b hm (.inl hb)⟩, ⟨h3.s.pin.vs, h3.s.pin.len, h3.s.pin.refr, h3.s.pin.refb⟩⟩, fun p => h3.gh _ _ ⟨p, rfl, rfl⟩, hr.defers, fun x v hg => absurd hg (hngh x v), hr.lo⟩
        intro e a3 W3 hp
        cases e with
        | normal =>
          obtain ⟨cx3, env3, σ3, vals3, rfl, _, h3, h4⟩ := hp
          obtain ⟨b1, b2, b3⟩ := back _ _ _ _ _ h3
          exact ⟨b1, b2, σ3, vals3, by rw [List.map_append]; exact h4, b3⟩
        | exit i =>
          obtain ⟨cx3, env3, σ3, vals3, rfl, _, h3, h4⟩ := hp
          obtain ⟨b1, b2, b3⟩ := back _ _ _ _ _ h3
          exact ⟨b1, σ3, vals3, by rw [List.map_append]; exact h4, b3⟩
        | ret =>
          obtain ⟨cx3, env3, σ3, vals3, rfl, _, h3, h4⟩ := hp
          obtain ⟨b1, b2, b3⟩ := back _ _ _ _ _ h3
          exact ⟨b1, σ3, vals3, by rw [List.map_append]; exact h4, b3⟩
        | _ => exact hp.elim
      case done =>
        rintro D xs W hD hS ⟨σ', vals', hI2, hR⟩ hK
        obtain ⟨cx2, hC2, hR2⟩ := marked D W σ' vals' hD hK hR
        rw [hS] at hI2
        exact ⟨cx2, env, σ', vals', hC2, hn, hR2, hdone σ' hI2⟩
      case stop =>
        intro D c pre W hD hSp hx hK
        cases c with
        | ret =>
          obtain ⟨σ', vals', hq, hR⟩ := hx
          obtain ⟨cx2, hC2, hR2⟩ := marked D W σ' vals' hD hK hR
          exact wpIn_ret ⟨cx2, env, σ', vals', hC2, hn, hR2, hq hSp⟩
        | exit i =>
          obtain ⟨σ', vals', hq, hR⟩ := hx
          obtain ⟨cx2, hC2, hR2⟩ := marked D W σ' vals' hD hK hR
          exact wpIn_exit ⟨cx2, env, σ', vals', hC2, hn, hR2, hq hSp⟩
        | _ => exact hx.elim
    | _ => intro h; exact h.elim
  | _ => intro h; exact h.elim
end range

/-- No operation writes a slot below lo; no loops. -/
def geO (lo : Nat) (o : PO) : Bool := match o.dst with | none => true | some d => Nat.ble lo d
noncomputable def geL (lo : Nat) (l : List PO) : Bool := List.rec (motive := fun _ => Bool) true (fun o _ ih => match geO lo o with | true => ih | false => false) l
noncomputable def geC (lo : Nat) (c : PC) : Bool :=
  PC.rec (motive := fun _ => Bool) true (fun l => geL lo l) (fun l _ => geL lo l) (fun l _ => geL lo l) (fun _ _ a b => match a with | true => b | false => false) (fun _ _ _ a b => match a with | true => b | false => false) (fun _ _ b => b) (fun _ _ _ => false) (fun _ _ _ _ _ => false) (fun _ => true) true c
theorem ge_seq {lo : Nat} {a b : PC} (h : geC lo (.seq a b) = true) : geC lo a = true ∧ geC lo b = true := by
  have h : (match geC lo a with | true => geC lo b | false => false) = true := h
  cases ha : geC lo a with
  | true => rw [ha] at h; exact ⟨rfl, h⟩
  | false => rw [ha] at h; cases h
theorem ge_cond {lo : Nat} {c : Operand} {a b : PC} (h : geC lo (.cond c a b) = true) : geC lo a = true ∧ geC lo b = true := by
  have h : (match geC lo a with | true => geC lo b | false => false) = true := h
  cases ha : geC lo a with
  | true => rw [ha] at h; exact ⟨rfl, h⟩
  | false => rw [ha] at h; cases h
theorem geL_mem {lo : Nat} : ∀ {l : List PO}, geL lo l = true → ∀ o ∈ l, ∀ d, o.dst = some d → lo ≤ d := by
  intro l
  induction l with
  | nil => intro _ o ho; cases ho
  | cons p l ih =>
    intro h o ho d hd
    have h : (match geO lo p with | true => geL lo l | false => false) = true := h
    cases hp : geO lo p with
    | false => rw [hp] at h; cases h
    | true =>
      rw [hp] at h
      rcases List.mem_cons.1 ho with rfl | ho
      · unfold geO at hp
        rw [hd] at hp
        exact Nat.le_of_ble_eq_true hp
      · exact ih h o ho d hd
theorem ge_ops {cx : Cx} {ops : Array Oper} {l : List PO} (h : cx.lo = 0 ∨ ∃ lo, cx.lo ≤ lo ∧ geL lo l = true) (hl : l.length = ops.size) : ∀ i, i < ops.size → ∀ d, (l.getD i ⟨none, none, .nilS 0⟩).dst = some d → cx.lo ≤ d := by
  intro i hi d hd
  rcases h with h | ⟨lo, h1, h2⟩
  · rw [h]; exact Nat.zero_le _
  · refine Nat.le_trans h1 (geL_mem h2 _ ?_ d hd)
    rw [List.getD_eq_getElem?_getD, List.getElem?_eq_getElem (by omega)]
    simp

theorem strip_rangeF {f : Operand} {qs : List Nat} {l : List PO} {b pc : PC} (h : some (PC.rangeF f qs l b) = some (strip pc)) : ∃ b', pc = .rangeF f qs l b' ∧ b = strip b' := by
  cases pc <;> first | (cases h; exact ⟨_, rfl, rfl⟩) | cases h

/-- What the checks of a region say of its path. -/
theorem dynD_of {P : Program} (hΓ : Sound P Γ) {ops : Array Oper} {l : List PO} {aft : List (List Nat)} (hl : l.length = ops.size) (haft : aft = ops.toList.map fun o => (o.after.toList.filter fun e => Region.binds .any e).map (·.on))
    (h : statD Γ l aft = true) (d : PO) {env : Env} {σ : Sto} {Q : Env → Sto → Prop} (hv : vcD Γ (fun log env' σ' => chkD Γ l aft σ.length log = true ∧ Q env' σ') l [] env σ) :
    ∃ E S R, E 0 = env ∧ S 0 = σ ∧ Q (E ops.size) (S ops.size) ∧ DynD Γ ops (fun i => l.getD i d) (fun i => aft.getD i []) (fun i => (befs aft).getD i []) E S R := by
  unfold statD at h
  simp only [Bool.and_eq_true] at h
  obtain ⟨⟨h0, h1⟩, h2⟩ := h
  obtain ⟨E, S, R, e1, e2, ⟨e3, e4⟩, e5⟩ := vcD_path hΓ d l [] env σ (fun o ho => List.all_eq_true.1 h2 o ho) hv
  have hlen : aft.length = ops.size := by rw [haft]; simp
  have get : ∀ (i : Nat) (o : Oper), ops[i]? = some o → aft.getD i [] = (o.after.toList.filter fun e => Region.binds .any e).map (·.on) := by
    intro i o ho
    rw [haft]
    simp [List.getD_eq_getElem?_getD, ho]
  have row : ∀ i, i < ops.size → aft[i]? = some (aft.getD i []) := by
    intro i hi
    rw [List.getD_eq_getElem?_getD, List.getElem?_eq_getElem (by omega)]; rfl
  have lrow : ∀ i, i < ops.size → l[i]? = some (l.getD i d) := by
    intro i hi
    rw [List.getD_eq_getElem?_getD, List.getElem?_eq_getElem (by omega)]; rfl
  unfold befOk at h1
  have lg : ∀ i, i < ops.size → ((((List.range l.length).map fun i => entry (l.getD i d) (E i) (S i) (E (i + 1)) (S (i + 1))).reverse ++ []).reverse).getD i (0, [], []) = entry (l.getD i d) (E i) (S i) (E (i + 1)) (S (i + 1)) := by
    intro i hi
    rw [List.append_nil, List.reverse_reverse, List.getD_eq_getElem?_getD, List.getElem?_map, List.getElem?_range (by omega)]; rfl
  unfold chkD at e3
  have ln : ∀ i, i ≤ ops.size → lenD σ.length (((List.range l.length).map fun i => entry (l.getD i d) (E i) (S i) (E (i + 1)) (S (i + 1))).reverse ++ []).reverse i = (S i).length := by
    intro i hi
    cases i with
    | zero => rw [e2]; rfl
    | succ i => exact congrArg Prod.fst (lg i (by omega))
  have vi : ∀ i, i < ops.size → ∀ dd, (l.getD i d).dst = some dd → (entry (l.getD i d) (E i) (S i) (E (i + 1)) (S (i + 1))).2.2 = (R i).v.ids := by
    intro i hi dd hd
    show (match (l.getD i d).dst with | some d => (getE d (E (i + 1))).ids | none => []) = _
    rw [hd]
    simp only
    rw [getE_eq, (e5 i (by omega)).he, hd, lookF_put, Nat.beq_refl]; rfl
  rw [hl] at e4
  refine ⟨E, S, R, e1, e2, e4, fun i o ho j hj => ?_, fun i o ho e he hb => ?_, fun i hi j hj => ?_, fun i hi j hj => ?_, fun i hi => e5 i (by omega), fun i hi dd hd x hx => ?_, fun i j hi hj => ?_⟩
  · rw [get i o ho] at hj
    obtain ⟨e, he, rfl⟩ := List.mem_map.1 hj
    obtain ⟨h3, h4⟩ := List.mem_filter.1 he
    exact ⟨e, by simpa using h3, h4, rfl⟩
  · rw [get i o ho]
    exact List.mem_map.2 ⟨e, List.mem_filter.2 ⟨by simpa using he, hb⟩, rfl⟩
  · have := zipIdx_all aft _ h1 i _ (row i hi)
    simp only [Bool.and_eq_true, List.all_eq_true] at this
    exact Nat.le_of_ble_eq_true (this.1 j hj)
  · have := zipIdx_all aft _ h1 i _ (row i hi)
    simp only [Bool.and_eq_true, List.all_eq_true, Bool.or_eq_true, List.any_eq_true] at this
    rcases this.2 j hj with h3 | ⟨e, h3, h4⟩
    · exact .inl (List.contains_iff_mem.1 h3)
    · exact .inr ⟨e, h3, List.contains_iff_mem.1 h4⟩
  · have := zipIdx_all l _ e3 i _ (lrow i hi)
    simp only [Bool.and_eq_true] at this
    have := this.1
    unfold lowB at this
    have := List.all_eq_true.1 this x (by rw [lg i hi, vi i hi dd hd]; exact hx)
    rw [ln (i + 1) hi] at this
    exact Nat.le_of_ble_eq_true this
  · have := zipIdx_all l _ e3 i _ (lrow i hi)
    simp only [Bool.and_eq_true] at this
    have := zipIdx_all l _ this.2 j _ (lrow j (by omega))
    simp only [Bool.or_eq_true, Bool.not_eq_true', Bool.and_eq_true] at this
    rcases this with (h3 | h3) | h3
    · exfalso
      have : Nat.blt j i = true := Nat.ble_eq_true_of_le hj
      rw [this] at h3; cases h3
    · exact .inl (List.contains_iff_mem.1 h3)
    · obtain ⟨⟨⟨⟨⟨c1, c2⟩, c3⟩, c4⟩, c5⟩, c6⟩ := h3
      have hn : ∀ k, k < ops.size → ∀ m, newB (S k).length (S (k + 1)).length m = true → ∀ x ∈ m, ¬ ((S k).length ≤ x ∧ x < (S (k + 1)).length) := by
        intro k _ m hm x hx
        have := List.all_eq_true.1 hm x hx
        simp only [Bool.or_eq_true] at this
        rcases this with h | h
        · have := Nat.le_of_ble_eq_true h; omega
        · have := Nat.le_of_ble_eq_true h; omega
      have hap : ∀ (o : PO) (m1 m2 : List Nat), apart (match o.k.turns Γ with | true => m1 | false => []) m2 = true → ∀ x ∈ m2, ¬ (o.k.turns Γ = true ∧ x ∈ m1) := by
        rintro o m1 m2 hm x hx ⟨ht, hx1⟩
        rw [ht] at hm
        have := List.all_eq_true.1 hm x hx1
        rw [Bool.not_eq_true'] at this
        have h2 := List.contains_iff_mem.2 hx
        rw [h2] at this; cases this
      rw [lg i hi, lg j (by omega)] at c2 c4
      rw [lg i hi] at c3 c6
      rw [lg j (by omega)] at c5
      rw [ln j (by omega), ln (j + 1) (by omega)] at c3 c6
      rw [ln i (by omega), ln (i + 1) (by omega)] at c5
      refine .inr ⟨c1, fun x hx => ⟨hap _ _ _ c2 x hx, hn j (by omega) _ c3 x hx⟩, fun x hx => ⟨hap _ _ _ c4 x hx, hn i hi _ c5 x hx⟩, fun dd hd x hx => ?_⟩
      rw [vi i hi dd hd] at c6
      exact hn j (by omega) _ c6 x hx

theorem code_sound {P : Program} {pin : List Nat} (hΓ : Sound P Γ) (hm : P.follows .mixedOrders = true) : ∀ (c : Code) (pc : PC), compC P n c = some (strip pc) → ∀ (C : Cx → Prop) (F : Fence) (m : Nat) (cx : Cx) (Q : Ex → Env → Sto → Prop) (env : Env) (σ : Sto) (vals : List Value) (a : Act) (w : World),
    simpleC pc = true ∨ (F = Fence.wide ∧ 1 ≤ m ∧ Wide P pin C ∧ ∀ cx, C cx → cx.P = P) → ((∀ cx, C cx → cx.lo = 0) ∨ ∃ lo, (∀ cx, C cx → cx.lo ≤ lo) ∧ geC lo pc = true) → Free F → C cx → (∀ cx, C cx → cx.P = P) → (∀ e, Same (Q e)) → a.tmps.size = n → Rel cx env σ vals a w → vc Γ pin ps pc Q env σ → c.wpIn F m P (Post C n Q) a w := by
  intro c
  induction c with
  | skip =>
    intro pc hc C F m cx Q env σ vals a w _ _ _ hC hP _ hn hr h
    have hc := strip_skip hc
    subst hc
    exact wpIn_skip ⟨cx, env, σ, vals, hC, hn, hr, h⟩
  | region id ops draw =>
    intro pc hc C F m cx Q env σ vals a w _ hG hF hC hP hQ hn hr h
    have hPc := hP cx hC
    subst hPc
    cases draw with
    | false =>
      obtain ⟨l, hl, hc⟩ := opt_some (show opt (mapO (compO cx.P false ops n) ops.toList) (fun l => some (PC.region l)) = some (strip pc) from hc)
      have hc := strip_region hc
      subst hc
      obtain ⟨env', h, hr'⟩ := rel_canon hr (show canon env ps _ from h)
      obtain ⟨hlen, h1, _⟩ := comped_of hl ⟨none, none, .nilS 0⟩
      refine wpIn_region (ops_sound hΓ h1 (K := Q .normal) hF (ge_ops (hG.imp (fun h => h cx hC) fun ⟨lo, h1, h2⟩ => ⟨lo, h1 cx hC, h2⟩) hlen) (fun env' σ' vals' a' w' hn' hr' hK => ⟨cx, env', σ', vals', hC, hn', hr', hK⟩) _ env' σ vals a w (fun i hi => List.mem_range.1 hi) hn hr' ?_)
      rw [← hlen, list_range]
      exact h
    | true =>
      obtain ⟨l, hl, hc⟩ := opt_some (show opt (mapO (compO cx.P true ops n) ops.toList) (fun l => some (PC.draw (l.map PO.plain) (ops.toList.map fun o => (o.after.toList.filter fun e => Region.binds .any e).map (·.on)))) = some (strip pc) from hc)
      have hc := strip_draw hc
      have hz : ∀ i, i < ops.size → (Array.replicate ops.size false).getD i true = false := by
        intro i hi; rw [Array.getD_eq_getD_getElem?]; simp [hi]
      have hleft : left ops.size (Array.replicate ops.size false) = List.range ops.size := by
        unfold left
        apply List.filter_eq_self.2
        intro i hi
        rw [hz i (List.mem_range.1 hi)]; rfl
      rcases hc with hc | hc
      · subst hc
        obtain ⟨hD, h⟩ := (show drawOk Γ (l.map PO.plain) _ = true ∧ canon env ps _ from h)
        obtain ⟨env', h, hr'⟩ := rel_canon hr h
        obtain ⟨hlen, _, h1⟩ := comped_of hl ⟨none, none, .nilS 0⟩
        have hlen' : (l.map PO.plain).length = ops.size := by simpa using hlen
        refine wpIn_region_any hm ?_
        have hz : ∀ i, i < ops.size → (Array.replicate ops.size false).getD i true = false := by
          intro i hi; rw [Array.getD_eq_getD_getElem?]; simp [hi]
        have hleft : left ops.size (Array.replicate ops.size false) = List.range ops.size := by
          unfold left
          apply List.filter_eq_self.2
          intro i hi
          rw [hz i (List.mem_range.1 hi)]; rfl
        refine draw_sound hΓ h1 (drawn_of hlen' rfl hD ⟨none, none, .nilS 0⟩) (hQ .normal) hF (ge_ops (hG.imp (fun h => h cx hC) fun ⟨lo, h1, h2⟩ => ⟨lo, h1 cx hC, h2⟩) hlen') (fun env' σ' vals' a' w' hn' hr' hK => ⟨cx, env', σ', vals', hC, hn', hr', hK⟩) _ _ env' σ vals a _ (by simp) ?_ ?_ hn (rel_drew' hr') ?_
        · rw [hleft]; simp
        · intro i hi hl'
          rw [Array.getD_eq_getD_getElem?] at hl'
          simp [hi] at hl'
        · rw [hleft, ← hlen', list_range]
          exact h
      · subst hc
        obtain ⟨hD, h⟩ := (show statD Γ (l.map PO.plain) _ = true ∧ canon env ps _ from h)
        obtain ⟨env', h, hr'⟩ := rel_canon hr h
        obtain ⟨hlen, _, h1⟩ := comped_of hl ⟨none, none, .nilS 0⟩
        have hlen' : (l.map PO.plain).length = ops.size := by simpa using hlen
        obtain ⟨E, S, R, e1, e2, e3, hDy⟩ := dynD_of hΓ hlen' rfl hD ⟨none, none, .nilS 0⟩ h
        refine wpIn_region_any hm ?_
        have hS0 : (S 0).length ≤ (S ops.size).length := by have := hDy.smono (i := 0) ops.size (by omega); rwa [Nat.zero_add] at this
        obtain ⟨vals2, hr2⟩ := rel_deads (rel_drew' hr') ((S ops.size).length - σ.length)
        rw [e2] at hS0
        have rnm : ∀ (av : AV) (v : Value), RA (Ok cx σ vals w) σ vals w av v → av.Nm fun i => i < σ.length := fun av v h => RA_nm (fun i hi => by rw [← hr'.s.len]; exact hi) (fun i hi => hi) av v h
        refine dyn_sound hΓ h1 hDy (hQ .normal) e3 ?_ ?_ hF (ge_ops (hG.imp (fun h => h cx hC) fun ⟨lo, h1, h2⟩ => ⟨lo, h1 cx hC, h2⟩) hlen') (fun env' σ' vals' a' w' hn' hr' hK => ⟨cx, env', σ', vals', hC, hn', hr', hK⟩) ops.size (Array.replicate ops.size false) env' (σ ++ List.replicate ((S ops.size).length - σ.length) .dead) vals2 a { w with drawn := w.drawn + 1 } (by simp) (by rw [hleft]; simp) ?_ hn hr2 ?_
        · intro j hj
          rw [e2]
          rcases hj with hj | hj
          · exact Nat.lt_of_lt_of_le hj hr'.s.pin.len
          · have := hr'.s.pin.vs j _ (List.getElem?_eq_getElem hj)
            rw [← hr'.s.len]; exact (List.getElem?_eq_some_iff.1 this).1
        · intro x v hq
          rw [e2]
          exact rnm x v (hr'.gh x v hq)
        · intro i hi hl'
          rw [Array.getD_eq_getD_getElem?] at hl'
          simp [hi] at hl'
        · have hno : ∀ p, (Array.replicate ops.size false).getD p false = false := by
            intro p; rw [Array.getD_eq_getD_getElem?]; simp only [Array.getElem?_replicate]; split <;> rfl
          have hnew : ∀ x, x < σ.length → x < (S ops.size).length ∧ ∀ p, p < ops.size → (Array.replicate ops.size false).getD p false = false → ¬ ((S p).length ≤ x ∧ x < (S (p + 1)).length) := by
            intro x hx
            refine ⟨by omega, fun p hp _ h => ?_⟩
            have := hDy.smono (i := 0) p (by omega)
            rw [Nat.zero_add, e2] at this
            omega
          refine ⟨by simp; omega, fun t m hm' hc => ?_, fun j m hj hm' hc => ?_, fun t => Nm_mono hnew _ (rnm _ _ (hr'.env t)), fun b hb => ?_⟩
          · have := hDy.env_stage t (m := 0) m (by omega) fun p _ hp hpd => by
              have := (hc p (by omega) hpd).1 (by omega)
              rw [hno p] at this; cases this
            rw [Nat.zero_add, e1] at this
            exact this.symm
          · have := hDy.sto_stage j (m := 0) m (by omega) fun p _ hp hpM => by
              have := (hc p (by omega) hpM).1 (by omega)
              rw [hno p] at this; cases this
            rw [Nat.zero_add, e2] at this
            rw [this]
            by_cases hlt : j < σ.length
            · rw [List.getElem?_append_left hlt, List.getElem?_eq_getElem hlt]; rfl
            · rw [List.getElem?_append_right (by omega), List.getElem?_eq_none (l := σ) (by omega), List.getElem?_replicate, if_pos (by omega)]; rfl
          · rcases List.mem_append.1 hb with hb | hb
            · cases b with
              | box e cs =>
                obtain ⟨j, hj⟩ := List.mem_iff_getElem?.1 hb
                have hjl : j < vals.length := by rw [hr'.s.len]; exact (List.getElem?_eq_some_iff.1 hj).1
                obtain ⟨_, arr, _, _, _, _, g5⟩ := hr'.s.sto j _ _ hj (List.getElem?_eq_getElem hjl)
                exact NmL_mono hnew _ (RAL_nm (fun i hi => by rw [← hr'.s.len]; exact hi) (fun i hi => hi) cs _ g5)
              | _ => trivial
            · rw [List.eq_of_mem_replicate hb]; trivial
  | seq x y ihx ihy =>
    intro pc hc C F m cx Q env σ vals a w hS hG hF hC hP hQ hn hr h
    obtain ⟨px, hx, hc⟩ := opt_some (show opt (compC P n x) (fun a => opt (compC P n y) fun b => some (PC.seq a b)) = some (strip pc) from hc)
    obtain ⟨py, hy, hc⟩ := opt_some hc
    obtain ⟨px, py, rfl, rfl, rfl⟩ := strip_seq hc
    refine wpIn_seq (wpIn_mono (ihx px hx C F m cx (seqQ (vc Γ pin ps py Q) Q) env σ vals a w (hS.imp_left fun h => (simple_seq h).1) (hG.imp_right fun ⟨lo, h1, h2⟩ => ⟨lo, h1, (ge_seq h2).1⟩) hF hC hP (same_seqQ (vc_same Γ pin ps py Q hQ) hQ) hn hr h) ?_)
    intro e a' w' hp
    cases e with
    | normal =>
      obtain ⟨cx', env', σ', vals', hC', hn', hr', h'⟩ := hp
      exact ihy py hy C F m cx' Q env' σ' vals' a' w' (hS.imp_left fun h => (simple_seq h).2) (hG.imp_right fun ⟨lo, h1, h2⟩ => ⟨lo, h1, (ge_seq h2).2⟩) hF hC' hP hQ hn' hr' h'
    | exit i => exact hp
    | ret => exact hp
    | _ => exact hp
  | cond c x y ihx ihy =>
    intro pc hc C F m cx Q env σ vals a w hS hG hF hC hP hQ hn hr h
    obtain ⟨px, hx, hc⟩ := opt_some (show opt (compC P n x) (fun a => opt (compC P n y) fun b => some (PC.cond c a b)) = some (strip pc) from hc)
    obtain ⟨py, hy, hc⟩ := opt_some hc
    obtain ⟨px, py, rfl, rfl, rfl⟩ := strip_cond hc
    have h := ev_spec _ _ _ (show ev env c _ from h)
    have he := hr.ev c
    revert h he
    cases evF env c with
    | pv v => cases v with
      | bool b =>
        intro h he
        simp only [RA, Rd] at he
        cases b with
        | true => exact wpIn_cond_true he (ihx px hx C F m cx Q env σ vals a w (hS.imp_left fun h => (simple_cond h).1) (hG.imp_right fun ⟨lo, h1, h2⟩ => ⟨lo, h1, (ge_cond h2).1⟩) hF hC hP hQ hn hr h)
        | false => exact wpIn_cond_false he (ihy py hy C F m cx Q env σ vals a w (hS.imp_left fun h => (simple_cond h).2) (hG.imp_right fun ⟨lo, h1, h2⟩ => ⟨lo, h1, (ge_cond h2).2⟩) hF hC hP hQ hn hr h)
      | _ => intro h; exact h.elim
    | _ => intro h; exact h.elim
  | block id b ih =>
    intro pc hc C F m cx Q env σ vals a w hS hG hF hC hP hQ hn hr h
    obtain ⟨pb, hb, hc⟩ := opt_some (show opt (compC P n b) (fun b => some (PC.block id b)) = some (strip pc) from hc)
    obtain ⟨pb, rfl, rfl⟩ := strip_block hc
    refine wpIn_block (wpIn_mono (ih pb hb C F m cx (blockQ id Q) env σ vals a w hS hG hF hC hP (same_blockQ hQ) hn hr h) ?_)
    intro e a' w' hp
    cases e with
    | normal => exact hp
    | exit i =>
      obtain ⟨cx', env', σ', vals', hC', hn', hr', h'⟩ := hp
      have h' : (match Nat.beq i id with | true => Q .normal env' σ' | false => Q (.exit i) env' σ') := h'
      show (if i = id then Post C n Q .normal a' w' else Post C n Q (.exit i) a' w')
      cases hb : Nat.beq i id with
      | true =>
        rw [hb] at h'
        rw [if_pos (Nat.eq_of_beq_eq_true hb)]
        exact ⟨cx', env', σ', vals', hC', hn', hr', h'⟩
      | false =>
        rw [hb] at h'
        rw [if_neg (fun e => by subst e; simp at hb)]
        exact ⟨cx', env', σ', vals', hC', hn', hr', h'⟩
    | ret => exact hp
    | _ => exact hp
  | loop b ih =>
    intro pc hc C F m0 cx Q env σ vals a w hS hG hF hC hP hQ hn hr h
    obtain ⟨pb, hb, hc⟩ := opt_some (show opt (compC P n b) (fun b => some (PC.loop [] b)) = some (strip pc) from hc)
    obtain ⟨live, pb, rfl, rfl⟩ := strip_loop hc
    have hS' : F = Fence.wide ∧ 1 ≤ m0 ∧ Wide P pin C ∧ ∀ cx, C cx → cx.P = P := by
      rcases hS with hS | hS
      · cases hS
      · exact hS
    obtain ⟨env', σ', vals', h, hr'⟩ := gc_spec (hS'.2.2.1.gh cx hC) (hS'.2.2.1.pin cx hC) hr live (show gc pin env σ live (fun env σ => loopVC pin live (vc Γ pin ps pb) Q env σ) from h)
    obtain ⟨I, m, hI, hstep⟩ := h
    let J : Nat → Act → World → Prop := fun m a w => ∃ cx env σ vals, C cx ∧ a.tmps.size = n ∧ Rel cx env σ vals a w ∧ I m env σ
    refine wpIn_loop (fun a w => ∃ m, J m a w) (fun a w => leastN fun m => J m a w) ⟨m, cx, env', σ', vals', hC, hn, hr', hI⟩ ?_
    rintro a1 w1 ⟨m1, hJ1⟩
    obtain ⟨⟨cx1, env1, σ1, vals1, hC1, hn1, hr1, hI1⟩, _⟩ := leastN_spec (p := fun m => J m a1 w1) hJ1
    have hsame : ∀ k, Same fun e σ => gc pin e σ live fun e' σ' => ∃ m, m < k ∧ I m e' σ' := fun k env env' σ h => gc_same h σ live _
    refine wpIn_mono (ih pb hb C F m0 cx1 _ env1 σ1 vals1 a1 w1 (.inr hS') (.inl (hS'.2.2.1.lo)) hF hC1 hP (same_seqQ (hsame _) hQ) hn1 hr1 (hstep _ env1 σ1 hI1)) ?_
    intro e a' w' hp
    cases e with
    | normal =>
      obtain ⟨cx2, env2, σ2, vals2, hC2, hn2, hr2, h2⟩ := hp
      obtain ⟨env3, σ3, vals3, ⟨k, hk, hI3⟩, hr3⟩ := gc_spec (hS'.2.2.1.gh cx2 hC2) (hS'.2.2.1.pin cx2 hC2) hr2 live h2
      have hJ3 : J k a' w' := ⟨cx2, env3, σ3, vals3, hC2, hn2, hr3, hI3⟩
      exact ⟨⟨k, hJ3⟩, Nat.lt_of_le_of_lt ((leastN_spec (p := fun m => J m a' w') hJ3).2 k hJ3) hk⟩
    | exit i => exact hp
    | ret => exact hp
    | _ => exact hp
  | rangeFunc f pa asg b _ ih =>
    intro pc hc C F m cx Q env σ vals a w hS hG hF hC hP hQ hn hr h
    obtain ⟨l, hl, hc⟩ := opt_some (show opt (compA n asg) (fun l => opt (compC P n b) fun b => need (simpleC b && pa.toList.all fun p => Nat.blt p n) (some (PC.rangeF f pa.toList l b))) = some (strip pc) from hc)
    obtain ⟨pb, hb, hc⟩ := opt_some hc
    obtain ⟨hsp, hc⟩ := need_some hc
    obtain ⟨pb, rfl, rfl⟩ := strip_rangeF hc
    have hS' : F = Fence.wide ∧ 1 ≤ m ∧ Wide P pin C ∧ ∀ cx, C cx → cx.P = P := by
      rcases hS with hS | hS
      · cases hS
      · exact hS
    obtain ⟨rfl, h1, hW, _⟩ := hS'
    rw [Bool.and_eq_true, strip_simple] at hsp
    obtain ⟨env', h, hr'⟩ := rel_canon hr (show canon env ps _ from h)
    have h := ev_spec _ _ _ h
    exact range_sound hW hΓ h1 hC (hP cx hC) hl (fun p hp => Nat.le_of_ble_eq_true (by have := List.all_eq_true.1 hsp.2 p hp; exact this))
      (fun cx' hlo' F k Q env σ vals a w hF' hP' hn' hr2 hQ' hv => ih pb hb (· = cx') F k cx' Q env σ vals a w (.inl hsp.1) (.inl fun c hc => hc ▸ hlo') hF' rfl (fun c hc => hc ▸ hP') hQ' hn' hr2 hv) hn hr' h
  | exit id =>
    intro pc hc C F m cx Q env σ vals a w _ _ _ hC hP _ hn hr h
    have hc := strip_exit hc
    subst hc
    exact wpIn_exit ⟨cx, env, σ, vals, hC, hn, hr, h⟩
  | ret =>
    intro pc hc C F m cx Q env σ vals a w _ _ _ hC hP _ hn hr h
    have hc := strip_ret hc
    subst hc
    exact wpIn_ret ⟨cx, env, σ, vals, hC, hn, hr, h⟩
  | _ => intro pc hc; cases hc
end
end Go.Dv
end
section
/-
  A function whose condition holds keeps its contract in the model.
-/
set_option linter.unusedSimpArgs false
namespace Go.Dv
open Go.RowKit

theorem looksK_same {env env' : Env} (h : ∀ p, lookF p env' = lookF p env) (σ : Sto) (rs : List (Nat × Option (Bool × Nat))) : ∀ K : List AV → Prop, looksK σ env' rs K = looksK σ env rs K := by
  induction rs with
  | nil => intro K; rfl
  | cons p rs ih =>
    intro K
    show look p.1 (fun v => match p.2 with
      | none => looksK σ env' rs fun l => K (v :: l)
      | some q => loadK σ q.1 q.2 v fun v => looksK σ env' rs fun l => K (v :: l)) env' = look p.1 (fun v => match p.2 with
      | none => looksK σ env rs fun l => K (v :: l)
      | some q => loadK σ q.1 q.2 v fun v => looksK σ env rs fun l => K (v :: l)) env
    rw [look_eq, look_eq, h]
    cases p.2 with
    | none => exact ih _
    | some q => simp only [ih]

theorem same_endQ (lone : Bool) (rs : List (Nat × Option (Bool × Nat))) (K : RV → Prop) : ∀ e, Same (endQ lone rs K e) := by
  intro e env env' σ h
  cases e with
  | normal => exact looksK_same h σ rs _
  | ret => exact looksK_same h σ rs _
  | exit i => rfl

theorem argEnv_spec (l : List PV) : ∀ (n : Nat) (K : Env → Prop), argEnv l n K → ∃ env, K env ∧ ∀ p, lookF p env = if n ≤ p then (match l[p - n]? with | some x => .pv x | none => .bad) else .bad := by
  induction l with
  | nil => intro n K h; exact ⟨[], h, fun p => by simp [lookF]⟩
  | cons x l ih =>
    intro n K h
    obtain ⟨env, h1, h2⟩ := ih (n + 1) _ h
    refine ⟨_, h1, fun p => ?_⟩
    show (bif Nat.beq n p then AV.pv x else lookF p env) = _
    by_cases hp : n = p
    · subst hp; simp
    · rw [nbeq hp, cond_false, h2 p]
      by_cases hlt : n ≤ p
      · rw [if_pos (show n + 1 ≤ p by omega), if_pos hlt]
        have : p - n = (p - (n + 1)) + 1 := by omega
        rw [this]; rfl
      · rw [if_neg (by omega), if_neg hlt]

section flat
variable {ok ok' : Nat → Prop} {w : World}

theorem rd_prim {x : PV} {v : Value} (hx : x.prim) (h : Rd ok w x v) : Rd ok' w x v := by
  cases x <;> first | exact hx.elim | (simp only [Rd] at h ⊢; exact h)

theorem rdL_prim : ∀ (l : List PV) (vs : List Value), (∀ c ∈ l, c.prim) → RdL ok w l vs → RdL ok' w l vs
  | [], vs, _, h => by simpa only [RdL] using h
  | x :: xs, vs, hx, h => by
    simp only [RdL] at h ⊢
    obtain ⟨v, t, h1, h2, h3⟩ := h
    exact ⟨v, t, h1, rd_prim (hx x (by simp)) h2, rdL_prim xs t (fun c hc => hx c (by simp [hc])) h3⟩

theorem rd_flat {x : PV} {v : Value} (hx : x.flat) (h : Rd ok w x v) : Rd ok' w x v := by
  cases x with
  | agg cs =>
    simp only [Rd] at h ⊢
    obtain ⟨h1, vs, h2, h3⟩ := h
    exact ⟨h1, vs, h2, rdL_prim cs _ hx h3⟩
  | _ => first | exact hx.elim | (simp only [Rd] at h ⊢; exact h)

theorem flat_cells {x : PV} (h : x.flat) : ∀ c ∈ x.cells, c.prim := by
  cases x with
  | agg cs => exact h
  | _ => first | exact h.elim | (intro c hc; simp [PV.cells] at hc; subst hc; exact h)
end flat

section
variable {cx : Cx} {env : Env} {σ : Sto} {vals : List Value} {a : Act} {w' : World}

def us0 (r : RV) (v : Value) : List Value := match r with | .fresh _ _ _ => [v] | .row _ _ _ => [v] | _ => []
def usC : List RV → List Value → List Value
  | r :: rs, v :: vs => us0 r v ++ usC rs vs
  | _, _ => []
def us1 (r : RV) (v : Value) : List Value := match r with
  | .agg rs => match v with | .agg vs => usC rs vs.toList | _ => []
  | r => us0 r v
def usL : List RV → List Value → List Value
  | r :: rs, v :: vs => us1 r v ++ usL rs vs
  | _, _ => []

def cellIds : AV → List Nat
  | .own id => [id]
  | .ref id _ _ => [id]
  | .sub id _ _ _ => [id]
  | _ => []
/-- The entries that a slot names. -/
def avIds : AV → List Nat
  | .agg cs => cs.flatMap cellIds
  | a => cellIds a

theorem onceC_spec : ∀ (l : List AV) (seen : List Nat) (K : List Nat → Bool), onceC l seen K = true → ∃ seen', K seen' = true ∧ (l.flatMap cellIds).Nodup ∧ (∀ i ∈ l.flatMap cellIds, i ∉ seen) ∧ ∀ i, i ∈ seen' ↔ i ∈ seen ∨ i ∈ l.flatMap cellIds := by
  intro l
  induction l with
  | nil => intro seen K h; exact ⟨seen, h, by simp, by simp, by simp⟩
  | cons a l ih =>
    intro seen K h
    have main : ∀ id, cellIds a = [id] → Bool.rec (motive := fun _ => Bool) (onceC l (id :: seen) K) false (memB id seen) = true → ∃ seen', K seen' = true ∧ ((a :: l).flatMap cellIds).Nodup ∧ (∀ i ∈ (a :: l).flatMap cellIds, i ∉ seen) ∧ ∀ i, i ∈ seen' ↔ i ∈ seen ∨ i ∈ (a :: l).flatMap cellIds := by
      intro id hid h
      cases hm : memB id seen with
      | true => rw [hm] at h; cases h
      | false =>
        rw [hm] at h
        obtain ⟨seen', h1, h2, h3, h4⟩ := ih _ _ h
        rw [List.flatMap_cons, hid]
        refine ⟨seen', h1, ?_, fun i hi => ?_, fun i => ?_⟩
        · rw [List.singleton_append, List.nodup_cons]
          exact ⟨fun hi => h3 id hi (by simp), h2⟩
        · rcases List.mem_append.1 hi with hi | hi
          · simp at hi; subst hi; exact memB_spec _ _ hm
          · exact fun hs => h3 i hi (by simp [hs])
        · rw [h4 i]; simp only [List.mem_cons, List.singleton_append]
          constructor
          · rintro ((h | h) | h)
            · exact .inr (.inl h)
            · exact .inl h
            · exact .inr (.inr h)
          · rintro (h | h | h)
            · exact .inl (.inr h)
            · exact .inl (.inl h)
            · exact .inr h
    have none : cellIds a = [] → onceC l seen K = true → ∃ seen', K seen' = true ∧ ((a :: l).flatMap cellIds).Nodup ∧ (∀ i ∈ (a :: l).flatMap cellIds, i ∉ seen) ∧ ∀ i, i ∈ seen' ↔ i ∈ seen ∨ i ∈ (a :: l).flatMap cellIds := by
      intro hid h
      obtain ⟨seen', h1, h2, h3, h4⟩ := ih _ _ h
      rw [List.flatMap_cons, hid, List.nil_append]
      exact ⟨seen', h1, h2, h3, h4⟩
    cases a with
    | own id => exact main id rfl h
    | ref id _ _ => exact main id rfl h
    | sub id _ _ _ => exact main id rfl h
    | _ => exact none rfl h

theorem ownOnce_spec : ∀ (l : List AV) (seen : List Nat), ownOnce l seen = true → (l.flatMap avIds).Nodup ∧ ∀ i ∈ l.flatMap avIds, i ∉ seen := by
  intro l
  induction l with
  | nil => intro seen _; simp
  | cons a l ih =>
    intro seen h
    have main : ∀ cs : List AV, cs.flatMap cellIds = avIds a → onceC cs seen (ownOnce l) = true → ((a :: l).flatMap avIds).Nodup ∧ ∀ i ∈ (a :: l).flatMap avIds, i ∉ seen := by
      intro cs hcs h
      obtain ⟨seen', h1, h2, h3, h4⟩ := onceC_spec cs seen _ h
      obtain ⟨g1, g2⟩ := ih seen' h1
      rw [hcs] at h2 h3 h4
      rw [List.flatMap_cons]
      refine ⟨?_, fun i hi => ?_⟩
      · rw [List.nodup_append]
        exact ⟨h2, g1, fun x hx y hy e => g2 y hy ((h4 y).2 (.inr (e ▸ hx)))⟩
      · rcases List.mem_append.1 hi with hi | hi
        · exact h3 i hi
        · exact fun hs => g2 i hi ((h4 i).2 (.inl hs))
    cases a with
    | agg cs => exact main cs rfl h
    | bad => exact main [.bad] rfl h
    | pv x => exact main [.pv x] rfl h
    | own i => exact main [.own i] rfl h
    | ref i j k => exact main [.ref i j k] rfl h
    | sub i j k m => exact main [.sub i j k m] rfl h
    | tup vs => exact main [.tup vs] rfl h
    | clo f vs => exact main [.clo f vs] rfl h

/-- A cell of a result, once what it is read of is frozen. -/
def Item0 (cx : Cx) (σ : Sto) (vals : List Value) (w : World) (av : AV) (r : RV) (v : Value) : Prop :=
  match r with
  | .pv x => Rd (Ok cx σ vals w) w x v ∧ (av.one = true → x.one = true)
  | .fresh e sz els => (v = .slice none 0 0 ∧ els = [] ∧ 0 < sz) ∨ ∃ id, id ∈ cellIds av ∧ σ[id]? = some (.row e sz true els) ∧ vals[id]? = some v
  | .row e sz els => (v = .slice none 0 0 ∧ els = [] ∧ 0 < sz) ∨ ∃ id ap, id ∈ cellIds av ∧ σ[id]? = some (.row e sz ap els) ∧ vals[id]? = some v
  | _ => False
def Items0 (cx : Cx) (σ : Sto) (vals : List Value) (w : World) : List AV → List RV → List Value → Prop
  | [], rs, vs => rs = [] ∧ vs = []
  | a :: as, rs, vs => ∃ r rs' v vs', rs = r :: rs' ∧ vs = v :: vs' ∧ Item0 cx σ vals w a r v ∧ Items0 cx σ vals w as rs' vs'
def Item (cx : Cx) (σ : Sto) (vals : List Value) (w : World) (av : AV) (r : RV) (v : Value) : Prop :=
  match r with
  | .agg rs => ∃ cs vs, av = .agg cs ∧ v = .agg vs ∧ (∀ c ∈ cs, c.one = true) ∧ Items0 cx σ vals w cs rs vs.toList
  | .pv x => Rd (Ok cx σ vals w) w x v
  | r => cellIds av = avIds av ∧ Item0 cx σ vals w av r v
def Items (cx : Cx) (σ : Sto) (vals : List Value) (w : World) : List AV → List RV → List Value → Prop
  | [], rs, vs => rs = [] ∧ vs = []
  | a :: as, rs, vs => ∃ r rs' v vs', rs = r :: rs' ∧ vs = v :: vs' ∧ Item cx σ vals w a r v ∧ Items cx σ vals w as rs' vs'

theorem readAV_congr {σ σ' : Sto} {c : AV} (hc : c.one = true) (h : ∀ i ∈ cellIds c, σ'[i]? = σ[i]?) {K : PV → Prop} (hk : readAV σ c K) : readAV σ' c K := by
  cases c with
  | pv x => exact hk
  | own id => obtain ⟨b, h1, h2⟩ := nthK_iff _ _ _ hk; exact nthK_mk _ _ b _ ((h id (by simp [cellIds])).trans h1) h2
  | sub id sz lo n => obtain ⟨b, h1, h2⟩ := nthK_iff _ _ _ hk; exact nthK_mk _ _ b _ ((h id (by simp [cellIds])).trans h1) h2
  | ref _ _ _ => exact (show False from hk).elim
  | clo _ _ => exact (show False from hk).elim
  | _ => cases hc

theorem readAVs_congr {σ σ' : Sto} : ∀ (cs : List AV), (∀ c ∈ cs, c.one = true) → (∀ i ∈ cs.flatMap cellIds, σ'[i]? = σ[i]?) → ∀ {K : List PV → Prop}, readAVs σ cs K → readAVs σ' cs K := by
  intro cs
  induction cs with
  | nil => intro _ _ K h; exact h
  | cons c cs ih =>
    intro h1 h K hk
    rw [List.flatMap_cons] at h
    have hk : readAV σ c fun x => readAVs σ cs fun l => K (x :: l) := hk
    have h2 := readAV_congr (h1 c (by simp)) (fun i hi => h i (List.mem_append_left _ hi)) hk
    show readAV σ' c fun x => readAVs σ' cs fun l => K (x :: l)
    -- what is read is one thing
    cases c with
    | pv x => exact ih (fun d hd => h1 d (by simp [hd])) (fun i hi => h i (List.mem_append_right _ hi)) hk
    | own id =>
      obtain ⟨b, g1, g2⟩ := nthK_iff _ _ _ h2
      refine nthK_mk _ _ b _ g1 ?_
      cases b with
      | row e sz ap els => exact ih (fun d hd => h1 d (by simp [hd])) (fun i hi => h i (List.mem_append_right _ hi)) g2
      | fz x => exact ih (fun d hd => h1 d (by simp [hd])) (fun i hi => h i (List.mem_append_right _ hi)) g2
      | _ => exact g2
    | sub id sz lo n =>
      obtain ⟨b, g1, g2⟩ := nthK_iff _ _ _ h2
      refine nthK_mk _ _ b _ g1 ?_
      have one : ∀ (s : Nat) (els : List PV), (match Nat.beq s sz with
          | true => lo + n ≤ els.length ∧ readAVs σ cs (fun l => K (.sl sz (cut lo (lo + n) els) :: l))
          | false => False) → (match Nat.beq s sz with
          | true => lo + n ≤ els.length ∧ readAVs σ' cs (fun l => K (.sl sz (cut lo (lo + n) els) :: l))
          | false => False) := by
        intro s els hh
        cases hs : Nat.beq s sz with
        | true => rw [hs] at hh; exact ⟨hh.1, ih (fun d hd => h1 d (by simp [hd])) (fun i hi => h i (List.mem_append_right _ hi)) hh.2⟩
        | false => rw [hs] at hh; exact hh.elim
      cases b with
      | row e s ap els => exact one s els g2
      | fz x => cases x with
        | sl s els => exact one s els g2
        | _ => exact (show False from g2).elim
      | _ => exact (show False from g2).elim
    | ref _ _ _ => exact (show False from hk).elim
    | clo _ _ => exact (show False from hk).elim
    | _ => have := h1 _ (List.mem_cons_self ..); cases this

/-- A cell whose row is read alone from here on. -/
theorem cell_freeze (hr : RelS cx σ vals w') {c : AV} {v : Value} (hc : c.one = true) (hv : RA (Ok cx σ vals w') σ vals w' c v) {K : PV → Prop} (hk : readAV σ c K) :
    ∃ x σ', K x ∧ RelS cx σ' vals w' ∧ Keep cx σ vals w' σ' vals w' ∧ (∀ i, i ∉ cellIds c → σ'[i]? = σ[i]?) ∧ Rd (Ok cx σ' vals w') w' x v ∧ x.one = true := by
  have fz : ∀ id, cellIds c = [id] → (∃ b, σ[id]? = some b ∧ ((∃ e sz ap els, b = .row e sz ap els) ∨ ∃ x, b = .fz x)) → freezeAV c σ (fun σ' => ∀ i, i ∉ cellIds c → σ'[i]? = σ[i]?) →
      ∃ x σ', K x ∧ RelS cx σ' vals w' ∧ Keep cx σ vals w' σ' vals w' ∧ (∀ i, i ∉ cellIds c → σ'[i]? = σ[i]?) ∧ Rd (Ok cx σ' vals w') w' x v ∧ x.one = true := by
    intro id hid _ hfz
    obtain ⟨x, σ', h1, h2, _, h4, h5, h6, h7⟩ := freeze_spec c σ σ v K _ (Fz.refl σ) hr hv hk hfz
    exact ⟨x, σ', h1, h4, h5, h2, h6, h7 hc⟩
  have mk : ∀ id, cellIds c = [id] → ∀ b : Blk, σ[id]? = some b → (match b with
      | .row _ sz _ els => setK σ id (.fz (.sl sz els)) (fun σ' => ∀ i, i ∉ cellIds c → σ'[i]? = σ[i]?)
      | .fz _ => ∀ i, i ∉ cellIds c → σ[i]? = σ[i]?
      | _ => False) ∨ (b = .dead ∨ ∃ e cs, b = .box e cs) := by
    intro id hid b hb
    have hlt := (List.getElem?_eq_some_iff.1 hb).1
    cases b with
    | row e sz ap els =>
      left
      have : ∀ (l : Sto) (n : Nat) (y : Blk) (K : Sto → Prop), n < l.length → K (l.set n y) → setK l n y K := by
        intro l
        induction l with
        | nil => intro n y K h; simp at h
        | cons z l ih =>
          intro n y K h hk
          cases n with
          | zero => exact hk
          | succ n => exact ih n y (fun t => K (z :: t)) (by simpa using h) hk
      refine this _ _ _ _ hlt fun i hi => ?_
      rw [set_get hlt, if_neg (fun e => hi (by rw [hid]; simp [e]))]
    | fz x => exact .inl fun _ _ => rfl
    | dead => exact .inr (.inl rfl)
    | box e cs => exact .inr (.inr ⟨e, cs, rfl⟩)
  cases c with
  | pv x => exact ⟨x, σ, hk, hr, Keep.refl, fun _ _ => rfl, by simpa only [RA] using hv, hc⟩
  | own id =>
    obtain ⟨b, h1, h2⟩ := nthK_iff _ _ _ hk
    rcases mk id rfl b h1 with h | rfl | ⟨e, cs, rfl⟩
    · refine fz id rfl ⟨b, h1, ?_⟩ (nthK_mk _ _ b _ h1 h)
      cases b with
      | row e sz ap els => exact .inl ⟨_, _, _, _, rfl⟩
      | fz x => exact .inr ⟨_, rfl⟩
      | _ => exact (show False from h2).elim
    · exact (show False from h2).elim
    · exact (show False from h2).elim
  | sub id sz lo n =>
    obtain ⟨b, h1, h2⟩ := nthK_iff _ _ _ hk
    rcases mk id rfl b h1 with h | rfl | ⟨e, cs, rfl⟩
    · refine fz id rfl ⟨b, h1, ?_⟩ (nthK_mk _ _ b _ h1 h)
      cases b with
      | row e sz ap els => exact .inl ⟨_, _, _, _, rfl⟩
      | fz x => exact .inr ⟨_, rfl⟩
      | _ => exact (show False from h2).elim
    · exact (show False from h2).elim
    · exact (show False from h2).elim
  | ref _ _ _ => exact (show False from hk).elim
  | clo _ _ => exact (show False from hk).elim
  | _ => cases hc

theorem cells_freeze : ∀ (cs : List AV) (σ : Sto) (vs : List Value) (K : List PV → Prop), RelS cx σ vals w' → (∀ c ∈ cs, c.one = true) → RAL (Ok cx σ vals w') σ vals w' cs vs → readAVs σ cs K → (cs.flatMap cellIds).Nodup →
    ∃ xs σ', K xs ∧ RelS cx σ' vals w' ∧ Keep cx σ vals w' σ' vals w' ∧ (∀ i, i ∉ cs.flatMap cellIds → σ'[i]? = σ[i]?) ∧ RdL (Ok cx σ' vals w') w' xs vs ∧ ∀ x ∈ xs, x.one = true := by
  intro cs
  induction cs with
  | nil =>
    intro σ vs K hr _ hv hk _
    simp only [RAL] at hv
    subst hv
    exact ⟨[], σ, hk, hr, Keep.refl, fun _ _ => rfl, by simp [RdL], by simp⟩
  | cons c cs ih =>
    intro σ vs K hr h1 hv hk hn
    simp only [RAL] at hv
    obtain ⟨v, r, rfl, hv1, hv2⟩ := hv
    rw [List.flatMap_cons, List.nodup_append] at hn
    obtain ⟨n1, n2, n3⟩ := hn
    obtain ⟨x, σ1, k1, k2, k3, k4, k5, k6⟩ := cell_freeze hr (h1 c (by simp)) hv1 (show readAV σ c fun x => readAVs σ cs fun l => K (x :: l) from hk)
    have k1' : readAVs σ1 cs fun l => K (x :: l) := readAVs_congr cs (fun d hd => h1 d (by simp [hd])) (fun i hi => k4 i fun hc => n3 i hc i hi rfl) k1
    obtain ⟨xs, σ2, g1, g2, g3, g4, g5, g6⟩ := ih σ1 r _ k2 (fun d hd => h1 d (by simp [hd])) (k3.raL _ _ hv2) k1' n2
    refine ⟨x :: xs, σ2, g1, g2, k3.trans g3, fun i hi => ?_, by simp only [RdL]; exact ⟨v, r, rfl, g3.rd k5, g5⟩, fun y hy => ?_⟩
    · rw [List.flatMap_cons, List.mem_append] at hi
      rw [g4 i (fun h => hi (.inr h)), k4 i (fun h => hi (.inl h))]
    · rcases List.mem_cons.1 hy with rfl | hy
      · exact k6
      · exact g6 y hy

theorem retC_congr {σ σ' : Sto} {a : AV} {r : RV} (h : ∀ i ∈ cellIds a, σ'[i]? = σ[i]?) (hk : retC σ a r) : retC σ' a r := by
  cases a with
  | pv x => exact hk
  | own id => obtain ⟨b, h1, h2⟩ := nthK_iff _ _ _ hk; exact nthK_mk _ _ b _ ((h id (by simp [cellIds])).trans h1) h2
  | sub id sz lo n => obtain ⟨b, h1, h2⟩ := nthK_iff _ _ _ hk; exact nthK_mk _ _ b _ ((h id (by simp [cellIds])).trans h1) h2
  | ref id idx off =>
    cases r with
    | pv y =>
      cases idx with
      | succ _ => exact (show False from hk).elim
      | zero => cases off with
        | succ _ => exact (show False from hk).elim
        | zero => obtain ⟨b, h1, h2⟩ := nthK_iff _ _ _ (show nthK σ id _ from hk); exact nthK_mk _ _ b _ ((h id (by simp [cellIds])).trans h1) h2
    | _ => exact (show False from hk).elim
  | _ => exact (show False from hk).elim

theorem retCs_congr {σ σ' : Sto} : ∀ (cs : List AV) (rs : List RV), (∀ i ∈ cs.flatMap cellIds, σ'[i]? = σ[i]?) → retCs σ cs rs → retCs σ' cs rs := by
  intro cs
  induction cs with
  | nil => intro rs _ h; exact h
  | cons c cs ih =>
    intro rs hs h
    cases rs with
    | nil => exact (show False from h).elim
    | cons r rs =>
      obtain ⟨g1, g2⟩ := (show retC σ c r ∧ retCs σ cs rs from h)
      rw [List.flatMap_cons] at hs
      exact ⟨retC_congr (fun i hi => hs i (List.mem_append_left _ hi)) g1, ih rs (fun i hi => hs i (List.mem_append_right _ hi)) g2⟩

theorem retAV_congr {σ σ' : Sto} {a : AV} {r : RV} {v : Value} {ok : Nat → Prop} {w : World} (hv : RA ok σ vals w a v) (h : ∀ i ∈ avIds a, σ'[i]? = σ[i]?) (hk : retAV σ a r) : retAV σ' a r := by
  cases a with
  | agg cs =>
    simp only [RA] at hv
    cases r with
    | pv y => exact readAVs_congr cs hv.1 h (show readAVs σ cs _ from hk)
    | agg rs => exact retCs_congr cs rs h hk
    | _ => exact (show False from hk).elim
  | bad => exact retC_congr (a := .bad) (r := r) h hk
  | pv x => exact retC_congr (a := .pv x) (r := r) h hk
  | own id => exact retC_congr (a := .own id) (r := r) h hk
  | ref id i o => exact retC_congr (a := .ref id i o) (r := r) h hk
  | sub id s l n => exact retC_congr (a := .sub id s l n) (r := r) h hk
  | tup vs => exact retC_congr (a := .tup vs) (r := r) h hk
  | clo f cs => exact retC_congr (a := .clo f cs) (r := r) h hk

theorem item0_prep (hr : RelS cx σ vals w') {a : AV} {r : RV} {v : Value} (hv : RA (Ok cx σ vals w') σ vals w' a v) (hk : retC σ a r) :
    ∃ σ', RelS cx σ' vals w' ∧ Keep cx σ vals w' σ' vals w' ∧ (∀ i, i ∉ cellIds a → σ'[i]? = σ[i]?) ∧ Item0 cx σ' vals w' a r v := by
  cases a with
  | pv x =>
    refine ⟨σ, hr, Keep.refl, fun _ _ => rfl, ?_⟩
    simp only [RA] at hv
    have nil : ∀ s s' els, x = .nil s' → (s = s' ∧ els = ([] : List PV)) ∧ 0 < s → v = .slice none 0 0 ∧ els = [] ∧ 0 < s := by
      intro s s' els hx h
      subst hx
      simp only [Rd] at hv
      exact ⟨hv, h.1.2, h.2⟩
    cases r with
    | pv y =>
      show Rd (Ok cx σ vals w') w' y v ∧ _
      cases x with
      | nil s =>
        simp only [Rd] at hv
        rcases (show y = .nil s ∨ y = .sl s [] from hk) with rfl | rfl
        · simp only [Rd]; exact ⟨hv, fun _ => rfl⟩
        · simp only [Rd]; exact ⟨⟨none, 0, by simpa using hv, by simp, by decide, .inl trivial⟩, fun _ => rfl⟩
      | _ => cases (show y = _ from hk); exact ⟨hv, fun h => h⟩
    | fresh e sz els =>
      cases x with
      | nil s => exact .inl (nil sz s els rfl hk)
      | _ => exact (show False from hk).elim
    | row e sz els =>
      cases x with
      | nil s => exact .inl (nil sz s els rfl hk)
      | _ => exact (show False from hk).elim
    | _ => exact (show False from hk).elim
  | own id =>
    have hv' := hv
    simp only [RA] at hv'
    obtain ⟨b, h1, h2⟩ := nthK_iff _ _ _ hk
    cases r with
    | pv y =>
      obtain ⟨x, σ', k1, k2, k3, k4, k5, k6⟩ := cell_freeze (K := fun x => x = y) hr rfl hv (nthK_mk _ _ b _ h1 (by
        cases b with
        | row e sz ap els => exact (show y = _ from h2).symm
        | fz x => exact (show y = _ from h2).symm
        | _ => exact h2.elim))
      subst k1
      exact ⟨σ', k2, k3, k4, k5, fun _ => k6⟩
    | fresh e sz els =>
      refine ⟨σ, hr, Keep.refl, fun _ _ => rfl, .inr ⟨id, by simp [cellIds], ?_, hv'⟩⟩
      cases b with
      | row e' sz' ap els' =>
        obtain ⟨rfl, rfl, rfl, rfl⟩ := (show ap = true ∧ e = e' ∧ sz = sz' ∧ els = els' from h2)
        exact h1
      | _ => exact h2.elim
    | row e sz els =>
      cases b with
      | row e' sz' ap els' =>
        obtain ⟨rfl, rfl, rfl⟩ := (show e = e' ∧ sz = sz' ∧ els = els' from h2)
        exact ⟨σ, hr, Keep.refl, fun _ _ => rfl, .inr ⟨id, ap, by simp [cellIds], h1, hv'⟩⟩
      | _ => exact h2.elim
    | _ => cases b <;> exact h2.elim
  | sub id sz lo n =>
    cases r with
    | pv y =>
      obtain ⟨b, h1, h2⟩ := nthK_iff _ _ _ hk
      have h3 : readAV σ (.sub id sz lo n) (fun x => x = y) := by
        refine nthK_mk _ _ b _ h1 ?_
        have one : ∀ (s : Nat) (els : List PV), (match Nat.beq s sz with
            | true => lo + n ≤ els.length ∧ y = .sl sz (cut lo (lo + n) els)
            | false => False) → (match Nat.beq s sz with
            | true => lo + n ≤ els.length ∧ PV.sl sz (cut lo (lo + n) els) = y
            | false => False) := by
          intro s els hh
          cases hs : Nat.beq s sz with
          | true => rw [hs] at hh; exact ⟨hh.1, hh.2.symm⟩
          | false => rw [hs] at hh; exact hh.elim
        cases b with
        | row e s ap els => exact one s els h2
        | fz x => cases x with
          | sl s els => exact one s els h2
          | _ => exact (show False from h2).elim
        | _ => exact (show False from h2).elim
      obtain ⟨x, σ', k1, k2, k3, k4, k5, k6⟩ := cell_freeze hr rfl hv h3
      subst k1
      exact ⟨σ', k2, k3, k4, k5, fun _ => k6⟩
    | _ =>
      obtain ⟨b, h1, h2⟩ := nthK_iff _ _ _ hk
      have : ∀ b : Blk, winK sz lo n b (fun _ => False) → False := by
        intro b h
        cases b with
        | row e s ap els =>
          have h : (match Nat.beq s sz with | true => lo + n ≤ els.length ∧ False | false => False) := h
          split at h
          · exact h.2
          · exact h
        | fz x => cases x with
          | sl s els =>
            have h : (match Nat.beq s sz with | true => lo + n ≤ els.length ∧ False | false => False) := h
            split at h
            · exact h.2
            · exact h
          | _ => exact h
        | _ => exact h
      exact (this b h2).elim
  | ref id idx off =>
    cases r with
    | pv y =>
      cases idx with
      | succ _ => exact (show False from hk).elim
      | zero => cases off with
        | succ _ => exact (show False from hk).elim
        | zero =>
          obtain ⟨b, hb, hk⟩ := nthK_iff _ _ _ (show nthK σ id _ from hk)
          simp only [RA] at hv
          obtain ⟨hlt, _, _, hbox⟩ := hv
          cases b with
          | box e cs =>
            rcases allPvK_spec cs (fun t => boxVal t fun x => y = .cptr x) False hk with ⟨tcs, rfl, hk2⟩ | hk2
            · obtain ⟨u, hu, hrb⟩ := hr.val hb
              obtain ⟨u', g, hu', hg', hv⟩ := hbox _ hb rfl
              have hg : blkOf u' = some g := by rw [hg']; rfl
              rw [hu] at hu'; cases hu'
              have hone : ∀ c ∈ tcs, c.one = true := by
                obtain ⟨_, _, _, _, _, h4, _⟩ := hrb
                exact fun c hc => h4 (.pv c) (by simpa using hc)
              obtain ⟨x, hset, hx⟩ := boxVal_cptr (w := w') hk2 hone
              obtain ⟨hr1, hk1⟩ := hr.freezeTo (x := .cptr x) hb rfl (fun ok' v' _ hrb' hok hbl => by
                obtain ⟨b', arr', e1, _, e3, _, e5⟩ := hrb'
                subst e1
                rw [raL_map_pv] at e5
                exact hx ok' arr' b' _ _ e3 (RdL.mono hok (fun _ _ _ => rfl) _ _ e5) (hbl b' rfl)) (fun _ => rfl)
              refine ⟨_, hr1, hk1, fun i hi => ?_, ?_, fun _ => by rw [hset]; rfl⟩
              · rw [set_get hlt, if_neg (fun e => hi (by simp [cellIds, e]))]
              · show Rd _ w' y v
                rw [hset]
                have := hr1.sto id _ _ (by rw [List.getElem?_set_self hlt]) hu
                have hvu : v = u := by
                  obtain ⟨b, arr, h1, _⟩ := hrb
                  rw [h1] at hg; cases hg
                  rw [hv, h1]
                rw [hvu]; exact this
            · exact hk2.elim
          | _ => exact (show False from hk).elim
    | _ => exact (show False from hk).elim
  | _ => exact (show False from hk).elim

theorem Item0.keep {σ' : Sto} {a : AV} {r : RV} {v : Value} (h : Item0 cx σ vals w' a r v) (hk : Keep cx σ vals w' σ' vals w') (hs : ∀ i ∈ cellIds a, σ'[i]? = σ[i]?) : Item0 cx σ' vals w' a r v := by
  cases r with
  | pv x => exact ⟨hk.rd h.1, h.2⟩
  | fresh e sz els =>
    rcases (show _ ∨ _ from h) with h | ⟨id, h1, h2, h3⟩
    · exact .inl h
    · exact .inr ⟨id, h1, (hs id h1).trans h2, h3⟩
  | row e sz els =>
    rcases (show _ ∨ _ from h) with h | ⟨id, ap, h1, h2, h3⟩
    · exact .inl h
    · exact .inr ⟨id, ap, h1, (hs id h1).trans h2, h3⟩
  | _ => exact (show False from h).elim

theorem Items0.keep {σ' : Sto} : ∀ {as : List AV} {rs : List RV} {vs : List Value}, Items0 cx σ vals w' as rs vs → Keep cx σ vals w' σ' vals w' → (∀ i ∈ as.flatMap cellIds, σ'[i]? = σ[i]?) → Items0 cx σ' vals w' as rs vs := by
  intro as
  induction as with
  | nil => intro rs vs h _ _; exact h
  | cons a as ih =>
    rintro rs vs ⟨r, rs', v, vs', rfl, rfl, h1, h2⟩ hk hs
    rw [List.flatMap_cons] at hs
    exact ⟨r, rs', v, vs', rfl, rfl, h1.keep hk (fun i hi => hs i (List.mem_append_left _ hi)), ih h2 hk (fun i hi => hs i (List.mem_append_right _ hi))⟩

theorem items0_prep : ∀ (as : List AV) (rs : List RV) (vs : List Value) (σ : Sto), RelS cx σ vals w' → RAL (Ok cx σ vals w') σ vals w' as vs → retCs σ as rs → (as.flatMap cellIds).Nodup →
    ∃ σ', RelS cx σ' vals w' ∧ Keep cx σ vals w' σ' vals w' ∧ (∀ i, i ∉ as.flatMap cellIds → σ'[i]? = σ[i]?) ∧ Items0 cx σ' vals w' as rs vs := by
  intro as
  induction as with
  | nil =>
    intro rs vs σ hr hv hk _
    simp only [RAL] at hv
    cases rs with
    | nil => exact ⟨σ, hr, Keep.refl, fun _ _ => rfl, rfl, hv⟩
    | cons r rs => exact (show False from hk).elim
  | cons a as ih =>
    intro rs vs σ hr hv hk hn
    cases rs with
    | nil => exact (show False from hk).elim
    | cons r rs =>
      obtain ⟨h1, h2⟩ := (show retC σ a r ∧ retCs σ as rs from hk)
      simp only [RAL] at hv
      obtain ⟨v, t, rfl, h3, h4⟩ := hv
      rw [List.flatMap_cons, List.nodup_append] at hn
      obtain ⟨n1, n2, n3⟩ := hn
      obtain ⟨σ1, k1, k2, k3, k4⟩ := item0_prep hr h3 h1
      have h2' : retCs σ1 as rs := retCs_congr as rs (fun i hi => k3 i fun hc => n3 i hc i hi rfl) h2
      obtain ⟨σ2, g1, g2, g3, g4⟩ := ih rs t σ1 k1 (k2.raL _ _ h4) h2' n2
      refine ⟨σ2, g1, k2.trans g2, fun i hi => ?_, r, rs, v, t, rfl, rfl, k4.keep g2 (fun i hi => g3 i fun hc => n3 i hi i hc rfl), g4⟩
      rw [List.flatMap_cons, List.mem_append] at hi
      rw [g3 i (fun h => hi (.inr h)), k3 i (fun h => hi (.inl h))]

theorem item_prep (hr : RelS cx σ vals w') {a : AV} {r : RV} {v : Value} (hv : RA (Ok cx σ vals w') σ vals w' a v) (hk : retAV σ a r) (hn : (avIds a).Nodup) :
    ∃ σ', RelS cx σ' vals w' ∧ Keep cx σ vals w' σ' vals w' ∧ (∀ i, i ∉ avIds a → σ'[i]? = σ[i]?) ∧ Item cx σ' vals w' a r v := by
  have main : cellIds a = avIds a → retC σ a r → ∃ σ', RelS cx σ' vals w' ∧ Keep cx σ vals w' σ' vals w' ∧ (∀ i, i ∉ avIds a → σ'[i]? = σ[i]?) ∧ Item cx σ' vals w' a r v := by
    intro he hk
    obtain ⟨σ', h1, h2, h3, h4⟩ := item0_prep hr hv hk
    refine ⟨σ', h1, h2, he ▸ h3, ?_⟩
    cases r with
    | pv x => exact h4.1
    | fresh e sz els => exact ⟨he, h4⟩
    | row e sz els => exact ⟨he, h4⟩
    | _ => exact (show False from h4).elim
  cases a with
  | agg cs =>
    simp only [RA] at hv
    obtain ⟨h0, vs, rfl, hl⟩ := hv
    cases r with
    | pv y =>
      obtain ⟨xs, σ', k1, k2, k3, k4, k5, k6⟩ := cells_freeze cs σ _ _ hr h0 hl (show readAVs σ cs _ from hk) hn
      refine ⟨σ', k2, k3, k4, ?_⟩
      show Rd _ w' y _
      rw [k1]
      simp only [Rd]
      exact ⟨k6, vs, rfl, k5⟩
    | agg rs =>
      obtain ⟨σ', k1, k2, k3, k4⟩ := items0_prep cs rs _ σ hr hl hk hn
      exact ⟨σ', k1, k2, k3, cs, vs, rfl, rfl, h0, k4⟩
    | _ => exact (show False from hk).elim
  | bad => exact main rfl hk
  | pv x => exact main rfl hk
  | own id => exact main rfl hk
  | ref id i o => exact main rfl hk
  | sub id s l n => exact main rfl hk
  | tup vs => exact main rfl hk
  | clo f cs => exact main rfl hk

theorem Item.keep {σ' : Sto} {a : AV} {r : RV} {v : Value} (h : Item cx σ vals w' a r v) (hk : Keep cx σ vals w' σ' vals w') (hs : ∀ i ∈ avIds a, σ'[i]? = σ[i]?) : Item cx σ' vals w' a r v := by
  cases r with
  | pv x => exact hk.rd h
  | fresh e sz els => exact ⟨h.1, h.2.keep hk (by rw [h.1]; exact hs)⟩
  | row e sz els => exact ⟨h.1, h.2.keep hk (by rw [h.1]; exact hs)⟩
  | agg rs =>
    obtain ⟨cs, vs, rfl, rfl, h0, h1⟩ := h
    exact ⟨cs, vs, rfl, rfl, h0, h1.keep hk hs⟩
  | _ => exact (show False from h.2).elim

theorem items_prep : ∀ (as : List AV) (rs : List RV) (vs : List Value) (σ : Sto), RelS cx σ vals w' → RAL (Ok cx σ vals w') σ vals w' as vs → retsK σ as rs → (as.flatMap avIds).Nodup →
    ∃ σ', RelS cx σ' vals w' ∧ Keep cx σ vals w' σ' vals w' ∧ (∀ i, i ∉ as.flatMap avIds → σ'[i]? = σ[i]?) ∧ Items cx σ' vals w' as rs vs := by
  intro as
  induction as with
  | nil =>
    intro rs vs σ hr hv hk _
    simp only [RAL] at hv
    cases rs with
    | nil => exact ⟨σ, hr, Keep.refl, fun _ _ => rfl, rfl, hv⟩
    | cons r rs => exact (show False from hk).elim
  | cons a as ih =>
    intro rs vs σ hr hv hk hn
    cases rs with
    | nil => exact (show False from hk).elim
    | cons r rs =>
      obtain ⟨h1, h2⟩ := (show retAV σ a r ∧ retsK σ as rs from hk)
      simp only [RAL] at hv
      obtain ⟨v, t, rfl, h3, h4⟩ := hv
      rw [List.flatMap_cons, List.nodup_append] at hn
      obtain ⟨n1, n2, n3⟩ := hn
      obtain ⟨σ1, k1, k2, k3, k4⟩ := item_prep hr h3 h1 n1
      have h2' : retsK σ1 as rs := by
        have : ∀ (as : List AV) (rs : List RV) (vs : List Value), RAL (Ok cx σ vals w') σ vals w' as vs → (∀ i ∈ as.flatMap avIds, σ1[i]? = σ[i]?) → retsK σ as rs → retsK σ1 as rs := by
          intro as
          induction as with
          | nil => intro rs vs _ _ h; exact h
          | cons a as ih =>
            intro rs vs hv hs h
            cases rs with
            | nil => exact (show False from h).elim
            | cons r rs =>
              obtain ⟨g1, g2⟩ := (show retAV σ a r ∧ retsK σ as rs from h)
              simp only [RAL] at hv
              obtain ⟨v, t, rfl, h3, h4⟩ := hv
              rw [List.flatMap_cons] at hs
              exact ⟨retAV_congr h3 (fun i hi => hs i (List.mem_append_left _ hi)) g1, ih rs t h4 (fun i hi => hs i (List.mem_append_right _ hi)) g2⟩
        exact this as rs t h4 (fun i hi => k3 i fun hc => n3 i hc i hi rfl) h2
      obtain ⟨σ2, g1, g2, g3, g4⟩ := ih rs t σ1 k1 (k2.raL _ _ h4) h2' n2
      refine ⟨σ2, g1, k2.trans g2, fun i hi => ?_, r, rs, v, t, rfl, rfl, k4.keep g2 (fun i hi => g3 i fun hc => n3 i hi i hc rfl), g4⟩
      rw [List.flatMap_cons, List.mem_append] at hi
      rw [g3 i (fun h => hi (.inr h)), k3 i (fun h => hi (.inl h))]

/-- Where a row that is handed out comes from. -/
def From (σ : Sto) (vals : List Value) (ids : List Nat) (u : Value) : Prop :=
  u = .slice none 0 0 ∨ ∃ id s, id ∈ ids ∧ σ[id]? = some s ∧ s.live = true ∧ vals[id]? = some u

theorem Owns.imp {M M' : Nat → Prop} {w : World} {e : TypeId} {sz : Nat} {ap : Bool} {v : Value} {n : Nat} {xs : List Value} (h : Owns w M e sz ap v n xs) (hm : ∀ b, M b → M' b) : Owns w M' e sz ap v n xs := by
  refine ⟨h.1, ?_⟩
  rcases h.2 with h2 | ⟨g, cap, cur, fr, h1, h2, h3⟩
  · exact .inl h2
  · exact .inr ⟨g, cap, cur, fr, h1, hm g h2, h3⟩

theorem okR_of_ok (ho : ∀ b, cx.own b → cx.w0.heap.size ≤ b) {lone : Bool} {ids : List Nat} {us : List Value} (hus : ∀ u ∈ us, From σ vals ids u) (hl : lone = false) : ∀ b, Ok cx σ vals w' b → OkR cx.okA lone cx.w0 w' us b := by
  rintro b ⟨h1, h2, h3⟩
  refine ⟨h1.imp (fun h => ⟨hl, h⟩) (ho b), h2, fun u hu hb => h3 ?_⟩
  rcases hus u hu with rfl | ⟨id, s, _, g1, g2, g3⟩
  · cases hb
  · exact ⟨id, s, u, g1, g2, g3, hb⟩

theorem ret_item0 (ho : ∀ b, cx.own b → cx.w0.heap.size ≤ b) (hr : RelS cx σ vals w') {av : AV} {r : RV} {v : Value} (h : Item0 cx σ vals w' av r v) {lone : Bool} (hl : lone = true → r.flat1) {ids : List Nat} {us : List Value} (hus : ∀ u ∈ us, From σ vals ids u) :
    RR (OkR cx.okA lone cx.w0 w' us) (fun b => cx.w0.heap.size ≤ b) w' r v (us0 r v) := by
  have plain : ∀ x : PV, (lone = true → x.flat) → Rd (Ok cx σ vals w') w' x v → Rd (OkR cx.okA lone cx.w0 w' us) w' x v := by
    intro x hx h
    cases hlone : lone with
    | false => exact Rd.mono (okR_of_ok ho hus rfl) (fun _ _ _ => rfl) x v h
    | true => exact rd_flat (hx hlone) h
  have rowL : ∀ (els : List PV) (cells : List Value), (lone = true → ∀ x ∈ els, x.flat) → RdL (Ok cx σ vals w') w' (els.flatMap PV.cells) cells → RdL (OkR cx.okA lone cx.w0 w' us) w' (els.flatMap PV.cells) cells := by
    intro els cells hx h
    cases hlone : lone with
    | false => exact RdL.mono (okR_of_ok ho hus rfl) (fun _ _ _ => rfl) _ _ h
    | true =>
      refine rdL_prim _ _ (fun c hc => ?_) h
      obtain ⟨x, hx', hc⟩ := List.mem_flatMap.1 hc
      exact flat_cells (hx hlone x hx') c hc
  cases r with
  | pv y => exact ⟨plain _ (fun e => hl e) h.1, rfl⟩
  | fresh e sz els =>
    rcases (show _ ∨ _ from h) with ⟨rfl, rfl, h0⟩ | ⟨id, _, h1, h2⟩
    · simp only [RR]
      exact ⟨rfl, h0, [], owns_nil _ _ _ _ _, by simp, by simp, by simp [RdL]⟩
    · obtain ⟨h0, cells, g1, g2, g3, g4⟩ := hr.sto id _ v h1 h2
      simp only [RR]
      exact ⟨rfl, h0, cells, g1.imp ho, g2, g3, rowL els cells (fun e => hl e) g4⟩
  | row e sz els =>
    rcases (show _ ∨ _ from h) with ⟨rfl, rfl, h0⟩ | ⟨id, ap, _, h1, h2⟩
    · simp only [RR]
      exact ⟨rfl, h0, [], owns_nil _ _ _ _ _, by simp, by simp, by simp [RdL]⟩
    · obtain ⟨h0, cells, g1, g2, g3, g4⟩ := hr.sto id _ v h1 h2
      simp only [RR]
      refine ⟨rfl, h0, cells, ?_, g2, g3, rowL els cells (fun e => hl e) g4⟩
      have g1 := g1.imp ho
      refine ⟨g1.1, g1.2.imp_right ?_⟩
      rintro ⟨g, cap, cur, fr, f1, f2, f3, f4, f5, f6, f7, f8⟩
      exact ⟨g, cap, cur, fr, f1, f2, f3, f4, f5, f6, f7, f8.imp_right fun h => ⟨rfl, h.2⟩⟩
  | _ => exact (show False from h).elim

theorem ret_item (ho : ∀ b, cx.own b → cx.w0.heap.size ≤ b) (hr : RelS cx σ vals w') {av : AV} {r : RV} {v : Value} (h : Item cx σ vals w' av r v) {lone : Bool} (hl : lone = true → r.flat1) {ids : List Nat} {us : List Value} (hus : ∀ u ∈ us, From σ vals ids u) :
    RR (OkR cx.okA lone cx.w0 w' us) (fun b => cx.w0.heap.size ≤ b) w' r v (us1 r v) := by
  cases r with
  | pv y => exact ret_item0 (av := .bad) ho hr (r := .pv y) ⟨h, fun e => by cases e⟩ hl hus
  | fresh e sz els => exact ret_item0 ho hr h.2 hl hus
  | row e sz els => exact ret_item0 ho hr h.2 hl hus
  | agg rs =>
    obtain ⟨cs, vs, rfl, rfl, h0, h1⟩ := h
    have hlone : lone = false := by
      cases lone with
      | false => rfl
      | true => exact (hl rfl : False).elim
    have main : ∀ (cs : List AV) (rs : List RV) (vs : List Value), (∀ c ∈ cs, c.one = true) → Items0 cx σ vals w' cs rs vs → RRL (OkR cx.okA lone cx.w0 w' us) (fun b => cx.w0.heap.size ≤ b) w' rs vs (usC rs vs) ∧
        ∀ r ∈ rs, match r with | .pv x => x.one = true | .fresh _ _ _ => True | .row _ _ _ => True | _ => False := by
      intro cs
      induction cs with
      | nil => rintro rs vs _ ⟨rfl, rfl⟩; exact ⟨by simp [RRL, usC], by simp⟩
      | cons c cs ih =>
        rintro rs vs h0 ⟨r, rs', v, vs', rfl, rfl, h1, h2⟩
        obtain ⟨g1, g2⟩ := ih rs' vs' (fun d hd => h0 d (by simp [hd])) h2
        refine ⟨?_, fun q hq => ?_⟩
        · simp only [RRL]
          exact ⟨v, vs', us0 r v, usC rs' vs', rfl, rfl, ret_item0 ho hr h1 (fun e => by rw [hlone] at e; cases e) hus, g1⟩
        · rcases List.mem_cons.1 hq with rfl | hq
          · cases q with
            | pv x => exact h1.2 (h0 c (by simp))
            | fresh _ _ _ => trivial
            | row _ _ _ => trivial
            | _ => exact (show False from h1).elim
          · exact g2 q hq
    obtain ⟨g1, g2⟩ := main cs rs _ h0 h1
    simp only [RR]
    exact ⟨vs, rfl, g2, g1⟩
  | _ => exact (show False from h.2).elim

theorem ret_list (ho : ∀ b, cx.own b → cx.w0.heap.size ≤ b) (hr : RelS cx σ vals w') {lone : Bool} {ids : List Nat} {us : List Value} (hus : ∀ u ∈ us, From σ vals ids u) :
    ∀ (as : List AV) (rs : List RV) (vs : List Value), Items cx σ vals w' as rs vs → (lone = true → flatL rs) → RRL (OkR cx.okA lone cx.w0 w' us) (fun b => cx.w0.heap.size ≤ b) w' rs vs (usL rs vs) := by
  intro as
  induction as with
  | nil =>
    rintro rs vs ⟨rfl, rfl⟩ _
    simp [RRL, usL]
  | cons av as ih =>
    rintro rs vs ⟨r, rs', v, vs', rfl, rfl, h1, h2⟩ hl
    simp only [RRL]
    exact ⟨v, vs', us1 r v, usL rs' vs', rfl, rfl, ret_item ho hr h1 (fun e => (show r.flat1 ∧ flatL rs' from hl e).1) hus, ih rs' vs' h2 fun e => (show r.flat1 ∧ flatL rs' from hl e).2⟩

theorem us0_from {av : AV} {r : RV} {v : Value} (h : Item0 cx σ vals w' av r v) : ∀ u ∈ us0 r v, From σ vals (cellIds av) u := by
  intro u hu
  cases r with
  | fresh e sz els =>
    simp [us0] at hu
    subst hu
    rcases (show _ ∨ _ from h) with ⟨h, _⟩ | ⟨id, h1, h2, h3⟩
    · exact .inl h
    · exact .inr ⟨id, _, h1, h2, rfl, h3⟩
  | row e sz els =>
    simp [us0] at hu
    subst hu
    rcases (show _ ∨ _ from h) with ⟨h, _⟩ | ⟨id, ap, h1, h2, h3⟩
    · exact .inl h
    · exact .inr ⟨id, _, h1, h2, rfl, h3⟩
  | _ => simp [us0] at hu

theorem pair_app (hr : RelS cx σ vals w') {l m : List Value} {i j : List Nat} (hl : ∀ u ∈ l, From σ vals i u) (hm : ∀ u ∈ m, From σ vals j u) (hij : ∀ a ∈ i, ∀ b ∈ j, a ≠ b) (h1 : l.Pairwise fun u t => ∀ b, blkOf u = some b → blkOf t ≠ some b) (h2 : m.Pairwise fun u t => ∀ b, blkOf u = some b → blkOf t ≠ some b) :
    (∀ u ∈ l ++ m, From σ vals (i ++ j) u) ∧ (l ++ m).Pairwise fun u t => ∀ b, blkOf u = some b → blkOf t ≠ some b := by
  refine ⟨fun u hu => ?_, ?_⟩
  · rcases List.mem_append.1 hu with hu | hu
    · rcases hl u hu with h | ⟨id, s, k1, k2⟩
      · exact .inl h
      · exact .inr ⟨id, s, List.mem_append_left _ k1, k2⟩
    · rcases hm u hu with h | ⟨id, s, k1, k2⟩
      · exact .inl h
      · exact .inr ⟨id, s, List.mem_append_right _ k1, k2⟩
  · rw [List.pairwise_append]
    refine ⟨h1, h2, fun u hu x hx b hb hbx => ?_⟩
    rcases hl u hu with rfl | ⟨id, s, k1, k2, k3, k4⟩
    · cases hb
    · rcases hm x hx with rfl | ⟨id2, s2, j1, j2, j3, j4⟩
      · cases hbx
      · exact hr.dis id id2 _ _ _ _ b (hij id k1 id2 j1) k2 j2 k3 j3 k4 j4 hb hbx

theorem us1_from (hr : RelS cx σ vals w') {av : AV} {r : RV} {v : Value} (h : Item cx σ vals w' av r v) (hn : (avIds av).Nodup) : (∀ u ∈ us1 r v, From σ vals (avIds av) u) ∧ (us1 r v).Pairwise fun u t => ∀ b, blkOf u = some b → blkOf t ≠ some b := by
  cases r with
  | pv x => simp [us1, us0]
  | fresh e sz els => exact ⟨by rw [← h.1]; exact us0_from h.2, by simp [us1, us0]⟩
  | row e sz els => exact ⟨by rw [← h.1]; exact us0_from h.2, by simp [us1, us0]⟩
  | agg rs =>
    obtain ⟨cs, vs, rfl, rfl, _, h1⟩ := h
    have main : ∀ (cs : List AV) (rs : List RV) (vs : List Value), Items0 cx σ vals w' cs rs vs → (cs.flatMap cellIds).Nodup → (∀ u ∈ usC rs vs, From σ vals (cs.flatMap cellIds) u) ∧ (usC rs vs).Pairwise fun u t => ∀ b, blkOf u = some b → blkOf t ≠ some b := by
      intro cs
      induction cs with
      | nil => rintro rs vs ⟨rfl, rfl⟩ _; simp [usC]
      | cons c cs ih =>
        rintro rs vs ⟨r, rs', v, vs', rfl, rfl, h1, h2⟩ hn
        rw [List.flatMap_cons, List.nodup_append] at hn
        obtain ⟨g1, g2⟩ := ih rs' vs' h2 hn.2.1
        rw [List.flatMap_cons]
        exact pair_app hr (us0_from h1) g1 hn.2.2 (by cases r <;> simp [us0]) g2
    exact main cs rs _ h1 hn
  | _ => exact (show False from h.2).elim

theorem usL_from (hr : RelS cx σ vals w') : ∀ (as : List AV) (rs : List RV) (vs : List Value), Items cx σ vals w' as rs vs → (as.flatMap avIds).Nodup →
    (∀ u ∈ usL rs vs, From σ vals (as.flatMap avIds) u) ∧ (usL rs vs).Pairwise fun u t => ∀ b, blkOf u = some b → blkOf t ≠ some b := by
  intro as
  induction as with
  | nil =>
    rintro rs vs ⟨rfl, rfl⟩ _
    simp [usL]
  | cons av as ih =>
    rintro rs vs ⟨r, rs', v, vs', rfl, rfl, h1, h2⟩ hn
    rw [List.flatMap_cons, List.nodup_append] at hn
    obtain ⟨n1, n2, n3⟩ := hn
    obtain ⟨g1, g2⟩ := ih rs' vs' h2 n2
    obtain ⟨f1, f2⟩ := us1_from hr h1 n1
    rw [List.flatMap_cons]
    exact pair_app hr f1 g1 n3 f2 g2

theorem from_fresh (ho : ∀ b, cx.own b → cx.w0.heap.size ≤ b) (hr : RelS cx σ vals w') {ids : List Nat} {u : Value} (h : From σ vals ids u) : ∀ b, blkOf u = some b → cx.w0.heap.size ≤ b := by
  intro b hb
  rcases h with rfl | ⟨id, s, _, h1, h2, h3⟩
  · cases hb
  · exact ho b ((hr.sto id s u h1 h3).block h2 hb).1

def packV : List Value → Value
  | [v] => v
  | vs => .tuple vs.toArray

def resVal (tmps : Array Value) : ResultVar → Sem Value
  | .tmp t => pure (tmps.getD t undef)
  | .cell a t => do loadVar t (← asAddr (tmps.getD a undef))

theorem results_run {fn : Func} {l : List ResultVar} (h : fn.results = l.toArray) (hl : l.length ≤ 4) (tmps : Array Value) (P : Program) (w : World) (vs : List Value) (hlen : vs.length = l.length)
    (hv : ∀ (i : Nat) (r : ResultVar) (v : Value), l[i]? = some r → vs[i]? = some v → (resVal tmps r).run P w = .ok v w) :
    (results fn tmps).run P w = .ok (packV vs) w := by
  have e : results fn tmps = (do
      let vs ← l.toArray.mapM (resVal tmps)
      pure (if h : vs.size = 1 then vs[0] else .tuple vs)) := by
    unfold results
    rw [h]
    congr 2
  rw [e]
  match l, vs, hl, hlen, hv with
  | [], [], _, _, hv => simp [packV]
  | [a], [x], _, _, hv =>
    have h0 := hv 0 a x rfl rfl
    simp [h0, packV]
  | [a, b], [x, y], _, _, hv =>
    have h0 := hv 0 a x rfl rfl
    have h1 := hv 1 b y rfl rfl
    simp [h0, h1, packV]
  | [a, b, c], [x, y, z], _, _, hv =>
    have h0 := hv 0 a x rfl rfl
    have h1 := hv 1 b y rfl rfl
    have h2 := hv 2 c z rfl rfl
    simp [h0, h1, h2, packV]
  | [a, b, c, d], [x, y, z, u], _, _, hv =>
    have h0 := hv 0 a x rfl rfl
    have h1 := hv 1 b y rfl rfl
    have h2 := hv 2 c z rfl rfl
    have h3 := hv 3 d u rfl rfl
    simp [h0, h1, h2, h3, packV]
  | _ :: _ :: _ :: _ :: _ :: _, _, hl, _, _ => simp at hl

theorem looks_spec (hr : Rel cx env σ vals a w') : ∀ (l : List ResultVar) (rs : List (Nat × Option (Bool × Nat))) (K : List AV → Prop), l.map (compR cx.P) = rs.map some → looksK σ env rs K →
    ∃ as vs, K as ∧ RAL (Ok cx σ vals w') σ vals w' as vs ∧ vs.length = l.length ∧ ∀ (i : Nat) (r : ResultVar) (v : Value), l[i]? = some r → vs[i]? = some v → (resVal a.tmps r).run cx.P w' = .ok v w' := by
  intro l
  induction l with
  | nil =>
    intro rs K hm h
    cases rs with
    | nil => exact ⟨[], [], h, by simp [RAL], rfl, fun i r v hr => by simp at hr⟩
    | cons p rs => simp at hm
  | cons r l ih =>
    intro rs K hm h
    cases rs with
    | nil => simp at hm
    | cons p rs =>
      simp only [List.map_cons, List.cons.injEq] at hm
      obtain ⟨hp, hm⟩ := hm
      have h := look_spec _ _ _ (show look p.1 (fun v => match p.2 with
        | none => looksK σ env rs fun l => K (v :: l)
        | some q => loadK σ q.1 q.2 v fun v => looksK σ env rs fun l => K (v :: l)) env from h)
      have fin : ∀ (av : AV) (v : Value), RA (Ok cx σ vals w') σ vals w' av v → (resVal a.tmps r).run cx.P w' = .ok v w' → (looksK σ env rs fun l => K (av :: l)) →
          ∃ as vs, K as ∧ RAL (Ok cx σ vals w') σ vals w' as vs ∧ vs.length = (r :: l).length ∧ ∀ (i : Nat) (r' : ResultVar) (v : Value), (r :: l)[i]? = some r' → vs[i]? = some v → (resVal a.tmps r').run cx.P w' = .ok v w' := by
        intro av v hav hrun hk
        obtain ⟨as, vs, h1, h2, h3, h4⟩ := ih rs _ hm hk
        refine ⟨av :: as, v :: vs, h1, by simp only [RAL]; exact ⟨v, vs, rfl, hav, h2⟩, by simp [h3], fun i r' v' hi hv => ?_⟩
        cases i with
        | zero => simp at hi hv; subst hi hv; exact hrun
        | succ i => exact h4 i r' v' (by simpa using hi) (by simpa using hv)
      cases r with
      | tmp t =>
        cases hp
        exact fin _ _ (hr.env t) (by simp [resVal]) h
      | cell s t =>
        obtain ⟨sh, hsh, hp⟩ := opt_some (show opt (shOf cx.P t) (fun q => match q.1 with
          | true => some (s, some (true, q.2))
          | false => some (s, some (false, 1))) = some p from hp)
        have hshape := shape_of hsh
        obtain ⟨ag, n⟩ := sh
        have main : ∀ m, p = (s, some (ag, m)) → m = (if ag then n else 1) → ∃ as vs, K as ∧ RAL (Ok cx σ vals w') σ vals w' as vs ∧ vs.length = (ResultVar.cell s t :: l).length ∧ ∀ (i : Nat) (r' : ResultVar) (v : Value), (ResultVar.cell s t :: l)[i]? = some r' → vs[i]? = some v → (resVal a.tmps r').run cx.P w' = .ok v w' := by
          intro m hpe hme
          subst hpe
          obtain ⟨b, off, us, av, hv, hl, hcells, hra, hk⟩ := load_spec hr.s ag m (hr.env s) h
          refine fin av _ hra ?_ hk
          have := run_load hshape b off us (by rw [hl, hme]) hcells
          simp only [resVal, hv, asAddr, Sem.run_bind, Sem.run_pure, Result.andThen_ok, this]
        cases ag with
        | true => cases hp; exact main n rfl rfl
        | false => cases hp; exact main 1 rfl rfl

theorem ret_sound (hown : ∀ b, cx.own b → cx.w0.heap.size ≤ b) (hr : Rel cx env σ vals a w') {as : List AV} {vs : List Value} (hral : RAL (Ok cx σ vals w') σ vals w' as vs) {lone : Bool} {K : RV → Prop} (h : retK lone σ as K) :
    ∃ r us, K r ∧ RR (OkR cx.okA lone cx.w0 w' us) (fun b => cx.w0.heap.size ≤ b) w' r (packV vs) us ∧
      (∀ u ∈ us, ∀ b, blkOf u = some b → cx.w0.heap.size ≤ b) ∧ ∀ (i j : Nat) (u t : Value) (b : Nat), i ≠ j → us[i]? = some u → us[j]? = some t → blkOf u = some b → blkOf t ≠ some b := by
  have pw : ∀ us : List Value, (us.Pairwise fun u t => ∀ b, blkOf u = some b → blkOf t ≠ some b) → ∀ (i j : Nat) (u t : Value) (b : Nat), i ≠ j → us[i]? = some u → us[j]? = some t → blkOf u = some b → blkOf t ≠ some b := by
    intro us hp i j u t b hij hu ht hb hbt
    rw [List.pairwise_iff_getElem] at hp
    obtain ⟨hi, rfl⟩ := List.getElem?_eq_some_iff.1 hu
    obtain ⟨hj, rfl⟩ := List.getElem?_eq_some_iff.1 ht
    rcases Nat.lt_or_gt_of_ne hij with hlt | hlt
    · exact hp i j hi hj hlt b hb hbt
    · exact hp j i hj hi hlt b hbt hb
  unfold retK at h
  cases ho : ownOnce as [] with
  | false => simp only [ho] at h
  | true =>
    simp only [ho] at h
    cases as with
    | nil =>
      simp only [RAL] at hral
      subst hral
      exact ⟨_, [], h, by simp [RR, RRL, packV], by simp, by simp⟩
    | cons av as =>
      simp only [RAL] at hral
      obtain ⟨v, t, rfl, h1, h2⟩ := hral
      cases as with
      | nil =>
        simp only [RAL] at h2
        subst h2
        obtain ⟨r, h3, h4, h5⟩ := h
        have h3' : retsK σ [av] [r] := ⟨h3, trivial⟩
        have hv' : RAL (Ok cx σ vals w') σ vals w' [av] [v] := by simp only [RAL]; exact ⟨v, [], rfl, h1, rfl⟩
        obtain ⟨σ', k1, k2, k3, k4⟩ := items_prep _ _ _ σ hr.s hv' h3' (ownOnce_spec _ _ ho).1
        obtain ⟨g1, g2⟩ := usL_from k1 _ _ _ k4 (ownOnce_spec _ _ ho).1
        have e : usL [r] [v] = us1 r v := by simp [usL]
        rw [e] at g1 g2
        obtain ⟨_, _, _, _, e1, e2, k5, _⟩ := k4
        cases e1; cases e2
        exact ⟨r, us1 r v, h5, ret_item hown k1 k5 (fun el => by subst el; exact h4) g1, fun u hu => from_fresh hown k1 (g1 u hu), pw _ g2⟩
      | cons bv as =>
        obtain ⟨rs', h3, h4, h5⟩ := h
        have hv' : RAL (Ok cx σ vals w') σ vals w' (av :: bv :: as) (v :: t) := by simp only [RAL] at h2 ⊢; exact ⟨v, t, rfl, h1, h2⟩
        obtain ⟨σ', k1, k2, k3, k4⟩ := items_prep _ _ _ σ hr.s hv' h3 (ownOnce_spec _ _ ho).1
        obtain ⟨g1, g2⟩ := usL_from k1 _ _ _ k4 (ownOnce_spec _ _ ho).1
        simp only [RAL] at h2
        obtain ⟨v2, t2, rfl, _, _⟩ := h2
        refine ⟨.tup rs', usL rs' (v :: v2 :: t2), h5, ?_, fun u hu => from_fresh hown k1 (g1 u hu), pw _ g2⟩
        simp only [RR]
        exact ⟨_, rfl, ret_list hown k1 g1 _ _ _ k4 (fun el => by subst el; exact h4)⟩

/-- Contracts, each for its function. -/
noncomputable def ctxOf (l : List (Nat × Spec)) : Ctx := fun f =>
  List.rec (motive := fun _ => Spec) (mkS false false fun _ _ => False) (fun p _ ih => Bool.rec (motive := fun _ => Spec) ih p.2 (Nat.beq p.1 f)) l

theorem ctx_sound {P : Program} : ∀ (l : List (Nat × Spec)), (∀ p ∈ l, SoundAt P p.1 p.2) → Sound P (ctxOf l) := by
  intro l
  induction l with
  | nil => intro _ f; exact ⟨(by intro h; cases h), (by intro h; cases h), (fun _ _ _ _ _ _ _ _ h => (show False from h).elim), (fun _ _ _ _ _ _ _ _ h => (show False from h).elim), fun _ _ _ _ _ _ _ _ h => (by cases h)⟩
  | cons p l ih =>
    intro h f
    show SoundAt P f (Bool.rec (motive := fun _ => Spec) (ctxOf l f) p.2 (Nat.beq p.1 f))
    cases hb : Nat.beq p.1 f with
    | true =>
      have := Nat.eq_of_beq_eq_true hb
      subst this
      exact h p (by simp)
    | false => exact ih (fun q hq => h q (by simp [hq])) f

/-- A contract of one value that is reckoned out of the arguments. -/
def fnSpec (R : List PV → PV → Prop) : Spec := mkS true true fun ps K => ∃ x, R ps x ∧ K (.pv x)

/-- What 'fn' owes; and that nothing is yielded. -/
def FnOk (S : Spec) : Prop := (S.fn = true → S.lone = true ∧ ∀ ps K, S.run ps K → ∃ x, K (.pv x) ∧ ∀ K' : RV → Prop, K' (.pv x) → S.run ps K') ∧ (∀ ps L, ¬ S.iter ps L) ∧ S.mu = false

theorem fnSpec_ok (R : List PV → PV → Prop) : FnOk (fnSpec R) := ⟨fun _ => ⟨rfl, fun _ _ ⟨x, h1, h2⟩ => ⟨x, h2, fun _ h => ⟨x, h1, h⟩⟩⟩, fun _ _ h => h, rfl⟩
theorem mkS_ok (lone : Bool) (run : List PV → (RV → Prop) → Prop) : FnOk (mkS lone false run) := ⟨fun e => (by cases e), fun _ _ h => h, rfl⟩

theorem enters_own {P : Program} {f : FuncId} {fn : Func} {c : Code} (hf : P.funcs[f]? = some fn) (hname : (fn.name == "runtime.NumGoroutine") = false) (hb : fn.body = some c) : Enters P f := by
  intro args w
  simp [callFunc, hf, hb] at hname ⊢
  simp [hname]

/-- The settings of a call of a function. -/
structure CF (P : Program) (w0 : World) (ok own : Nat → Prop) (pS : List Blk) (pV : List Value) (cx : Cx) : Prop where
  hP : cx.P = P
  hw0 : cx.w0 = w0
  hown : cx.own = own
  hpS : cx.pinS = pS
  hpV : cx.pinV = pV
  hok : cx.okA = ok
  gh : ∀ x v, ¬ cx.gh x v
  lo : cx.lo = 0
  keep : ∀ b, cx.keep b → ∃ o : Obj, cx.w1.heap[b]? = some o ∧ o.isCells = false
  defers : ∀ d ∈ cx.defers, ∃ D, d = { target := .collected D, args := #[] } ∧ cx.keep D ∧ cx.w1.heap[D]? = some (.deferred (some [])) ∧ w0.heap.size ≤ D
  once : cx.defers.Pairwise (fun a b => a ≠ b)

theorem cf_wide (P : Program) (w0 : World) (ok own : Nat → Prop) (pS : List Blk) (pV : List Value) (hpl : pV.length = pS.length) : Wide P (List.range pS.length) (CF P w0 ok own pS pV) := by
  refine ⟨fun cx h => ⟨by rw [h.hpS], by rw [h.hpS, h.hpV]; exact hpl⟩, fun cx h => h.gh, fun cx h => h.lo, fun cx h => h.keep, fun cx w D hD hs h hk h0 h1 hK => ?_⟩
  refine ⟨h.hP, h.hw0, h.hown, h.hpS, h.hpV, h.hok, h.gh, h.lo, ?_, ?_, ?_⟩
  · rintro b (hb | rfl)
    · obtain ⟨o, ho, hc⟩ := h.keep b hb
      exact ⟨o, (hk b hb).trans ho, hc⟩
    · exact ⟨_, hK, rfl⟩
  · intro d hd
    rcases List.mem_cons.1 hd with rfl | hd
    · exact ⟨D, rfl, .inr rfl, hK, by rw [← h.hw0]; exact h0⟩
    · obtain ⟨D', h2, h3, h4, h5⟩ := h.defers d hd
      exact ⟨D', h2, .inl h3, (hk D' h3).trans h4, h5⟩
  · refine List.Pairwise.cons (fun d hd e => ?_) h.once
    obtain ⟨D', h2, h3, _, _⟩ := h.defers d hd
    rw [h2] at e
    have : D = D' := by injection e with e1 _; injection e1
    have := cx.hk D' h3
    omega

theorem leaves {P : Program} {fn : Func} {m : Nat} {R : Ending → World → Prop} {env : Env} {σ : Sto} {vals : List Value} {tmps : Array Value} (fin : ∀ w, Rel cx env σ vals ⟨tmps, []⟩ w → ∃ v, (results fn tmps).run P w = .ok v w ∧ R (.returned v) w) (hk : ∀ b, ¬ cx.keep b) (hw1 : cx.w1.heap.size ≤ cx.w0.heap.size) :
    ∀ (ds : List Deferred) (w : World), (∀ d ∈ ds, ∃ D, d = { target := .collected D, args := #[] } ∧ w.heap[D]? = some (.deferred (some [])) ∧ cx.w0.heap.size ≤ D) → ds.Pairwise (fun a b => a ≠ b) → Rel cx env σ vals ⟨tmps, []⟩ w → LeavesInM Fence.wide m P fn tmps R ds .returning w := by
  intro ds
  induction ds with
  | nil => intro w _ _ hr; exact fin w hr
  | cons d ds ih =>
    intro w hd hp hr
    obtain ⟨D, rfl, hK, h0⟩ := hd d (by simp)
    rw [List.pairwise_cons] at hp
    refine ⟨by simp, .inl ⟨D, _, rfl, run_takeDeferred hK, ih _ (fun d' hd' => ?_) hp.2 (rel_other hr (grownBy_putObj' w D (.deferred none)) (fun r e => by cases e; exact ⟨cx.hown _ h0, Nat.le_trans hw1 h0, _, hK, rfl⟩))⟩⟩
    obtain ⟨D', rfl, hK', h0'⟩ := hd d' (by simp [hd'])
    refine ⟨D', rfl, (World.putObj_heap_other (fun e => ?_)).trans hK', h0'⟩
    exact hp.1 _ hd' (by rw [e])

theorem meets_sound {P : Program} {f : Nat} {fn : Func} {c : Code} {pc : PC} {Γ : Ctx} {ps : List Nat} {rs : List (Nat × Option (Bool × Nat))} {S : Spec} (hΓ : Sound P Γ) (hm : P.follows .mixedOrders = true) (hf : P.funcs[f]? = some fn) (hname : (fn.name == "runtime.NumGoroutine") = false) (hb : fn.body = some c)
    (hc : compC P fn.ntmps c = some (strip pc)) {l : List ResultVar} (hres : fn.results = l.toArray) (hrs : l.map (compR P) = rs.map some) (hl : l.length ≤ 4) (hS : FnOk S) (nargs : Nat) (hn : nargs ≤ fn.ntmps) (hargs : ∀ args K, S.run args K → args.length = nargs) (h : Meets Γ ps pc rs S) : SoundAt P f S := by
  refine ⟨fun e => (hS.1 e).2, fun e => ⟨(hS.1 e).1, hS.2.2⟩, ?_, fun _ _ _ _ _ _ _ _ h => absurd h (hS.2.1 _ _), fun _ _ _ _ _ _ _ _ h => by rw [hS.2.2] at h; cases h⟩
  intro w ok args vs K _ hok hrd hrun
  refine ⟨enters_own hf hname hb, ?_⟩
  have hlen : vs.size = args.length := by simpa using hrd.length
  have hle : args.length ≤ fn.ntmps := by rw [hargs args K hrun]; exact hn
  obtain ⟨env, henv, hlook⟩ := argEnv_spec args 0 _ (h args K hrun)
  let cx : Cx := { P := P, w0 := w, okA := ok, hA := hok }
  let a : Act := { tmps := vs ++ Array.replicate (fn.ntmps - vs.size) undef, defers := [] }
  have hokc : ∀ b, ok b → Ok cx [] [] w b := fun b hb => ⟨.inl hb, hok b hb, fun ⟨i, s, v, hi, _⟩ => by simp at hi⟩
  have hr : Rel cx env [] [] a w := by
    refine ⟨⟨Since.refl _ _, by simp, rfl, fun i s v hi => by simp at hi, fun i j s t u v b _ hi => by simp at hi, ⟨Nat.le_refl _, fun b hb => hb.elim, fun _ _ hb => hb⟩, ⟨fun i v h => by simp [cx] at h, by simp [cx], fun i hi => by simp [cx] at hi, fun i hi => by simp [cx] at hi⟩⟩, fun p => ?_, rfl, fun x v hg => hg.elim, fun p hp => absurd hp (Nat.not_lt_zero p)⟩
    rw [hlook p]
    simp only [Nat.zero_le, if_true, Nat.sub_zero]
    cases hx : args[p]? with
    | none => simp only [RA]
    | some x =>
      simp only [RA]
      have hp : p < args.length := (List.getElem?_eq_some_iff.1 hx).1
      have hval : a.tmps.getD p undef = vs[p]'(by omega) := by
        rw [getD_eq]
        show ((vs ++ Array.replicate (fn.ntmps - vs.size) undef)[p]?).getD undef = _
        rw [Array.getElem?_append_left (by omega), Array.getElem?_eq_getElem (by omega)]; rfl
      rw [hval]
      exact Rd.mono hokc (fun _ _ _ => rfl) x _ (((rdL_iff args _).1 hrd).2 p x _ hx (by simp [show p < vs.size from by omega]))
  have hC : CF P w ok (fun b => w.heap.size ≤ b) [] [] cx := ⟨rfl, rfl, rfl, rfl, rfl, rfl, fun _ _ h => h, rfl, fun b h => h.elim, fun d hd => (by cases hd), List.Pairwise.nil⟩
  have hwp := code_sound (ps := ps) hΓ hm c pc hc (CF P w ok (fun b => w.heap.size ≤ b) [] []) Fence.wide 1 cx (endQ S.lone rs K) env [] [] a w (.inr ⟨rfl, Nat.le_refl _, cf_wide P w ok _ [] [] rfl, fun cx h => h.hP⟩) (.inl fun cx h => h.lo) (.inl rfl) hC (fun cx h => h.hP) (same_endQ _ _ _) (by simp [a]; omega) hr henv
  refine (callsIn_wide (n := 1)).1 (callsIn_of_wp_marks hf hb trivial (wpIn_mono hwp ?_))
  have fin : ∀ a' w', (∃ cx env σ vals, CF P w ok (fun b => w.heap.size ≤ b) [] [] cx ∧ a'.tmps.size = fn.ntmps ∧ Rel cx env σ vals a' w' ∧ looksK σ env rs fun as => retK S.lone σ as K) → LeavesInM Fence.wide 1 P fn a'.tmps (fun e w' => ∃ v' r us, e = .returned v' ∧ K r ∧ Below w.heap.size w w' ∧ RR (OkR ok S.lone w w' us) (fun b => w.heap.size ≤ b) w' r v' us ∧
      (∀ u ∈ us, ∀ b, blkOf u = some b → w.heap.size ≤ b) ∧ ∀ (i j : Nat) (u t : Value) (b : Nat), i ≠ j → us[i]? = some u → us[j]? = some t → blkOf u = some b → blkOf t ≠ some b) a'.defers .returning w' := by
    rintro a' w' ⟨cx', env', σ', vals', hC', hn', hr', hk⟩
    let cxE : Cx := { P := P, w0 := w, okA := ok, hA := hok }
    obtain ⟨P', w0', ok', hA', w1', keep', hk', defers', gh', lo', base', own', hown', pS', pV'⟩ := cx'
    obtain ⟨rfl, hw0', hown'', rfl, rfl, rfl, hgh, hlo, hkp, hdf, honce⟩ := hC'
    have hw2 : w0' = w := hw0'
    subst hw2
    have hown2 : own' = fun b => w0'.heap.size ≤ b := hown''
    subst hown2
    have hrE : Rel cxE env' σ' vals' ⟨a'.tmps, []⟩ w' := ⟨⟨hr'.s.below, hr'.s.one, hr'.s.len, hr'.s.sto, hr'.s.dis, ⟨hr'.s.below.size, fun b hb => hb.elim, fun _ _ hb => hb⟩, ⟨hr'.s.pin.vs, hr'.s.pin.len, hr'.s.pin.refr, hr'.s.pin.refb⟩⟩, hr'.env, rfl, fun x v hg => hg.elim, fun p hp => absurd hp (Nat.not_lt_zero p)⟩
    refine leaves (cx := cxE) ?_ (fun _ h => h) (Nat.le_refl _) a'.defers w' ?_ ?_ hrE
    · intro w2 hr2
      obtain ⟨as, vs', hk, hral, hlen', hrun'⟩ := looks_spec hr2 l rs _ hrs hk
      obtain ⟨r, us, h1, h2, h3, h4⟩ := ret_sound (fun _ h => h) hr2 hral hk
      exact ⟨_, results_run hres hl _ _ w2 vs' hlen' hrun', _, r, us, rfl, h1, hr2.s.below.to_below (fun _ h => h), h2, h3, h4⟩
    · intro d hd
      rw [hr'.defers] at hd
      obtain ⟨D, h2, h3, h4, h5⟩ := hdf d hd
      exact ⟨D, h2, (hr'.s.fr.same D h3).trans h4, h5⟩
    · rw [hr'.defers]; exact honce
  intro e a' w' hp
  cases e with
  | normal => exact fin a' w' hp
  | ret => exact fin a' w' hp
  | exit i =>
    obtain ⟨_, _, _, _, _, _, _, hk⟩ := hp
    exact (show False from hk).elim
  | _ => exact hp.elim
end
end Go.Dv
end
section
/-
  A function that writes what it is handed and whose condition holds keeps its contract in the model.
-/
set_option linter.unusedSimpArgs false
namespace Go.Dv
open Go.RowKit

theorem range_from (n : Nat) : ∀ m, (List.range (m + 1)).map (· + n) = n :: (List.range m).map (· + (n + 1)) := by
  intro m
  rw [List.range_succ_eq_map, List.map_cons, List.map_map]
  congr 1
  · omega
  · apply List.map_congr_left
    intro x _
    simp only [Function.comp]
    omega

theorem pinK_spec (σ : Sto) : ∀ (n : Nat) (K : List Nat → Prop), pinK σ n K → K ((List.range σ.length).map (· + n)) := by
  induction σ with
  | nil => intro n K h; exact h
  | cons s σ ih =>
    intro n K h
    have := ih (n + 1) (fun t => K (n :: t)) h
    rw [List.length_cons, range_from]
    exact this

theorem argEnvA_spec (l : List AV) : ∀ (n : Nat) (K : Env → Prop), argEnvA l n K → ∃ env, K env ∧ ∀ p, lookF p env = if n ≤ p then (l[p - n]?).getD .bad else .bad := by
  induction l with
  | nil => intro n K h; exact ⟨[], h, fun p => by simp [lookF]⟩
  | cons x l ih =>
    intro n K h
    obtain ⟨env, h1, h2⟩ := ih (n + 1) _ h
    refine ⟨_, h1, fun p => ?_⟩
    show (bif Nat.beq n p then x else lookF p env) = _
    by_cases hp : n = p
    · subst hp; simp
    · rw [nbeq hp, cond_false, h2 p]
      by_cases hlt : n ≤ p
      · rw [if_pos (show n + 1 ≤ p by omega), if_pos hlt]
        have : p - n = (p - (n + 1)) + 1 := by omega
        rw [this]; rfl
      · rw [if_neg (by omega), if_neg hlt]

theorem same_endM (pin : List Nat) (rs : List (Nat × Option (Bool × Nat))) (K : AV → Sto → Prop) : ∀ e, Same (endM pin rs K e) := by
  intro e env env' σ h
  cases e with
  | normal => exact looksK_same h σ rs _
  | ret => exact looksK_same h σ rs _
  | exit i => rfl

theorem raL_iff {ok : Nat → Prop} {σ : Sto} {vals : List Value} {w : World} (cs : List AV) : ∀ vs : List Value, RAL ok σ vals w cs vs → vs.length = cs.length ∧ ∀ (j : Nat) (c : AV) (v : Value), cs[j]? = some c → vs[j]? = some v → RA ok σ vals w c v := by
  induction cs with
  | nil => intro vs h; simp only [RAL] at h; subst h; exact ⟨rfl, fun j c v hc => by simp at hc⟩
  | cons c cs ih =>
    intro vs h
    simp only [RAL] at h
    obtain ⟨v, t, rfl, h1, h2⟩ := h
    obtain ⟨h3, h4⟩ := ih t h2
    refine ⟨by simp [h3], fun j c' v' hc hv => ?_⟩
    cases j with
    | zero => simp at hc hv; subst hc hv; exact h1
    | succ j => exact h4 j c' v' (by simpa using hc) (by simpa using hv)

theorem packA_ra {ok : Nat → Prop} {σ : Sto} {vals : List Value} {w : World} {as : List AV} {vs : List Value} (h : RAL ok σ vals w as vs) : RA ok σ vals w (packA as) (packV vs) := by
  have tup : RA ok σ vals w (.tup as) (.tuple vs.toArray) := by
    simp only [RA]; exact ⟨_, rfl, by simpa using h⟩
  cases as with
  | nil =>
    have h' := h
    simp only [RAL] at h'
    subst h'
    exact tup
  | cons a as =>
    have h' := h
    simp only [RAL] at h'
    obtain ⟨v, t, rfl, h1, h2⟩ := h'
    cases as with
    | nil => simp only [RAL] at h2; subst h2; exact h1
    | cons b as =>
      simp only [RAL] at h2
      obtain ⟨v2, t2, rfl, _, _⟩ := h2
      exact tup

section
variable {cx : Cx} {env : Env} {σ : Sto} {vals : List Value} {a : Act} {w' : World}

theorem meetsM_sound {P : Program} {f : Nat} {fn : Func} {c : Code} {pc : PC} {Γ : Ctx} {ps : List Nat} {rs : List (Nat × Option (Bool × Nat))} {mrun : List AV → Sto → (AV → Sto → Prop) → Prop} (hΓ : Sound P Γ) (hm : P.follows .mixedOrders = true) (hf : P.funcs[f]? = some fn) (hname : (fn.name == "runtime.NumGoroutine") = false) (hb : fn.body = some c)
    (hc : compC P fn.ntmps c = some (strip pc)) {l : List ResultVar} (hres : fn.results = l.toArray) (hrs : l.map (compR P) = rs.map some) (hl : l.length ≤ 4) (nargs : Nat) (hn : nargs ≤ fn.ntmps) (hargs : ∀ as σ K, mrun as σ K → as.length = nargs) (h : MeetsM Γ ps pc rs (mkM mrun)) : SoundAt P f (mkM mrun) := by
  refine ⟨fun e => (by cases e), fun e => (by cases e), fun _ _ _ _ _ e => (by cases e), fun _ _ _ _ _ _ _ _ h => (show False from h).elim, ?_⟩
  intro w ok hok σ0 vals0 as vs K _ hrel hral hrun
  refine ⟨enters_own hf hname hb, ?_⟩
  have hlen : vs.size = as.length := by simpa using hral.length
  have hle : as.length ≤ fn.ntmps := by rw [hargs as σ0 K hrun]; exact hn
  obtain ⟨env, henv, hlook⟩ := argEnvA_spec as 0 _ (h as σ0 K hrun)
  have henv := pinK_spec σ0 0 _ henv
  simp only [Nat.add_zero, List.map_id'] at henv
  have hpl : vals0.length = σ0.length := hrel.len
  let cx : Cx := mcx P w ok hok σ0 vals0
  let own : Nat → Prop := fun b => w.heap.size ≤ b ∨ Mut σ0 vals0 b
  let a : Act := { tmps := vs ++ Array.replicate (fn.ntmps - vs.size) undef, defers := [] }
  have hr : Rel cx env σ0 vals0 a w := by
    refine ⟨hrel, fun p => ?_, rfl, fun x v hg => hg.elim, fun p hp => absurd hp (Nat.not_lt_zero p)⟩
    rw [hlook p]
    simp only [Nat.zero_le, if_true, Nat.sub_zero]
    cases hx : as[p]? with
    | none => simp only [Option.getD_none, RA]
    | some x =>
      simp only [Option.getD_some]
      have hp : p < as.length := (List.getElem?_eq_some_iff.1 hx).1
      have hval : a.tmps.getD p undef = vs[p]'(by omega) := by
        rw [getD_eq]
        show ((vs ++ Array.replicate (fn.ntmps - vs.size) undef)[p]?).getD undef = _
        rw [Array.getElem?_append_left (by omega), Array.getElem?_eq_getElem (by omega)]; rfl
      rw [hval]
      exact (raL_iff as _ hral).2 p x _ hx (by simp [show p < vs.size from by omega])
  have hC : CF P w ok own σ0 vals0 cx := ⟨rfl, rfl, rfl, rfl, rfl, rfl, fun _ _ h => h, rfl, fun b h => h.elim, fun d hd => (by cases hd), List.Pairwise.nil⟩
  have hwp := code_sound (ps := ps) hΓ hm c pc hc (CF P w ok own σ0 vals0) Fence.wide 1 cx (endM (List.range σ0.length) rs K) env σ0 vals0 a w (.inr ⟨rfl, Nat.le_refl _, cf_wide P w ok own σ0 vals0 hpl, fun cx h => h.hP⟩) (.inl fun cx h => h.lo) (.inl rfl) hC (fun cx h => h.hP) (same_endM _ _ _) (by simp [a]; omega) hr henv
  refine (callsIn_wide (n := 1)).1 (callsIn_of_wp_marks hf hb trivial (wpIn_mono hwp ?_))
  have fin : ∀ a' w', (∃ cx env σ vals, CF P w ok own σ0 vals0 cx ∧ a'.tmps.size = fn.ntmps ∧ Rel cx env σ vals a' w' ∧ looksK σ env rs fun as => idsAVs as (List.range σ0.length) fun l => idsBox σ l l fun r => renAVs r as fun as => renSto σ r r fun σ => K (packA as) σ) →
      LeavesInM Fence.wide 1 P fn a'.tmps (fun e w' => ∃ v res σ1 vals1, e = .returned v ∧ K res σ1 ∧ RelS (mcx P w ok hok σ0 vals0) σ1 vals1 w' ∧ RA (Ok (mcx P w ok hok σ0 vals0) σ1 vals1 w') σ1 vals1 w' res v) a'.defers .returning w' := by
    rintro a' w' ⟨cx', env', σ', vals', hC', hn', hr', hk⟩
    obtain ⟨P', w0', ok', hA', w1', keep', hk', defers', gh', lo', base', own', hown', pS', pV'⟩ := cx'
    obtain ⟨rfl, hw0', hown'', hpS', hpV', hok', hgh, hlo, hkp, hdf, honce⟩ := hC'
    have hw2 : w0' = w := hw0'
    subst hw2
    have hown2 : own' = own := hown''
    subst hown2
    have hp2 : pS' = σ0 := hpS'
    subst hp2
    have hp3 : pV' = vals0 := hpV'
    subst hp3
    have hok2 : ok' = ok := hok'
    subst hok2
    let cxE : Cx := mcx P' w0' ok' hok pS' pV'
    have hrE : Rel cxE env' σ' vals' ⟨a'.tmps, []⟩ w' := ⟨⟨hr'.s.below, hr'.s.one, hr'.s.len, hr'.s.sto, hr'.s.dis, ⟨hr'.s.below.size, fun b hb => hb.elim, fun _ _ hb => hb⟩, ⟨hr'.s.pin.vs, hr'.s.pin.len, hr'.s.pin.refr, hr'.s.pin.refb⟩⟩, hr'.env, rfl, fun x v hg => hg.elim, fun p hp => absurd hp (Nat.not_lt_zero p)⟩
    refine leaves (cx := cxE) ?_ (fun _ h => h) (Nat.le_refl _) a'.defers w' ?_ ?_ hrE
    · intro w2 hr2
      obtain ⟨as, vs', hk, hral, hlen', hrun'⟩ := looks_spec hr2 l rs _ hrs hk
      obtain ⟨l1, hk, hl1, hp1⟩ := idsAVs_spec as _ _ List.nodup_range hk
      obtain ⟨r, hk, hrn, hp2⟩ := idsBox_spec σ' l1 l1 _ hl1 hk
      obtain ⟨as', hk, has⟩ := renAVs_spec r as _ hk
      obtain ⟨σ2, hk, h1, h2⟩ := renSto_spec σ' r r _ hk
      obtain ⟨vals2, hA, hs2, hok2⟩ := ren_rel (cx := cxE) ⟨rfl, hpl⟩ (hp1.trans hp2) hrn h1 h2 hr2.s
      exact ⟨_, results_run hres hl _ _ w2 vs' hlen' hrun', _, _, σ2, vals2, rfl, hk, hs2, packA_ra (RenL.ra hA hok2 _ _ _ has hral)⟩
    · intro d hd
      rw [hr'.defers] at hd
      obtain ⟨D, h2, h3, h4, h5⟩ := hdf d hd
      exact ⟨D, h2, (hr'.s.fr.same D h3).trans h4, h5⟩
    · rw [hr'.defers]; exact honce
  intro e a' w' hp
  cases e with
  | normal => exact fin a' w' hp
  | ret => exact fin a' w' hp
  | exit i =>
    obtain ⟨_, _, _, _, _, _, _, hk⟩ := hp
    exact (show False from hk).elim
  | _ => exact hp.elim
end
end Go.Dv
end
section
/-
  Steps of a proof of 'Meets', each a small lemma that is applied.
-/
namespace Go.Dv

theorem wrap64 {n : Int} (h : -9223372036854775808 ≤ n ∧ n ≤ 9223372036854775807) : IntKind.i64.wrap n = n := by
  have hb : IntKind.i64.bits = 64 := rfl
  simp only [IntKind.wrap, IntKind.signed, hb]
  have : (2 : Int) ^ 64 = 18446744073709551616 := by decide
  have : (2 : Int) ^ (64 - 1) = 9223372036854775808 := by decide
  simp_all
  omega

theorem n64 {r n : Int} (hr : r = IntKind.i64.wrap n) (h : -9223372036854775808 ≤ n ∧ n ≤ 9223372036854775807) : r = n := hr.trans (wrap64 h)

theorem cmp {b : Bool} {p : Prop} (h : b = true ↔ p) : (b = true ∧ p) ∨ (b = false ∧ ¬ p) := by
  cases b with
  | true => exact .inl ⟨rfl, h.1 rfl⟩
  | false => exact .inr ⟨rfl, fun hp => by have := h.2 hp; cases this⟩

theorem N64 {n : Int} {K : Int → Prop} (h : -9223372036854775808 ≤ n ∧ n ≤ 9223372036854775807) (k : K n) : ∀ r : Int, r = IntKind.i64.wrap n → K r := fun r hr => by
  rw [n64 hr h]; exact k

theorem CMP {p : Prop} {K : Bool → Prop} (ht : p → K true) (hf : ¬ p → K false) : ∀ b : Bool, (b = true ↔ p) → K b := fun b hb => by
  cases b with
  | true => exact ht (hb.1 rfl)
  | false => exact hf fun hp => by have := hb.2 hp; cases this

theorem EQI {n : Int} {K : Int → Prop} (k : K n) : ∀ r : Int, r = n → K r := fun r hr => by subst hr; exact k

theorem ctx_nil {P : Program} : Sound P (ctxOf []) := ctx_sound [] (fun _ h => by cases h)
theorem ctx_cons {P : Program} {f : Nat} {S : Spec} {l : List (Nat × Spec)} (h : SoundAt P f S) (ht : Sound P (ctxOf l)) : Sound P (ctxOf ((f, S) :: l)) := by
  intro g
  show SoundAt P g (Bool.rec (motive := fun _ => Spec) (ctxOf l g) S (Nat.beq f g))
  cases hb : Nat.beq f g with
  | true =>
    have := Nat.eq_of_beq_eq_true hb
    subst this
    exact h
  | false => exact ht g
end Go.Dv
end
section
/-
  What a law's statement asks, out of the contract of its function: it returns true, and each argument reads behind the call as it read before.
-/
namespace Go.Dv
open Go Go.ChangeShapes Go.WideShapes Go.ChangeAt Go.RowKit

/-- A call of a function whose contract ends in true. -/
theorem calls_true {P : Program} {f : FuncId} {S : Spec} (h : SoundAt P f S) (hmu : S.mu = false) {W : World} {args : Array Value} {ps : List PV} (hrd : RdL (fun b => b < W.heap.size) W ps args.toList) (hrun : S.run ps fun r => r = .pv (.bool true)) :
    Calls P f args W fun e w' => e = .returned (.bool true) ∧ Below W.heap.size W w' := by
  refine (h.2.2.1 W (fun b => b < W.heap.size) ps args _ hmu (fun _ hb => hb) hrd hrun).2.mono fun e w' he => ?_
  obtain ⟨v, r, us, rfl, rfl, hb, hr, _⟩ := he
  simp only [RR, Rd] at hr
  exact ⟨by rw [hr.1], hb⟩

theorem trodAll_below {H : Type} {enc : TypeId × Value → H} {P : Program} (hl : laidOutB P = true) {W W' : World} (hb : Below W.heap.size W W') : ∀ (ts : List TypeId) (vs : List Value) (ds : List (DataW H)) (ps : List MemPlace),
    (∀ t ∈ ts, P.readableRec t = true ∧ t < P.types.size) → DataW.TrodAll enc P W 0 (fun _ => true) true ts vs ds ps → (∀ x ∈ ps, x.block < W.heap.size) → DataW.TrodAll enc P W' 0 (fun b => decide (b < W.heap.size)) true ts vs ds ps := by
  intro ts
  induction ts with
  | nil =>
    intro vs ds ps _ h _
    obtain ⟨rfl, rfl, rfl⟩ := trodAll_nil h
    exact trodAll_mk0
  | cons t ts ih =>
    intro vs ds ps ht h hlt
    obtain ⟨v, vs', d, ds', p, q, rfl, rfl, rfl, h1, h2⟩ := trodAll_cons h
    exact ⟨p, q, Below.trod hl (ht t (by simp)).1 (ht t (by simp)).2 h1 hb (fun x hx => hlt x (by simp [hx])), ih _ _ _ (fun t' h' => ht t' (by simp [h'])) h2 (fun x hx => hlt x (by simp [hx])), rfl⟩

/-- What the row asks behind the call. -/
theorem post_true {H : Type} {enc : TypeId × Value → H} {P : Program} (hl : laidOutB P = true) {f : Func} {s : ChangeSpec} {apart fresh handsOn : Bool} {W W' : World} {args : Array Value} {ds gs : List (DataW H)} {before : List MemPlace} {tb : TypeId}
    (hts : ∀ t ∈ f.params.toList, P.readableRec t = true ∧ t < P.types.size) (hrt : f.resultTypes = #[tb]) (hub : P.underlying tb = some .bool) (hvars : s.vars = [])
    (hfn : s.fn H (ds ++ gs) = { results := [.lit (.bool true)], args := ds })
    (hW : DataW.Whole enc P f.params.toList s.vars apart W args.toList ds gs before) (hb : Below W.heap.size W W') :
    s.post enc P f apart fresh handsOn false W args (.bool true) W' := by
  have hlt := hW.lt
  have hW' := hW
  obtain ⟨p, q, hA, hV, rfl, _, _⟩ := hW
  rw [hvars] at hV
  obtain ⟨rfl, rfl⟩ := trodVars_none hV
  refine ⟨ds, [], p ++ [], [], p, [], hW', ?_, ?_, ?_, Below.frame hb _, fun h => by cases h⟩
  · rw [hfn, hrt]
    exact trodAll_cons_mk (shut_bool hub _) trodAll_mk0
  · rw [hfn]
    exact trodAll_below hl hb _ _ _ _ hts hA (fun x hx => by simpa using hlt x (by simpa using hx))
  · rw [hfn, hvars]
    simp [DataW.TrodVars]
end Go.Dv
end
section
/-
  Arguments of any shape that is made of numbers, truth values, strings, structs and slices: what stands in a world, read by the statement, is a value of the contracts.
-/
namespace Go.Dv
open Go Go.ChangeShapes Go.WideShapes Go.Deep

/-- The kinds of cells. -/
inductive CT where
  | bool
  | int (k : IntKind)
  | str
  | sl (ag : Bool) (cs : List CT)

mutual
def HasC : CT → PV → Prop
  | .bool, x => ∃ b, x = .bool b
  | .int k, x => ∃ n, x = .int k n ∧ (Lit.int k n).wf = true
  | .str, x => ∃ l, x = .str l ∧ l.length ≤ maxLen
  | .sl ag cs, x => ∃ els, x = .sl cs.length els ∧ els.length ≤ maxLen ∧ ∀ y ∈ els, (ag = true → ∃ zs, y = .agg zs ∧ HasL cs zs) ∧ (ag = false → HasL cs [y])
def HasL : List CT → List PV → Prop
  | [], xs => xs = []
  | c :: cs, xs => ∃ y ys, xs = y :: ys ∧ HasC c y ∧ HasL cs ys
end

theorem hasL_append : ∀ (cs ds : List CT) (xs ys : List PV), HasL cs xs → HasL ds ys → HasL (cs ++ ds) (xs ++ ys)
  | [], _, _, _, h, h2 => by simp only [HasL] at h; subst h; exact h2
  | c :: cs, ds, xs, ys, h, h2 => by
    simp only [HasL] at h
    obtain ⟨y, zs, rfl, h3, h4⟩ := h
    simp only [List.cons_append, HasL]
    exact ⟨_, _, rfl, h3, hasL_append cs ds zs ys h4 h2⟩
theorem hasL_len : ∀ (cs : List CT) (xs : List PV), HasL cs xs → xs.length = cs.length
  | [], _, h => by simp only [HasL] at h; subst h; rfl
  | c :: cs, xs, h => by
    simp only [HasL] at h
    obtain ⟨y, zs, rfl, h3, h4⟩ := h
    simp [hasL_len cs zs h4]

theorem hasC_one : ∀ (c : CT) (x : PV), HasC c x → x.one = true ∧ ∀ l, x ≠ .agg l
  | .bool, x, h => by simp only [HasC] at h; obtain ⟨b, rfl⟩ := h; exact ⟨rfl, by simp⟩
  | .int k, x, h => by simp only [HasC] at h; obtain ⟨b, rfl, _⟩ := h; exact ⟨rfl, by simp⟩
  | .str, x, h => by simp only [HasC] at h; obtain ⟨b, rfl, _⟩ := h; exact ⟨rfl, by simp⟩
  | .sl _ _, x, h => by simp only [HasC] at h; obtain ⟨b, rfl, _⟩ := h; exact ⟨rfl, by simp⟩
theorem hasL_one : ∀ (cs : List CT) (xs : List PV), HasL cs xs → ∀ x ∈ xs, x.one = true
  | [], _, h => by simp only [HasL] at h; subst h; simp
  | c :: cs, xs, h => by
    simp only [HasL] at h
    obtain ⟨y, zs, rfl, h3, h4⟩ := h
    intro x hx
    rcases List.mem_cons.1 hx with rfl | hx
    · exact (hasC_one c _ h3).1
    · exact hasL_one cs zs h4 x hx

def isAg (P : Program) (e : TypeId) : Bool := match P.underlying e with | some (.struct _) => true | some (.array _ _) => true | _ => false

/-- The fields of a struct, one behind the other. -/
noncomputable def flatFs (P : Program) (g : TypeId → Option (List CT)) : List Field → Nat → Option (List CT) :=
  fun l => List.rec (motive := fun _ => Nat → Option (List CT)) (fun _ => some []) (fun f _ ih off =>
    (g f.type).bind fun cs => bif Nat.beq f.offset off && Nat.beq cs.length (P.cellsOf f.type) then (ih (off + cs.length)).map fun ds => cs ++ ds else none) l

/-- The cells of an array's elements. -/
noncomputable def repK (cs : List CT) (m : Nat) : List CT := Nat.rec (motive := fun _ => List CT) [] (fun _ ih => cs ++ ih) m
/-- The cells of a type. -/
noncomputable def flatT (P : Program) (n : Nat) : TypeId → Option (List CT) :=
  Nat.rec (motive := fun _ => TypeId → Option (List CT)) (fun _ => none) (fun _ ih t =>
    match P.underlying t with
    | some .bool => some [.bool]
    | some (.int k) => some [.int k]
    | some .string => some [.str]
    | some (.slice e) => (ih e).bind fun cs => bif Nat.beq cs.length (P.cellsOf e) && Nat.ble 1 cs.length && (isAg P e || Nat.beq cs.length 1) then some [.sl (isAg P e) cs] else none
    | some (.struct fs) => (flatFs P ih fs.toList 0).bind fun cs => bif Nat.beq cs.length (P.cellsOf t) then some cs else none
    | some (.array m e) => bif Nat.ble m 64 then (ih e).bind fun cs => bif Nat.beq cs.length (P.cellsOf e) && Nat.beq (m * cs.length) (P.cellsOf t) then some (repK cs m) else none else none
    | _ => none) n

section
variable {H : Type} {enc : TypeId × Value → H} {P : Program} {w : World} {base : Nat} {spare : Nat → Bool} {held : Bool}

theorem rdCs_of (ok : Nat → Prop) (b : Nat) : ∀ (xs : List PV) (vs : List Value) (o : Nat), RdL ok w xs vs → (∀ j, j < vs.length → w.cell? ⟨b, o + j, none⟩ = vs[j]?) → (∀ x ∈ xs, x.one = true) → RdCs ok w b o xs := by
  intro xs
  induction xs with
  | nil => intro vs o _ _ _; simp [RdCs]
  | cons x xs ih =>
    intro vs o h hc h1
    simp only [RdL] at h
    obtain ⟨v, r, rfl, h2, h3⟩ := h
    simp only [RdCs]
    refine ⟨⟨h1 x (by simp), v, by simpa using hc 0 (by simp), h2⟩, ih r (o + 1) h3 (fun j hj => ?_) (fun y hy => h1 y (by simp [hy]))⟩
    have := hc (j + 1) (by simp; omega)
    simp at this
    rw [← this]; congr 2; omega

theorem rdRow_of (ok : Nat → Prop) (b sz : Nat) (f : Nat → PV) : ∀ (k i o : Nat), (∀ j, i ≤ j → j < i + k → RdRow ok w b sz (o + (j - i) * sz) [f j]) → RdRow ok w b sz o ((List.range' i k).map f) := by
  intro k
  induction k with
  | zero => intro i o _; simp [RdRow]
  | succ k ih =>
    intro i o h
    rw [List.range'_succ, List.map_cons]
    have h0 := h i (Nat.le_refl _) (by omega)
    rw [Nat.sub_self, Nat.zero_mul, Nat.add_zero] at h0
    have h1 := ih (i + 1) (o + sz) (fun j h1 h2 => by
      have := h j (by omega) (by omega)
      rw [show o + sz + (j - (i + 1)) * sz = o + (j - i) * sz by
        obtain ⟨q, rfl⟩ : ∃ q, j = i + 1 + q := ⟨j - (i + 1), by omega⟩
        rw [show i + 1 + q - (i + 1) = q by omega, show i + 1 + q - i = q + 1 by omega, Nat.add_mul, Nat.one_mul]; omega]
      exact this)
    generalize f i = x at h0
    cases x <;> (simp only [RdRow] at h0 ⊢; exact ⟨h0.1, h1⟩)

theorem flatFs_rd (ok : Nat → Prop) {n k : Nat} (ih : ∀ (t : TypeId) (cs : List Value) (x : DataW H × List MemPlace) (cts : List CT), flatT P n t = some cts → DataW.trod enc P w base spare held k t cs = some x → ∃ xs, HasL cts xs ∧ RdL ok w xs cs) (cs : List Value) :
    ∀ (l : List Field) (off : Nat) (cts : List CT), flatFs P (flatT P n) l off = some cts → off + cts.length = cs.length → (∀ (i : Nat) (f : Field), l[i]? = some f → ∃ x, DataW.trod enc P w base spare held k f.type ((cs.drop f.offset).take (P.cellsOf f.type)) = some x) → ∃ xs, HasL cts xs ∧ RdL ok w xs (cs.drop off) := by
  intro l
  induction l with
  | nil =>
    intro off cts h hl _
    simp only [flatFs] at h
    injection h with h
    subst h
    exact ⟨[], by simp [HasL], by simp only [RdL]; exact List.drop_eq_nil_of_le (by simp at hl; omega)⟩
  | cons f l ihl =>
    intro off cts h hl hx
    have h' : ((flatT P n f.type).bind fun cs => bif Nat.beq f.offset off && Nat.beq cs.length (P.cellsOf f.type) then (flatFs P (flatT P n) l (off + cs.length)).map fun ds => cs ++ ds else none) = some cts := h
    obtain ⟨c1, h1, h2⟩ := Option.bind_eq_some_iff.1 h'
    cases hb : (Nat.beq f.offset off && Nat.beq c1.length (P.cellsOf f.type)) with
    | false => rw [hb] at h2; cases h2
    | true =>
      rw [hb] at h2
      simp only [cond_true] at h2
      obtain ⟨c2, h3, rfl⟩ := Option.map_eq_some_iff.1 h2
      rw [Bool.and_eq_true] at hb
      have e1 := Nat.eq_of_beq_eq_true hb.1
      have e2 := Nat.eq_of_beq_eq_true hb.2
      obtain ⟨x, hx0⟩ := hx 0 f rfl
      obtain ⟨xs1, g1, g2⟩ := ih _ _ _ _ h1 hx0
      rw [List.length_append] at hl
      obtain ⟨xs2, g3, g4⟩ := ihl (off + c1.length) c2 h3 (by omega) (fun i f' hf => hx (i + 1) f' (by simpa using hf))
      refine ⟨xs1 ++ xs2, hasL_append _ _ _ _ g1 g3, ?_⟩
      rw [rdL_append]
      rw [e1, ← e2] at g2
      refine ⟨_, _, ?_, g2, g4⟩
      rw [← List.drop_drop, List.take_append_drop]

/-- What the statement reads is a value of the contracts. -/
theorem flat_rd (ok : Nat → Prop) (hok : ∀ b, b < w.heap.size → ok b) : ∀ (n k : Nat) (t : TypeId) (cs : List Value) (x : DataW H × List MemPlace) (cts : List CT), flatT P n t = some cts → DataW.trod enc P w base spare held k t cs = some x → ∃ xs, HasL cts xs ∧ RdL ok w xs cs := by
  intro n
  induction n with
  | zero => intro k t cs x cts h; cases h
  | succ n ih =>
    intro k t cs x cts h hx
    have h' : (match P.underlying t with
      | some .bool => some [CT.bool]
      | some (.int k) => some [CT.int k]
      | some .string => some [CT.str]
      | some (.slice e) => (flatT P n e).bind fun cs => bif Nat.beq cs.length (P.cellsOf e) && Nat.ble 1 cs.length && (isAg P e || Nat.beq cs.length 1) then some [CT.sl (isAg P e) cs] else none
      | some (.struct fs) => (flatFs P (flatT P n) fs.toList 0).bind fun cs => bif Nat.beq cs.length (P.cellsOf t) then some cs else none
      | some (.array m e) => bif Nat.ble m 64 then (flatT P n e).bind fun cs => bif Nat.beq cs.length (P.cellsOf e) && Nat.beq (m * cs.length) (P.cellsOf t) then some (repK cs m) else none else none
      | _ => none) = some cts := h
    split at h'
    · rename_i ht
      injection h' with h'; subst h'
      obtain ⟨b, rfl, _⟩ := DataW.trod_bool ht hx
      exact ⟨[.bool b], by simp [HasL, HasC], by simp [RdL, Rd]⟩
    · rename_i kk ht
      injection h' with h'; subst h'
      obtain ⟨b, rfl, _, hw⟩ := DataW.trod_int ht hx
      exact ⟨[.int kk b], by simp [HasL, HasC, hw], by simp [RdL, Rd]⟩
    · rename_i ht
      injection h' with h'; subst h'
      obtain ⟨s, rfl, _, hs⟩ := DataW.trod_string ht hx
      exact ⟨[.str s.data.toList], by simp [HasL, HasC]; exact hs, by simp [RdL, Rd]⟩
    · rename_i e ht
      obtain ⟨c1, h1, h2⟩ := Option.bind_eq_some_iff.1 h'
      cases hb : (Nat.beq c1.length (P.cellsOf e) && Nat.ble 1 c1.length && (isAg P e || Nat.beq c1.length 1)) with
      | false => rw [hb] at h2; cases h2
      | true =>
        rw [hb] at h2
        simp only [cond_true, Option.some.injEq] at h2
        subst h2
        rw [Bool.and_eq_true, Bool.and_eq_true] at hb
        have e1 := Nat.eq_of_beq_eq_true hb.1.1
        have e2 := Nat.le_of_ble_eq_true hb.1.2
        rcases open_slice ht hx with ⟨rfl, _⟩ | ⟨a, len, cap, m, q, D, Pl, rfl, hba, hl, hm, hmm, _, hel⟩
        · refine ⟨[.sl c1.length []], ?_, ?_⟩
          · simp only [HasL, HasC]
            exact ⟨_, _, rfl, ⟨[], rfl, by simp, by simp⟩, rfl⟩
          · simp only [RdL, Rd]
            exact ⟨_, _, rfl, ⟨none, 0, rfl, by simp, by simp [maxLen], .inl trivial⟩, rfl⟩
        · have hlm : len ≤ m := by rw [hmm]; split <;> omega
          have each : ∀ i, i < len → ∃ q : List PV × List Value, HasL c1 q.1 ∧ RdL ok w q.1 q.2 ∧ q.2.length = c1.length ∧ ∀ j, j < c1.length → w.cell? ((a.add (i * c1.length)).add j) = q.2[j]? := by
            intro i hi
            obtain ⟨cs', g1, g2⟩ := hel i (by omega)
            obtain ⟨xs, g3, g4⟩ := ih _ _ _ _ _ h1 g2
            obtain ⟨_, g5, g6⟩ := World.cells?_some g1
            exact ⟨(xs, cs'), g3, g4, by rw [g5, e1], fun j hj => by rw [e1]; exact g6 j (by omega)⟩
          obtain ⟨f, hf⟩ := choose_lt each
          have hlr : ((List.range' 0 len).map fun i => if isAg P e = true then PV.agg (f i).1 else (f i).1.headD (.nil 0)).length = len := by simp
          refine ⟨[.sl c1.length ((List.range' 0 len).map fun i => if isAg P e = true then PV.agg (f i).1 else (f i).1.headD (.nil 0))], ?_, ?_⟩
          · simp only [HasL, HasC]
            refine ⟨_, _, rfl, ⟨_, rfl, by rw [hlr]; omega, ?_⟩, rfl⟩
            intro y hy
            obtain ⟨i, hi, rfl⟩ := List.mem_map.1 hy
            have hi : i < len := by simp at hi; exact hi
            refine ⟨fun hg => ?_, fun hg => ?_⟩
            · rw [if_pos hg]; exact ⟨_, rfl, (hf i hi).1⟩
            · rw [if_neg (by rw [hg]; decide)]
              rw [hg, Bool.false_or] at hb
              have e3 := Nat.eq_of_beq_eq_true hb.2
              have h6 := (hf i hi).1
              have h7 := hasL_len _ _ h6
              rw [e3] at h7
              obtain ⟨z, hz⟩ := List.length_eq_one_iff.1 h7
              rw [hz] at h6 ⊢
              exact h6
          · simp only [RdL, Rd]
            refine ⟨_, _, rfl, ⟨some a, cap, by rw [hlr], by rw [hlr]; exact hl, hm, ?_⟩, rfl⟩
            by_cases h0 : len = 0
            · left; subst h0; rfl
            right
            obtain ⟨g1, g2, g3, g4⟩ := hf 0 (by omega)
            have hc0 := g4 0 (by omega)
            rw [Nat.zero_mul] at hc0
            have ea : (a.add 0).add 0 = a := rfl
            rw [ea] at hc0
            obtain ⟨v, hv⟩ : ∃ v, (f 0).2[0]? = some v := by rw [List.getElem?_eq_getElem (by omega)]; exact ⟨_, rfl⟩
            rw [hv] at hc0
            have hspot : a.spot = none := by
              unfold World.cell? at hc0
              split at hc0
              · split at hc0
                · cases hc0
                · rename_i hs; simpa using hs
              · cases hc0
            have hlt : a.block < w.heap.size := by
              unfold World.cell? at hc0
              split at hc0
              · rename_i hs
                by_cases hh : a.block < w.heap.size
                · exact hh
                · rw [Array.getElem?_eq_none (by omega)] at hs; cases hs
              · cases hc0
            have hadd : ∀ j, a.add j = ⟨a.block, a.off + j, none⟩ := by
              intro j
              unfold Addr.add
              split
              · rename_i h; subst h; obtain ⟨b, o, s⟩ := a; simp only at hspot; subst hspot; rfl
              · rfl
            refine ⟨a.block, a.off, ?_, hok _ hlt, ?_⟩
            · obtain ⟨b, o, s⟩ := a; simp only at hspot; subst hspot; rfl
            refine rdRow_of ok _ _ _ len 0 a.off (fun i _ hi => ?_)
            obtain ⟨g1, g2, g3, g4⟩ := hf i (by omega)
            rw [Nat.sub_zero]
            have g4' : ∀ j, j < (f i).2.length → w.cell? ⟨a.block, a.off + i * c1.length + j, none⟩ = (f i).2[j]? := by
              intro j hj
              rw [← g4 j (by omega), add_add, hadd, Nat.add_assoc]
            by_cases hg : isAg P e = true
            · rw [if_pos hg]
              simp only [RdRow]
              exact ⟨⟨hasL_len _ _ g1, rdCs_of ok _ _ _ _ g2 g4' (hasL_one _ _ g1)⟩, trivial⟩
            · rw [if_neg hg]
              have hg' : isAg P e = false := by simpa using hg
              rw [hg', Bool.false_or] at hb
              have e3 := Nat.eq_of_beq_eq_true hb.2
              have h7 := hasL_len _ _ g1
              rw [e3] at h7
              obtain ⟨z, hz⟩ := List.length_eq_one_iff.1 h7
              rw [hz] at g1 g2 ⊢
              have h8 := hasL_one _ _ g1 z (by simp)
              simp only [RdL] at g2
              obtain ⟨v', r, hv', h9, rfl⟩ := g2
              have h10 := g4' 0 (by rw [hv']; simp)
              rw [hv'] at h10
              have hna : ∀ l, z ≠ .agg l := by
                match c1, g1 with
                | c :: cs, g1 => simp only [HasL] at g1; obtain ⟨y, ys, hy, h11, _⟩ := g1; injection hy with hy _; subst hy; exact (hasC_one c _ h11).2
              show RdRow ok w a.block c1.length _ [z]
              cases z with
              | agg l => exact absurd rfl (hna l)
              | _ => simp only [RdRow]; exact ⟨⟨e3, h8, v', by simpa using h10, h9⟩, trivial⟩
    · rename_i fs ht
      obtain ⟨c1, h1, h2⟩ := Option.bind_eq_some_iff.1 h'
      cases hb : Nat.beq c1.length (P.cellsOf t) with
      | false => rw [hb] at h2; cases h2
      | true =>
        rw [hb] at h2
        simp only [cond_true, Option.some.injEq] at h2
        subst h2
        have e1 := Nat.eq_of_beq_eq_true hb
        obtain ⟨xs, q, rfl, _, hl, hxl, hf⟩ := DataW.trod_struct ht hx
        have := flatFs_rd (k := q) ok (fun t cs x cts => ih q t cs x cts) cs fs.toList 0 c1 h1 (by omega) (fun i f hi => ?_)
        · simpa using this
        · have hi' : fs[i]? = some f := by simpa using hi
          rw [hf i f hi']
          have : i < fs.size := by
            by_cases hh : i < fs.size
            · exact hh
            · rw [Array.getElem?_eq_none (by omega)] at hi'; cases hi'
          rw [List.getElem?_eq_getElem (by omega)]
          exact ⟨_, rfl⟩
    · rename_i m e ht
      cases hm : Nat.ble m 64 with
      | false => rw [hm] at h'; cases h'
      | true =>
        rw [hm] at h'
        simp only [cond_true] at h'
        obtain ⟨c1, h1, h2⟩ := Option.bind_eq_some_iff.1 h'
        cases hb : (Nat.beq c1.length (P.cellsOf e) && Nat.beq (m * c1.length) (P.cellsOf t)) with
        | false => rw [hb] at h2; cases h2
        | true =>
          rw [hb] at h2
          simp only [cond_true, Option.some.injEq] at h2
          subst h2
          rw [Bool.and_eq_true] at hb
          have e1 := Nat.eq_of_beq_eq_true hb.1
          have e2 := Nat.eq_of_beq_eq_true hb.2
          obtain ⟨xs, q, rfl, _, hl, hxl, hf⟩ := DataW.trod_array ht hx
          have main : ∀ (k i : Nat), i + k = m → ∃ ys, HasL (repK c1 k) ys ∧ RdL ok w ys (cs.drop (i * c1.length)) := by
            intro k
            induction k with
            | zero =>
              intro i hi
              refine ⟨[], by show HasL [] []; simp [HasL], ?_⟩
              simp only [RdL]
              exact List.drop_eq_nil_of_le (by rw [hl, ← e2, show i = m by omega]; exact Nat.le_refl _)
            | succ k ihk =>
              intro i hi
              have hget := hf i (by omega)
              have : i < xs.length := by omega
              rw [List.getElem?_eq_getElem this] at hget
              obtain ⟨ys1, g1, g2⟩ := ih _ _ _ _ _ h1 hget
              obtain ⟨ys2, g3, g4⟩ := ihk (i + 1) (by omega)
              refine ⟨ys1 ++ ys2, hasL_append _ _ _ _ g1 g3, ?_⟩
              rw [rdL_append]
              rw [← e1] at g2
              refine ⟨_, _, ?_, g2, g4⟩
              rw [Nat.add_mul, Nat.one_mul, ← List.drop_drop, List.take_append_drop]
          obtain ⟨ys, g1, g2⟩ := main m 0 (by omega)
          exact ⟨ys, g1, by simpa using g2⟩
    · cases h'
end
end Go.Dv
end
section
/-
  A law's arguments, all together: what the statement reads are values of the contract.
-/
namespace Go.Dv
open Go Go.ChangeShapes Go.WideShapes Go.Deep Go.RowKit

/-- Parameters, each by whether it is a struct and by its cells. -/
def HasPs : List (Bool × List CT) → List PV → Prop
  | [], xs => xs = []
  | p :: r, xs => ∃ y ys, xs = y :: ys ∧ (p.1 = true → ∃ zs, y = .agg zs ∧ HasL p.2 zs) ∧ (p.1 = false → HasL p.2 [y]) ∧ HasPs r ys

/-- The parameters' cells, of these types. -/
noncomputable def sigOf (P : Program) (ts : List TypeId) : List (Bool × Option (List CT)) := ts.map fun t => (isAg P t, flatT P 8 t)

section
variable {H : Type} {enc : TypeId × Value → H} {P : Program} {w : World} {base : Nat}

theorem okWide_one {n : Nat} {t : TypeId} {c : List CT} {v : Value} {r : Reach} {b0 : Nat} (hf : flatT P n t = some c) (ha : isAg P t = false) (hv : Value.okWide P w r b0 t v) : v.cells.toList = [v] := by
  cases n with
  | zero => cases hf
  | succ n =>
    have h' : (match P.underlying t with
      | some .bool => some [CT.bool]
      | some (.int k) => some [CT.int k]
      | some .string => some [CT.str]
      | some (.slice e) => (flatT P n e).bind fun cs => bif Nat.beq cs.length (P.cellsOf e) && Nat.ble 1 cs.length && (isAg P e || Nat.beq cs.length 1) then some [CT.sl (isAg P e) cs] else none
      | some (.struct fs) => (flatFs P (flatT P n) fs.toList 0).bind fun cs => bif Nat.beq cs.length (P.cellsOf t) then some cs else none
      | some (.array m e) => bif Nat.ble m 64 then (flatT P n e).bind fun cs => bif Nat.beq cs.length (P.cellsOf e) && Nat.beq (m * cs.length) (P.cellsOf t) then some (repK cs m) else none else none
      | _ => none) = some c := hf
    unfold isAg at ha
    split at h'
    · rename_i ht
      obtain ⟨b, rfl⟩ := okWide_bool ht hv
      rfl
    · rename_i ht
      obtain ⟨b, rfl⟩ := okWide_int ht hv
      rfl
    · rename_i ht
      obtain ⟨b, rfl⟩ := okWide_string ht hv
      rfl
    · rename_i ht
      obtain ⟨a, l, c, rfl⟩ := okWide_slice ht hv
      rfl
    · rename_i ht
      rw [ht] at ha
      cases ha
    · rename_i ht
      rw [ht] at ha
      cases ha
    · cases h'

theorem args_rd (ok : Nat → Prop) (hok : ∀ b, b < w.heap.size → ok b) {sp : Nat → Bool} {held : Bool} {r : Reach} {b0 : Nat} : ∀ (ts : List TypeId) (sig : List (Bool × List CT)) (vs : List Value) (ds : List (DataW H)) (ps : List MemPlace),
    sigOf P ts = sig.map (fun p => (p.1, some p.2)) → (∀ (j : Nat) t v, ts[j]? = some t → vs[j]? = some v → Value.okWide P w r b0 t v) → DataW.TrodAll enc P w base sp held ts vs ds ps → ∃ xs, HasPs sig xs ∧ RdL ok w xs vs := by
  intro ts
  induction ts with
  | nil =>
    intro sig vs ds ps hs _ h
    obtain ⟨rfl, rfl, rfl⟩ := trodAll_nil h
    cases sig with
    | nil => exact ⟨[], by simp [HasPs], by simp [RdL]⟩
    | cons => simp [sigOf] at hs
  | cons t ts ih =>
    intro sig vs ds ps hs hval h
    obtain ⟨v, vs', d, ds', p, q, rfl, rfl, rfl, h1, h2⟩ := trodAll_cons h
    cases sig with
    | nil => simp [sigOf] at hs
    | cons s sig =>
      simp only [sigOf, List.map_cons, List.cons.injEq, Prod.mk.injEq] at hs
      obtain ⟨⟨hs1, hs2⟩, hs3⟩ := hs
      obtain ⟨xs, g1, g2⟩ := ih sig vs' ds' q hs3 (fun j t v ht hv => hval (j + 1) t v (by simpa using ht) (by simpa using hv)) h2
      obtain ⟨k, hk⟩ := h1
      obtain ⟨ys, g3, g4⟩ := flat_rd ok hok 8 k t _ _ _ hs2 hk
      have hv := hval 0 t v rfl rfl
      cases hag : isAg P t with
      | false =>
        rw [okWide_one hs2 hag hv] at g4
        match ys, g4 with
        | [], g4 => simp only [RdL] at g4; cases g4
        | y :: ys, g4 =>
          simp only [RdL] at g4
          obtain ⟨v', r, e, g5, g6⟩ := g4
          injection e with e1 e2
          subst e1; subst e2
          have : ys = [] := by
            cases ys with
            | nil => rfl
            | cons z zs => simp only [RdL] at g6; obtain ⟨_, _, e, _⟩ := g6; cases e
          subst this
          refine ⟨y :: xs, ?_, ?_⟩
          · simp only [HasPs]
            exact ⟨y, xs, rfl, fun h => absurd (hs1.trans h) (by rw [hag]; decide), fun _ => g3, g1⟩
          · simp only [RdL]
            exact ⟨v, vs', rfl, g5, g2⟩
      | true =>
        have hst : ∃ cs, v = .agg cs := by
          unfold isAg at hag
          split at hag
          · rename_i fs h; obtain ⟨cs, h, _⟩ := okWide_struct h hv; exact ⟨cs, h⟩
          · rename_i m e h
            simp only [Value.okWide, h] at hv
            obtain ⟨cs, h1, _⟩ := hv
            exact ⟨cs, h1⟩
          · cases hag
        obtain ⟨cs, rfl⟩ := hst
        refine ⟨.agg ys :: xs, ?_, ?_⟩
        · simp only [HasPs]
          exact ⟨_, xs, rfl, fun _ => ⟨ys, rfl, g3⟩, fun h => absurd (hs1.trans h) (by rw [hag]; decide), g1⟩
        · simp only [RdL, Rd]
          exact ⟨_, vs', rfl, ⟨fun c hc => by exact hasL_one _ _ g3 c hc, cs, rfl, by simpa [Value.cells] using g4⟩, g2⟩

/-- A call of a law. -/
theorem calls_law {f : FuncId} {S : Spec} (h : SoundAt P f S) (hmu : S.mu = false) {sig : List (Bool × List CT)} (hrun : ∀ xs, HasPs sig xs → S.run xs fun r => r = .pv (.bool true)) {ts : List TypeId} (hsig : sigOf P ts = sig.map (fun p => (p.1, some p.2)))
    {args : Array Value} {ds : List (DataW H)} {ps : List MemPlace} {r : Reach} {b0 : Nat} (hval : ∀ (j : Nat) t v, ts[j]? = some t → args.toList[j]? = some v → Value.okWide P w r b0 t v) (hA : DataW.TrodAll enc P w 0 (fun _ => true) true ts args.toList ds ps) :
    Calls P f args w fun e w' => e = .returned (.bool true) ∧ Below w.heap.size w w' := by
  obtain ⟨xs, h1, h2⟩ := args_rd (fun b => b < w.heap.size) (fun _ hb => hb) ts sig _ _ _ hsig hval hA
  exact calls_true h hmu h2 (hrun xs h1)
end

theorem list_of {α : Type} {g : α → PV} {q : α → Prop} : ∀ {els : List PV}, (∀ y ∈ els, ∃ t, y = g t ∧ q t) → ∃ l : List α, els = l.map g ∧ ∀ t ∈ l, q t := by
  intro els
  induction els with
  | nil => intro _; exact ⟨[], rfl, by simp⟩
  | cons y ys ih =>
    intro h
    obtain ⟨t, rfl, ht⟩ := h y (by simp)
    obtain ⟨l, rfl, hl⟩ := ih fun z hz => h z (by simp [hz])
    exact ⟨t :: l, rfl, by simpa using ⟨ht, hl⟩⟩
end Go.Dv
end
section
/-
  Steps of a proof of 'Meets' that a walk applies one after the other.
-/
namespace Go.Dv

theorem NOT_t {K : Bool → Prop} (k : K false) : ∀ r : Bool, (r = true ↔ (true = false)) → K r := fun r hr => by
  cases r with
  | false => exact k
  | true => exact absurd (hr.1 rfl) (by decide)
theorem NOT_f {K : Bool → Prop} (k : K true) : ∀ r : Bool, (r = true ↔ (false = false)) → K r := fun r hr => by
  cases r with
  | true => exact k
  | false => exact absurd (hr.2 rfl) (by decide)
theorem CMP_t {p : Prop} {K : Bool → Prop} (h : p) (k : K true) : ∀ b : Bool, (b = true ↔ p) → K b := fun b hb => by
  rw [hb.2 h]; exact k
theorem CMP_f {p : Prop} {K : Bool → Prop} (h : ¬ p) (k : K false) : ∀ b : Bool, (b = true ↔ p) → K b := fun b hb => by
  cases b with
  | false => exact k
  | true => exact absurd (hb.1 rfl) h
theorem MAX {a b : Int} {K : Int → Prop} (k : K (max a b)) : ∀ r : Int, r = max a b → K r := fun r hr => by subst hr; exact k
theorem MIN {a b : Int} {K : Int → Prop} (k : K (min a b)) : ∀ r : Int, r = min a b → K r := fun r hr => by subst hr; exact k
theorem QUO {a b : Int} {K : Int → Prop} (h : 0 ≤ a ∧ 0 < b ∧ a ≤ 9223372036854775807) (k : K (a / b)) : b ≠ 0 ∧ ∀ r : Int, r = IntKind.i64.wrap (a.tdiv b) → K r := by
  refine ⟨by omega, fun r hr => ?_⟩
  rw [Int.tdiv_eq_ediv_of_nonneg h.1] at hr
  have h1 := Int.ediv_le_self b h.1
  have h2 := Int.ediv_nonneg h.1 (Int.le_of_lt h.2.1)
  rw [wrap64 (by omega)] at hr
  subst hr; exact k
theorem REM {a b : Int} {K : Int → Prop} (h : 0 ≤ a ∧ 0 < b) (k : K (a % b)) : b ≠ 0 ∧ ∀ r : Int, r = a.tmod b → K r := by
  refine ⟨by omega, fun r hr => ?_⟩
  rw [Int.tmod_eq_emod_of_nonneg h.1] at hr
  subst hr; exact k
theorem OWN {α : Type} {f : α → PV} {l : List α} {i : Int} {p : Prop} (h : 0 ≤ i ∧ i < l.length) (k : p) : (0 ≤ i ∧ i.toNat < (l.map f).length) ∧ p := by
  rw [List.length_map]; exact ⟨⟨h.1, by omega⟩, k⟩
theorem U8m {n : Int} {K : Int → Prop} (k : K (n % 256)) : ∀ r : Int, r = IntKind.u8.wrap n → K r := fun r hr => by
  have e : IntKind.u8.wrap n = n % 256 := by
    have hb : IntKind.u8.bits = 8 := rfl
    simp only [IntKind.wrap, IntKind.signed, hb]
    simp
  rw [hr, e]; exact k
theorem SHR {j : IntKind} {a b : Int} {K : Int → Prop} (hj : 8 ≤ j.bits) (h : 0 ≤ b ∧ b ≤ 8 ∧ 0 ≤ a) (k : 0 ≤ a / (2 ^ b.toNat : Nat) ∧ a / (2 ^ b.toNat : Nat) ≤ a → K (a / (2 ^ b.toNat : Nat))) : 0 ≤ b ∧ ∀ r : Int, r = a.fdiv (2 ^ min b.toNat j.bits) → K r := by
  refine ⟨h.1, fun r hr => ?_⟩
  have e8 : min b.toNat j.bits = b.toNat := by omega
  have hp : 0 ≤ ((2 ^ b.toNat : Nat) : Int) := Int.natCast_nonneg _
  rw [e8, show ((2 : Int) ^ b.toNat) = ((2 ^ b.toNat : Nat) : Int) by simp, Int.fdiv_eq_ediv_of_nonneg _ hp] at hr
  subst hr; exact k ⟨Int.ediv_nonneg h.2.2 hp, Int.ediv_le_self _ h.2.2⟩
/-- A contract of a question. -/
def fnB (R : List PV → Prop → Prop) : Spec := mkS true true fun ps K => ∃ p, R ps p ∧ ∀ r : Bool, (r = true ↔ p) → K (.pv (.bool r))
theorem fnB_ok (R : List PV → Prop → Prop) : FnOk (fnB R) := by
  refine ⟨fun _ => ⟨rfl, fun ps K h => ?_⟩, fun _ _ h => h, rfl⟩
  obtain ⟨p, h1, h2⟩ := h
  refine ⟨.bool (@decide p (Classical.propDecidable p)), h2 _ (by simp), fun K' h => ⟨p, h1, fun r hr => ?_⟩⟩
  have : r = @decide p (Classical.propDecidable p) := by
    cases r <;> simp_all
  rw [this]; exact h
/-- What two numbers come to bit by bit, as it stands. -/
theorem BITS {op : BinOp} {j : IntKind} {a b : Int} {K : Int → Prop} (k : K (bitsOp op j a b)) : ∀ r : Int, r = bitsOp op j a b → K r := fun r hr => by rw [hr]; exact k
end Go.Dv
end
section
/-
  Short names in which compiled code is written down.
-/
namespace Go.Dv.Sh
abbrev t (n : Nat) : Operand := .tmp n
abbrev k (n : Int) : Operand := .const (.int .i64 n)
abbrev o (d : Nat) (p : PK) : PO := ⟨some d, none, p⟩
abbrev q (g : Nat) (p : PO) : PO := ⟨p.dst, some (g, true), p.k⟩
abbrev Q (g : Nat) (p : PO) : PO := ⟨p.dst, some (g, false), p.k⟩
abbrev m (d x : Nat) : PO := ⟨some d, none, .mv (.tmp x)⟩
abbrev M (d : Nat) (n : Int) : PO := ⟨some d, none, .mv (.const (.int .i64 n))⟩
abbrev b (d : Nat) (p : BinOp) (x y : Nat) : PO := ⟨some d, none, .bin p (.tmp x) (.tmp y)⟩
abbrev B (d : Nat) (p : BinOp) (x : Nat) (y : Int) : PO := ⟨some d, none, .bin p (.tmp x) (.const (.int .i64 y))⟩
abbrev l (d x : Nat) : PO := ⟨some d, none, .load false 1 (.tmp x)⟩
abbrev L (d n x : Nat) : PO := ⟨some d, none, .load true n (.tmp x)⟩
abbrev f (d p x : Nat) : PO := ⟨some d, none, .fldA p (.tmp x)⟩
abbrev i (d s x y : Nat) : PO := ⟨some d, none, .idxA s (.tmp x) (.tmp y)⟩
abbrev e (d x n : Nat) : PO := ⟨some d, none, .ext (.tmp x) n⟩
abbrev s (n x y : Nat) : PO := ⟨none, none, .store n (.tmp x) (.tmp y)⟩
abbrev S (n x : Nat) (y : Int) : PO := ⟨none, none, .store n (.tmp x) (.const (.int .i64 y))⟩
abbrev p (d c x y : Nat) : PO := ⟨some d, none, .pick (.tmp c) (.tmp x) (.tmp y)⟩
abbrev n (d x : Nat) : PO := ⟨some d, none, .lenR (.tmp x)⟩
abbrev N (d x : Nat) : PO := ⟨some d, none, .lenN (.tmp x)⟩
abbrev c (d f : Nat) (l : List Operand) : PO := ⟨some d, none, .call f l⟩
abbrev u (d x : Nat) : PO := ⟨some d, none, .un .not (.tmp x)⟩
abbrev x (d y : Nat) : PO := ⟨some d, none, .box y (.tmp d)⟩
end Go.Dv.Sh
namespace Go.Dv
/-- A function's code in the program, as it is written down. -/
def CodeOf (P : Program) (f : Nat) (pc : PC) (ps : List Nat) (rs : List (Nat × Option (Bool × Nat))) (np : Nat) : Prop :=
  ∃ fn c l, P.funcs[f]? = some fn ∧ (fn.name == "runtime.NumGoroutine") = false ∧ fn.body = some c ∧ compC P fn.ntmps c = some (strip pc) ∧ fn.results = List.toArray l ∧ l.map (compR P) = rs.map some ∧ l.length ≤ 4 ∧ np ≤ fn.ntmps

theorem CodeOf.sound {P : Program} {f : Nat} {pc : PC} {ps : List Nat} {rs : List (Nat × Option (Bool × Nat))} {np : Nat} (w : CodeOf P f pc ps rs np) (hm : P.follows .mixedOrders = true) {Γ : Ctx} {S : Spec} (hΓ : Sound P Γ) (hS : FnOk S) (hargs : ∀ args K, S.run args K → args.length = np) (h : Meets Γ ps pc rs S) : SoundAt P f S := by
  obtain ⟨fn, c, l, h1, h2, h3, h4, h5, h6, h7, h8⟩ := w
  exact meets_sound hΓ hm h1 h2 h3 h4 h5 h6 h7 hS np h8 hargs h
theorem CodeOf.soundM {P : Program} {f : Nat} {pc : PC} {ps : List Nat} {rs : List (Nat × Option (Bool × Nat))} {np : Nat} (w : CodeOf P f pc ps rs np) (hm : P.follows .mixedOrders = true) {Γ : Ctx} {mrun : List AV → Sto → (AV → Sto → Prop) → Prop} (hΓ : Sound P Γ) (hargs : ∀ xs σ K, mrun xs σ K → xs.length = np) (h : MeetsM Γ ps pc rs (mkM mrun)) : SoundAt P f (mkM mrun) := by
  obtain ⟨fn, c, l, h1, h2, h3, h4, h5, h6, h7, h8⟩ := w
  exact meetsM_sound hΓ hm h1 h2 h3 h4 h5 h6 h7 np h8 hargs h
end Go.Dv
end
section
/-
  Short names of values, and bits of numbers.
-/
namespace Go.Dv
abbrev pI (n : Int) : PV := .int .i64 n
abbrev pB (b : Bool) : PV := .bool b
theorem ofInt_nat {n : Nat} {w : Nat} (h : n < 2 ^ w) : (BitVec.ofInt w (n : Int)).toNat = n := by
  rw [BitVec.ofInt_natCast, BitVec.toNat_ofNat, Nat.mod_eq_of_lt h]

theorem wrapI64n {n : Nat} (h : n < 2 ^ 62) : IntKind.i64.wrap (n : Int) = n := by
  have : (2 : Nat) ^ 62 = 4611686018427387904 := by decide
  exact wrap64 (by omega)

theorem or64 {a b : Nat} (ha : a < 2 ^ 62) (hb : b < 2 ^ 62) : bitsOp .or .i64 (a : Int) (b : Int) = ((a ||| b : Nat) : Int) := by
  unfold bitsOp
  have h1 := Nat.or_lt_two_pow ha hb
  have e : IntKind.i64.bits = 64 := rfl
  simp only [e, BitVec.toNat_or]
  rw [ofInt_nat (Nat.lt_of_lt_of_le ha (by decide)), ofInt_nat (Nat.lt_of_lt_of_le hb (by decide))]
  exact wrapI64n h1

theorem and64 {a b : Nat} (ha : a < 2 ^ 62) (hb : b < 2 ^ 62) : bitsOp .and .i64 (a : Int) (b : Int) = ((a &&& b : Nat) : Int) := by
  unfold bitsOp
  have h1 : a &&& b < 2 ^ 62 := Nat.lt_of_le_of_lt Nat.and_le_left ha
  have e : IntKind.i64.bits = 64 := rfl
  simp only [e, BitVec.toNat_and]
  rw [ofInt_nat (Nat.lt_of_lt_of_le ha (by decide)), ofInt_nat (Nat.lt_of_lt_of_le hb (by decide))]
  exact wrapI64n h1

theorem wrap8n {n : Nat} (h : n < 256) : IntKind.u8.wrap (n : Int) = n := by
  have hb : IntKind.u8.bits = 8 := rfl
  simp only [IntKind.wrap, IntKind.signed, hb]
  simp; omega

theorem or8 {a b : Nat} (ha : a < 256) (hb : b < 256) : bitsOp .or .u8 (a : Int) (b : Int) = ((a ||| b : Nat) : Int) := by
  unfold bitsOp
  have h1 : a ||| b < 2 ^ 8 := Nat.or_lt_two_pow ha hb
  have e : IntKind.u8.bits = 8 := rfl
  simp only [e, BitVec.toNat_or]
  rw [ofInt_nat ha, ofInt_nat hb]
  exact wrap8n h1

theorem and8 {a b : Nat} (ha : a < 256) (hb : b < 256) : bitsOp .and .u8 (a : Int) (b : Int) = ((a &&& b : Nat) : Int) := by
  unfold bitsOp
  have h1 : a &&& b < 256 := Nat.lt_of_le_of_lt Nat.and_le_left ha
  have e : IntKind.u8.bits = 8 := rfl
  simp only [e, BitVec.toNat_and]
  rw [ofInt_nat ha, ofInt_nat hb]
  exact wrap8n h1

/-- Bits that lie above others. -/
theorem or_add {a k b : Nat} (h : a < 2 ^ k) : a ||| (2 ^ k * b) = a + 2 ^ k * b := by
  rw [Nat.or_comm, ← Nat.two_pow_add_eq_or_of_lt h, Nat.add_comm]

theorem and_mod (a k : Nat) : a &&& (2 ^ k - 1) = a % 2 ^ k := Nat.and_two_pow_sub_one_eq_mod a k

/-- A byte. -/
def byteN (n : Nat) : UInt8 := UInt8.ofNat n
theorem byteN_toNat {n : Nat} (h : n < 256) : (byteN n).toNat = n := by simp [byteN]; omega
theorem byteP_of {n : Int} (h : 0 ≤ n ∧ n < 256) : PV.int .u8 n = byteP (byteN n.toNat) := by
  unfold byteP; rw [byteN_toNat (by omega)]
  congr 1; omega

theorem pI_eq {a b : Int} (h : a = b) : pI a = pI b := by rw [h]
theorem pB_eq {a b : Bool} (h : a = true ↔ b = true) : pB a = pB b := by
  cases a <;> cases b <;> simp_all
theorem U64 {n : Int} {K : Int → Prop} (h : 0 ≤ n ∧ n ≤ 9223372036854775807) (k : K n) : ∀ r : Int, r = IntKind.u64.wrap n → K r := fun r hr => by
  have e : IntKind.u64.wrap n = n := by
    have hb : IntKind.u64.bits = 64 := rfl
    simp only [IntKind.wrap, IntKind.signed, hb]
    simp
    omega
  rw [hr, e]; exact k
theorem SHR1 {j : IntKind} {a : Int} {K : Int → Prop} (h : 0 ≤ a) (k : K (a / 2)) : 0 ≤ (1 : Int) ∧ ∀ r : Int, r = a.fdiv (2 ^ min (1 : Int).toNat j.bits) → K r := by
  refine ⟨by decide, fun r hr => ?_⟩
  have e8 : min (1 : Int).toNat j.bits = 1 := by cases j <;> decide
  rw [e8, Int.fdiv_eq_ediv_of_nonneg _ (by decide)] at hr
  rw [hr]; exact k

/-- The element at a place is known. -/
theorem IDXh {α : Type} {f : α → PV} {l : List α} {i : Nat} {x : α} {K : PV → Prop} (h : l[i]? = some x) (k : K (f x)) : ∃ y, (0 ≤ (i : Int) ∧ (l.map f)[(i : Int).toNat]? = some y) ∧ K y :=
  ⟨f x, ⟨by omega, by rw [Int.toNat_natCast, List.getElem?_map, h]; rfl⟩, k⟩
theorem IDXhi {α : Type} {f : α → PV} {l : List α} {i : Int} {x : α} {K : PV → Prop} (h0 : 0 ≤ i) (h : l[i.toNat]? = some x) (k : K (f x)) : ∃ y, (0 ≤ i ∧ (l.map f)[i.toNat]? = some y) ∧ K y :=
  ⟨f x, ⟨h0, by rw [List.getElem?_map, h]; rfl⟩, k⟩
theorem GEThn {α : Type} {f : α → PV} {l : List α} {i : Nat} {x : α} {K : PV → Prop} (h : l[i]? = some x) (k : K (f x)) : ∃ y, (l.map f)[(i : Int).toNat]? = some y ∧ K y :=
  ⟨f x, by rw [Int.toNat_natCast, List.getElem?_map, h]; rfl, k⟩

/-- Bytes as a string. -/
theorem BTS {l : List UInt8} {K : List UInt8 → Prop} (k : K l) : ∃ l', l.map byteP = l'.map byteP ∧ K l' := ⟨l, rfl, k⟩
theorem lt_of_get {α : Type} {l : List α} {i : Nat} {x : α} (h : l[i]? = some x) : i < l.length := by
  by_cases hi : i < l.length
  · exact hi
  · rw [List.getElem?_eq_none (by omega)] at h; cases h
theorem set_map {α β : Type} {f : α → β} {l : List α} {i : Nat} {x : α} : (l.map f).set i (f x) = (l.set i x).map f := by rw [List.map_set]

/-- The values of a function at the first numbers. -/
def tab {α : Type} (f : Nat → α) (n : Nat) : List α := (List.range n).map f
section
variable {α : Type} {f g : Nat → α} {n : Nat}
@[simp] theorem tab_len : (tab f n).length = n := by simp [tab]
theorem tab_get {i : Nat} (h : i < n) : (tab f n)[i]? = some (f i) := by simp [tab, h]
theorem tab_ext (h : ∀ i, i < n → f i = g i) : tab f n = tab g n := by
  unfold tab; apply List.map_congr_left; intro i hi; exact h i (by simpa using hi)
theorem tab_set {i : Nat} {x : α} : (tab f n).set i x = tab (fun j => if j = i then x else f j) n := by
  apply List.ext_getElem?
  intro j
  by_cases hj : j < n
  · rw [tab_get hj]
    by_cases h : j = i
    · subst h; simp [hj]
    · rw [List.getElem?_set_ne (by omega), tab_get hj, if_neg h]
  · rw [List.getElem?_eq_none (by simp; omega), List.getElem?_eq_none (by simp; omega)]
theorem tab_succ : tab f (n + 1) = tab f n ++ [f n] := by simp [tab, List.range_succ]
theorem tab_of {l : List α} (h : ∀ i x, l[i]? = some x → x = f i) : l = tab f l.length := by
  apply List.ext_getElem?
  intro i
  by_cases hi : i < l.length
  · rw [tab_get hi, List.getElem?_eq_getElem hi]; exact congrArg some (h i _ (List.getElem?_eq_getElem hi))
  · rw [List.getElem?_eq_none (by omega), List.getElem?_eq_none (by simp; omega)]
theorem tab_const {x : α} : List.replicate n x = tab (fun _ => x) n := by
  apply List.ext_getElem?
  intro j
  by_cases hj : j < n
  · rw [tab_get hj]; simp [hj]
  · rw [List.getElem?_eq_none (by simp; omega), List.getElem?_eq_none (by simp; omega)]
theorem GETt {F : α → PV} {i : Nat} {K : PV → Prop} (h : i < n) (k : K (F (f i))) : ∃ y, ((tab f n).map F)[i]? = some y ∧ K y := ⟨_, by rw [List.getElem?_map, tab_get h]; rfl, k⟩
theorem OWNt {F : α → PV} {i : Int} {p : Prop} (h : 0 ≤ i ∧ i < n) (k : p) : (0 ≤ i ∧ i.toNat < ((tab f n).map F).length) ∧ p := by
  rw [List.length_map, tab_len]; exact ⟨⟨h.1, by omega⟩, k⟩
end
end Go.Dv
end
section
/-
  Plain laws of sorting in place: parts of a row that are put in order.
-/
namespace Go.Dv
section
variable {α : Type}

/-- So many values from a place on. -/
def seg (f : Nat → α) (a n : Nat) : List α := (List.range n).map fun i => f (a + i)
theorem seg_add (f : Nat → α) (a n k : Nat) : seg f a (n + k) = seg f a n ++ seg f (a + n) k := by
  unfold seg
  rw [List.range_add, List.map_append, List.map_map]
  congr 1
  apply List.map_congr_left
  intro i _; simp [Nat.add_assoc]
theorem seg_congr {f g : Nat → α} {a n : Nat} (h : ∀ j, a ≤ j → j < a + n → f j = g j) : seg f a n = seg g a n := by
  unfold seg
  apply List.map_congr_left
  intro i hi; exact h _ (by omega) (by simp at hi; omega)
theorem mem_seg {f : Nat → α} {a n : Nat} {x : α} : x ∈ seg f a n ↔ ∃ j, a ≤ j ∧ j < a + n ∧ f j = x := by
  unfold seg
  rw [List.mem_map]
  constructor
  · rintro ⟨i, hi, rfl⟩; exact ⟨a + i, by omega, by simp at hi; omega, rfl⟩
  · rintro ⟨j, h1, h2, rfl⟩; exact ⟨j - a, by simp; omega, by rw [show a + (j - a) = j by omega]⟩

/-- The same values from a to before b, in another order; all others as they were. -/
def PermOn (a b : Nat) (f g : Nat → α) : Prop := (seg g a (b - a)).Perm (seg f a (b - a)) ∧ ∀ j, ¬ (a ≤ j ∧ j < b) → g j = f j
theorem PermOn.refl (a b : Nat) (f : Nat → α) : PermOn a b f f := ⟨.refl _, fun _ _ => rfl⟩
theorem PermOn.trans {a b : Nat} {f g h : Nat → α} (p : PermOn a b f g) (q : PermOn a b g h) : PermOn a b f h :=
  ⟨q.1.trans p.1, fun j hj => (q.2 j hj).trans (p.2 j hj)⟩
theorem PermOn.wide {a b c d : Nat} {f g : Nat → α} (p : PermOn a b f g) (h1 : c ≤ a) (h2 : b ≤ d) (h3 : a ≤ b) : PermOn c d f g := by
  refine ⟨?_, fun j hj => p.2 j (by omega)⟩
  have e : d - c = (a - c) + ((b - a) + (d - b)) := by omega
  rw [e, seg_add, seg_add, seg_add f, seg_add f]
  rw [show c + (a - c) = a by omega, show a + (b - a) = b by omega]
  rw [seg_congr (f := g) (g := f) (a := c) (n := a - c) fun j h4 h5 => p.2 j (by omega), seg_congr (f := g) (g := f) (a := b) (n := d - b) fun j h4 h5 => p.2 j (by omega)]
  exact (p.1.append_right _).append_left _
theorem PermOn.mem {a b : Nat} {f g : Nat → α} (p : PermOn a b f g) {j : Nat} (h1 : a ≤ j) (h2 : j < b) : ∃ i, a ≤ i ∧ i < b ∧ g j = f i := by
  have : g j ∈ seg g a (b - a) := mem_seg.2 ⟨j, h1, by omega, rfl⟩
  obtain ⟨i, h3, h4, h5⟩ := mem_seg.1 (p.1.mem_iff.1 this)
  exact ⟨i, h3, by omega, h5.symm⟩
theorem PermOn.all {a b : Nat} {f g : Nat → α} {P : α → Prop} (p : PermOn a b f g) (h : ∀ j, P (f j)) (j : Nat) : P (g j) := by
  by_cases hj : a ≤ j ∧ j < b
  · obtain ⟨i, _, _, e⟩ := p.mem hj.1 hj.2
    rw [e]; exact h i
  · rw [p.2 j hj]; exact h j
/-- An order: whether one comes ahead of another one. -/
structure Ord (lt : α → α → Bool) : Prop where
  asymm : ∀ x y, lt x y = true → lt y x = false
  trans : ∀ x y z, lt y x = false → lt z y = false → lt z x = false
variable {lt : α → α → Bool}
end
end Go.Dv
end
section
/-
  What parameters of common makes are.
-/
namespace Go.Dv
open Go

theorem sig_str {y : PV} (h : HasL [.str] [y]) : ∃ d : List UInt8, y = .str d ∧ d.length ≤ maxLen := by
  simp only [HasL, HasC] at h
  obtain ⟨_, _, e, ⟨l, rfl, hl⟩, rfl⟩ := h
  injection e with e _
  subst e
  exact ⟨l, rfl, hl⟩
end Go.Dv
end
