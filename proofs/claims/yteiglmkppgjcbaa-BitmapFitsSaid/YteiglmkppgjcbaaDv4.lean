/-
  A part of the proof: own texts, laid together by a tool of our own: DvFn DvFnM DvLib DvOpen DvStep DvShort DvBase DvSort.
-/
import Derived.Test.YteiglmkppgjcbaaDv3
import Derived.OwnWalk
import Derived.RangeFuncLeaves
import Derived.WalkKit
import Derived.ProofKit
import Derived.OpenShut
import Derived.Carry
section
/-
  A function whose condition holds keeps its contract in the model.
-/
set_option linter.unusedSimpArgs false
namespace Go.Dv
open Go.RowKit

theorem looksK_same {env env' : Env} (h : ∀ p, lookF p env' = lookF p env) (σ : Sto) (rs : List (Nat × Option (Bool × Nat))) : ∀ K : List AV → Prop, looksK σ env' rs K = looksK σ env rs K := by
  induction rs with
  | nil => intro K; rfl
  | cons p rs ih =>
    intro K
    show look p.1 (fun v => match p.2 with
      | none => looksK σ env' rs fun l => K (v :: l)
      | some q => loadK σ q.1 q.2 v fun v => looksK σ env' rs fun l => K (v :: l)) env' = look p.1 (fun v => match p.2 with
      | none => looksK σ env rs fun l => K (v :: l)
      | some q => loadK σ q.1 q.2 v fun v => looksK σ env rs fun l => K (v :: l)) env
    rw [look_eq, look_eq, h]
    cases p.2 with
    | none => exact ih _
    | some q => simp only [ih]

theorem same_endQ (lone : Bool) (rs : List (Nat × Option (Bool × Nat))) (K : RV → Prop) : ∀ e, Same (endQ lone rs K e) := by
  intro e env env' σ h
  cases e with
  | normal => exact looksK_same h σ rs _
  | ret => exact looksK_same h σ rs _
  | exit i => rfl

theorem argEnv_spec (l : List PV) : ∀ (n : Nat) (K : Env → Prop), argEnv l n K → ∃ env, K env ∧ ∀ p, lookF p env = if n ≤ p then (match l[p - n]? with | some x => .pv x | none => .bad) else .bad := by
  induction l with
  | nil => intro n K h; exact ⟨[], h, fun p => by simp [lookF]⟩
  | cons x l ih =>
    intro n K h
    obtain ⟨env, h1, h2⟩ := ih (n + 1) _ h
    refine ⟨_, h1, fun p => ?_⟩
    show (bif Nat.beq n p then AV.pv x else lookF p env) = _
    by_cases hp : n = p
    · subst hp; simp
    · rw [nbeq hp, cond_false, h2 p]
      by_cases hlt : n ≤ p
      · rw [if_pos (show n + 1 ≤ p by omega), if_pos hlt]
        have : p - n = (p - (n + 1)) + 1 := by omega
        rw [this]; rfl
      · rw [if_neg (by omega), if_neg hlt]

section flat
variable {ok ok' : Nat → Prop} {w : World}

theorem rd_prim {x : PV} {v : Value} (hx : x.prim) (h : Rd ok w x v) : Rd ok' w x v := by
  cases x <;> first | exact hx.elim | (simp only [Rd] at h ⊢; exact h)

theorem rdL_prim : ∀ (l : List PV) (vs : List Value), (∀ c ∈ l, c.prim) → RdL ok w l vs → RdL ok' w l vs
  | [], vs, _, h => by simpa only [RdL] using h
  | x :: xs, vs, hx, h => by
    simp only [RdL] at h ⊢
    obtain ⟨v, t, h1, h2, h3⟩ := h
    exact ⟨v, t, h1, rd_prim (hx x (by simp)) h2, rdL_prim xs t (fun c hc => hx c (by simp [hc])) h3⟩

theorem rd_flat {x : PV} {v : Value} (hx : x.flat) (h : Rd ok w x v) : Rd ok' w x v := by
  cases x with
  | agg cs =>
    simp only [Rd] at h ⊢
    obtain ⟨h1, vs, h2, h3⟩ := h
    exact ⟨h1, vs, h2, rdL_prim cs _ hx h3⟩
  | _ => first | exact hx.elim | (simp only [Rd] at h ⊢; exact h)

theorem flat_cells {x : PV} (h : x.flat) : ∀ c ∈ x.cells, c.prim := by
  cases x with
  | agg cs => exact h
  | _ => first | exact h.elim | (intro c hc; simp [PV.cells] at hc; subst hc; exact h)
end flat

section
variable {cx : Cx} {env : Env} {σ : Sto} {vals : List Value} {a : Act} {w' : World}

def us0 (r : RV) (v : Value) : List Value := match r with | .fresh _ _ _ => [v] | .row _ _ _ => [v] | _ => []
def usC : List RV → List Value → List Value
  | r :: rs, v :: vs => us0 r v ++ usC rs vs
  | _, _ => []
def us1 (r : RV) (v : Value) : List Value := match r with
  | .agg rs => match v with | .agg vs => usC rs vs.toList | _ => []
  | r => us0 r v
def usL : List RV → List Value → List Value
  | r :: rs, v :: vs => us1 r v ++ usL rs vs
  | _, _ => []

def cellIds : AV → List Nat
  | .own id => [id]
  | .ref id _ _ => [id]
  | .sub id _ _ _ => [id]
  | _ => []
/-- The entries that a slot names. -/
def avIds : AV → List Nat
  | .agg cs => cs.flatMap cellIds
  | a => cellIds a

theorem onceC_spec : ∀ (l : List AV) (seen : List Nat) (K : List Nat → Bool), onceC l seen K = true → ∃ seen', K seen' = true ∧ (l.flatMap cellIds).Nodup ∧ (∀ i ∈ l.flatMap cellIds, i ∉ seen) ∧ ∀ i, i ∈ seen' ↔ i ∈ seen ∨ i ∈ l.flatMap cellIds := by
  intro l
  induction l with
  | nil => intro seen K h; exact ⟨seen, h, by simp, by simp, by simp⟩
  | cons a l ih =>
    intro seen K h
    have main : ∀ id, cellIds a = [id] → Bool.rec (motive := fun _ => Bool) (onceC l (id :: seen) K) false (memB id seen) = true → ∃ seen', K seen' = true ∧ ((a :: l).flatMap cellIds).Nodup ∧ (∀ i ∈ (a :: l).flatMap cellIds, i ∉ seen) ∧ ∀ i, i ∈ seen' ↔ i ∈ seen ∨ i ∈ (a :: l).flatMap cellIds := by
      intro id hid h
      cases hm : memB id seen with
      | true => rw [hm] at h; cases h
      | false =>
        rw [hm] at h
        obtain ⟨seen', h1, h2, h3, h4⟩ := ih _ _ h
        rw [List.flatMap_cons, hid]
        refine ⟨seen', h1, ?_, fun i hi => ?_, fun i => ?_⟩
        · rw [List.singleton_append, List.nodup_cons]
          exact ⟨fun hi => h3 id hi (by simp), h2⟩
        · rcases List.mem_append.1 hi with hi | hi
          · simp at hi; subst hi; exact memB_spec _ _ hm
          · exact fun hs => h3 i hi (by simp [hs])
        · rw [h4 i]; simp only [List.mem_cons, List.singleton_append]
          constructor
          · rintro ((h | h) | h)
            · exact .inr (.inl h)
            · exact .inl h
            · exact .inr (.inr h)
          · rintro (h | h | h)
            · exact .inl (.inr h)
            · exact .inl (.inl h)
            · exact .inr h
    have none : cellIds a = [] → onceC l seen K = true → ∃ seen', K seen' = true ∧ ((a :: l).flatMap cellIds).Nodup ∧ (∀ i ∈ (a :: l).flatMap cellIds, i ∉ seen) ∧ ∀ i, i ∈ seen' ↔ i ∈ seen ∨ i ∈ (a :: l).flatMap cellIds := by
      intro hid h
      obtain ⟨seen', h1, h2, h3, h4⟩ := ih _ _ h
      rw [List.flatMap_cons, hid, List.nil_append]
      exact ⟨seen', h1, h2, h3, h4⟩
    cases a with
    | own id => exact main id rfl h
    | ref id _ _ => exact main id rfl h
    | sub id _ _ _ => exact main id rfl h
    | _ => exact none rfl h

theorem ownOnce_spec : ∀ (l : List AV) (seen : List Nat), ownOnce l seen = true → (l.flatMap avIds).Nodup ∧ ∀ i ∈ l.flatMap avIds, i ∉ seen := by
  intro l
  induction l with
  | nil => intro seen _; simp
  | cons a l ih =>
    intro seen h
    have main : ∀ cs : List AV, cs.flatMap cellIds = avIds a → onceC cs seen (ownOnce l) = true → ((a :: l).flatMap avIds).Nodup ∧ ∀ i ∈ (a :: l).flatMap avIds, i ∉ seen := by
      intro cs hcs h
      obtain ⟨seen', h1, h2, h3, h4⟩ := onceC_spec cs seen _ h
      obtain ⟨g1, g2⟩ := ih seen' h1
      rw [hcs] at h2 h3 h4
      rw [List.flatMap_cons]
      refine ⟨?_, fun i hi => ?_⟩
      · rw [List.nodup_append]
        exact ⟨h2, g1, fun x hx y hy e => g2 y hy ((h4 y).2 (.inr (e ▸ hx)))⟩
      · rcases List.mem_append.1 hi with hi | hi
        · exact h3 i hi
        · exact fun hs => g2 i hi ((h4 i).2 (.inl hs))
    cases a with
    | agg cs => exact main cs rfl h
    | bad => exact main [.bad] rfl h
    | pv x => exact main [.pv x] rfl h
    | own i => exact main [.own i] rfl h
    | ref i j k => exact main [.ref i j k] rfl h
    | sub i j k m => exact main [.sub i j k m] rfl h
    | tup vs => exact main [.tup vs] rfl h
    | clo f vs => exact main [.clo f vs] rfl h

/-- A cell of a result, once what it is read of is frozen. -/
def Item0 (cx : Cx) (σ : Sto) (vals : List Value) (w : World) (av : AV) (r : RV) (v : Value) : Prop :=
  match r with
  | .pv x => Rd (Ok cx σ vals w) w x v ∧ (av.one = true → x.one = true)
  | .fresh e sz els => (v = .slice none 0 0 ∧ els = [] ∧ 0 < sz) ∨ ∃ id, id ∈ cellIds av ∧ σ[id]? = some (.row e sz true els) ∧ vals[id]? = some v
  | .row e sz els => (v = .slice none 0 0 ∧ els = [] ∧ 0 < sz) ∨ ∃ id ap, id ∈ cellIds av ∧ σ[id]? = some (.row e sz ap els) ∧ vals[id]? = some v
  | _ => False
def Items0 (cx : Cx) (σ : Sto) (vals : List Value) (w : World) : List AV → List RV → List Value → Prop
  | [], rs, vs => rs = [] ∧ vs = []
  | a :: as, rs, vs => ∃ r rs' v vs', rs = r :: rs' ∧ vs = v :: vs' ∧ Item0 cx σ vals w a r v ∧ Items0 cx σ vals w as rs' vs'
def Item (cx : Cx) (σ : Sto) (vals : List Value) (w : World) (av : AV) (r : RV) (v : Value) : Prop :=
  match r with
  | .agg rs => ∃ cs vs, av = .agg cs ∧ v = .agg vs ∧ (∀ c ∈ cs, c.one = true) ∧ Items0 cx σ vals w cs rs vs.toList
  | .pv x => Rd (Ok cx σ vals w) w x v
  | r => cellIds av = avIds av ∧ Item0 cx σ vals w av r v
def Items (cx : Cx) (σ : Sto) (vals : List Value) (w : World) : List AV → List RV → List Value → Prop
  | [], rs, vs => rs = [] ∧ vs = []
  | a :: as, rs, vs => ∃ r rs' v vs', rs = r :: rs' ∧ vs = v :: vs' ∧ Item cx σ vals w a r v ∧ Items cx σ vals w as rs' vs'

theorem readAV_congr {σ σ' : Sto} {c : AV} (hc : c.one = true) (h : ∀ i ∈ cellIds c, σ'[i]? = σ[i]?) {K : PV → Prop} (hk : readAV σ c K) : readAV σ' c K := by
  cases c with
  | pv x => exact hk
  | own id => obtain ⟨b, h1, h2⟩ := nthK_iff _ _ _ hk; exact nthK_mk _ _ b _ ((h id (by simp [cellIds])).trans h1) h2
  | sub id sz lo n => obtain ⟨b, h1, h2⟩ := nthK_iff _ _ _ hk; exact nthK_mk _ _ b _ ((h id (by simp [cellIds])).trans h1) h2
  | ref _ _ _ => exact (show False from hk).elim
  | clo _ _ => exact (show False from hk).elim
  | _ => cases hc

theorem readAVs_congr {σ σ' : Sto} : ∀ (cs : List AV), (∀ c ∈ cs, c.one = true) → (∀ i ∈ cs.flatMap cellIds, σ'[i]? = σ[i]?) → ∀ {K : List PV → Prop}, readAVs σ cs K → readAVs σ' cs K := by
  intro cs
  induction cs with
  | nil => intro _ _ K h; exact h
  | cons c cs ih =>
    intro h1 h K hk
    rw [List.flatMap_cons] at h
    have hk : readAV σ c fun x => readAVs σ cs fun l => K (x :: l) := hk
    have h2 := readAV_congr (h1 c (by simp)) (fun i hi => h i (List.mem_append_left _ hi)) hk
    show readAV σ' c fun x => readAVs σ' cs fun l => K (x :: l)
    -- what is read is one thing
    cases c with
    | pv x => exact ih (fun d hd => h1 d (by simp [hd])) (fun i hi => h i (List.mem_append_right _ hi)) hk
    | own id =>
      obtain ⟨b, g1, g2⟩ := nthK_iff _ _ _ h2
      refine nthK_mk _ _ b _ g1 ?_
      cases b with
      | row e sz ap els => exact ih (fun d hd => h1 d (by simp [hd])) (fun i hi => h i (List.mem_append_right _ hi)) g2
      | fz x => exact ih (fun d hd => h1 d (by simp [hd])) (fun i hi => h i (List.mem_append_right _ hi)) g2
      | _ => exact g2
    | sub id sz lo n =>
      obtain ⟨b, g1, g2⟩ := nthK_iff _ _ _ h2
      refine nthK_mk _ _ b _ g1 ?_
      have one : ∀ (s : Nat) (els : List PV), (match Nat.beq s sz with
          | true => lo + n ≤ els.length ∧ readAVs σ cs (fun l => K (.sl sz (cut lo (lo + n) els) :: l))
          | false => False) → (match Nat.beq s sz with
          | true => lo + n ≤ els.length ∧ readAVs σ' cs (fun l => K (.sl sz (cut lo (lo + n) els) :: l))
          | false => False) := by
        intro s els hh
        cases hs : Nat.beq s sz with
        | true => rw [hs] at hh; exact ⟨hh.1, ih (fun d hd => h1 d (by simp [hd])) (fun i hi => h i (List.mem_append_right _ hi)) hh.2⟩
        | false => rw [hs] at hh; exact hh.elim
      cases b with
      | row e s ap els => exact one s els g2
      | fz x => cases x with
        | sl s els => exact one s els g2
        | _ => exact (show False from g2).elim
      | _ => exact (show False from g2).elim
    | ref _ _ _ => exact (show False from hk).elim
    | clo _ _ => exact (show False from hk).elim
    | _ => have := h1 _ (List.mem_cons_self ..); cases this

/-- A cell whose row is read alone from here on. -/
theorem cell_freeze (hr : RelS cx σ vals w') {c : AV} {v : Value} (hc : c.one = true) (hv : RA (Ok cx σ vals w') σ vals w' c v) {K : PV → Prop} (hk : readAV σ c K) :
    ∃ x σ', K x ∧ RelS cx σ' vals w' ∧ Keep cx σ vals w' σ' vals w' ∧ (∀ i, i ∉ cellIds c → σ'[i]? = σ[i]?) ∧ Rd (Ok cx σ' vals w') w' x v ∧ x.one = true := by
  have fz : ∀ id, cellIds c = [id] → (∃ b, σ[id]? = some b ∧ ((∃ e sz ap els, b = .row e sz ap els) ∨ ∃ x, b = .fz x)) → freezeAV c σ (fun σ' => ∀ i, i ∉ cellIds c → σ'[i]? = σ[i]?) →
      ∃ x σ', K x ∧ RelS cx σ' vals w' ∧ Keep cx σ vals w' σ' vals w' ∧ (∀ i, i ∉ cellIds c → σ'[i]? = σ[i]?) ∧ Rd (Ok cx σ' vals w') w' x v ∧ x.one = true := by
    intro id hid _ hfz
    obtain ⟨x, σ', h1, h2, _, h4, h5, h6, h7⟩ := freeze_spec c σ σ v K _ (Fz.refl σ) hr hv hk hfz
    exact ⟨x, σ', h1, h4, h5, h2, h6, h7 hc⟩
  have mk : ∀ id, cellIds c = [id] → ∀ b : Blk, σ[id]? = some b → (match b with
      | .row _ sz _ els => setK σ id (.fz (.sl sz els)) (fun σ' => ∀ i, i ∉ cellIds c → σ'[i]? = σ[i]?)
      | .fz _ => ∀ i, i ∉ cellIds c → σ[i]? = σ[i]?
      | _ => False) ∨ (b = .dead ∨ ∃ e cs, b = .box e cs) := by
    intro id hid b hb
    have hlt := (List.getElem?_eq_some_iff.1 hb).1
    cases b with
    | row e sz ap els =>
      left
      have : ∀ (l : Sto) (n : Nat) (y : Blk) (K : Sto → Prop), n < l.length → K (l.set n y) → setK l n y K := by
        intro l
        induction l with
        | nil => intro n y K h; simp at h
        | cons z l ih =>
          intro n y K h hk
          cases n with
          | zero => exact hk
          | succ n => exact ih n y (fun t => K (z :: t)) (by simpa using h) hk
      refine this _ _ _ _ hlt fun i hi => ?_
      rw [set_get hlt, if_neg (fun e => hi (by rw [hid]; simp [e]))]
    | fz x => exact .inl fun _ _ => rfl
    | dead => exact .inr (.inl rfl)
    | box e cs => exact .inr (.inr ⟨e, cs, rfl⟩)
  cases c with
  | pv x => exact ⟨x, σ, hk, hr, Keep.refl, fun _ _ => rfl, by simpa only [RA] using hv, hc⟩
  | own id =>
    obtain ⟨b, h1, h2⟩ := nthK_iff _ _ _ hk
    rcases mk id rfl b h1 with h | rfl | ⟨e, cs, rfl⟩
    · refine fz id rfl ⟨b, h1, ?_⟩ (nthK_mk _ _ b _ h1 h)
      cases b with
      | row e sz ap els => exact .inl ⟨_, _, _, _, rfl⟩
      | fz x => exact .inr ⟨_, rfl⟩
      | _ => exact (show False from h2).elim
    · exact (show False from h2).elim
    · exact (show False from h2).elim
  | sub id sz lo n =>
    obtain ⟨b, h1, h2⟩ := nthK_iff _ _ _ hk
    rcases mk id rfl b h1 with h | rfl | ⟨e, cs, rfl⟩
    · refine fz id rfl ⟨b, h1, ?_⟩ (nthK_mk _ _ b _ h1 h)
      cases b with
      | row e sz ap els => exact .inl ⟨_, _, _, _, rfl⟩
      | fz x => exact .inr ⟨_, rfl⟩
      | _ => exact (show False from h2).elim
    · exact (show False from h2).elim
    · exact (show False from h2).elim
  | ref _ _ _ => exact (show False from hk).elim
  | clo _ _ => exact (show False from hk).elim
  | _ => cases hc

theorem cells_freeze : ∀ (cs : List AV) (σ : Sto) (vs : List Value) (K : List PV → Prop), RelS cx σ vals w' → (∀ c ∈ cs, c.one = true) → RAL (Ok cx σ vals w') σ vals w' cs vs → readAVs σ cs K → (cs.flatMap cellIds).Nodup →
    ∃ xs σ', K xs ∧ RelS cx σ' vals w' ∧ Keep cx σ vals w' σ' vals w' ∧ (∀ i, i ∉ cs.flatMap cellIds → σ'[i]? = σ[i]?) ∧ RdL (Ok cx σ' vals w') w' xs vs ∧ ∀ x ∈ xs, x.one = true := by
  intro cs
  induction cs with
  | nil =>
    intro σ vs K hr _ hv hk _
    simp only [RAL] at hv
    subst hv
    exact ⟨[], σ, hk, hr, Keep.refl, fun _ _ => rfl, by simp [RdL], by simp⟩
  | cons c cs ih =>
    intro σ vs K hr h1 hv hk hn
    simp only [RAL] at hv
    obtain ⟨v, r, rfl, hv1, hv2⟩ := hv
    rw [List.flatMap_cons, List.nodup_append] at hn
    obtain ⟨n1, n2, n3⟩ := hn
    obtain ⟨x, σ1, k1, k2, k3, k4, k5, k6⟩ := cell_freeze hr (h1 c (by simp)) hv1 (show readAV σ c fun x => readAVs σ cs fun l => K (x :: l) from hk)
    have k1' : readAVs σ1 cs fun l => K (x :: l) := readAVs_congr cs (fun d hd => h1 d (by simp [hd])) (fun i hi => k4 i fun hc => n3 i hc i hi rfl) k1
    obtain ⟨xs, σ2, g1, g2, g3, g4, g5, g6⟩ := ih σ1 r _ k2 (fun d hd => h1 d (by simp [hd])) (k3.raL _ _ hv2) k1' n2
    refine ⟨x :: xs, σ2, g1, g2, k3.trans g3, fun i hi => ?_, by simp only [RdL]; exact ⟨v, r, rfl, g3.rd k5, g5⟩, fun y hy => ?_⟩
    · rw [List.flatMap_cons, List.mem_append] at hi
      rw [g4 i (fun h => hi (.inr h)), k4 i (fun h => hi (.inl h))]
    · rcases List.mem_cons.1 hy with rfl | hy
      · exact k6
      · exact g6 y hy

theorem retC_congr {σ σ' : Sto} {a : AV} {r : RV} (h : ∀ i ∈ cellIds a, σ'[i]? = σ[i]?) (hk : retC σ a r) : retC σ' a r := by
  cases a with
  | pv x => exact hk
  | own id => obtain ⟨b, h1, h2⟩ := nthK_iff _ _ _ hk; exact nthK_mk _ _ b _ ((h id (by simp [cellIds])).trans h1) h2
  | sub id sz lo n => obtain ⟨b, h1, h2⟩ := nthK_iff _ _ _ hk; exact nthK_mk _ _ b _ ((h id (by simp [cellIds])).trans h1) h2
  | ref id idx off =>
    cases r with
    | pv y =>
      cases idx with
      | succ _ => exact (show False from hk).elim
      | zero => cases off with
        | succ _ => exact (show False from hk).elim
        | zero => obtain ⟨b, h1, h2⟩ := nthK_iff _ _ _ (show nthK σ id _ from hk); exact nthK_mk _ _ b _ ((h id (by simp [cellIds])).trans h1) h2
    | _ => exact (show False from hk).elim
  | _ => exact (show False from hk).elim

theorem retCs_congr {σ σ' : Sto} : ∀ (cs : List AV) (rs : List RV), (∀ i ∈ cs.flatMap cellIds, σ'[i]? = σ[i]?) → retCs σ cs rs → retCs σ' cs rs := by
  intro cs
  induction cs with
  | nil => intro rs _ h; exact h
  | cons c cs ih =>
    intro rs hs h
    cases rs with
    | nil => exact (show False from h).elim
    | cons r rs =>
      obtain ⟨g1, g2⟩ := (show retC σ c r ∧ retCs σ cs rs from h)
      rw [List.flatMap_cons] at hs
      exact ⟨retC_congr (fun i hi => hs i (List.mem_append_left _ hi)) g1, ih rs (fun i hi => hs i (List.mem_append_right _ hi)) g2⟩

theorem retAV_congr {σ σ' : Sto} {a : AV} {r : RV} {v : Value} {ok : Nat → Prop} {w : World} (hv : RA ok σ vals w a v) (h : ∀ i ∈ avIds a, σ'[i]? = σ[i]?) (hk : retAV σ a r) : retAV σ' a r := by
  cases a with
  | agg cs =>
    simp only [RA] at hv
    cases r with
    | pv y => exact readAVs_congr cs hv.1 h (show readAVs σ cs _ from hk)
    | agg rs => exact retCs_congr cs rs h hk
    | _ => exact (show False from hk).elim
  | bad => exact retC_congr (a := .bad) (r := r) h hk
  | pv x => exact retC_congr (a := .pv x) (r := r) h hk
  | own id => exact retC_congr (a := .own id) (r := r) h hk
  | ref id i o => exact retC_congr (a := .ref id i o) (r := r) h hk
  | sub id s l n => exact retC_congr (a := .sub id s l n) (r := r) h hk
  | tup vs => exact retC_congr (a := .tup vs) (r := r) h hk
  | clo f cs => exact retC_congr (a := .clo f cs) (r := r) h hk

theorem item0_prep (hr : RelS cx σ vals w') {a : AV} {r : RV} {v : Value} (hv : RA (Ok cx σ vals w') σ vals w' a v) (hk : retC σ a r) :
    ∃ σ', RelS cx σ' vals w' ∧ Keep cx σ vals w' σ' vals w' ∧ (∀ i, i ∉ cellIds a → σ'[i]? = σ[i]?) ∧ Item0 cx σ' vals w' a r v := by
  cases a with
  | pv x =>
    refine ⟨σ, hr, Keep.refl, fun _ _ => rfl, ?_⟩
    simp only [RA] at hv
    have nil : ∀ s s' els, x = .nil s' → (s = s' ∧ els = ([] : List PV)) ∧ 0 < s → v = .slice none 0 0 ∧ els = [] ∧ 0 < s := by
      intro s s' els hx h
      subst hx
      simp only [Rd] at hv
      exact ⟨hv, h.1.2, h.2⟩
    cases r with
    | pv y =>
      show Rd (Ok cx σ vals w') w' y v ∧ _
      cases x with
      | nil s =>
        simp only [Rd] at hv
        rcases (show y = .nil s ∨ y = .sl s [] from hk) with rfl | rfl
        · simp only [Rd]; exact ⟨hv, fun _ => rfl⟩
        · simp only [Rd]; exact ⟨⟨none, 0, by simpa using hv, by simp, by decide, .inl trivial⟩, fun _ => rfl⟩
      | _ => cases (show y = _ from hk); exact ⟨hv, fun h => h⟩
    | fresh e sz els =>
      cases x with
      | nil s => exact .inl (nil sz s els rfl hk)
      | _ => exact (show False from hk).elim
    | row e sz els =>
      cases x with
      | nil s => exact .inl (nil sz s els rfl hk)
      | _ => exact (show False from hk).elim
    | _ => exact (show False from hk).elim
  | own id =>
    have hv' := hv
    simp only [RA] at hv'
    obtain ⟨b, h1, h2⟩ := nthK_iff _ _ _ hk
    cases r with
    | pv y =>
      obtain ⟨x, σ', k1, k2, k3, k4, k5, k6⟩ := cell_freeze (K := fun x => x = y) hr rfl hv (nthK_mk _ _ b _ h1 (by
        cases b with
        | row e sz ap els => exact (show y = _ from h2).symm
        | fz x => exact (show y = _ from h2).symm
        | _ => exact h2.elim))
      subst k1
      exact ⟨σ', k2, k3, k4, k5, fun _ => k6⟩
    | fresh e sz els =>
      refine ⟨σ, hr, Keep.refl, fun _ _ => rfl, .inr ⟨id, by simp [cellIds], ?_, hv'⟩⟩
      cases b with
      | row e' sz' ap els' =>
        obtain ⟨rfl, rfl, rfl, rfl⟩ := (show ap = true ∧ e = e' ∧ sz = sz' ∧ els = els' from h2)
        exact h1
      | _ => exact h2.elim
    | row e sz els =>
      cases b with
      | row e' sz' ap els' =>
        obtain ⟨rfl, rfl, rfl⟩ := (show e = e' ∧ sz = sz' ∧ els = els' from h2)
        exact ⟨σ, hr, Keep.refl, fun _ _ => rfl, .inr ⟨id, ap, by simp [cellIds], h1, hv'⟩⟩
      | _ => exact h2.elim
    | _ => cases b <;> exact h2.elim
  | sub id sz lo n =>
    cases r with
    | pv y =>
      obtain ⟨b, h1, h2⟩ := nthK_iff _ _ _ hk
      have h3 : readAV σ (.sub id sz lo n) (fun x => x = y) := by
        refine nthK_mk _ _ b _ h1 ?_
        have one : ∀ (s : Nat) (els : List PV), (match Nat.beq s sz with
            | true => lo + n ≤ els.length ∧ y = .sl sz (cut lo (lo + n) els)
            | false => False) → (match Nat.beq s sz with
            | true => lo + n ≤ els.length ∧ PV.sl sz (cut lo (lo + n) els) = y
            | false => False) := by
          intro s els hh
          cases hs : Nat.beq s sz with
          | true => rw [hs] at hh; exact ⟨hh.1, hh.2.symm⟩
          | false => rw [hs] at hh; exact hh.elim
        cases b with
        | row e s ap els => exact one s els h2
        | fz x => cases x with
          | sl s els => exact one s els h2
          | _ => exact (show False from h2).elim
        | _ => exact (show False from h2).elim
      obtain ⟨x, σ', k1, k2, k3, k4, k5, k6⟩ := cell_freeze hr rfl hv h3
      subst k1
      exact ⟨σ', k2, k3, k4, k5, fun _ => k6⟩
    | _ =>
      obtain ⟨b, h1, h2⟩ := nthK_iff _ _ _ hk
      have : ∀ b : Blk, winK sz lo n b (fun _ => False) → False := by
        intro b h
        cases b with
        | row e s ap els =>
          have h : (match Nat.beq s sz with | true => lo + n ≤ els.length ∧ False | false => False) := h
          split at h
          · exact h.2
          · exact h
        | fz x => cases x with
          | sl s els =>
            have h : (match Nat.beq s sz with | true => lo + n ≤ els.length ∧ False | false => False) := h
            split at h
            · exact h.2
            · exact h
          | _ => exact h
        | _ => exact h
      exact (this b h2).elim
  | ref id idx off =>
    cases r with
    | pv y =>
      cases idx with
      | succ _ => exact (show False from hk).elim
      | zero => cases off with
        | succ _ => exact (show False from hk).elim
        | zero =>
          obtain ⟨b, hb, hk⟩ := nthK_iff _ _ _ (show nthK σ id _ from hk)
          simp only [RA] at hv
          obtain ⟨hlt, _, _, hbox⟩ := hv
          cases b with
          | box e cs =>
            rcases allPvK_spec cs (fun t => boxVal t fun x => y = .cptr x) False hk with ⟨tcs, rfl, hk2⟩ | hk2
            · obtain ⟨u, hu, hrb⟩ := hr.val hb
              obtain ⟨u', g, hu', hg', hv⟩ := hbox _ hb rfl
              have hg : blkOf u' = some g := by rw [hg']; rfl
              rw [hu] at hu'; cases hu'
              have hone : ∀ c ∈ tcs, c.one = true := by
                obtain ⟨_, _, _, _, _, h4, _⟩ := hrb
                exact fun c hc => h4 (.pv c) (by simpa using hc)
              obtain ⟨x, hset, hx⟩ := boxVal_cptr (w := w') hk2 hone
              obtain ⟨hr1, hk1⟩ := hr.freezeTo (x := .cptr x) hb rfl (fun ok' v' _ hrb' hok hbl => by
                obtain ⟨b', arr', e1, _, e3, _, e5⟩ := hrb'
                subst e1
                rw [raL_map_pv] at e5
                exact hx ok' arr' b' _ _ e3 (RdL.mono hok (fun _ _ _ => rfl) _ _ e5) (hbl b' rfl)) (fun _ => rfl)
              refine ⟨_, hr1, hk1, fun i hi => ?_, ?_, fun _ => by rw [hset]; rfl⟩
              · rw [set_get hlt, if_neg (fun e => hi (by simp [cellIds, e]))]
              · show Rd _ w' y v
                rw [hset]
                have := hr1.sto id _ _ (by rw [List.getElem?_set_self hlt]) hu
                have hvu : v = u := by
                  obtain ⟨b, arr, h1, _⟩ := hrb
                  rw [h1] at hg; cases hg
                  rw [hv, h1]
                rw [hvu]; exact this
            · exact hk2.elim
          | _ => exact (show False from hk).elim
    | _ => exact (show False from hk).elim
  | _ => exact (show False from hk).elim

theorem Item0.keep {σ' : Sto} {a : AV} {r : RV} {v : Value} (h : Item0 cx σ vals w' a r v) (hk : Keep cx σ vals w' σ' vals w') (hs : ∀ i ∈ cellIds a, σ'[i]? = σ[i]?) : Item0 cx σ' vals w' a r v := by
  cases r with
  | pv x => exact ⟨hk.rd h.1, h.2⟩
  | fresh e sz els =>
    rcases (show _ ∨ _ from h) with h | ⟨id, h1, h2, h3⟩
    · exact .inl h
    · exact .inr ⟨id, h1, (hs id h1).trans h2, h3⟩
  | row e sz els =>
    rcases (show _ ∨ _ from h) with h | ⟨id, ap, h1, h2, h3⟩
    · exact .inl h
    · exact .inr ⟨id, ap, h1, (hs id h1).trans h2, h3⟩
  | _ => exact (show False from h).elim

theorem Items0.keep {σ' : Sto} : ∀ {as : List AV} {rs : List RV} {vs : List Value}, Items0 cx σ vals w' as rs vs → Keep cx σ vals w' σ' vals w' → (∀ i ∈ as.flatMap cellIds, σ'[i]? = σ[i]?) → Items0 cx σ' vals w' as rs vs := by
  intro as
  induction as with
  | nil => intro rs vs h _ _; exact h
  | cons a as ih =>
    rintro rs vs ⟨r, rs', v, vs', rfl, rfl, h1, h2⟩ hk hs
    rw [List.flatMap_cons] at hs
    exact ⟨r, rs', v, vs', rfl, rfl, h1.keep hk (fun i hi => hs i (List.mem_append_left _ hi)), ih h2 hk (fun i hi => hs i (List.mem_append_right _ hi))⟩

theorem items0_prep : ∀ (as : List AV) (rs : List RV) (vs : List Value) (σ : Sto), RelS cx σ vals w' → RAL (Ok cx σ vals w') σ vals w' as vs → retCs σ as rs → (as.flatMap cellIds).Nodup →
    ∃ σ', RelS cx σ' vals w' ∧ Keep cx σ vals w' σ' vals w' ∧ (∀ i, i ∉ as.flatMap cellIds → σ'[i]? = σ[i]?) ∧ Items0 cx σ' vals w' as rs vs := by
  intro as
  induction as with
  | nil =>
    intro rs vs σ hr hv hk _
    simp only [RAL] at hv
    cases rs with
    | nil => exact ⟨σ, hr, Keep.refl, fun _ _ => rfl, rfl, hv⟩
    | cons r rs => exact (show False from hk).elim
  | cons a as ih =>
    intro rs vs σ hr hv hk hn
    cases rs with
    | nil => exact (show False from hk).elim
    | cons r rs =>
      obtain ⟨h1, h2⟩ := (show retC σ a r ∧ retCs σ as rs from hk)
      simp only [RAL] at hv
      obtain ⟨v, t, rfl, h3, h4⟩ := hv
      rw [List.flatMap_cons, List.nodup_append] at hn
      obtain ⟨n1, n2, n3⟩ := hn
      obtain ⟨σ1, k1, k2, k3, k4⟩ := item0_prep hr h3 h1
      have h2' : retCs σ1 as rs := retCs_congr as rs (fun i hi => k3 i fun hc => n3 i hc i hi rfl) h2
      obtain ⟨σ2, g1, g2, g3, g4⟩ := ih rs t σ1 k1 (k2.raL _ _ h4) h2' n2
      refine ⟨σ2, g1, k2.trans g2, fun i hi => ?_, r, rs, v, t, rfl, rfl, k4.keep g2 (fun i hi => g3 i fun hc => n3 i hi i hc rfl), g4⟩
      rw [List.flatMap_cons, List.mem_append] at hi
      rw [g3 i (fun h => hi (.inr h)), k3 i (fun h => hi (.inl h))]

theorem item_prep (hr : RelS cx σ vals w') {a : AV} {r : RV} {v : Value} (hv : RA (Ok cx σ vals w') σ vals w' a v) (hk : retAV σ a r) (hn : (avIds a).Nodup) :
    ∃ σ', RelS cx σ' vals w' ∧ Keep cx σ vals w' σ' vals w' ∧ (∀ i, i ∉ avIds a → σ'[i]? = σ[i]?) ∧ Item cx σ' vals w' a r v := by
  have main : cellIds a = avIds a → retC σ a r → ∃ σ', RelS cx σ' vals w' ∧ Keep cx σ vals w' σ' vals w' ∧ (∀ i, i ∉ avIds a → σ'[i]? = σ[i]?) ∧ Item cx σ' vals w' a r v := by
    intro he hk
    obtain ⟨σ', h1, h2, h3, h4⟩ := item0_prep hr hv hk
    refine ⟨σ', h1, h2, he ▸ h3, ?_⟩
    cases r with
    | pv x => exact h4.1
    | fresh e sz els => exact ⟨he, h4⟩
    | row e sz els => exact ⟨he, h4⟩
    | _ => exact (show False from h4).elim
  cases a with
  | agg cs =>
    simp only [RA] at hv
    obtain ⟨h0, vs, rfl, hl⟩ := hv
    cases r with
    | pv y =>
      obtain ⟨xs, σ', k1, k2, k3, k4, k5, k6⟩ := cells_freeze cs σ _ _ hr h0 hl (show readAVs σ cs _ from hk) hn
      refine ⟨σ', k2, k3, k4, ?_⟩
      show Rd _ w' y _
      rw [k1]
      simp only [Rd]
      exact ⟨k6, vs, rfl, k5⟩
    | agg rs =>
      obtain ⟨σ', k1, k2, k3, k4⟩ := items0_prep cs rs _ σ hr hl hk hn
      exact ⟨σ', k1, k2, k3, cs, vs, rfl, rfl, h0, k4⟩
    | _ => exact (show False from hk).elim
  | bad => exact main rfl hk
  | pv x => exact main rfl hk
  | own id => exact main rfl hk
  | ref id i o => exact main rfl hk
  | sub id s l n => exact main rfl hk
  | tup vs => exact main rfl hk
  | clo f cs => exact main rfl hk

theorem Item.keep {σ' : Sto} {a : AV} {r : RV} {v : Value} (h : Item cx σ vals w' a r v) (hk : Keep cx σ vals w' σ' vals w') (hs : ∀ i ∈ avIds a, σ'[i]? = σ[i]?) : Item cx σ' vals w' a r v := by
  cases r with
  | pv x => exact hk.rd h
  | fresh e sz els => exact ⟨h.1, h.2.keep hk (by rw [h.1]; exact hs)⟩
  | row e sz els => exact ⟨h.1, h.2.keep hk (by rw [h.1]; exact hs)⟩
  | agg rs =>
    obtain ⟨cs, vs, rfl, rfl, h0, h1⟩ := h
    exact ⟨cs, vs, rfl, rfl, h0, h1.keep hk hs⟩
  | _ => exact (show False from h.2).elim

theorem items_prep : ∀ (as : List AV) (rs : List RV) (vs : List Value) (σ : Sto), RelS cx σ vals w' → RAL (Ok cx σ vals w') σ vals w' as vs → retsK σ as rs → (as.flatMap avIds).Nodup →
    ∃ σ', RelS cx σ' vals w' ∧ Keep cx σ vals w' σ' vals w' ∧ (∀ i, i ∉ as.flatMap avIds → σ'[i]? = σ[i]?) ∧ Items cx σ' vals w' as rs vs := by
  intro as
  induction as with
  | nil =>
    intro rs vs σ hr hv hk _
    simp only [RAL] at hv
    cases rs with
    | nil => exact ⟨σ, hr, Keep.refl, fun _ _ => rfl, rfl, hv⟩
    | cons r rs => exact (show False from hk).elim
  | cons a as ih =>
    intro rs vs σ hr hv hk hn
    cases rs with
    | nil => exact (show False from hk).elim
    | cons r rs =>
      obtain ⟨h1, h2⟩ := (show retAV σ a r ∧ retsK σ as rs from hk)
      simp only [RAL] at hv
      obtain ⟨v, t, rfl, h3, h4⟩ := hv
      rw [List.flatMap_cons, List.nodup_append] at hn
      obtain ⟨n1, n2, n3⟩ := hn
      obtain ⟨σ1, k1, k2, k3, k4⟩ := item_prep hr h3 h1 n1
      have h2' : retsK σ1 as rs := by
        have : ∀ (as : List AV) (rs : List RV) (vs : List Value), RAL (Ok cx σ vals w') σ vals w' as vs → (∀ i ∈ as.flatMap avIds, σ1[i]? = σ[i]?) → retsK σ as rs → retsK σ1 as rs := by
          intro as
          induction as with
          | nil => intro rs vs _ _ h; exact h
          | cons a as ih =>
            intro rs vs hv hs h
            cases rs with
            | nil => exact (show False from h).elim
            | cons r rs =>
              obtain ⟨g1, g2⟩ := (show retAV σ a r ∧ retsK σ as rs from h)
              simp only [RAL] at hv
              obtain ⟨v, t, rfl, h3, h4⟩ := hv
              rw [List.flatMap_cons] at hs
              exact ⟨retAV_congr h3 (fun i hi => hs i (List.mem_append_left _ hi)) g1, ih rs t h4 (fun i hi => hs i (List.mem_append_right _ hi)) g2⟩
        exact this as rs t h4 (fun i hi => k3 i fun hc => n3 i hc i hi rfl) h2
      obtain ⟨σ2, g1, g2, g3, g4⟩ := ih rs t σ1 k1 (k2.raL _ _ h4) h2' n2
      refine ⟨σ2, g1, k2.trans g2, fun i hi => ?_, r, rs, v, t, rfl, rfl, k4.keep g2 (fun i hi => g3 i fun hc => n3 i hi i hc rfl), g4⟩
      rw [List.flatMap_cons, List.mem_append] at hi
      rw [g3 i (fun h => hi (.inr h)), k3 i (fun h => hi (.inl h))]

/-- Where a row that is handed out comes from. -/
def From (σ : Sto) (vals : List Value) (ids : List Nat) (u : Value) : Prop :=
  u = .slice none 0 0 ∨ ∃ id s, id ∈ ids ∧ σ[id]? = some s ∧ s.live = true ∧ vals[id]? = some u

theorem Owns.imp {M M' : Nat → Prop} {w : World} {e : TypeId} {sz : Nat} {ap : Bool} {v : Value} {n : Nat} {xs : List Value} (h : Owns w M e sz ap v n xs) (hm : ∀ b, M b → M' b) : Owns w M' e sz ap v n xs := by
  refine ⟨h.1, ?_⟩
  rcases h.2 with h2 | ⟨g, cap, cur, fr, h1, h2, h3⟩
  · exact .inl h2
  · exact .inr ⟨g, cap, cur, fr, h1, hm g h2, h3⟩

theorem okR_of_ok (ho : ∀ b, cx.own b → cx.w0.heap.size ≤ b) {lone : Bool} {ids : List Nat} {us : List Value} (hus : ∀ u ∈ us, From σ vals ids u) (hl : lone = false) : ∀ b, Ok cx σ vals w' b → OkR cx.okA lone cx.w0 w' us b := by
  rintro b ⟨h1, h2, h3⟩
  refine ⟨h1.imp (fun h => ⟨hl, h⟩) (ho b), h2, fun u hu hb => h3 ?_⟩
  rcases hus u hu with rfl | ⟨id, s, _, g1, g2, g3⟩
  · cases hb
  · exact ⟨id, s, u, g1, g2, g3, hb⟩

theorem ret_item0 (ho : ∀ b, cx.own b → cx.w0.heap.size ≤ b) (hr : RelS cx σ vals w') {av : AV} {r : RV} {v : Value} (h : Item0 cx σ vals w' av r v) {lone : Bool} (hl : lone = true → r.flat1) {ids : List Nat} {us : List Value} (hus : ∀ u ∈ us, From σ vals ids u) :
    RR (OkR cx.okA lone cx.w0 w' us) (fun b => cx.w0.heap.size ≤ b) w' r v (us0 r v) := by
  have plain : ∀ x : PV, (lone = true → x.flat) → Rd (Ok cx σ vals w') w' x v → Rd (OkR cx.okA lone cx.w0 w' us) w' x v := by
    intro x hx h
    cases hlone : lone with
    | false => exact Rd.mono (okR_of_ok ho hus rfl) (fun _ _ _ => rfl) x v h
    | true => exact rd_flat (hx hlone) h
  have rowL : ∀ (els : List PV) (cells : List Value), (lone = true → ∀ x ∈ els, x.flat) → RdL (Ok cx σ vals w') w' (els.flatMap PV.cells) cells → RdL (OkR cx.okA lone cx.w0 w' us) w' (els.flatMap PV.cells) cells := by
    intro els cells hx h
    cases hlone : lone with
    | false => exact RdL.mono (okR_of_ok ho hus rfl) (fun _ _ _ => rfl) _ _ h
    | true =>
      refine rdL_prim _ _ (fun c hc => ?_) h
      obtain ⟨x, hx', hc⟩ := List.mem_flatMap.1 hc
      exact flat_cells (hx hlone x hx') c hc
  cases r with
  | pv y => exact ⟨plain _ (fun e => hl e) h.1, rfl⟩
  | fresh e sz els =>
    rcases (show _ ∨ _ from h) with ⟨rfl, rfl, h0⟩ | ⟨id, _, h1, h2⟩
    · simp only [RR]
      exact ⟨rfl, h0, [], owns_nil _ _ _ _ _, by simp, by simp, by simp [RdL]⟩
    · obtain ⟨h0, cells, g1, g2, g3, g4⟩ := hr.sto id _ v h1 h2
      simp only [RR]
      exact ⟨rfl, h0, cells, g1.imp ho, g2, g3, rowL els cells (fun e => hl e) g4⟩
  | row e sz els =>
    rcases (show _ ∨ _ from h) with ⟨rfl, rfl, h0⟩ | ⟨id, ap, _, h1, h2⟩
    · simp only [RR]
      exact ⟨rfl, h0, [], owns_nil _ _ _ _ _, by simp, by simp, by simp [RdL]⟩
    · obtain ⟨h0, cells, g1, g2, g3, g4⟩ := hr.sto id _ v h1 h2
      simp only [RR]
      refine ⟨rfl, h0, cells, ?_, g2, g3, rowL els cells (fun e => hl e) g4⟩
      have g1 := g1.imp ho
      refine ⟨g1.1, g1.2.imp_right ?_⟩
      rintro ⟨g, cap, cur, fr, f1, f2, f3, f4, f5, f6, f7, f8⟩
      exact ⟨g, cap, cur, fr, f1, f2, f3, f4, f5, f6, f7, f8.imp_right fun h => ⟨rfl, h.2⟩⟩
  | _ => exact (show False from h).elim

theorem ret_item (ho : ∀ b, cx.own b → cx.w0.heap.size ≤ b) (hr : RelS cx σ vals w') {av : AV} {r : RV} {v : Value} (h : Item cx σ vals w' av r v) {lone : Bool} (hl : lone = true → r.flat1) {ids : List Nat} {us : List Value} (hus : ∀ u ∈ us, From σ vals ids u) :
    RR (OkR cx.okA lone cx.w0 w' us) (fun b => cx.w0.heap.size ≤ b) w' r v (us1 r v) := by
  cases r with
  | pv y => exact ret_item0 (av := .bad) ho hr (r := .pv y) ⟨h, fun e => by cases e⟩ hl hus
  | fresh e sz els => exact ret_item0 ho hr h.2 hl hus
  | row e sz els => exact ret_item0 ho hr h.2 hl hus
  | agg rs =>
    obtain ⟨cs, vs, rfl, rfl, h0, h1⟩ := h
    have hlone : lone = false := by
      cases lone with
      | false => rfl
      | true => exact (hl rfl : False).elim
    have main : ∀ (cs : List AV) (rs : List RV) (vs : List Value), (∀ c ∈ cs, c.one = true) → Items0 cx σ vals w' cs rs vs → RRL (OkR cx.okA lone cx.w0 w' us) (fun b => cx.w0.heap.size ≤ b) w' rs vs (usC rs vs) ∧
        ∀ r ∈ rs, match r with | .pv x => x.one = true | .fresh _ _ _ => True | .row _ _ _ => True | _ => False := by
      intro cs
      induction cs with
      | nil => rintro rs vs _ ⟨rfl, rfl⟩; exact ⟨by simp [RRL, usC], by simp⟩
      | cons c cs ih =>
        rintro rs vs h0 ⟨r, rs', v, vs', rfl, rfl, h1, h2⟩
        obtain ⟨g1, g2⟩ := ih rs' vs' (fun d hd => h0 d (by simp [hd])) h2
        refine ⟨?_, fun q hq => ?_⟩
        · simp only [RRL]
          exact ⟨v, vs', us0 r v, usC rs' vs', rfl, rfl, ret_item0 ho hr h1 (fun e => by rw [hlone] at e; cases e) hus, g1⟩
        · rcases List.mem_cons.1 hq with rfl | hq
          · cases q with
            | pv x => exact h1.2 (h0 c (by simp))
            | fresh _ _ _ => trivial
            | row _ _ _ => trivial
            | _ => exact (show False from h1).elim
          · exact g2 q hq
    obtain ⟨g1, g2⟩ := main cs rs _ h0 h1
    simp only [RR]
    exact ⟨vs, rfl, g2, g1⟩
  | _ => exact (show False from h.2).elim

theorem ret_list (ho : ∀ b, cx.own b → cx.w0.heap.size ≤ b) (hr : RelS cx σ vals w') {lone : Bool} {ids : List Nat} {us : List Value} (hus : ∀ u ∈ us, From σ vals ids u) :
    ∀ (as : List AV) (rs : List RV) (vs : List Value), Items cx σ vals w' as rs vs → (lone = true → flatL rs) → RRL (OkR cx.okA lone cx.w0 w' us) (fun b => cx.w0.heap.size ≤ b) w' rs vs (usL rs vs) := by
  intro as
  induction as with
  | nil =>
    rintro rs vs ⟨rfl, rfl⟩ _
    simp [RRL, usL]
  | cons av as ih =>
    rintro rs vs ⟨r, rs', v, vs', rfl, rfl, h1, h2⟩ hl
    simp only [RRL]
    exact ⟨v, vs', us1 r v, usL rs' vs', rfl, rfl, ret_item ho hr h1 (fun e => (show r.flat1 ∧ flatL rs' from hl e).1) hus, ih rs' vs' h2 fun e => (show r.flat1 ∧ flatL rs' from hl e).2⟩

theorem us0_from {av : AV} {r : RV} {v : Value} (h : Item0 cx σ vals w' av r v) : ∀ u ∈ us0 r v, From σ vals (cellIds av) u := by
  intro u hu
  cases r with
  | fresh e sz els =>
    simp [us0] at hu
    subst hu
    rcases (show _ ∨ _ from h) with ⟨h, _⟩ | ⟨id, h1, h2, h3⟩
    · exact .inl h
    · exact .inr ⟨id, _, h1, h2, rfl, h3⟩
  | row e sz els =>
    simp [us0] at hu
    subst hu
    rcases (show _ ∨ _ from h) with ⟨h, _⟩ | ⟨id, ap, h1, h2, h3⟩
    · exact .inl h
    · exact .inr ⟨id, _, h1, h2, rfl, h3⟩
  | _ => simp [us0] at hu

theorem pair_app (hr : RelS cx σ vals w') {l m : List Value} {i j : List Nat} (hl : ∀ u ∈ l, From σ vals i u) (hm : ∀ u ∈ m, From σ vals j u) (hij : ∀ a ∈ i, ∀ b ∈ j, a ≠ b) (h1 : l.Pairwise fun u t => ∀ b, blkOf u = some b → blkOf t ≠ some b) (h2 : m.Pairwise fun u t => ∀ b, blkOf u = some b → blkOf t ≠ some b) :
    (∀ u ∈ l ++ m, From σ vals (i ++ j) u) ∧ (l ++ m).Pairwise fun u t => ∀ b, blkOf u = some b → blkOf t ≠ some b := by
  refine ⟨fun u hu => ?_, ?_⟩
  · rcases List.mem_append.1 hu with hu | hu
    · rcases hl u hu with h | ⟨id, s, k1, k2⟩
      · exact .inl h
      · exact .inr ⟨id, s, List.mem_append_left _ k1, k2⟩
    · rcases hm u hu with h | ⟨id, s, k1, k2⟩
      · exact .inl h
      · exact .inr ⟨id, s, List.mem_append_right _ k1, k2⟩
  · rw [List.pairwise_append]
    refine ⟨h1, h2, fun u hu x hx b hb hbx => ?_⟩
    rcases hl u hu with rfl | ⟨id, s, k1, k2, k3, k4⟩
    · cases hb
    · rcases hm x hx with rfl | ⟨id2, s2, j1, j2, j3, j4⟩
      · cases hbx
      · exact hr.dis id id2 _ _ _ _ b (hij id k1 id2 j1) k2 j2 k3 j3 k4 j4 hb hbx

theorem us1_from (hr : RelS cx σ vals w') {av : AV} {r : RV} {v : Value} (h : Item cx σ vals w' av r v) (hn : (avIds av).Nodup) : (∀ u ∈ us1 r v, From σ vals (avIds av) u) ∧ (us1 r v).Pairwise fun u t => ∀ b, blkOf u = some b → blkOf t ≠ some b := by
  cases r with
  | pv x => simp [us1, us0]
  | fresh e sz els => exact ⟨by rw [← h.1]; exact us0_from h.2, by simp [us1, us0]⟩
  | row e sz els => exact ⟨by rw [← h.1]; exact us0_from h.2, by simp [us1, us0]⟩
  | agg rs =>
    obtain ⟨cs, vs, rfl, rfl, _, h1⟩ := h
    have main : ∀ (cs : List AV) (rs : List RV) (vs : List Value), Items0 cx σ vals w' cs rs vs → (cs.flatMap cellIds).Nodup → (∀ u ∈ usC rs vs, From σ vals (cs.flatMap cellIds) u) ∧ (usC rs vs).Pairwise fun u t => ∀ b, blkOf u = some b → blkOf t ≠ some b := by
      intro cs
      induction cs with
      | nil => rintro rs vs ⟨rfl, rfl⟩ _; simp [usC]
      | cons c cs ih =>
        rintro rs vs ⟨r, rs', v, vs', rfl, rfl, h1, h2⟩ hn
        rw [List.flatMap_cons, List.nodup_append] at hn
        obtain ⟨g1, g2⟩ := ih rs' vs' h2 hn.2.1
        rw [List.flatMap_cons]
        exact pair_app hr (us0_from h1) g1 hn.2.2 (by cases r <;> simp [us0]) g2
    exact main cs rs _ h1 hn
  | _ => exact (show False from h.2).elim

theorem usL_from (hr : RelS cx σ vals w') : ∀ (as : List AV) (rs : List RV) (vs : List Value), Items cx σ vals w' as rs vs → (as.flatMap avIds).Nodup →
    (∀ u ∈ usL rs vs, From σ vals (as.flatMap avIds) u) ∧ (usL rs vs).Pairwise fun u t => ∀ b, blkOf u = some b → blkOf t ≠ some b := by
  intro as
  induction as with
  | nil =>
    rintro rs vs ⟨rfl, rfl⟩ _
    simp [usL]
  | cons av as ih =>
    rintro rs vs ⟨r, rs', v, vs', rfl, rfl, h1, h2⟩ hn
    rw [List.flatMap_cons, List.nodup_append] at hn
    obtain ⟨n1, n2, n3⟩ := hn
    obtain ⟨g1, g2⟩ := ih rs' vs' h2 n2
    obtain ⟨f1, f2⟩ := us1_from hr h1 n1
    rw [List.flatMap_cons]
    exact pair_app hr f1 g1 n3 f2 g2

theorem from_fresh (ho : ∀ b, cx.own b → cx.w0.heap.size ≤ b) (hr : RelS cx σ vals w') {ids : List Nat} {u : Value} (h : From σ vals ids u) : ∀ b, blkOf u = some b → cx.w0.heap.size ≤ b := by
  intro b hb
  rcases h with rfl | ⟨id, s, _, h1, h2, h3⟩
  · cases hb
  · exact ho b ((hr.sto id s u h1 h3).block h2 hb).1

def packV : List Value → Value
  | [v] => v
  | vs => .tuple vs.toArray

def resVal (tmps : Array Value) : ResultVar → Sem Value
  | .tmp t => pure (tmps.getD t undef)
  | .cell a t => do loadVar t (← asAddr (tmps.getD a undef))

theorem results_run {fn : Func} {l : List ResultVar} (h : fn.results = l.toArray) (hl : l.length ≤ 4) (tmps : Array Value) (P : Program) (w : World) (vs : List Value) (hlen : vs.length = l.length)
    (hv : ∀ (i : Nat) (r : ResultVar) (v : Value), l[i]? = some r → vs[i]? = some v → (resVal tmps r).run P w = .ok v w) :
    (results fn tmps).run P w = .ok (packV vs) w := by
  have e : results fn tmps = (do
      let vs ← l.toArray.mapM (resVal tmps)
      pure (if h : vs.size = 1 then vs[0] else .tuple vs)) := by
    unfold results
    rw [h]
    congr 2
  rw [e]
  match l, vs, hl, hlen, hv with
  | [], [], _, _, hv => simp [packV]
  | [a], [x], _, _, hv =>
    have h0 := hv 0 a x rfl rfl
    simp [h0, packV]
  | [a, b], [x, y], _, _, hv =>
    have h0 := hv 0 a x rfl rfl
    have h1 := hv 1 b y rfl rfl
    simp [h0, h1, packV]
  | [a, b, c], [x, y, z], _, _, hv =>
    have h0 := hv 0 a x rfl rfl
    have h1 := hv 1 b y rfl rfl
    have h2 := hv 2 c z rfl rfl
    simp [h0, h1, h2, packV]
  | [a, b, c, d], [x, y, z, u], _, _, hv =>
    have h0 := hv 0 a x rfl rfl
    have h1 := hv 1 b y rfl rfl
    have h2 := hv 2 c z rfl rfl
    have h3 := hv 3 d u rfl rfl
    simp [h0, h1, h2, h3, packV]
  | _ :: _ :: _ :: _ :: _ :: _, _, hl, _, _ => simp at hl

theorem looks_spec (hr : Rel cx env σ vals a w') : ∀ (l : List ResultVar) (rs : List (Nat × Option (Bool × Nat))) (K : List AV → Prop), l.map (compR cx.P) = rs.map some → looksK σ env rs K →
    ∃ as vs, K as ∧ RAL (Ok cx σ vals w') σ vals w' as vs ∧ vs.length = l.length ∧ ∀ (i : Nat) (r : ResultVar) (v : Value), l[i]? = some r → vs[i]? = some v → (resVal a.tmps r).run cx.P w' = .ok v w' := by
  intro l
  induction l with
  | nil =>
    intro rs K hm h
    cases rs with
    | nil => exact ⟨[], [], h, by simp [RAL], rfl, fun i r v hr => by simp at hr⟩
    | cons p rs => simp at hm
  | cons r l ih =>
    intro rs K hm h
    cases rs with
    | nil => simp at hm
    | cons p rs =>
      simp only [List.map_cons, List.cons.injEq] at hm
      obtain ⟨hp, hm⟩ := hm
      have h := look_spec _ _ _ (show look p.1 (fun v => match p.2 with
        | none => looksK σ env rs fun l => K (v :: l)
        | some q => loadK σ q.1 q.2 v fun v => looksK σ env rs fun l => K (v :: l)) env from h)
      have fin : ∀ (av : AV) (v : Value), RA (Ok cx σ vals w') σ vals w' av v → (resVal a.tmps r).run cx.P w' = .ok v w' → (looksK σ env rs fun l => K (av :: l)) →
          ∃ as vs, K as ∧ RAL (Ok cx σ vals w') σ vals w' as vs ∧ vs.length = (r :: l).length ∧ ∀ (i : Nat) (r' : ResultVar) (v : Value), (r :: l)[i]? = some r' → vs[i]? = some v → (resVal a.tmps r').run cx.P w' = .ok v w' := by
        intro av v hav hrun hk
        obtain ⟨as, vs, h1, h2, h3, h4⟩ := ih rs _ hm hk
        refine ⟨av :: as, v :: vs, h1, by simp only [RAL]; exact ⟨v, vs, rfl, hav, h2⟩, by simp [h3], fun i r' v' hi hv => ?_⟩
        cases i with
        | zero => simp at hi hv; subst hi hv; exact hrun
        | succ i => exact h4 i r' v' (by simpa using hi) (by simpa using hv)
      cases r with
      | tmp t =>
        cases hp
        exact fin _ _ (hr.env t) (by simp [resVal]) h
      | cell s t =>
        obtain ⟨sh, hsh, hp⟩ := opt_some (show opt (shOf cx.P t) (fun q => match q.1 with
          | true => some (s, some (true, q.2))
          | false => some (s, some (false, 1))) = some p from hp)
        have hshape := shape_of hsh
        obtain ⟨ag, n⟩ := sh
        have main : ∀ m, p = (s, some (ag, m)) → m = (if ag then n else 1) → ∃ as vs, K as ∧ RAL (Ok cx σ vals w') σ vals w' as vs ∧ vs.length = (ResultVar.cell s t :: l).length ∧ ∀ (i : Nat) (r' : ResultVar) (v : Value), (ResultVar.cell s t :: l)[i]? = some r' → vs[i]? = some v → (resVal a.tmps r').run cx.P w' = .ok v w' := by
          intro m hpe hme
          subst hpe
          obtain ⟨b, off, us, av, hv, hl, hcells, hra, hk⟩ := load_spec hr.s ag m (hr.env s) h
          refine fin av _ hra ?_ hk
          have := run_load hshape b off us (by rw [hl, hme]) hcells
          simp only [resVal, hv, asAddr, Sem.run_bind, Sem.run_pure, Result.andThen_ok, this]
        cases ag with
        | true => cases hp; exact main n rfl rfl
        | false => cases hp; exact main 1 rfl rfl

theorem ret_sound (hown : ∀ b, cx.own b → cx.w0.heap.size ≤ b) (hr : Rel cx env σ vals a w') {as : List AV} {vs : List Value} (hral : RAL (Ok cx σ vals w') σ vals w' as vs) {lone : Bool} {K : RV → Prop} (h : retK lone σ as K) :
    ∃ r us, K r ∧ RR (OkR cx.okA lone cx.w0 w' us) (fun b => cx.w0.heap.size ≤ b) w' r (packV vs) us ∧
      (∀ u ∈ us, ∀ b, blkOf u = some b → cx.w0.heap.size ≤ b) ∧ ∀ (i j : Nat) (u t : Value) (b : Nat), i ≠ j → us[i]? = some u → us[j]? = some t → blkOf u = some b → blkOf t ≠ some b := by
  have pw : ∀ us : List Value, (us.Pairwise fun u t => ∀ b, blkOf u = some b → blkOf t ≠ some b) → ∀ (i j : Nat) (u t : Value) (b : Nat), i ≠ j → us[i]? = some u → us[j]? = some t → blkOf u = some b → blkOf t ≠ some b := by
    intro us hp i j u t b hij hu ht hb hbt
    rw [List.pairwise_iff_getElem] at hp
    obtain ⟨hi, rfl⟩ := List.getElem?_eq_some_iff.1 hu
    obtain ⟨hj, rfl⟩ := List.getElem?_eq_some_iff.1 ht
    rcases Nat.lt_or_gt_of_ne hij with hlt | hlt
    · exact hp i j hi hj hlt b hb hbt
    · exact hp j i hj hi hlt b hbt hb
  unfold retK at h
  cases ho : ownOnce as [] with
  | false => simp only [ho] at h
  | true =>
    simp only [ho] at h
    cases as with
    | nil =>
      simp only [RAL] at hral
      subst hral
      exact ⟨_, [], h, by simp [RR, RRL, packV], by simp, by simp⟩
    | cons av as =>
      simp only [RAL] at hral
      obtain ⟨v, t, rfl, h1, h2⟩ := hral
      cases as with
      | nil =>
        simp only [RAL] at h2
        subst h2
        obtain ⟨r, h3, h4, h5⟩ := h
        have h3' : retsK σ [av] [r] := ⟨h3, trivial⟩
        have hv' : RAL (Ok cx σ vals w') σ vals w' [av] [v] := by simp only [RAL]; exact ⟨v, [], rfl, h1, rfl⟩
        obtain ⟨σ', k1, k2, k3, k4⟩ := items_prep _ _ _ σ hr.s hv' h3' (ownOnce_spec _ _ ho).1
        obtain ⟨g1, g2⟩ := usL_from k1 _ _ _ k4 (ownOnce_spec _ _ ho).1
        have e : usL [r] [v] = us1 r v := by simp [usL]
        rw [e] at g1 g2
        obtain ⟨_, _, _, _, e1, e2, k5, _⟩ := k4
        cases e1; cases e2
        exact ⟨r, us1 r v, h5, ret_item hown k1 k5 (fun el => by subst el; exact h4) g1, fun u hu => from_fresh hown k1 (g1 u hu), pw _ g2⟩
      | cons bv as =>
        obtain ⟨rs', h3, h4, h5⟩ := h
        have hv' : RAL (Ok cx σ vals w') σ vals w' (av :: bv :: as) (v :: t) := by simp only [RAL] at h2 ⊢; exact ⟨v, t, rfl, h1, h2⟩
        obtain ⟨σ', k1, k2, k3, k4⟩ := items_prep _ _ _ σ hr.s hv' h3 (ownOnce_spec _ _ ho).1
        obtain ⟨g1, g2⟩ := usL_from k1 _ _ _ k4 (ownOnce_spec _ _ ho).1
        simp only [RAL] at h2
        obtain ⟨v2, t2, rfl, _, _⟩ := h2
        refine ⟨.tup rs', usL rs' (v :: v2 :: t2), h5, ?_, fun u hu => from_fresh hown k1 (g1 u hu), pw _ g2⟩
        simp only [RR]
        exact ⟨_, rfl, ret_list hown k1 g1 _ _ _ k4 (fun el => by subst el; exact h4)⟩

/-- Contracts, each for its function. -/
noncomputable def ctxOf (l : List (Nat × Spec)) : Ctx := fun f =>
  List.rec (motive := fun _ => Spec) (mkS false false fun _ _ => False) (fun p _ ih => Bool.rec (motive := fun _ => Spec) ih p.2 (Nat.beq p.1 f)) l

theorem ctx_sound {P : Program} : ∀ (l : List (Nat × Spec)), (∀ p ∈ l, SoundAt P p.1 p.2) → Sound P (ctxOf l) := by
  intro l
  induction l with
  | nil => intro _ f; exact ⟨(by intro h; cases h), (by intro h; cases h), (fun _ _ _ _ _ _ _ _ h => (show False from h).elim), (fun _ _ _ _ _ _ _ _ h => (show False from h).elim), fun _ _ _ _ _ _ _ _ h => (by cases h)⟩
  | cons p l ih =>
    intro h f
    show SoundAt P f (Bool.rec (motive := fun _ => Spec) (ctxOf l f) p.2 (Nat.beq p.1 f))
    cases hb : Nat.beq p.1 f with
    | true =>
      have := Nat.eq_of_beq_eq_true hb
      subst this
      exact h p (by simp)
    | false => exact ih (fun q hq => h q (by simp [hq])) f

/-- A contract of one value that is reckoned out of the arguments. -/
def fnSpec (R : List PV → PV → Prop) : Spec := mkS true true fun ps K => ∃ x, R ps x ∧ K (.pv x)

/-- What 'fn' owes; and that nothing is yielded. -/
def FnOk (S : Spec) : Prop := (S.fn = true → S.lone = true ∧ ∀ ps K, S.run ps K → ∃ x, K (.pv x) ∧ ∀ K' : RV → Prop, K' (.pv x) → S.run ps K') ∧ (∀ ps L, ¬ S.iter ps L) ∧ S.mu = false

theorem fnSpec_ok (R : List PV → PV → Prop) : FnOk (fnSpec R) := ⟨fun _ => ⟨rfl, fun _ _ ⟨x, h1, h2⟩ => ⟨x, h2, fun _ h => ⟨x, h1, h⟩⟩⟩, fun _ _ h => h, rfl⟩
theorem mkS_ok (lone : Bool) (run : List PV → (RV → Prop) → Prop) : FnOk (mkS lone false run) := ⟨fun e => (by cases e), fun _ _ h => h, rfl⟩

theorem enters_own {P : Program} {f : FuncId} {fn : Func} {c : Code} (hf : P.funcs[f]? = some fn) (hname : (fn.name == "runtime.NumGoroutine") = false) (hb : fn.body = some c) : Enters P f := by
  intro args w
  simp [callFunc, hf, hb] at hname ⊢
  simp [hname]

/-- The settings of a call of a function. -/
structure CF (P : Program) (w0 : World) (ok own : Nat → Prop) (pS : List Blk) (pV : List Value) (cx : Cx) : Prop where
  hP : cx.P = P
  hw0 : cx.w0 = w0
  hown : cx.own = own
  hpS : cx.pinS = pS
  hpV : cx.pinV = pV
  hok : cx.okA = ok
  gh : ∀ x v, ¬ cx.gh x v
  lo : cx.lo = 0
  keep : ∀ b, cx.keep b → ∃ o : Obj, cx.w1.heap[b]? = some o ∧ o.isCells = false
  defers : ∀ d ∈ cx.defers, ∃ D, d = { target := .collected D, args := #[] } ∧ cx.keep D ∧ cx.w1.heap[D]? = some (.deferred (some [])) ∧ w0.heap.size ≤ D
  once : cx.defers.Pairwise (fun a b => a ≠ b)

theorem cf_wide (P : Program) (w0 : World) (ok own : Nat → Prop) (pS : List Blk) (pV : List Value) (hpl : pV.length = pS.length) : Wide P (List.range pS.length) (CF P w0 ok own pS pV) := by
  refine ⟨fun cx h => ⟨by rw [h.hpS], by rw [h.hpS, h.hpV]; exact hpl⟩, fun cx h => h.gh, fun cx h => h.lo, fun cx h => h.keep, fun cx w D hD hs h hk h0 h1 hK => ?_⟩
  refine ⟨h.hP, h.hw0, h.hown, h.hpS, h.hpV, h.hok, h.gh, h.lo, ?_, ?_, ?_⟩
  · rintro b (hb | rfl)
    · obtain ⟨o, ho, hc⟩ := h.keep b hb
      exact ⟨o, (hk b hb).trans ho, hc⟩
    · exact ⟨_, hK, rfl⟩
  · intro d hd
    rcases List.mem_cons.1 hd with rfl | hd
    · exact ⟨D, rfl, .inr rfl, hK, by rw [← h.hw0]; exact h0⟩
    · obtain ⟨D', h2, h3, h4, h5⟩ := h.defers d hd
      exact ⟨D', h2, .inl h3, (hk D' h3).trans h4, h5⟩
  · refine List.Pairwise.cons (fun d hd e => ?_) h.once
    obtain ⟨D', h2, h3, _, _⟩ := h.defers d hd
    rw [h2] at e
    have : D = D' := by injection e with e1 _; injection e1
    have := cx.hk D' h3
    omega

theorem leaves {P : Program} {fn : Func} {m : Nat} {R : Ending → World → Prop} {env : Env} {σ : Sto} {vals : List Value} {tmps : Array Value} (fin : ∀ w, Rel cx env σ vals ⟨tmps, []⟩ w → ∃ v, (results fn tmps).run P w = .ok v w ∧ R (.returned v) w) (hk : ∀ b, ¬ cx.keep b) (hw1 : cx.w1.heap.size ≤ cx.w0.heap.size) :
    ∀ (ds : List Deferred) (w : World), (∀ d ∈ ds, ∃ D, d = { target := .collected D, args := #[] } ∧ w.heap[D]? = some (.deferred (some [])) ∧ cx.w0.heap.size ≤ D) → ds.Pairwise (fun a b => a ≠ b) → Rel cx env σ vals ⟨tmps, []⟩ w → LeavesInM Fence.wide m P fn tmps R ds .returning w := by
  intro ds
  induction ds with
  | nil => intro w _ _ hr; exact fin w hr
  | cons d ds ih =>
    intro w hd hp hr
    obtain ⟨D, rfl, hK, h0⟩ := hd d (by simp)
    rw [List.pairwise_cons] at hp
    refine ⟨by simp, .inl ⟨D, _, rfl, run_takeDeferred hK, ih _ (fun d' hd' => ?_) hp.2 (rel_other hr (grownBy_putObj' w D (.deferred none)) (fun r e => by cases e; exact ⟨cx.hown _ h0, Nat.le_trans hw1 h0, _, hK, rfl⟩))⟩⟩
    obtain ⟨D', rfl, hK', h0'⟩ := hd d' (by simp [hd'])
    refine ⟨D', rfl, (World.putObj_heap_other (fun e => ?_)).trans hK', h0'⟩
    exact hp.1 _ hd' (by rw [e])

theorem meets_sound {P : Program} {f : Nat} {fn : Func} {c : Code} {pc : PC} {Γ : Ctx} {ps : List Nat} {rs : List (Nat × Option (Bool × Nat))} {S : Spec} (hΓ : Sound P Γ) (hm : P.follows .mixedOrders = true) (hf : P.funcs[f]? = some fn) (hname : (fn.name == "runtime.NumGoroutine") = false) (hb : fn.body = some c)
    (hc : compC P fn.ntmps c = some (strip pc)) {l : List ResultVar} (hres : fn.results = l.toArray) (hrs : l.map (compR P) = rs.map some) (hl : l.length ≤ 4) (hS : FnOk S) (nargs : Nat) (hn : nargs ≤ fn.ntmps) (hargs : ∀ args K, S.run args K → args.length = nargs) (h : Meets Γ ps pc rs S) : SoundAt P f S := by
  refine ⟨fun e => (hS.1 e).2, fun e => ⟨(hS.1 e).1, hS.2.2⟩, ?_, fun _ _ _ _ _ _ _ _ h => absurd h (hS.2.1 _ _), fun _ _ _ _ _ _ _ _ h => by rw [hS.2.2] at h; cases h⟩
  intro w ok args vs K _ hok hrd hrun
  refine ⟨enters_own hf hname hb, ?_⟩
  have hlen : vs.size = args.length := by simpa using hrd.length
  have hle : args.length ≤ fn.ntmps := by rw [hargs args K hrun]; exact hn
  obtain ⟨env, henv, hlook⟩ := argEnv_spec args 0 _ (h args K hrun)
  let cx : Cx := { P := P, w0 := w, okA := ok, hA := hok }
  let a : Act := { tmps := vs ++ Array.replicate (fn.ntmps - vs.size) undef, defers := [] }
  have hokc : ∀ b, ok b → Ok cx [] [] w b := fun b hb => ⟨.inl hb, hok b hb, fun ⟨i, s, v, hi, _⟩ => by simp at hi⟩
  have hr : Rel cx env [] [] a w := by
    refine ⟨⟨Since.refl _ _, by simp, rfl, fun i s v hi => by simp at hi, fun i j s t u v b _ hi => by simp at hi, ⟨Nat.le_refl _, fun b hb => hb.elim, fun _ _ hb => hb⟩, ⟨fun i v h => by simp [cx] at h, by simp [cx], fun i hi => by simp [cx] at hi, fun i hi => by simp [cx] at hi⟩⟩, fun p => ?_, rfl, fun x v hg => hg.elim, fun p hp => absurd hp (Nat.not_lt_zero p)⟩
    rw [hlook p]
    simp only [Nat.zero_le, if_true, Nat.sub_zero]
    cases hx : args[p]? with
    | none => simp only [RA]
    | some x =>
      simp only [RA]
      have hp : p < args.length := (List.getElem?_eq_some_iff.1 hx).1
      have hval : a.tmps.getD p undef = vs[p]'(by omega) := by
        rw [getD_eq]
        show ((vs ++ Array.replicate (fn.ntmps - vs.size) undef)[p]?).getD undef = _
        rw [Array.getElem?_append_left (by omega), Array.getElem?_eq_getElem (by omega)]; rfl
      rw [hval]
      exact Rd.mono hokc (fun _ _ _ => rfl) x _ (((rdL_iff args _).1 hrd).2 p x _ hx (by simp [show p < vs.size from by omega]))
  have hC : CF P w ok (fun b => w.heap.size ≤ b) [] [] cx := ⟨rfl, rfl, rfl, rfl, rfl, rfl, fun _ _ h => h, rfl, fun b h => h.elim, fun d hd => (by cases hd), List.Pairwise.nil⟩
  have hwp := code_sound (ps := ps) hΓ hm c pc hc (CF P w ok (fun b => w.heap.size ≤ b) [] []) Fence.wide 1 cx (endQ S.lone rs K) env [] [] a w (.inr ⟨rfl, Nat.le_refl _, cf_wide P w ok _ [] [] rfl, fun cx h => h.hP⟩) (.inl fun cx h => h.lo) (.inl rfl) hC (fun cx h => h.hP) (same_endQ _ _ _) (by simp [a]; omega) hr henv
  refine (callsIn_wide (n := 1)).1 (callsIn_of_wp_marks hf hb trivial (wpIn_mono hwp ?_))
  have fin : ∀ a' w', (∃ cx env σ vals, CF P w ok (fun b => w.heap.size ≤ b) [] [] cx ∧ a'.tmps.size = fn.ntmps ∧ Rel cx env σ vals a' w' ∧ looksK σ env rs fun as => retK S.lone σ as K) → LeavesInM Fence.wide 1 P fn a'.tmps (fun e w' => ∃ v' r us, e = .returned v' ∧ K r ∧ Below w.heap.size w w' ∧ RR (OkR ok S.lone w w' us) (fun b => w.heap.size ≤ b) w' r v' us ∧
      (∀ u ∈ us, ∀ b, blkOf u = some b → w.heap.size ≤ b) ∧ ∀ (i j : Nat) (u t : Value) (b : Nat), i ≠ j → us[i]? = some u → us[j]? = some t → blkOf u = some b → blkOf t ≠ some b) a'.defers .returning w' := by
    rintro a' w' ⟨cx', env', σ', vals', hC', hn', hr', hk⟩
    let cxE : Cx := { P := P, w0 := w, okA := ok, hA := hok }
    obtain ⟨P', w0', ok', hA', w1', keep', hk', defers', gh', lo', base', own', hown', pS', pV'⟩ := cx'
    obtain ⟨rfl, hw0', hown'', rfl, rfl, rfl, hgh, hlo, hkp, hdf, honce⟩ := hC'
    have hw2 : w0' = w := hw0'
    subst hw2
    have hown2 : own' = fun b => w0'.heap.size ≤ b := hown''
    subst hown2
    have hrE : Rel cxE env' σ' vals' ⟨a'.tmps, []⟩ w' := ⟨⟨hr'.s.below, hr'.s.one, hr'.s.len, hr'.s.sto, hr'.s.dis, ⟨hr'.s.below.size, fun b hb => hb.elim, fun _ _ hb => hb⟩, ⟨hr'.s.pin.vs, hr'.s.pin.len, hr'.s.pin.refr, hr'.s.pin.refb⟩⟩, hr'.env, rfl, fun x v hg => hg.elim, fun p hp => absurd hp (Nat.not_lt_zero p)⟩
    refine leaves (cx := cxE) ?_ (fun _ h => h) (Nat.le_refl _) a'.defers w' ?_ ?_ hrE
    · intro w2 hr2
      obtain ⟨as, vs', hk, hral, hlen', hrun'⟩ := looks_spec hr2 l rs _ hrs hk
      obtain ⟨r, us, h1, h2, h3, h4⟩ := ret_sound (fun _ h => h) hr2 hral hk
      exact ⟨_, results_run hres hl _ _ w2 vs' hlen' hrun', _, r, us, rfl, h1, hr2.s.below.to_below (fun _ h => h), h2, h3, h4⟩
    · intro d hd
      rw [hr'.defers] at hd
      obtain ⟨D, h2, h3, h4, h5⟩ := hdf d hd
      exact ⟨D, h2, (hr'.s.fr.same D h3).trans h4, h5⟩
    · rw [hr'.defers]; exact honce
  intro e a' w' hp
  cases e with
  | normal => exact fin a' w' hp
  | ret => exact fin a' w' hp
  | exit i =>
    obtain ⟨_, _, _, _, _, _, _, hk⟩ := hp
    exact (show False from hk).elim
  | _ => exact hp.elim
end
end Go.Dv
end
section
/-
  A function that writes what it is handed and whose condition holds keeps its contract in the model.
-/
set_option linter.unusedSimpArgs false
namespace Go.Dv
open Go.RowKit

theorem range_from (n : Nat) : ∀ m, (List.range (m + 1)).map (· + n) = n :: (List.range m).map (· + (n + 1)) := by
  intro m
  rw [List.range_succ_eq_map, List.map_cons, List.map_map]
  congr 1
  · omega
  · apply List.map_congr_left
    intro x _
    simp only [Function.comp]
    omega

theorem pinK_spec (σ : Sto) : ∀ (n : Nat) (K : List Nat → Prop), pinK σ n K → K ((List.range σ.length).map (· + n)) := by
  induction σ with
  | nil => intro n K h; exact h
  | cons s σ ih =>
    intro n K h
    have := ih (n + 1) (fun t => K (n :: t)) h
    rw [List.length_cons, range_from]
    exact this

theorem argEnvA_spec (l : List AV) : ∀ (n : Nat) (K : Env → Prop), argEnvA l n K → ∃ env, K env ∧ ∀ p, lookF p env = if n ≤ p then (l[p - n]?).getD .bad else .bad := by
  induction l with
  | nil => intro n K h; exact ⟨[], h, fun p => by simp [lookF]⟩
  | cons x l ih =>
    intro n K h
    obtain ⟨env, h1, h2⟩ := ih (n + 1) _ h
    refine ⟨_, h1, fun p => ?_⟩
    show (bif Nat.beq n p then x else lookF p env) = _
    by_cases hp : n = p
    · subst hp; simp
    · rw [nbeq hp, cond_false, h2 p]
      by_cases hlt : n ≤ p
      · rw [if_pos (show n + 1 ≤ p by omega), if_pos hlt]
        have : p - n = (p - (n + 1)) + 1 := by omega
        rw [this]; rfl
      · rw [if_neg (by omega), if_neg hlt]

theorem same_endM (pin : List Nat) (rs : List (Nat × Option (Bool × Nat))) (K : AV → Sto → Prop) : ∀ e, Same (endM pin rs K e) := by
  intro e env env' σ h
  cases e with
  | normal => exact looksK_same h σ rs _
  | ret => exact looksK_same h σ rs _
  | exit i => rfl

theorem raL_iff {ok : Nat → Prop} {σ : Sto} {vals : List Value} {w : World} (cs : List AV) : ∀ vs : List Value, RAL ok σ vals w cs vs → vs.length = cs.length ∧ ∀ (j : Nat) (c : AV) (v : Value), cs[j]? = some c → vs[j]? = some v → RA ok σ vals w c v := by
  induction cs with
  | nil => intro vs h; simp only [RAL] at h; subst h; exact ⟨rfl, fun j c v hc => by simp at hc⟩
  | cons c cs ih =>
    intro vs h
    simp only [RAL] at h
    obtain ⟨v, t, rfl, h1, h2⟩ := h
    obtain ⟨h3, h4⟩ := ih t h2
    refine ⟨by simp [h3], fun j c' v' hc hv => ?_⟩
    cases j with
    | zero => simp at hc hv; subst hc hv; exact h1
    | succ j => exact h4 j c' v' (by simpa using hc) (by simpa using hv)

theorem packA_ra {ok : Nat → Prop} {σ : Sto} {vals : List Value} {w : World} {as : List AV} {vs : List Value} (h : RAL ok σ vals w as vs) : RA ok σ vals w (packA as) (packV vs) := by
  have tup : RA ok σ vals w (.tup as) (.tuple vs.toArray) := by
    simp only [RA]; exact ⟨_, rfl, by simpa using h⟩
  cases as with
  | nil =>
    have h' := h
    simp only [RAL] at h'
    subst h'
    exact tup
  | cons a as =>
    have h' := h
    simp only [RAL] at h'
    obtain ⟨v, t, rfl, h1, h2⟩ := h'
    cases as with
    | nil => simp only [RAL] at h2; subst h2; exact h1
    | cons b as =>
      simp only [RAL] at h2
      obtain ⟨v2, t2, rfl, _, _⟩ := h2
      exact tup

section
variable {cx : Cx} {env : Env} {σ : Sto} {vals : List Value} {a : Act} {w' : World}

theorem meetsM_sound {P : Program} {f : Nat} {fn : Func} {c : Code} {pc : PC} {Γ : Ctx} {ps : List Nat} {rs : List (Nat × Option (Bool × Nat))} {mrun : List AV → Sto → (AV → Sto → Prop) → Prop} (hΓ : Sound P Γ) (hm : P.follows .mixedOrders = true) (hf : P.funcs[f]? = some fn) (hname : (fn.name == "runtime.NumGoroutine") = false) (hb : fn.body = some c)
    (hc : compC P fn.ntmps c = some (strip pc)) {l : List ResultVar} (hres : fn.results = l.toArray) (hrs : l.map (compR P) = rs.map some) (hl : l.length ≤ 4) (nargs : Nat) (hn : nargs ≤ fn.ntmps) (hargs : ∀ as σ K, mrun as σ K → as.length = nargs) (h : MeetsM Γ ps pc rs (mkM mrun)) : SoundAt P f (mkM mrun) := by
  refine ⟨fun e => (by cases e), fun e => (by cases e), fun _ _ _ _ _ e => (by cases e), fun _ _ _ _ _ _ _ _ h => (show False from h).elim, ?_⟩
  intro w ok hok σ0 vals0 as vs K _ hrel hral hrun
  refine ⟨enters_own hf hname hb, ?_⟩
  have hlen : vs.size = as.length := by simpa using hral.length
  have hle : as.length ≤ fn.ntmps := by rw [hargs as σ0 K hrun]; exact hn
  obtain ⟨env, henv, hlook⟩ := argEnvA_spec as 0 _ (h as σ0 K hrun)
  have henv := pinK_spec σ0 0 _ henv
  simp only [Nat.add_zero, List.map_id'] at henv
  have hpl : vals0.length = σ0.length := hrel.len
  let cx : Cx := mcx P w ok hok σ0 vals0
  let own : Nat → Prop := fun b => w.heap.size ≤ b ∨ Mut σ0 vals0 b
  let a : Act := { tmps := vs ++ Array.replicate (fn.ntmps - vs.size) undef, defers := [] }
  have hr : Rel cx env σ0 vals0 a w := by
    refine ⟨hrel, fun p => ?_, rfl, fun x v hg => hg.elim, fun p hp => absurd hp (Nat.not_lt_zero p)⟩
    rw [hlook p]
    simp only [Nat.zero_le, if_true, Nat.sub_zero]
    cases hx : as[p]? with
    | none => simp only [Option.getD_none, RA]
    | some x =>
      simp only [Option.getD_some]
      have hp : p < as.length := (List.getElem?_eq_some_iff.1 hx).1
      have hval : a.tmps.getD p undef = vs[p]'(by omega) := by
        rw [getD_eq]
        show ((vs ++ Array.replicate (fn.ntmps - vs.size) undef)[p]?).getD undef = _
        rw [Array.getElem?_append_left (by omega), Array.getElem?_eq_getElem (by omega)]; rfl
      rw [hval]
      exact (raL_iff as _ hral).2 p x _ hx (by simp [show p < vs.size from by omega])
  have hC : CF P w ok own σ0 vals0 cx := ⟨rfl, rfl, rfl, rfl, rfl, rfl, fun _ _ h => h, rfl, fun b h => h.elim, fun d hd => (by cases hd), List.Pairwise.nil⟩
  have hwp := code_sound (ps := ps) hΓ hm c pc hc (CF P w ok own σ0 vals0) Fence.wide 1 cx (endM (List.range σ0.length) rs K) env σ0 vals0 a w (.inr ⟨rfl, Nat.le_refl _, cf_wide P w ok own σ0 vals0 hpl, fun cx h => h.hP⟩) (.inl fun cx h => h.lo) (.inl rfl) hC (fun cx h => h.hP) (same_endM _ _ _) (by simp [a]; omega) hr henv
  refine (callsIn_wide (n := 1)).1 (callsIn_of_wp_marks hf hb trivial (wpIn_mono hwp ?_))
  have fin : ∀ a' w', (∃ cx env σ vals, CF P w ok own σ0 vals0 cx ∧ a'.tmps.size = fn.ntmps ∧ Rel cx env σ vals a' w' ∧ looksK σ env rs fun as => idsAVs as (List.range σ0.length) fun l => idsBox σ l l fun r => renAVs r as fun as => renSto σ r r fun σ => K (packA as) σ) →
      LeavesInM Fence.wide 1 P fn a'.tmps (fun e w' => ∃ v res σ1 vals1, e = .returned v ∧ K res σ1 ∧ RelS (mcx P w ok hok σ0 vals0) σ1 vals1 w' ∧ RA (Ok (mcx P w ok hok σ0 vals0) σ1 vals1 w') σ1 vals1 w' res v) a'.defers .returning w' := by
    rintro a' w' ⟨cx', env', σ', vals', hC', hn', hr', hk⟩
    obtain ⟨P', w0', ok', hA', w1', keep', hk', defers', gh', lo', base', own', hown', pS', pV'⟩ := cx'
    obtain ⟨rfl, hw0', hown'', hpS', hpV', hok', hgh, hlo, hkp, hdf, honce⟩ := hC'
    have hw2 : w0' = w := hw0'
    subst hw2
    have hown2 : own' = own := hown''
    subst hown2
    have hp2 : pS' = σ0 := hpS'
    subst hp2
    have hp3 : pV' = vals0 := hpV'
    subst hp3
    have hok2 : ok' = ok := hok'
    subst hok2
    let cxE : Cx := mcx P' w0' ok' hok pS' pV'
    have hrE : Rel cxE env' σ' vals' ⟨a'.tmps, []⟩ w' := ⟨⟨hr'.s.below, hr'.s.one, hr'.s.len, hr'.s.sto, hr'.s.dis, ⟨hr'.s.below.size, fun b hb => hb.elim, fun _ _ hb => hb⟩, ⟨hr'.s.pin.vs, hr'.s.pin.len, hr'.s.pin.refr, hr'.s.pin.refb⟩⟩, hr'.env, rfl, fun x v hg => hg.elim, fun p hp => absurd hp (Nat.not_lt_zero p)⟩
    refine leaves (cx := cxE) ?_ (fun _ h => h) (Nat.le_refl _) a'.defers w' ?_ ?_ hrE
    · intro w2 hr2
      obtain ⟨as, vs', hk, hral, hlen', hrun'⟩ := looks_spec hr2 l rs _ hrs hk
      obtain ⟨l1, hk, hl1, hp1⟩ := idsAVs_spec as _ _ List.nodup_range hk
      obtain ⟨r, hk, hrn, hp2⟩ := idsBox_spec σ' l1 l1 _ hl1 hk
      obtain ⟨as', hk, has⟩ := renAVs_spec r as _ hk
      obtain ⟨σ2, hk, h1, h2⟩ := renSto_spec σ' r r _ hk
      obtain ⟨vals2, hA, hs2, hok2⟩ := ren_rel (cx := cxE) ⟨rfl, hpl⟩ (hp1.trans hp2) hrn h1 h2 hr2.s
      exact ⟨_, results_run hres hl _ _ w2 vs' hlen' hrun', _, _, σ2, vals2, rfl, hk, hs2, packA_ra (RenL.ra hA hok2 _ _ _ has hral)⟩
    · intro d hd
      rw [hr'.defers] at hd
      obtain ⟨D, h2, h3, h4, h5⟩ := hdf d hd
      exact ⟨D, h2, (hr'.s.fr.same D h3).trans h4, h5⟩
    · rw [hr'.defers]; exact honce
  intro e a' w' hp
  cases e with
  | normal => exact fin a' w' hp
  | ret => exact fin a' w' hp
  | exit i =>
    obtain ⟨_, _, _, _, _, _, _, hk⟩ := hp
    exact (show False from hk).elim
  | _ => exact hp.elim
end
end Go.Dv
end
section
/-
  Steps of a proof of 'Meets', each a small lemma that is applied.
-/
namespace Go.Dv

theorem wrap64 {n : Int} (h : -9223372036854775808 ≤ n ∧ n ≤ 9223372036854775807) : IntKind.i64.wrap n = n := by
  have hb : IntKind.i64.bits = 64 := rfl
  simp only [IntKind.wrap, IntKind.signed, hb]
  have : (2 : Int) ^ 64 = 18446744073709551616 := by decide
  have : (2 : Int) ^ (64 - 1) = 9223372036854775808 := by decide
  simp_all
  omega

theorem n64 {r n : Int} (hr : r = IntKind.i64.wrap n) (h : -9223372036854775808 ≤ n ∧ n ≤ 9223372036854775807) : r = n := hr.trans (wrap64 h)

theorem cmp {b : Bool} {p : Prop} (h : b = true ↔ p) : (b = true ∧ p) ∨ (b = false ∧ ¬ p) := by
  cases b with
  | true => exact .inl ⟨rfl, h.1 rfl⟩
  | false => exact .inr ⟨rfl, fun hp => by have := h.2 hp; cases this⟩

theorem N64 {n : Int} {K : Int → Prop} (h : -9223372036854775808 ≤ n ∧ n ≤ 9223372036854775807) (k : K n) : ∀ r : Int, r = IntKind.i64.wrap n → K r := fun r hr => by
  rw [n64 hr h]; exact k

theorem CMP {p : Prop} {K : Bool → Prop} (ht : p → K true) (hf : ¬ p → K false) : ∀ b : Bool, (b = true ↔ p) → K b := fun b hb => by
  cases b with
  | true => exact ht (hb.1 rfl)
  | false => exact hf fun hp => by have := hb.2 hp; cases this

theorem EQI {n : Int} {K : Int → Prop} (k : K n) : ∀ r : Int, r = n → K r := fun r hr => by subst hr; exact k

theorem ctx_nil {P : Program} : Sound P (ctxOf []) := ctx_sound [] (fun _ h => by cases h)
theorem ctx_cons {P : Program} {f : Nat} {S : Spec} {l : List (Nat × Spec)} (h : SoundAt P f S) (ht : Sound P (ctxOf l)) : Sound P (ctxOf ((f, S) :: l)) := by
  intro g
  show SoundAt P g (Bool.rec (motive := fun _ => Spec) (ctxOf l g) S (Nat.beq f g))
  cases hb : Nat.beq f g with
  | true =>
    have := Nat.eq_of_beq_eq_true hb
    subst this
    exact h
  | false => exact ht g
end Go.Dv
end
section
/-
  What a law's statement asks, out of the contract of its function: it returns true, and each argument reads behind the call as it read before.
-/
namespace Go.Dv
open Go Go.ChangeShapes Go.WideShapes Go.ChangeAt Go.RowKit

/-- A call of a function whose contract ends in true. -/
theorem calls_true {P : Program} {f : FuncId} {S : Spec} (h : SoundAt P f S) (hmu : S.mu = false) {W : World} {args : Array Value} {ps : List PV} (hrd : RdL (fun b => b < W.heap.size) W ps args.toList) (hrun : S.run ps fun r => r = .pv (.bool true)) :
    Calls P f args W fun e w' => e = .returned (.bool true) ∧ Below W.heap.size W w' := by
  refine (h.2.2.1 W (fun b => b < W.heap.size) ps args _ hmu (fun _ hb => hb) hrd hrun).2.mono fun e w' he => ?_
  obtain ⟨v, r, us, rfl, rfl, hb, hr, _⟩ := he
  simp only [RR, Rd] at hr
  exact ⟨by rw [hr.1], hb⟩

theorem trodAll_below {H : Type} {enc : TypeId × Value → H} {P : Program} (hl : laidOutB P = true) {W W' : World} (hb : Below W.heap.size W W') : ∀ (ts : List TypeId) (vs : List Value) (ds : List (DataW H)) (ps : List MemPlace),
    (∀ t ∈ ts, P.readableRec t = true ∧ t < P.types.size) → DataW.TrodAll enc P W 0 (fun _ => true) true ts vs ds ps → (∀ x ∈ ps, x.block < W.heap.size) → DataW.TrodAll enc P W' 0 (fun b => decide (b < W.heap.size)) true ts vs ds ps := by
  intro ts
  induction ts with
  | nil =>
    intro vs ds ps _ h _
    obtain ⟨rfl, rfl, rfl⟩ := trodAll_nil h
    exact trodAll_mk0
  | cons t ts ih =>
    intro vs ds ps ht h hlt
    obtain ⟨v, vs', d, ds', p, q, rfl, rfl, rfl, h1, h2⟩ := trodAll_cons h
    exact ⟨p, q, Below.trod hl (ht t (by simp)).1 (ht t (by simp)).2 h1 hb (fun x hx => hlt x (by simp [hx])), ih _ _ _ (fun t' h' => ht t' (by simp [h'])) h2 (fun x hx => hlt x (by simp [hx])), rfl⟩

/-- What the row asks behind the call. -/
theorem post_true {H : Type} {enc : TypeId × Value → H} {P : Program} (hl : laidOutB P = true) {f : Func} {s : ChangeSpec} {apart fresh handsOn : Bool} {W W' : World} {args : Array Value} {ds gs : List (DataW H)} {before : List MemPlace} {tb : TypeId}
    (hts : ∀ t ∈ f.params.toList, P.readableRec t = true ∧ t < P.types.size) (hrt : f.resultTypes = #[tb]) (hub : P.underlying tb = some .bool) (hvars : s.vars = [])
    (hfn : s.fn H (ds ++ gs) = { results := [.lit (.bool true)], args := ds })
    (hW : DataW.Whole enc P f.params.toList s.vars apart W args.toList ds gs before) (hb : Below W.heap.size W W') :
    s.post enc P f apart fresh handsOn false W args (.bool true) W' := by
  have hlt := hW.lt
  have hW' := hW
  obtain ⟨p, q, hA, hV, rfl, _, _⟩ := hW
  rw [hvars] at hV
  obtain ⟨rfl, rfl⟩ := trodVars_none hV
  refine ⟨ds, [], p ++ [], [], p, [], hW', ?_, ?_, ?_, Below.frame hb _, fun h => by cases h⟩
  · rw [hfn, hrt]
    exact trodAll_cons_mk (shut_bool hub _) trodAll_mk0
  · rw [hfn]
    exact trodAll_below hl hb _ _ _ _ hts hA (fun x hx => by simpa using hlt x (by simpa using hx))
  · rw [hfn, hvars]
    simp [DataW.TrodVars]
end Go.Dv
end
section
/-
  Steps of a proof of 'Meets' that a walk applies one after the other.
-/
namespace Go.Dv

theorem NOT_t {K : Bool → Prop} (k : K false) : ∀ r : Bool, (r = true ↔ (true = false)) → K r := fun r hr => by
  cases r with
  | false => exact k
  | true => exact absurd (hr.1 rfl) (by decide)
theorem NOT_f {K : Bool → Prop} (k : K true) : ∀ r : Bool, (r = true ↔ (false = false)) → K r := fun r hr => by
  cases r with
  | true => exact k
  | false => exact absurd (hr.2 rfl) (by decide)
theorem CMP_t {p : Prop} {K : Bool → Prop} (h : p) (k : K true) : ∀ b : Bool, (b = true ↔ p) → K b := fun b hb => by
  rw [hb.2 h]; exact k
theorem CMP_f {p : Prop} {K : Bool → Prop} (h : ¬ p) (k : K false) : ∀ b : Bool, (b = true ↔ p) → K b := fun b hb => by
  cases b with
  | false => exact k
  | true => exact absurd (hb.1 rfl) h
theorem MAX {a b : Int} {K : Int → Prop} (k : K (max a b)) : ∀ r : Int, r = max a b → K r := fun r hr => by subst hr; exact k
theorem MIN {a b : Int} {K : Int → Prop} (k : K (min a b)) : ∀ r : Int, r = min a b → K r := fun r hr => by subst hr; exact k
theorem QUO {a b : Int} {K : Int → Prop} (h : 0 ≤ a ∧ 0 < b ∧ a ≤ 9223372036854775807) (k : K (a / b)) : b ≠ 0 ∧ ∀ r : Int, r = IntKind.i64.wrap (a.tdiv b) → K r := by
  refine ⟨by omega, fun r hr => ?_⟩
  rw [Int.tdiv_eq_ediv_of_nonneg h.1] at hr
  have h1 := Int.ediv_le_self b h.1
  have h2 := Int.ediv_nonneg h.1 (Int.le_of_lt h.2.1)
  rw [wrap64 (by omega)] at hr
  subst hr; exact k
theorem REM {a b : Int} {K : Int → Prop} (h : 0 ≤ a ∧ 0 < b) (k : K (a % b)) : b ≠ 0 ∧ ∀ r : Int, r = a.tmod b → K r := by
  refine ⟨by omega, fun r hr => ?_⟩
  rw [Int.tmod_eq_emod_of_nonneg h.1] at hr
  subst hr; exact k
theorem LEN {α : Type} {f : α → PV} {l : List α} {K : Int → Prop} (k : l.length ≤ 9223372036854775807 → K (l.length : Nat)) : (l.map f).length ≤ 9223372036854775807 → K ((l.map f).length : Nat) := by
  rw [List.length_map]; exact k
theorem LENr {n : Nat} {z : PV} {K : Int → Prop} (k : n ≤ 9223372036854775807 → K n) : (List.replicate n z).length ≤ 9223372036854775807 → K ((List.replicate n z).length : Nat) := by
  rw [List.length_replicate]; exact k
/-- An element of a row that is read alone. -/
theorem IDX {α : Type} {f : α → PV} {l : List α} {i : Int} {K : PV → Prop} (h : 0 ≤ i ∧ i < l.length) (k : ∀ x, l[i.toNat]? = some x → K (f x)) : ∃ y, (0 ≤ i ∧ (l.map f)[i.toNat]? = some y) ∧ K y := by
  have hlt : i.toNat < l.length := by omega
  refine ⟨f l[i.toNat], ⟨h.1, by rw [List.getElem?_map, List.getElem?_eq_getElem hlt]; rfl⟩, k _ (List.getElem?_eq_getElem hlt)⟩
/-- A byte of a string. -/
theorem IDXs {l : List UInt8} {i : Int} {K : UInt8 → Prop} (h : 0 ≤ i ∧ i < l.length) (k : ∀ x, l[i.toNat]? = some x → K x) : ∃ b, (0 ≤ i ∧ l[i.toNat]? = some b) ∧ K b := by
  have hlt : i.toNat < l.length := by omega
  exact ⟨l[i.toNat], ⟨h.1, List.getElem?_eq_getElem hlt⟩, k _ (List.getElem?_eq_getElem hlt)⟩
/-- What lies at a place of the call's own row. -/
theorem GET {α : Type} {f : α → PV} {l : List α} {i : Nat} {K : PV → Prop} (h : i < l.length) (k : ∀ x, l[i]? = some x → K (f x)) : ∃ y, (l.map f)[i]? = some y ∧ K y :=
  ⟨f l[i], by rw [List.getElem?_map, List.getElem?_eq_getElem h]; rfl, k _ (List.getElem?_eq_getElem h)⟩
theorem OWN {α : Type} {f : α → PV} {l : List α} {i : Int} {p : Prop} (h : 0 ≤ i ∧ i < l.length) (k : p) : (0 ≤ i ∧ i.toNat < (l.map f).length) ∧ p := by
  rw [List.length_map]; exact ⟨⟨h.1, by omega⟩, k⟩
theorem SET {α : Type} {f : α → PV} {l : List α} {i : Nat} {x : α} {y : PV} {K : List PV → Prop} (h : y = f x) (k : K ((l.set i x).map f)) : K ((l.map f).set i y) := by
  rw [h, ← List.map_set]; exact k
theorem U8 {n : Int} {K : Int → Prop} (h : 0 ≤ n ∧ n ≤ 255) (k : K n) : ∀ r : Int, r = IntKind.u8.wrap n → K r := fun r hr => by
  have e : IntKind.u8.wrap n = n := by
    have hb : IntKind.u8.bits = 8 := rfl
    simp only [IntKind.wrap, IntKind.signed, hb]
    simp
    omega
  rw [hr, e]; exact k
theorem U8m {n : Int} {K : Int → Prop} (k : K (n % 256)) : ∀ r : Int, r = IntKind.u8.wrap n → K r := fun r hr => by
  have e : IntKind.u8.wrap n = n % 256 := by
    have hb : IntKind.u8.bits = 8 := rfl
    simp only [IntKind.wrap, IntKind.signed, hb]
    simp
  rw [hr, e]; exact k
theorem SHR {j : IntKind} {a b : Int} {K : Int → Prop} (hj : 8 ≤ j.bits) (h : 0 ≤ b ∧ b ≤ 8 ∧ 0 ≤ a) (k : 0 ≤ a / (2 ^ b.toNat : Nat) ∧ a / (2 ^ b.toNat : Nat) ≤ a → K (a / (2 ^ b.toNat : Nat))) : 0 ≤ b ∧ ∀ r : Int, r = a.fdiv (2 ^ min b.toNat j.bits) → K r := by
  refine ⟨h.1, fun r hr => ?_⟩
  have e8 : min b.toNat j.bits = b.toNat := by omega
  have hp : 0 ≤ ((2 ^ b.toNat : Nat) : Int) := Int.natCast_nonneg _
  rw [e8, show ((2 : Int) ^ b.toNat) = ((2 ^ b.toNat : Nat) : Int) by simp, Int.fdiv_eq_ediv_of_nonneg _ hp] at hr
  subst hr; exact k ⟨Int.ediv_nonneg h.2.2 hp, Int.ediv_le_self _ h.2.2⟩
theorem LENx {n : Nat} {K : Int → Prop} (k : n ≤ 9223372036854775807 → K n) : n ≤ 9223372036854775807 → K n := k
/-- An element of a row that is read alone, at a place that is a natural number. -/
theorem IDXn {α : Type} {f : α → PV} {l : List α} {i : Nat} {K : PV → Prop} (h : i < l.length) (k : ∀ x, l[i]? = some x → K (f x)) : ∃ y, (0 ≤ (i : Int) ∧ (l.map f)[(i : Int).toNat]? = some y) ∧ K y :=
  ⟨f l[i], ⟨by omega, by rw [Int.toNat_natCast, List.getElem?_map, List.getElem?_eq_getElem h]; rfl⟩, k _ (List.getElem?_eq_getElem h)⟩
/-- A contract of a question. -/
def fnB (R : List PV → Prop → Prop) : Spec := mkS true true fun ps K => ∃ p, R ps p ∧ ∀ r : Bool, (r = true ↔ p) → K (.pv (.bool r))
theorem fnB_ok (R : List PV → Prop → Prop) : FnOk (fnB R) := by
  refine ⟨fun _ => ⟨rfl, fun ps K h => ?_⟩, fun _ _ h => h, rfl⟩
  obtain ⟨p, h1, h2⟩ := h
  refine ⟨.bool (@decide p (Classical.propDecidable p)), h2 _ (by simp), fun K' h => ⟨p, h1, fun r hr => ?_⟩⟩
  have : r = @decide p (Classical.propDecidable p) := by
    cases r <;> simp_all
  rw [this]; exact h
theorem YES {p : Prop} {K : RV → Prop} (hK : ∀ r : Bool, (r = true ↔ p) → K (.pv (.bool r))) (h : p) : K (.pv (.bool true)) := hK true (by simp [h])
theorem NO {p : Prop} {K : RV → Prop} (hK : ∀ r : Bool, (r = true ↔ p) → K (.pv (.bool r))) (h : ¬ p) : K (.pv (.bool false)) := hK false (by simp [h])
/-- A byte of a row. -/
theorem IDXb {l : List UInt8} {i : Int} {K : PV → Prop} (h : 0 ≤ i ∧ i < l.length) (k : ∀ x, l[i.toNat]? = some x → x.toNat < 256 → K (byteP x)) : ∃ y, (0 ≤ i ∧ (l.map byteP)[i.toNat]? = some y) ∧ K y := by
  have hlt : i.toNat < l.length := by omega
  exact ⟨byteP l[i.toNat], ⟨h.1, by rw [List.getElem?_map, List.getElem?_eq_getElem hlt]; rfl⟩, k _ (List.getElem?_eq_getElem hlt) (UInt8.toNat_lt _)⟩
/-- A byte of a string, and its bound. -/
theorem IDXt {l : List UInt8} {i : Int} {K : UInt8 → Prop} (h : 0 ≤ i ∧ i < l.length) (k : ∀ x, l[i.toNat]? = some x → x.toNat < 256 → K x) : ∃ b, (0 ≤ i ∧ l[i.toNat]? = some b) ∧ K b := by
  have hlt : i.toNat < l.length := by omega
  exact ⟨l[i.toNat], ⟨h.1, List.getElem?_eq_getElem hlt⟩, k _ (List.getElem?_eq_getElem hlt) (UInt8.toNat_lt _)⟩
theorem AND1 {a : Int} {K : Int → Prop} (h : 0 ≤ a ∧ a ≤ 4611686018427387903) (k : K (a % 2)) : ∀ r : Int, r = bitsOp .and .i64 a 1 → K r := fun r hr => by
  have e : bitsOp .and .i64 a 1 = a % 2 := by
    obtain ⟨n, rfl⟩ : ∃ n : Nat, a = n := ⟨a.toNat, by omega⟩
    have hb : IntKind.i64.bits = 64 := rfl
    have e1 : (BitVec.ofInt 64 (n : Int) &&& BitVec.ofInt 64 1).toNat = n % 2 := by
      rw [BitVec.toNat_and, BitVec.toNat_ofInt, BitVec.toNat_ofInt]
      have : ((n : Int) % ((2 : Nat) ^ 64 : Nat)).toNat = n := by omega
      rw [this]
      exact Nat.and_one_is_mod n
    show IntKind.i64.wrap ((BitVec.ofInt 64 (n : Int) &&& BitVec.ofInt 64 1).toNat : Int) = _
    rw [e1, wrap64 (by omega)]
    rfl
  rw [hr, e]; exact k
/-- What two numbers come to bit by bit, as it stands. -/
theorem BITS {op : BinOp} {j : IntKind} {a b : Int} {K : Int → Prop} (k : K (bitsOp op j a b)) : ∀ r : Int, r = bitsOp op j a b → K r := fun r hr => by rw [hr]; exact k
/-- The same, with what is known of all elements. -/
theorem IDXp {α : Type} {f : α → PV} {l : List α} {P : α → Prop} {i : Int} {K : PV → Prop} (hP : ∀ x ∈ l, P x) (h : 0 ≤ i ∧ i < l.length) (k : ∀ x, l[i.toNat]? = some x → P x → K (f x)) : ∃ y, (0 ≤ i ∧ (l.map f)[i.toNat]? = some y) ∧ K y :=
  IDX h fun x hx => k x hx (hP x (List.mem_of_getElem? hx))
theorem GETp {α : Type} {f : α → PV} {l : List α} {P : α → Prop} {i : Nat} {K : PV → Prop} (hP : ∀ x ∈ l, P x) (h : i < l.length) (k : ∀ x, l[i]? = some x → P x → K (f x)) : ∃ y, (l.map f)[i]? = some y ∧ K y :=
  GET h fun x hx => k x hx (hP x (List.mem_of_getElem? hx))
end Go.Dv
end
section
/-
  Short names in which compiled code is written down.
-/
namespace Go.Dv.Sh
abbrev t (n : Nat) : Operand := .tmp n
abbrev k (n : Int) : Operand := .const (.int .i64 n)
abbrev o (d : Nat) (p : PK) : PO := ⟨some d, none, p⟩
abbrev O (p : PK) : PO := ⟨none, none, p⟩
abbrev q (g : Nat) (p : PO) : PO := ⟨p.dst, some (g, true), p.k⟩
abbrev Q (g : Nat) (p : PO) : PO := ⟨p.dst, some (g, false), p.k⟩
abbrev m (d x : Nat) : PO := ⟨some d, none, .mv (.tmp x)⟩
abbrev M (d : Nat) (n : Int) : PO := ⟨some d, none, .mv (.const (.int .i64 n))⟩
abbrev b (d : Nat) (p : BinOp) (x y : Nat) : PO := ⟨some d, none, .bin p (.tmp x) (.tmp y)⟩
abbrev B (d : Nat) (p : BinOp) (x : Nat) (y : Int) : PO := ⟨some d, none, .bin p (.tmp x) (.const (.int .i64 y))⟩
abbrev l (d x : Nat) : PO := ⟨some d, none, .load false 1 (.tmp x)⟩
abbrev L (d n x : Nat) : PO := ⟨some d, none, .load true n (.tmp x)⟩
abbrev f (d p x : Nat) : PO := ⟨some d, none, .fldA p (.tmp x)⟩
abbrev i (d s x y : Nat) : PO := ⟨some d, none, .idxA s (.tmp x) (.tmp y)⟩
abbrev e (d x n : Nat) : PO := ⟨some d, none, .ext (.tmp x) n⟩
abbrev s (n x y : Nat) : PO := ⟨none, none, .store n (.tmp x) (.tmp y)⟩
abbrev S (n x : Nat) (y : Int) : PO := ⟨none, none, .store n (.tmp x) (.const (.int .i64 y))⟩
abbrev p (d c x y : Nat) : PO := ⟨some d, none, .pick (.tmp c) (.tmp x) (.tmp y)⟩
abbrev n (d x : Nat) : PO := ⟨some d, none, .lenR (.tmp x)⟩
abbrev N (d x : Nat) : PO := ⟨some d, none, .lenN (.tmp x)⟩
abbrev c (d f : Nat) (l : List Operand) : PO := ⟨some d, none, .call f l⟩
abbrev u (d x : Nat) : PO := ⟨some d, none, .un .not (.tmp x)⟩
abbrev x (d y : Nat) : PO := ⟨some d, none, .box y (.tmp d)⟩
end Go.Dv.Sh
namespace Go.Dv
/-- A function's code in the program, as it is written down. -/
def CodeOf (P : Program) (f : Nat) (pc : PC) (ps : List Nat) (rs : List (Nat × Option (Bool × Nat))) (np : Nat) : Prop :=
  ∃ fn c l, P.funcs[f]? = some fn ∧ (fn.name == "runtime.NumGoroutine") = false ∧ fn.body = some c ∧ compC P fn.ntmps c = some (strip pc) ∧ fn.results = List.toArray l ∧ l.map (compR P) = rs.map some ∧ l.length ≤ 4 ∧ np ≤ fn.ntmps

theorem CodeOf.sound {P : Program} {f : Nat} {pc : PC} {ps : List Nat} {rs : List (Nat × Option (Bool × Nat))} {np : Nat} (w : CodeOf P f pc ps rs np) (hm : P.follows .mixedOrders = true) {Γ : Ctx} {S : Spec} (hΓ : Sound P Γ) (hS : FnOk S) (hargs : ∀ args K, S.run args K → args.length = np) (h : Meets Γ ps pc rs S) : SoundAt P f S := by
  obtain ⟨fn, c, l, h1, h2, h3, h4, h5, h6, h7, h8⟩ := w
  exact meets_sound hΓ hm h1 h2 h3 h4 h5 h6 h7 hS np h8 hargs h
theorem CodeOf.soundM {P : Program} {f : Nat} {pc : PC} {ps : List Nat} {rs : List (Nat × Option (Bool × Nat))} {np : Nat} (w : CodeOf P f pc ps rs np) (hm : P.follows .mixedOrders = true) {Γ : Ctx} {mrun : List AV → Sto → (AV → Sto → Prop) → Prop} (hΓ : Sound P Γ) (hargs : ∀ xs σ K, mrun xs σ K → xs.length = np) (h : MeetsM Γ ps pc rs (mkM mrun)) : SoundAt P f (mkM mrun) := by
  obtain ⟨fn, c, l, h1, h2, h3, h4, h5, h6, h7, h8⟩ := w
  exact meetsM_sound hΓ hm h1 h2 h3 h4 h5 h6 h7 np h8 hargs h
end Go.Dv
end
section
/-
  Short names of values, and bits of numbers.
-/
namespace Go.Dv
abbrev pI (n : Int) : PV := .int .i64 n
abbrev pB (b : Bool) : PV := .bool b
theorem ofInt_nat {n : Nat} {w : Nat} (h : n < 2 ^ w) : (BitVec.ofInt w (n : Int)).toNat = n := by
  rw [BitVec.ofInt_natCast, BitVec.toNat_ofNat, Nat.mod_eq_of_lt h]

theorem wrapI64n {n : Nat} (h : n < 2 ^ 62) : IntKind.i64.wrap (n : Int) = n := by
  have : (2 : Nat) ^ 62 = 4611686018427387904 := by decide
  exact wrap64 (by omega)

theorem or64 {a b : Nat} (ha : a < 2 ^ 62) (hb : b < 2 ^ 62) : bitsOp .or .i64 (a : Int) (b : Int) = ((a ||| b : Nat) : Int) := by
  unfold bitsOp
  have h1 := Nat.or_lt_two_pow ha hb
  have e : IntKind.i64.bits = 64 := rfl
  simp only [e, BitVec.toNat_or]
  rw [ofInt_nat (Nat.lt_of_lt_of_le ha (by decide)), ofInt_nat (Nat.lt_of_lt_of_le hb (by decide))]
  exact wrapI64n h1

theorem and64 {a b : Nat} (ha : a < 2 ^ 62) (hb : b < 2 ^ 62) : bitsOp .and .i64 (a : Int) (b : Int) = ((a &&& b : Nat) : Int) := by
  unfold bitsOp
  have h1 : a &&& b < 2 ^ 62 := Nat.lt_of_le_of_lt Nat.and_le_left ha
  have e : IntKind.i64.bits = 64 := rfl
  simp only [e, BitVec.toNat_and]
  rw [ofInt_nat (Nat.lt_of_lt_of_le ha (by decide)), ofInt_nat (Nat.lt_of_lt_of_le hb (by decide))]
  exact wrapI64n h1

theorem wrap8n {n : Nat} (h : n < 256) : IntKind.u8.wrap (n : Int) = n := by
  have hb : IntKind.u8.bits = 8 := rfl
  simp only [IntKind.wrap, IntKind.signed, hb]
  simp; omega

theorem or8 {a b : Nat} (ha : a < 256) (hb : b < 256) : bitsOp .or .u8 (a : Int) (b : Int) = ((a ||| b : Nat) : Int) := by
  unfold bitsOp
  have h1 : a ||| b < 2 ^ 8 := Nat.or_lt_two_pow ha hb
  have e : IntKind.u8.bits = 8 := rfl
  simp only [e, BitVec.toNat_or]
  rw [ofInt_nat ha, ofInt_nat hb]
  exact wrap8n h1

theorem and8 {a b : Nat} (ha : a < 256) (hb : b < 256) : bitsOp .and .u8 (a : Int) (b : Int) = ((a &&& b : Nat) : Int) := by
  unfold bitsOp
  have h1 : a &&& b < 256 := Nat.lt_of_le_of_lt Nat.and_le_left ha
  have e : IntKind.u8.bits = 8 := rfl
  simp only [e, BitVec.toNat_and]
  rw [ofInt_nat ha, ofInt_nat hb]
  exact wrap8n h1

/-- Bits that lie above others. -/
theorem or_add {a k b : Nat} (h : a < 2 ^ k) : a ||| (2 ^ k * b) = a + 2 ^ k * b := by
  rw [Nat.or_comm, ← Nat.two_pow_add_eq_or_of_lt h, Nat.add_comm]

theorem and_mod (a k : Nat) : a &&& (2 ^ k - 1) = a % 2 ^ k := Nat.and_two_pow_sub_one_eq_mod a k

/-- A byte. -/
def byteN (n : Nat) : UInt8 := UInt8.ofNat n
theorem byteN_toNat {n : Nat} (h : n < 256) : (byteN n).toNat = n := by simp [byteN]; omega
theorem byteP_of {n : Int} (h : 0 ≤ n ∧ n < 256) : PV.int .u8 n = byteP (byteN n.toNat) := by
  unfold byteP; rw [byteN_toNat (by omega)]
  congr 1; omega

theorem pI_eq {a b : Int} (h : a = b) : pI a = pI b := by rw [h]
theorem pB_eq {a b : Bool} (h : a = true ↔ b = true) : pB a = pB b := by
  cases a <;> cases b <;> simp_all
theorem eq_of_gets {α : Type} {a b : List α} (hl : a.length = b.length) (h : ∀ j, j < a.length → a[j]? = b[j]?) : a = b := by
  apply List.ext_getElem?
  intro i
  by_cases hi : i < a.length
  · exact h i hi
  · rw [List.getElem?_eq_none (by omega), List.getElem?_eq_none (by omega)]
theorem flat_pI (l : List Int) : ∀ x ∈ l.map pI, x.flat := by
  intro x hx
  obtain ⟨t, _, rfl⟩ := List.mem_map.1 hx
  trivial
/-- A byte of a row, at a place that is a natural number. -/
theorem IDXbn {l : List UInt8} {i : Nat} {K : PV → Prop} (h : i < l.length) (k : ∀ x, l[i]? = some x → x.toNat < 256 → K (byteP x)) : ∃ y, (0 ≤ (i : Int) ∧ (l.map byteP)[(i : Int).toNat]? = some y) ∧ K y :=
  ⟨byteP l[i], ⟨by omega, by rw [Int.toNat_natCast, List.getElem?_map, List.getElem?_eq_getElem h]; rfl⟩, k _ (List.getElem?_eq_getElem h) (UInt8.toNat_lt _)⟩
theorem GETn {α : Type} {f : α → PV} {l : List α} {i : Nat} {K : PV → Prop} (h : i < l.length) (k : ∀ x, l[i]? = some x → K (f x)) : ∃ y, (l.map f)[(i : Int).toNat]? = some y ∧ K y :=
  ⟨f l[i], by rw [Int.toNat_natCast, List.getElem?_map, List.getElem?_eq_getElem h]; rfl, k _ (List.getElem?_eq_getElem h)⟩
theorem GETbn {l : List UInt8} {i : Nat} {K : PV → Prop} (h : i < l.length) (k : ∀ x, l[i]? = some x → x.toNat < 256 → K (byteP x)) : ∃ y, (l.map byteP)[(i : Int).toNat]? = some y ∧ K y :=
  ⟨byteP l[i], by rw [Int.toNat_natCast, List.getElem?_map, List.getElem?_eq_getElem h]; rfl, k _ (List.getElem?_eq_getElem h) (UInt8.toNat_lt _)⟩
theorem GETb {l : List UInt8} {i : Nat} {K : PV → Prop} (h : i < l.length) (k : ∀ x, l[i]? = some x → x.toNat < 256 → K (byteP x)) : ∃ y, (l.map byteP)[i]? = some y ∧ K y :=
  ⟨byteP l[i], by rw [List.getElem?_map, List.getElem?_eq_getElem h]; rfl, k _ (List.getElem?_eq_getElem h) (UInt8.toNat_lt _)⟩

theorem U64 {n : Int} {K : Int → Prop} (h : 0 ≤ n ∧ n ≤ 9223372036854775807) (k : K n) : ∀ r : Int, r = IntKind.u64.wrap n → K r := fun r hr => by
  have e : IntKind.u64.wrap n = n := by
    have hb : IntKind.u64.bits = 64 := rfl
    simp only [IntKind.wrap, IntKind.signed, hb]
    simp
    omega
  rw [hr, e]; exact k
theorem SHR1 {j : IntKind} {a : Int} {K : Int → Prop} (h : 0 ≤ a) (k : K (a / 2)) : 0 ≤ (1 : Int) ∧ ∀ r : Int, r = a.fdiv (2 ^ min (1 : Int).toNat j.bits) → K r := by
  refine ⟨by decide, fun r hr => ?_⟩
  have e8 : min (1 : Int).toNat j.bits = 1 := by cases j <;> decide
  rw [e8, Int.fdiv_eq_ediv_of_nonneg _ (by decide)] at hr
  rw [hr]; exact k

/-- The element at a place is known. -/
theorem IDXh {α : Type} {f : α → PV} {l : List α} {i : Nat} {x : α} {K : PV → Prop} (h : l[i]? = some x) (k : K (f x)) : ∃ y, (0 ≤ (i : Int) ∧ (l.map f)[(i : Int).toNat]? = some y) ∧ K y :=
  ⟨f x, ⟨by omega, by rw [Int.toNat_natCast, List.getElem?_map, h]; rfl⟩, k⟩
theorem IDXhi {α : Type} {f : α → PV} {l : List α} {i : Int} {x : α} {K : PV → Prop} (h0 : 0 ≤ i) (h : l[i.toNat]? = some x) (k : K (f x)) : ∃ y, (0 ≤ i ∧ (l.map f)[i.toNat]? = some y) ∧ K y :=
  ⟨f x, ⟨h0, by rw [List.getElem?_map, h]; rfl⟩, k⟩
theorem GETh {α : Type} {f : α → PV} {l : List α} {i : Nat} {x : α} {K : PV → Prop} (h : l[i]? = some x) (k : K (f x)) : ∃ y, (l.map f)[i]? = some y ∧ K y :=
  ⟨f x, by rw [List.getElem?_map, h]; rfl, k⟩
theorem GEThn {α : Type} {f : α → PV} {l : List α} {i : Nat} {x : α} {K : PV → Prop} (h : l[i]? = some x) (k : K (f x)) : ∃ y, (l.map f)[(i : Int).toNat]? = some y ∧ K y :=
  ⟨f x, by rw [Int.toNat_natCast, List.getElem?_map, h]; rfl, k⟩

/-- A number of which nothing is known. -/
theorem WRAP {j : IntKind} {n : Int} {K : Int → Prop} (k : ∀ r, K r) : ∀ r : Int, r = j.wrap n → K r := fun r _ => k r

/-- Bytes as a string. -/
theorem BTS {l : List UInt8} {K : List UInt8 → Prop} (k : K l) : ∃ l', l.map byteP = l'.map byteP ∧ K l' := ⟨l, rfl, k⟩
theorem BTS0 {K : List UInt8 → Prop} (k : K []) : ∃ l' : List UInt8, [] = l'.map byteP ∧ K l' := ⟨[], rfl, k⟩

theorem cut_map {α β : Type} {f : α → β} {a b : Nat} {l : List α} : cut a b (l.map f) = (cut a b l).map f := by simp [cut]
theorem cut_get {α : Type} {a b i : Nat} {l : List α} (h : a + i < b) : (cut a b l)[i]? = l[a + i]? := by
  unfold cut; rw [List.getElem?_drop, List.getElem?_take_of_lt h]
theorem cut_len {α : Type} {a b : Nat} {l : List α} (h : b ≤ l.length) : (cut a b l).length = b - a := by simp [cut]; omega
theorem mem_get {α : Type} {l : List α} {x : α} : x ∈ l ↔ ∃ i : Nat, l[i]? = some x := List.mem_iff_getElem?
theorem lt_of_get {α : Type} {l : List α} {i : Nat} {x : α} (h : l[i]? = some x) : i < l.length := by
  by_cases hi : i < l.length
  · exact hi
  · rw [List.getElem?_eq_none (by omega)] at h; cases h
theorem get_inj {α : Type} {l : List α} {i : Nat} {x y : α} (h : l[i]? = some x) (h' : l[i]? = some y) : x = y := Option.some.inj (h.symm.trans h')
theorem repl_map {α : Type} {f : α → PV} {x : α} {n : Nat} : List.replicate n (f x) = (List.replicate n x).map f := by rw [List.map_replicate]
theorem set_map {α β : Type} {f : α → β} {l : List α} {i : Nat} {x : α} : (l.map f).set i (f x) = (l.set i x).map f := by rw [List.map_set]

/-- The values of a function at the first numbers. -/
def tab {α : Type} (f : Nat → α) (n : Nat) : List α := (List.range n).map f
section
variable {α : Type} {f g : Nat → α} {n : Nat}
@[simp] theorem tab_len : (tab f n).length = n := by simp [tab]
theorem tab_get {i : Nat} (h : i < n) : (tab f n)[i]? = some (f i) := by simp [tab, h]
theorem tab_get' {i : Nat} {x : α} (h : (tab f n)[i]? = some x) : i < n ∧ x = f i := by
  have hi : i < n := by
    by_cases hi : i < n
    · exact hi
    · rw [List.getElem?_eq_none (by simp; omega)] at h; cases h
  rw [tab_get hi] at h
  exact ⟨hi, (Option.some.inj h).symm⟩
theorem tab_ext (h : ∀ i, i < n → f i = g i) : tab f n = tab g n := by
  unfold tab; apply List.map_congr_left; intro i hi; exact h i (by simpa using hi)
theorem tab_set {i : Nat} {x : α} : (tab f n).set i x = tab (fun j => if j = i then x else f j) n := by
  apply List.ext_getElem?
  intro j
  by_cases hj : j < n
  · rw [tab_get hj]
    by_cases h : j = i
    · subst h; simp [hj]
    · rw [List.getElem?_set_ne (by omega), tab_get hj, if_neg h]
  · rw [List.getElem?_eq_none (by simp; omega), List.getElem?_eq_none (by simp; omega)]
theorem tab_succ : tab f (n + 1) = tab f n ++ [f n] := by simp [tab, List.range_succ]
theorem tab_of {l : List α} (h : ∀ i x, l[i]? = some x → x = f i) : l = tab f l.length := by
  apply List.ext_getElem?
  intro i
  by_cases hi : i < l.length
  · rw [tab_get hi, List.getElem?_eq_getElem hi]; exact congrArg some (h i _ (List.getElem?_eq_getElem hi))
  · rw [List.getElem?_eq_none (by omega), List.getElem?_eq_none (by simp; omega)]
theorem tab_const {x : α} : List.replicate n x = tab (fun _ => x) n := by
  apply List.ext_getElem?
  intro j
  by_cases hj : j < n
  · rw [tab_get hj]; simp [hj]
  · rw [List.getElem?_eq_none (by simp; omega), List.getElem?_eq_none (by simp; omega)]
theorem GETt {F : α → PV} {i : Nat} {K : PV → Prop} (h : i < n) (k : K (F (f i))) : ∃ y, ((tab f n).map F)[i]? = some y ∧ K y := ⟨_, by rw [List.getElem?_map, tab_get h]; rfl, k⟩
theorem IDXtab {F : α → PV} {i : Int} {K : PV → Prop} (h : 0 ≤ i ∧ i < n) (k : K (F (f i.toNat))) : ∃ y, (0 ≤ i ∧ ((tab f n).map F)[i.toNat]? = some y) ∧ K y := ⟨_, ⟨h.1, by rw [List.getElem?_map, tab_get (by omega)]; rfl⟩, k⟩
theorem OWNt {F : α → PV} {i : Int} {p : Prop} (h : 0 ≤ i ∧ i < n) (k : p) : (0 ≤ i ∧ i.toNat < ((tab f n).map F).length) ∧ p := by
  rw [List.length_map, tab_len]; exact ⟨⟨h.1, by omega⟩, k⟩
theorem tab_map {β : Type} {h : α → β} : (tab f n).map h = tab (fun i => h (f i)) n := by simp [tab]
end
end Go.Dv
end
section
/-
  Plain laws of sorting in place: parts of a row that are put in order.
-/
namespace Go.Dv
section
variable {α : Type}

/-- So many values from a place on. -/
def seg (f : Nat → α) (a n : Nat) : List α := (List.range n).map fun i => f (a + i)
theorem seg_add (f : Nat → α) (a n k : Nat) : seg f a (n + k) = seg f a n ++ seg f (a + n) k := by
  unfold seg
  rw [List.range_add, List.map_append, List.map_map]
  congr 1
  apply List.map_congr_left
  intro i _; simp [Nat.add_assoc]
theorem seg_congr {f g : Nat → α} {a n : Nat} (h : ∀ j, a ≤ j → j < a + n → f j = g j) : seg f a n = seg g a n := by
  unfold seg
  apply List.map_congr_left
  intro i hi; exact h _ (by omega) (by simp at hi; omega)
theorem seg_tab (f : Nat → α) (n : Nat) : seg f 0 n = tab f n := by
  unfold seg tab; simp
theorem mem_seg {f : Nat → α} {a n : Nat} {x : α} : x ∈ seg f a n ↔ ∃ j, a ≤ j ∧ j < a + n ∧ f j = x := by
  unfold seg
  rw [List.mem_map]
  constructor
  · rintro ⟨i, hi, rfl⟩; exact ⟨a + i, by omega, by simp at hi; omega, rfl⟩
  · rintro ⟨j, h1, h2, rfl⟩; exact ⟨j - a, by simp; omega, by rw [show a + (j - a) = j by omega]⟩

/-- The same values from a to before b, in another order; all others as they were. -/
def PermOn (a b : Nat) (f g : Nat → α) : Prop := (seg g a (b - a)).Perm (seg f a (b - a)) ∧ ∀ j, ¬ (a ≤ j ∧ j < b) → g j = f j
theorem PermOn.refl (a b : Nat) (f : Nat → α) : PermOn a b f f := ⟨.refl _, fun _ _ => rfl⟩
theorem PermOn.trans {a b : Nat} {f g h : Nat → α} (p : PermOn a b f g) (q : PermOn a b g h) : PermOn a b f h :=
  ⟨q.1.trans p.1, fun j hj => (q.2 j hj).trans (p.2 j hj)⟩
theorem PermOn.wide {a b c d : Nat} {f g : Nat → α} (p : PermOn a b f g) (h1 : c ≤ a) (h2 : b ≤ d) (h3 : a ≤ b) : PermOn c d f g := by
  refine ⟨?_, fun j hj => p.2 j (by omega)⟩
  have e : d - c = (a - c) + ((b - a) + (d - b)) := by omega
  rw [e, seg_add, seg_add, seg_add f, seg_add f]
  rw [show c + (a - c) = a by omega, show a + (b - a) = b by omega]
  rw [seg_congr (f := g) (g := f) (a := c) (n := a - c) fun j h4 h5 => p.2 j (by omega), seg_congr (f := g) (g := f) (a := b) (n := d - b) fun j h4 h5 => p.2 j (by omega)]
  exact (p.1.append_right _).append_left _
theorem PermOn.mem {a b : Nat} {f g : Nat → α} (p : PermOn a b f g) {j : Nat} (h1 : a ≤ j) (h2 : j < b) : ∃ i, a ≤ i ∧ i < b ∧ g j = f i := by
  have : g j ∈ seg g a (b - a) := mem_seg.2 ⟨j, h1, by omega, rfl⟩
  obtain ⟨i, h3, h4, h5⟩ := mem_seg.1 (p.1.mem_iff.1 this)
  exact ⟨i, h3, by omega, h5.symm⟩
theorem PermOn.all {a b : Nat} {f g : Nat → α} {P : α → Prop} (p : PermOn a b f g) (h : ∀ j, P (f j)) (j : Nat) : P (g j) := by
  by_cases hj : a ≤ j ∧ j < b
  · obtain ⟨i, _, _, e⟩ := p.mem hj.1 hj.2
    rw [e]; exact h i
  · rw [p.2 j hj]; exact h j
theorem PermOn.perm {n : Nat} {f g : Nat → α} (p : PermOn 0 n f g) : (tab g n).Perm (tab f n) := by
  have := p.1
  rw [Nat.sub_zero, seg_tab, seg_tab] at this
  exact this

/-- Two values change places. -/
def swapF (f : Nat → α) (i j : Nat) : Nat → α := fun k => if k = j then f i else if k = i then f j else f k
theorem swapF_perm (f : Nat → α) {i : Nat} : PermOn i (i + 2) f (swapF f i (i + 1)) := by
  refine ⟨?_, fun k hk => ?_⟩
  · have : ∀ g : Nat → α, seg g i (i + 2 - i) = [g i, g (i + 1)] := by
      intro g
      rw [show i + 2 - i = 2 by omega]; rfl
    rw [this, this]
    have s1 : swapF f i (i + 1) i = f (i + 1) := by unfold swapF; rw [if_neg (by omega), if_pos rfl]
    have s2 : swapF f i (i + 1) (i + 1) = f i := by unfold swapF; rw [if_pos rfl]
    rw [s1, s2]
    exact .swap _ _ _
  · unfold swapF; rw [if_neg (by omega), if_neg (by omega)]

/-- Two neighbouring parts change places. -/
def rotF (f : Nat → α) (a m b : Nat) : Nat → α := fun j => if a ≤ j ∧ j < a + (b - m) then f (j + (m - a)) else if a + (b - m) ≤ j ∧ j < b then f (j - (b - m)) else f j
theorem rotF_perm (f : Nat → α) {a m b : Nat} (h1 : a ≤ m) (h2 : m ≤ b) : PermOn a b f (rotF f a m b) := by
  refine ⟨?_, fun j hj => ?_⟩
  · have e : b - a = (b - m) + (m - a) := by omega
    have e1 : seg (rotF f a m b) a (b - m) = seg f m (b - m) := by
      unfold seg
      apply List.map_congr_left
      intro i hi
      simp at hi
      unfold rotF
      rw [if_pos (by omega)]; congr 1; omega
    have e2 : seg (rotF f a m b) (a + (b - m)) (m - a) = seg f a (m - a) := by
      unfold seg
      apply List.map_congr_left
      intro i hi
      simp at hi
      unfold rotF
      rw [if_neg (by omega), if_pos (by omega)]; congr 1; omega
    rw [e, seg_add, e1, e2, Nat.add_comm (b - m), seg_add, show a + (m - a) = m by omega]
    exact List.perm_append_comm
  · unfold rotF; rw [if_neg (by omega), if_neg (by omega)]

/-- Two parts of one length change places. -/
def swpF (f : Nat → α) (a b n : Nat) : Nat → α := fun j => if a ≤ j ∧ j < a + n then f (j - a + b) else if b ≤ j ∧ j < b + n then f (j - b + a) else f j

/-- An order: whether one comes ahead of another one. -/
structure Ord (lt : α → α → Bool) : Prop where
  asymm : ∀ x y, lt x y = true → lt y x = false
  trans : ∀ x y z, lt y x = false → lt z y = false → lt z x = false
variable {lt : α → α → Bool}
/-- In order from a to before b. -/
def SortedOn (lt : α → α → Bool) (a b : Nat) (f : Nat → α) : Prop := ∀ i j, a ≤ i → i ≤ j → j < b → lt (f j) (f i) = false
theorem Ord.irrefl (o : Ord lt) (x : α) : lt x x = false := by
  cases h : lt x x with
  | false => rfl
  | true => have := o.asymm x x h; rw [h] at this; cases this
theorem sorted_step (o : Ord lt) {a b : Nat} {f : Nat → α} (h : ∀ i, a ≤ i → i + 1 < b → lt (f (i + 1)) (f i) = false) : SortedOn lt a b f := by
  intro i j h1 h2 h3
  obtain ⟨d, rfl⟩ : ∃ d, j = i + d := ⟨j - i, by omega⟩
  clear h2
  induction d with
  | zero => exact o.irrefl _
  | succ d ih => exact o.trans _ _ _ (ih (by omega)) (h (i + d) (by omega) (by omega))
/-- Two parts in order, one after the other. -/
theorem sorted_join {a m b : Nat} {f : Nat → α} (h1 : SortedOn lt a m f) (h2 : SortedOn lt m b f) (h : ∀ i j, a ≤ i → i < m → m ≤ j → j < b → lt (f j) (f i) = false) : SortedOn lt a b f := by
  intro i j hi hij hj
  by_cases h3 : j < m
  · exact h1 i j hi hij h3
  · by_cases h4 : i < m
    · exact h i j hi h4 (by omega) hj
    · exact h2 i j (by omega) hij hj
theorem sorted_sub {a b c d : Nat} {f : Nat → α} (h : SortedOn lt a b f) (h1 : a ≤ c) (h2 : d ≤ b) : SortedOn lt c d f := fun i j hi hij hj => h i j (by omega) hij (by omega)
theorem sorted_congr {a b : Nat} {f g : Nat → α} (h : SortedOn lt a b f) (e : ∀ j, a ≤ j → j < b → g j = f j) : SortedOn lt a b g := fun i j hi hij hj => by
  rw [e j (by omega) hj, e i hi (by omega)]; exact h i j hi hij hj

/-- A part in order, into which the value behind it is put at its place. -/
theorem sorted_insert (o : Ord lt) {a k i : Nat} {f : Nat → α} (hf : SortedOn lt a i f) (hk : a ≤ k) (hki : k ≤ i) (h1 : ∀ j, k ≤ j → j < i → lt (f i) (f j) = true) (h2 : a < k → lt (f i) (f (k - 1)) = false) :
    SortedOn lt a (i + 1) (fun j => if j = k then f i else if k < j ∧ j ≤ i then f (j - 1) else f j) := by
  apply sorted_step o
  intro j hj hji
  show lt (if j + 1 = k then f i else if k < j + 1 ∧ j + 1 ≤ i then f (j + 1 - 1) else f (j + 1)) (if j = k then f i else if k < j ∧ j ≤ i then f (j - 1) else f j) = false
  by_cases e1 : j + 1 = k
  · rw [if_pos e1, if_neg (by omega), if_neg (by omega)]
    have := h2 (by omega)
    rw [← e1] at this; simpa using this
  · rw [if_neg e1]
    by_cases e2 : j = k
    · rw [if_pos e2, if_pos (by omega), Nat.add_sub_cancel]
      exact o.asymm _ _ (h1 j (by omega) (by omega))
    · rw [if_neg e2]
      by_cases e3 : k < j
      · rw [if_pos (by omega), if_pos (by omega), Nat.add_sub_cancel]
        exact hf (j - 1) j (by omega) (by omega) (by omega)
      · rw [if_neg (by omega), if_neg (by omega)]
        exact hf j (j + 1) hj (by omega) (by omega)

/-- What lies ahead and behind after a rotation of a merge. -/
theorem merge_halves (o : Ord lt) {a m b mid s e : Nat} {f : Nat → α} (h1 : SortedOn lt a m f) (h2 : SortedOn lt m b f) (has : a ≤ s) (hsm : s ≤ m) (hme : m ≤ e) (heb : e ≤ b) (hmid : mid = s + (e - m))
    (hA : a < s → e < b → lt (f e) (f (s - 1)) = false) (hB : m < e → s < m → lt (f (e - 1)) (f s) = true) :
    SortedOn lt a s (rotF f s m e) ∧ SortedOn lt s mid (rotF f s m e) ∧ SortedOn lt mid e (rotF f s m e) ∧ SortedOn lt e b (rotF f s m e) ∧
    (∀ i j, a ≤ i → i < mid → mid ≤ j → j < b → lt (rotF f s m e j) (rotF f s m e i) = false) := by
  have r1 : ∀ j, j < s → rotF f s m e j = f j := fun j hj => by unfold rotF; rw [if_neg (by omega), if_neg (by omega)]
  have r2 : ∀ j, s ≤ j → j < mid → rotF f s m e j = f (j + (m - s)) := fun j hj hj2 => by unfold rotF; rw [if_pos (by omega)]
  have r3 : ∀ j, mid ≤ j → j < e → rotF f s m e j = f (j - (e - m)) := fun j hj hj2 => by unfold rotF; rw [if_neg (by omega), if_pos (by omega)]
  have r4 : ∀ j, e ≤ j → rotF f s m e j = f j := fun j hj => by unfold rotF; rw [if_neg (by omega), if_neg (by omega)]
  refine ⟨fun i j hi hij hj => ?_, fun i j hi hij hj => ?_, fun i j hi hij hj => ?_, fun i j hi hij hj => ?_, fun i j hi him hj hjb => ?_⟩
  · rw [r1 j hj, r1 i (by omega)]; exact h1 i j hi hij (by omega)
  · rw [r2 j (by omega) hj, r2 i hi (by omega)]; exact h2 _ _ (by omega) (by omega) (by omega)
  · rw [r3 j (by omega) hj, r3 i hi (by omega)]; exact h1 _ _ (by omega) (by omega) (by omega)
  · rw [r4 j (by omega), r4 i hi]; exact h2 _ _ (by omega) (by omega) (by omega)
  · by_cases hi2 : i < s
    · rw [r1 i hi2]
      by_cases hj2 : j < e
      · rw [r3 j hj hj2]; exact h1 _ _ (by omega) (by omega) (by omega)
      · rw [r4 j (by omega)]
        refine o.trans _ _ _ (h1 i (s - 1) hi (by omega) (by omega)) (o.trans _ _ _ (hA (by omega) (by omega)) (h2 e j hme (by omega) hjb))
    · rw [r2 i (by omega) him]
      by_cases hj2 : j < e
      · rw [r3 j hj hj2]
        refine o.trans _ _ _ (h2 _ (e - 1) (by omega) (by omega) (by omega)) (o.trans _ _ _ (o.asymm _ _ (hB (by omega) (by omega))) (h1 s _ (by omega) (by omega) (by omega)))
      · rw [r4 j (by omega)]; exact h2 _ _ (by omega) (by omega) (by omega)
end
end Go.Dv
end
