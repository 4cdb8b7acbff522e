/-
  A part of the proof: own texts, laid together by a tool of our own: DvDraw DvReg DvGc DvRange DvEff DvEff2 DvEff3 DvDyn.
-/
import Derived.Test.YtklihepoaoceoaaDv2
import Derived.Orders
import Derived.TacticsIn
import Derived.OrdersIn
import Derived.RangeFuncCalls
import Derived.ControlIn
section
/-
  A region whose order is open: what is reckoned in the text's order holds in every order that its edges allow.
-/
set_option linter.unusedSimpArgs false
namespace Go.Dv
open Go.RowKit

theorem nbeq {a b : Nat} (h : a ≠ b) : Nat.beq a b = false := by
  cases hb : Nat.beq a b with
  | false => rfl
  | true => exact absurd (Nat.eq_of_beq_eq_true hb) h

theorem look_eq (p : Nat) (K : AV → Prop) (e : Env) : look p K e = K (lookF p e) := by
  induction e with
  | nil => rfl
  | cons hd e ih =>
    obtain ⟨q, v⟩ := hd
    show Bool.rec (motive := fun _ => Prop) (look p K e) (K v) (Nat.beq q p) = K (bif Nat.beq q p then v else lookF p e)
    cases Nat.beq q p with
    | true => rfl
    | false => exact ih

theorem ev_eq (env : Env) (o : Operand) (K : AV → Prop) : ev env o K = K (evF env o) := by
  cases o with
  | tmp t => exact look_eq t K env
  | _ => rfl

theorem evs_eq (env : Env) (l : List Operand) : ∀ (K : List AV → Prop), evs env l K = K (l.map (evF env)) := by
  induction l with
  | nil => intro K; rfl
  | cons o l ih =>
    intro K
    show (ev env o fun a => evs env l fun l => K (a :: l)) = _
    rw [ev_eq, ih]; rfl

theorem evO_eq (env : Env) (o : Option Operand) (K : Option AV → Prop) : evO env o K = K (o.map (evF env)) := by
  cases o with
  | none => rfl
  | some x => exact ev_eq env x _

theorem evParts_eq (env : Env) (l : List (Nat × Nat × Operand)) : ∀ (K : List (Nat × Nat × AV) → Prop), evParts env l K = K (l.map fun p => (p.1, p.2.1, evF env p.2.2)) := by
  induction l with
  | nil => intro K; rfl
  | cons o l ih =>
    intro K
    show (ev env o.2.2 fun a => evParts env l fun l => K ((o.1, o.2.1, a) :: l)) = _
    rw [ev_eq, ih]; rfl

section
variable {Γ : Ctx} {σ : Sto}

theorem evF_congr {env env' : Env} {o : Operand} (h : ∀ t ∈ rdOp o, lookF t env' = lookF t env) : evF env' o = evF env o := by
  cases o with
  | tmp t => exact h t (by simp [rdOp])
  | _ => rfl

theorem map_evF_congr {env env' : Env} {l : List Operand} (h : ∀ t ∈ l.flatMap rdOp, lookF t env' = lookF t env) : l.map (evF env') = l.map (evF env) :=
  List.map_congr_left fun o ho => evF_congr fun t ht => h t (List.mem_flatMap.2 ⟨o, ho, ht⟩)

theorem evFO_congr {env env' : Env} {o : Option Operand} (h : ∀ t ∈ rdO o, lookF t env' = lookF t env) : o.map (evF env') = o.map (evF env) := by
  cases o with
  | none => rfl
  | some x => exact congrArg some (evF_congr h)

theorem evK_congr {env env' : Env} {k : PK} {K : AV → Sto → Prop} (h : ∀ t ∈ k.reads, lookF t env' = lookF t env) : evK Γ env' σ k K = evK Γ env σ k K := by
  cases k with
  | mv x => simp only [evK, ev_eq, evF_congr (o := x) h]
  | nilS sz => rfl
  | nilR e sz => rfl
  | pick c a b =>
    have h1 := evF_congr (o := c) (env := env) (env' := env') fun t ht => h t (by simp [PK.reads, ht])
    have h2 := evF_congr (o := a) (env := env) (env' := env') fun t ht => h t (by simp [PK.reads, ht])
    have h3 := evF_congr (o := b) (env := env) (env' := env') fun t ht => h t (by simp [PK.reads, ht])
    simp only [evK, ev_eq, h1, h2, h3]
  | bin op x y =>
    have h1 := evF_congr (o := x) (env := env) (env' := env') fun t ht => h t (by simp [PK.reads, ht])
    have h2 := evF_congr (o := y) (env := env) (env' := env') fun t ht => h t (by simp [PK.reads, ht])
    simp only [evK, ev_eq, h1, h2]
  | eqb neg x y =>
    have h1 := evF_congr (o := x) (env := env) (env' := env') fun t ht => h t (by simp [PK.reads, ht])
    have h2 := evF_congr (o := y) (env := env) (env' := env') fun t ht => h t (by simp [PK.reads, ht])
    simp only [evK, ev_eq, h1, h2]
  | eqs neg n x y =>
    have h1 := evF_congr (o := x) (env := env) (env' := env') fun t ht => h t (by simp [PK.reads, ht])
    have h2 := evF_congr (o := y) (env := env) (env' := env') fun t ht => h t (by simp [PK.reads, ht])
    simp only [evK, ev_eq, h1, h2]
  | un op x => simp only [evK, ev_eq, evF_congr (o := x) h]
  | conv c x => simp only [evK, ev_eq, evF_congr (o := x) h]
  | lenS x => simp only [evK, ev_eq, evF_congr (o := x) h]
  | lenR x => simp only [evK, ev_eq, evF_congr (o := x) h]
  | lenN x => simp only [evK, ev_eq, evF_congr (o := x) h]
  | mm mx x y =>
    have h1 := evF_congr (o := x) (env := env) (env' := env') fun t ht => h t (by simp [PK.reads, ht])
    have h2 := evF_congr (o := y) (env := env) (env' := env') fun t ht => h t (by simp [PK.reads, ht])
    simp only [evK, ev_eq, h1, h2]
  | idx x y =>
    have h1 := evF_congr (o := x) (env := env) (env' := env') fun t ht => h t (by simp [PK.reads, ht])
    have h2 := evF_congr (o := y) (env := env) (env' := env') fun t ht => h t (by simp [PK.reads, ht])
    simp only [evK, ev_eq, h1, h2]
  | slcS x lo hi =>
    have h1 := evF_congr (o := x) (env := env) (env' := env') fun t ht => h t (by simp [PK.reads, ht])
    have h2 := evFO_congr (o := lo) (env := env) (env' := env') fun t ht => h t (by simp [PK.reads, ht])
    have h3 := evFO_congr (o := hi) (env := env) (env' := env') fun t ht => h t (by simp [PK.reads, ht])
    simp only [evK, ev_eq, evO_eq, h1, h2, h3]
  | slcR sz x lo hi =>
    have h1 := evF_congr (o := x) (env := env) (env' := env') fun t ht => h t (by simp [PK.reads, ht])
    have h2 := evFO_congr (o := lo) (env := env) (env' := env') fun t ht => h t (by simp [PK.reads, ht])
    have h3 := evFO_congr (o := hi) (env := env) (env' := env') fun t ht => h t (by simp [PK.reads, ht])
    simp only [evK, ev_eq, evO_eq, h1, h2, h3]
  | idxA sz x y =>
    have h1 := evF_congr (o := x) (env := env) (env' := env') fun t ht => h t (by simp [PK.reads, ht])
    have h2 := evF_congr (o := y) (env := env) (env' := env') fun t ht => h t (by simp [PK.reads, ht])
    simp only [evK, ev_eq, h1, h2]
  | fldA off x => simp only [evK, ev_eq, evF_congr (o := x) h]
  | fld off ag n x => simp only [evK, ev_eq, evF_congr (o := x) h]
  | load ag n x => simp only [evK, ev_eq, evF_congr (o := x) h]
  | store n x y =>
    have h1 := evF_congr (o := x) (env := env) (env' := env') fun t ht => h t (by simp [PK.reads, ht])
    have h2 := evF_congr (o := y) (env := env) (env' := env') fun t ht => h t (by simp [PK.reads, ht])
    simp only [evK, ev_eq, h1, h2]
  | alloc e z => rfl
  | box e x => simp only [evK, ev_eq, evF_congr (o := x) h]
  | build z ps =>
    have h1 : ps.map (fun p => (p.1, p.2.1, evF env' p.2.2)) = ps.map (fun p => (p.1, p.2.1, evF env p.2.2)) := by
      apply List.map_congr_left
      intro p hp
      rw [evF_congr fun t ht => h t (by simp only [PK.reads]; exact List.mem_flatMap.2 ⟨p, hp, ht⟩)]
    simp only [evK, evParts_eq, h1]
  | bslice e sz l =>
    have h1 := map_evF_congr (l := l) (env := env) (env' := env') h
    simp only [evK, evs_eq, h1]
  | bslP e sz l =>
    have h1 := map_evF_congr (l := l) (env := env) (env' := env') h
    simp only [evK, evs_eq, h1]
  | app e sz b x y =>
    have h1 := evF_congr (o := x) (env := env) (env' := env') fun t ht => h t (by simp [PK.reads, ht])
    have h2 := evF_congr (o := y) (env := env) (env' := env') fun t ht => h t (by simp [PK.reads, ht])
    simp only [evK, ev_eq, h1, h2]
  | appS e b x y =>
    have h1 := evF_congr (o := x) (env := env) (env' := env') fun t ht => h t (by simp [PK.reads, ht])
    have h2 := evF_congr (o := y) (env := env) (env' := env') fun t ht => h t (by simp [PK.reads, ht])
    simp only [evK, ev_eq, h1, h2]
  | mksl e sz b z x y =>
    have h1 := evF_congr (o := x) (env := env) (env' := env') fun t ht => h t (by simp [PK.reads, ht])
    have h2 := evF_congr (o := y) (env := env) (env' := env') fun t ht => h t (by simp [PK.reads, ht])
    simp only [evK, ev_eq, h1, h2]
  | call f l =>
    have h1 := map_evF_congr (l := l) (env := env) (env' := env') h
    simp only [evK, evs_eq, h1]
  | ext x i => simp only [evK, ev_eq, evF_congr (o := x) h]
  | nilck x => simp only [evK, ev_eq, evF_congr (o := x) h]
  | mkf f l =>
    have h1 := map_evF_congr (l := l) (env := env) (env' := env') h
    simp only [evK, evs_eq, h1]
  | callv x l =>
    have h1 := evF_congr (o := x) (env := env) (env' := env') fun t ht => h t (by simp [PK.reads, ht])
    have h2 := map_evF_congr (l := l) (env := env) (env' := env') fun t ht => h t (by
      show t ∈ rdOp x ++ l.flatMap rdOp
      exact List.mem_append_right _ ht)
    simp only [evK, ev_eq, evs_eq, h1, h2]
  | fail => rfl
  | junk => rfl
  | cpy sz x y =>
    have h1 := evF_congr (o := x) (env := env) (env' := env') fun t ht => h t (by simp [PK.reads, ht])
    have h2 := evF_congr (o := y) (env := env) (env' := env') fun t ht => h t (by simp [PK.reads, ht])
    simp only [evK, ev_eq, h1, h2]
  | cpyS x y =>
    have h1 := evF_congr (o := x) (env := env) (env' := env') fun t ht => h t (by simp [PK.reads, ht])
    have h2 := evF_congr (o := y) (env := env) (env' := env') fun t ht => h t (by simp [PK.reads, ht])
    simp only [evK, ev_eq, h1, h2]
  | clr sz z x => simp only [evK, ev_eq, evF_congr (o := x) h]
  | mkarr e sz z n => rfl
  | idxAr n sz x y =>
    have h1 := evF_congr (o := x) (env := env) (env' := env') fun t ht => h t (by simp [PK.reads, ht])
    have h2 := evF_congr (o := y) (env := env) (env' := env') fun t ht => h t (by simp [PK.reads, ht])
    simp only [evK, ev_eq, h1, h2]
  | slcA n sz x lo hi =>
    have h1 := evF_congr (o := x) (env := env) (env' := env') fun t ht => h t (by simp [PK.reads, ht])
    have h2 := evFO_congr (o := lo) (env := env) (env' := env') fun t ht => h t (by simp [PK.reads, ht])
    have h3 := evFO_congr (o := hi) (env := env) (env' := env') fun t ht => h t (by simp [PK.reads, ht])
    simp only [evK, ev_eq, evO_eq, h1, h2, h3]
  | isnil neg x => simp only [evK, ev_eq, evF_congr (o := x) h]
  | idxV m sz ag n x y =>
    have h1 := evF_congr (o := x) (env := env) (env' := env') fun t ht => h t (by simp [PK.reads, ht])
    have h2 := evF_congr (o := y) (env := env) (env' := env') fun t ht => h t (by simp [PK.reads, ht])
    simp only [evK, ev_eq, h1, h2]
  | fldV m sz x y =>
    have h1 := evF_congr (o := x) (env := env) (env' := env') fun t ht => h t (by simp [PK.reads, ht])
    have h2 := evF_congr (o := y) (env := env) (env' := env') fun t ht => h t (by simp [PK.reads, ht])
    simp only [evK, ev_eq, h1, h2]

theorem asInt_mono {a : AV} {F G : IntKind → Int → Prop} (h : Dv.asInt a F) (hi : ∀ k n, F k n → G k n) : Dv.asInt a G := by
  cases a with
  | pv x => cases x with
    | int k n => exact hi k n h
    | _ => exact h
  | _ => exact h

/-- A predicate in passing style that passes one thing. -/
def Det {β : Type} (G : (β → Prop) → Prop) : Prop := ∀ K, G K → ∃ r, K r ∧ ∀ K' : β → Prop, K' r → G K'

theorem Det.ret {β : Type} (x : β) : Det fun K : β → Prop => K x := fun _ h => ⟨x, h, fun _ h => h⟩
theorem Det.no {β : Type} : Det fun _ : β → Prop => False := fun _ h => h.elim
theorem Det.and {β : Type} {p : Prop} {G : (β → Prop) → Prop} (h : Det G) : Det fun K => p ∧ G K := fun K hk => by
  obtain ⟨r, h1, h2⟩ := h K hk.2
  exact ⟨r, h1, fun K' h => ⟨hk.1, h2 K' h⟩⟩
theorem Det.imp {β : Type} {p : Prop} {G : (β → Prop) → Prop} (hp : p) (h : Det G) : Det fun K => p → G K := fun K hk => by
  obtain ⟨r, h1, h2⟩ := h K (hk hp)
  exact ⟨r, h1, fun K' h _ => h2 K' h⟩
theorem Det.ex {α β : Type} {G : α → (β → Prop) → Prop} (h : ∀ a, Det (G a)) : Det fun K => ∃ a, G a K := fun K ⟨a, hk⟩ => by
  obtain ⟨r, h1, h2⟩ := h a K hk
  exact ⟨r, h1, fun K' h => ⟨a, h2 K' h⟩⟩
theorem Det.num {β : Type} (f : Int → β) (n : Int) : Det fun K : β → Prop => ∀ r : Int, r = n → K (f r) := fun K h => ⟨f n, h n rfl, fun K' h r hr => hr ▸ h⟩
theorem Det.cmp {β : Type} (f : PV → β) (p : Prop) : Det fun K : β → Prop => cmpK p fun r => K (f r) := fun K h => by
  classical
  exact ⟨f (.bool (decide p)), h _ (by simp), fun K' h r hr => by
    have : r = decide p := by rw [Bool.eq_iff_iff]; simpa using hr
    rw [this]; exact h⟩
theorem Det.map {α β : Type} {G : (α → Prop) → Prop} (h : Det G) (f : α → β) : Det fun K => G fun a => K (f a) := fun K hk => by
  obtain ⟨r, h1, h2⟩ := h _ hk
  exact ⟨f r, h1, fun K' h => h2 _ h⟩
theorem Det.bind {α β : Type} {G : (α → Prop) → Prop} {H : α → (β → Prop) → Prop} (h : Det G) (h' : ∀ a, Det (H a)) : Det fun K => G fun a => H a K := fun K hk => by
  obtain ⟨a, h1, h2⟩ := h _ hk
  obtain ⟨r, h3, h4⟩ := h' a K h1
  exact ⟨r, h3, fun K' h => h2 _ (h4 K' h)⟩

theorem det_nthK {α : Type} (l : List α) : ∀ i, Det (nthK l i) := by
  induction l with
  | nil => intro i; exact Det.no
  | cons a l ih => intro i; cases i with
    | zero => exact Det.ret a
    | succ i => exact ih i
theorem det_takeK {α : Type} (n : Nat) : ∀ l : List α, Det (takeK n l) := by
  induction n with
  | zero => intro l; exact Det.ret _
  | succ n ih => intro l; cases l with
    | nil => exact Det.no
    | cons a l => exact (ih l).map (a :: ·)
theorem det_dropK {α : Type} (n : Nat) : ∀ l : List α, Det (dropK n l) := by
  induction n with
  | zero => intro l; exact Det.ret _
  | succ n ih => intro l; cases l with
    | nil => exact Det.no
    | cons a l => exact ih l
theorem det_spliceK {α : Type} (new l : List α) (i : Nat) : Det (spliceK new l i) := by
  intro K h
  obtain ⟨pre, mid, post, h1, h2, h3, h4⟩ := spliceK_spec new l i K h
  refine ⟨_, h4, fun K' h' => ?_⟩
  have over : ∀ (new l mid post : List α) (K : List α → Prop), l = mid ++ post → mid.length = new.length → K (new ++ post) →
      (List.rec (motive := fun _ => List α → (List α → Prop) → Prop) (fun l K => K l) (fun x _ ih l K => match l with | [] => False | _ :: r => ih r fun t => K (x :: t)) new l K) := by
    intro new
    induction new with
    | nil => intro l mid post K e hl hk; have : mid = [] := List.eq_nil_of_length_eq_zero hl; subst this; simp at e; subst e; exact hk
    | cons x new ih =>
      intro l mid post K e hl hk
      cases mid with
      | nil => simp at hl
      | cons m mid =>
        simp at e; subst e
        exact ih (mid ++ post) mid post _ rfl (by simpa using hl) hk
  clear h h4 K
  subst h1 h2
  induction pre generalizing K' with
  | nil =>
    cases hl : mid ++ post with
    | nil =>
      have hm : mid = [] := (List.append_eq_nil_iff.1 hl).1
      have hp : post = [] := (List.append_eq_nil_iff.1 hl).2
      subst hm hp
      have : new = [] := List.eq_nil_of_length_eq_zero h3.symm
      subst this
      exact h'
    | cons a r =>
      show spliceK new ([] ++ mid ++ post) 0 K'
      rw [List.nil_append, hl]
      exact over new (a :: r) mid post K' hl.symm h3 (by simpa using h')
  | cons a pre ih => exact ih _ (by simpa using h')

theorem det_pvsK (l : List PV) : Det (pvsK l) := by
  induction l with
  | nil => exact Det.ret _
  | cons x l ih => exact ih.map (AV.pv x :: ·)
theorem det_allPvK {β : Type} (l : List AV) (f : List PV → β) (e : β) : Det fun K : β → Prop => allPvK l (fun t => K (f t)) (K e) := by
  induction l generalizing f with
  | nil => exact Det.ret _
  | cons a l ih =>
    cases a with
    | pv x => exact ih fun t => f (x :: t)
    | _ => exact Det.ret e
theorem det_aggK (l : List AV) : Det (aggK l) := det_allPvK l (fun t => AV.pv (.agg t)) (AV.agg l)
theorem det_ofCells (ag : Bool) (cs : List PV) : Det (ofCells ag cs) := by
  cases ag with
  | true => exact Det.ret _
  | false => cases cs with
    | nil => exact Det.no
    | cons c cs => cases cs with
      | nil => exact Det.ret _
      | cons _ _ => exact Det.no
theorem det_ofAVs (ag : Bool) (cs : List AV) : Det (ofAVs ag cs) := by
  cases ag with
  | true => exact det_aggK cs
  | false => cases cs with
    | nil => exact Det.no
    | cons c cs => cases cs with
      | nil => exact Det.ret _
      | cons _ _ => exact Det.no
theorem det_partK (off : Nat) (ag : Bool) (n : Nat) (cs : List PV) : Det (partK off ag n cs) := (det_dropK off cs).bind fun r => (det_takeK n r).bind fun t => det_ofCells ag t
theorem det_cellsK (a : AV) : Det (cellsK a) := by
  cases a with
  | pv x => cases x with
    | agg cs => exact det_pvsK cs
    | tup _ => exact Det.no
    | _ => exact Det.ret _
  | agg cs => exact Det.ret _
  | own id => exact Det.ret _
  | ref id idx off => exact Det.ret _
  | sub id sz lo n => exact Det.ret _
  | clo f caps => exact Det.ret _
  | _ => exact Det.no
theorem det_buildK (ps : List (Nat × Nat × AV)) : ∀ z, Det (buildK z ps) := by
  induction ps with
  | nil => intro z; exact Det.ret z
  | cons p ps ih => intro z; exact (det_cellsK p.2.2).bind fun vs => Det.and ((det_spliceK vs z p.1).bind fun z => ih z)
theorem det_winK {β : Type} (sz lo n : Nat) (b : Blk) (f : List PV → (β → Prop) → Prop) (h : ∀ l, Det (f l)) : Det fun K => winK sz lo n b fun l => f l K := by
  have one : ∀ (s : Nat) (els : List PV), Det fun K : β → Prop => match Nat.beq s sz with
      | true => lo + n ≤ els.length ∧ f (cut lo (lo + n) els) K
      | false => False := by
    intro s els
    cases Nat.beq s sz with
    | true => exact Det.and (h _)
    | false => exact Det.no
  cases b with
  | row e s ap els => exact one s els
  | fz x => cases x with
    | sl s els => exact one s els
    | _ => exact Det.no
  | _ => exact Det.no
theorem det_rowK {β : Type} (a : AV) (f : Nat → List PV → (β → Prop) → Prop) (h : ∀ s l, Det (f s l)) : Det fun K => rowK σ a fun s l => f s l K := by
  cases a with
  | pv x => cases x with
    | sl sz els => exact h sz els
    | nil sz => exact h sz []
    | _ => exact Det.no
  | own id =>
    refine (det_nthK σ id).bind fun b => ?_
    cases b with
    | row e sz ap els => exact h sz els
    | fz x => cases x with
      | sl sz els => exact h sz els
      | _ => exact Det.no
    | _ => exact Det.no
  | sub id sz lo n => exact (det_nthK σ id).bind fun b => det_winK sz lo n b _ fun l => h sz l
  | _ => exact Det.no
theorem det_upK {β : Type} (n : Nat) (hi : Option AV) (f : Nat → (β → Prop) → Prop) (h : ∀ k, Det (f k)) : Det fun K => upK n hi fun k => f k K := by
  cases hi with
  | none => exact h n
  | some a => cases a with
    | pv x => cases x with
      | int k m => exact Det.and (h _)
      | _ => exact Det.no
    | _ => exact Det.no
theorem det_boundsK {β : Type} (n : Nat) (lo hi : Option AV) (f : Nat → Nat → (β → Prop) → Prop) (h : ∀ l k, Det (f l k)) : Det fun K => boundsK n lo hi fun l k => f l k K := by
  cases lo with
  | none => exact det_upK n hi _ fun k => h 0 k
  | some a => cases a with
    | pv x => cases x with
      | int k m => exact det_upK n hi (fun u K => (0 ≤ m ∧ m ≤ (u : Int)) ∧ f m.toNat u K) fun u => Det.and (h _ _)
      | _ => exact Det.no
    | _ => exact Det.no
theorem det_asInt {β : Type} (a : AV) (f : IntKind → Int → (β → Prop) → Prop) (h : ∀ k n, Det (f k n)) : Det fun K => Dv.asInt a fun k n => f k n K := by
  cases a with
  | pv x => cases x with
    | int k n => exact h k n
    | _ => exact Det.no
  | _ => exact Det.no
theorem det_binI {β : Type} (op : BinOp) (k : IntKind) (a b : Int) (f : PV → β) : Det fun K : β → Prop => binI op k a b fun r => K (f r) := by
  cases op <;> simp only [binI, numK] <;> first | exact Det.num (fun r => f (.int k r)) _ | exact Det.cmp f _ | exact Det.and (Det.num (fun r => f (.int k r)) _)
theorem det_binP {β : Type} (op : BinOp) (x y : PV) (f : PV → β) : Det fun K : β → Prop => binP op x y fun r => K (f r) := by
  cases x with
  | int k a => cases y with
    | int j b =>
      show Det fun K : β → Prop => match sameKind op k j with | true => binI op k a b fun r => K (f r) | false => False
      cases sameKind op k j with
      | true => exact det_binI op k a b f
      | false => exact Det.no
    | _ => exact Det.no
  | str a => cases y with
    | str b => cases op <;> simp only [binP] <;> first | exact Det.no | exact Det.cmp f _ | exact Det.and (Det.ret (f (.str (a ++ b))))
    | _ => exact Det.no
  | _ => exact Det.no
theorem det_readAV (a : AV) : Det (readAV σ a) := by
  refine AV.rec (motive_1 := fun a => Det (readAV σ a)) (motive_2 := fun l => Det (readAVs σ l)) ?_ ?_ ?_ ?_ ?_ ?_ ?_ ?_ ?_ ?_ a
  · exact Det.no
  · intro x; exact Det.ret x
  · intro id
    refine (det_nthK σ id).bind fun b => ?_
    cases b with
    | row e sz ap els => exact Det.ret _
    | fz x => exact Det.ret _
    | _ => exact Det.no
  · intro _ _ _; exact Det.no
  · intro id sz lo n; exact (det_nthK σ id).bind fun b => det_winK sz lo n b (fun l K => K (PV.sl sz l)) fun l => Det.ret _
  · intro cs ih K h
    obtain ⟨r, h1, h2⟩ := ih.map PV.agg K (readAV_agg σ cs K h)
    exact ⟨r, h1, fun K' h => readAV_agg' σ cs K' (h2 K' h)⟩
  · intro cs ih K h
    obtain ⟨r, h1, h2⟩ := ih.map PV.tup K (readAV_tup σ cs K h)
    exact ⟨r, h1, fun K' h => readAV_tup' σ cs K' (h2 K' h)⟩
  · intro _ _ _; exact Det.no
  · exact Det.ret _
  · intro a l h1 h2; exact h1.bind fun x => h2.map (x :: ·)
theorem det_readAVs (l : List AV) : Det (readAVs σ l) := by
  induction l with
  | nil => exact Det.ret _
  | cons a l ih => exact (det_readAV a).bind fun x => ih.map (x :: ·)

/-- A step that turns no row and passes one value. -/
def Det2 (σ : Sto) (G : (AV → Sto → Prop) → Prop) : Prop := ∀ K, G K → ∃ v, K v σ ∧ ∀ K' : AV → Sto → Prop, K' v σ → G K'

theorem Det.two {G : (AV → Prop) → Prop} (h : Det G) : Det2 σ fun K => G fun a => K a σ := fun K hk => by
  obtain ⟨r, h1, h2⟩ := h _ hk
  exact ⟨r, h1, fun K' h => h2 _ h⟩
theorem Det2.no : Det2 σ fun _ => False := fun _ h => h.elim
theorem Det2.ret (a : AV) : Det2 σ fun K => K a σ := fun _ h => ⟨a, h, fun _ h => h⟩
theorem Det2.bindK {β : Type} {G : (β → Prop) → Prop} {H : β → (AV → Sto → Prop) → Prop} (h : Det G) (h' : ∀ a, Det2 σ (H a)) : Det2 σ fun K => G fun a => H a K := fun K hk => by
  obtain ⟨a, h1, h2⟩ := h _ hk
  obtain ⟨r, h3, h4⟩ := h' a K h1
  exact ⟨r, h3, fun K' h => h2 _ (h4 K' h)⟩

theorem det_loadK (ag : Bool) (n : Nat) (a : AV) : Det (loadK σ ag n a) := by
  cases a with
  | pv x => cases x with
    | cptr y => exact (det_partK 0 ag n y.cells).map AV.pv
    | _ => exact Det.no
  | ref id idx off =>
    refine (det_nthK σ id).bind fun b => ?_
    cases b with
    | row e sz ap els => exact Det.ex fun y => Det.and ((det_partK off ag n y.cells).map AV.pv)
    | box e cs => exact (det_dropK off cs).bind fun r => (det_takeK n r).bind fun t => det_ofAVs ag t
    | fz x => cases x with
      | cptr y => exact (det_partK off ag n y.cells).map AV.pv
      | _ => exact Det.no
    | _ => exact Det.no
  | _ => exact Det.no
theorem det_idxAK (sz : Nat) (a : AV) (i : Int) : Det (idxAK σ sz a i) := by
  have one : ∀ (s : Nat) (els : List PV), Det fun K : AV → Prop => match Nat.beq s sz with
      | true => ∃ y, (0 ≤ i ∧ els[i.toNat]? = some y) ∧ K (.pv (.cptr y))
      | false => False := by
    intro s els
    cases Nat.beq s sz with
    | true => exact Det.ex fun y => Det.and (Det.ret (AV.pv (.cptr y)))
    | false => exact Det.no
  cases a with
  | pv x => cases x with
    | sl s els => exact one s els
    | _ => exact Det.no
  | own id =>
    refine (det_nthK σ id).bind fun b => ?_
    cases b with
    | row e s ap els =>
      show Det fun K : AV → Prop => match Nat.beq s sz with
        | true => (0 ≤ i ∧ i.toNat < els.length) ∧ K (.ref id i.toNat 0)
        | false => False
      cases Nat.beq s sz with
      | true => exact Det.and (Det.ret (AV.ref id i.toNat 0))
      | false => exact Det.no
    | fz x => cases x with
      | sl s els => exact one s els
      | _ => exact Det.no
    | _ => exact Det.no
  | sub id z lo n =>
    show Det fun K : AV → Prop => match Nat.beq z sz with
      | true => nthK σ id fun b => match b with
        | .row _ s _ els => match Nat.beq s sz with
          | true => ((0 ≤ i ∧ i.toNat < n) ∧ lo + n ≤ els.length) ∧ K (.ref id (lo + i.toNat) 0)
          | false => False
        | .fz x => match x with
          | .sl s els => match Nat.beq s sz with
            | true => ∃ y, ((0 ≤ i ∧ i.toNat < n ∧ lo + n ≤ els.length) ∧ els[lo + i.toNat]? = some y) ∧ K (.pv (.cptr y))
            | false => False
          | _ => False
        | _ => False
      | false => False
    cases Nat.beq z sz with
    | false => exact Det.no
    | true =>
      refine (det_nthK σ id).bind fun b => ?_
      cases b with
      | row e s ap els =>
        show Det fun K : AV → Prop => match Nat.beq s sz with
          | true => ((0 ≤ i ∧ i.toNat < n) ∧ lo + n ≤ els.length) ∧ K (.ref id (lo + i.toNat) 0)
          | false => False
        cases Nat.beq s sz with
        | true => exact Det.and (Det.ret _)
        | false => exact Det.no
      | fz x => cases x with
        | sl s els =>
          show Det fun K : AV → Prop => match Nat.beq s sz with
            | true => ∃ y, ((0 ≤ i ∧ i.toNat < n ∧ lo + n ≤ els.length) ∧ els[lo + i.toNat]? = some y) ∧ K (.pv (.cptr y))
            | false => False
          cases Nat.beq s sz with
          | true => exact Det.ex fun y => Det.and (Det.ret (AV.pv (.cptr y)))
          | false => exact Det.no
        | _ => exact Det.no
      | _ => exact Det.no
  | _ => exact Det.no
theorem det_idxArK (n sz : Nat) (a : AV) (i : Int) : Det (idxArK σ n sz a i) := by
  cases a with
  | ref id idx off =>
    cases idx with
    | succ idx => exact Det.no
    | zero => cases off with
      | succ off => exact Det.no
      | zero =>
        refine (det_nthK σ id).bind fun b => ?_
        cases b with
        | row e s ap els =>
          show Det fun K : AV → Prop => match Nat.beq s sz with
            | true => (els.length = n ∧ 0 ≤ i ∧ i.toNat < n) ∧ K (.ref id i.toNat 0)
            | false => False
          cases Nat.beq s sz with
          | true => exact Det.and (Det.ret _)
          | false => exact Det.no
        | _ => exact Det.no
  | _ => exact Det.no
theorem det_liveK {β : Type} (id : Nat) (r : β) : Det fun K : β → Prop => liveK σ id (K r) := by
  refine (det_nthK σ id).bind fun b => ?_
  cases b with
  | row _ _ _ _ => exact Det.ret r
  | box _ _ => exact Det.ret r
  | fz x => cases x with
    | cptr y => exact Det.ret r
    | _ => exact Det.no
  | _ => exact Det.no
theorem det_fldAK (off : Nat) (a : AV) : Det (fldAK σ off a) := by
  cases a with
  | pv x => cases x with
    | cptr y => exact (det_dropK off y.cells).map fun r => AV.pv (.cptr (.agg r))
    | _ => exact Det.no
  | ref id idx o => exact det_liveK id (AV.ref id idx (Nat.add o off))
  | _ => exact Det.no

theorem det_op {P : Program} (hΓ : Sound P Γ) (env : Env) {k : PK} (hk : k.pure Γ = true) : Det2 σ (fun K => evK Γ env σ k K) := by
  cases k with
  | mv x => simp only [evK, ev_eq]; exact Det2.ret _
  | nilS sz => exact Det2.ret _
  | nilR e sz => cases hk
  | pick c a b =>
    simp only [evK, ev_eq]
    cases evF env c with
    | pv c => cases c with
      | bool c => cases c with
        | true => exact Det2.ret _
        | false => exact Det2.ret _
      | _ => exact Det2.no
    | _ => exact Det2.no
  | bin op x y =>
    simp only [evK, ev_eq]
    cases evF env x with
    | pv x => cases evF env y with
      | pv y => exact (det_binP op x y AV.pv).two
      | _ => exact Det2.no
    | _ => exact Det2.no
  | eqb neg x y =>
    simp only [evK, ev_eq]
    cases evF env x with
    | pv x => cases evF env y with
      | pv y => cases x with
        | bool a => cases y with
          | bool b => cases neg with
            | false => exact (Det.cmp AV.pv (a = b)).two
            | true => exact (Det.cmp AV.pv (a ≠ b)).two
          | _ => exact Det2.no
        | _ => exact Det2.no
      | _ => exact Det2.no
    | _ => exact Det2.no
  | eqs neg n x y =>
    simp only [evK, ev_eq]
    cases evF env x with
    | pv x => cases evF env y with
      | pv y => cases x with
        | agg a => cases y with
          | agg b =>
            simp only
            cases likeB n a b with
            | false => exact Det2.no
            | true => cases neg with
              | false => exact (Det.cmp AV.pv (a = b)).two
              | true => exact (Det.cmp AV.pv (a ≠ b)).two
          | _ => exact Det2.no
        | _ => exact Det2.no
      | _ => exact Det2.no
    | _ => exact Det2.no
  | un op x =>
    simp only [evK, ev_eq]
    cases evF env x with
    | pv x => cases op with
      | not => cases x with
        | bool b => exact (Det.cmp AV.pv (b = false)).two
        | _ => exact Det2.no
      | neg => cases x with
        | int k n => exact (Det.num (fun r => AV.pv (.int k r)) _).two
        | _ => exact Det2.no
      | _ => exact Det2.no
    | _ => exact Det2.no
  | conv c x =>
    simp only [evK, ev_eq]
    cases c with
    | toInt k => exact (det_asInt (evF env x) (fun _ n K => numK k n fun r => K (AV.pv r)) fun _ n => Det.num (fun r => AV.pv (.int k r)) _).two
    | same =>
      cases evF env x with
      | pv x => cases x with
        | str l => exact Det2.ret _
        | _ => exact Det2.no
      | _ => exact Det2.no
    | bts => exact (det_rowK (σ := σ) (evF env x) (fun _ els K => ∃ l : List UInt8, els = l.map byteP ∧ K (AV.pv (.str l))) fun s els => Det.ex fun l => Det.and (Det.ret _)).two
    | stb e => cases hk
  | lenS x =>
    simp only [evK, ev_eq]
    cases evF env x with
    | pv x => cases x with
      | str l => exact Det2.ret _
      | _ => exact Det2.no
    | _ => exact Det2.no
  | lenR x => cases hk
  | lenN x =>
    simp only [evK, ev_eq]
    exact (det_rowK (σ := σ) (evF env x) (fun _ els K => K (AV.pv (.int .i64 els.length))) fun s els => Det.ret _).two
  | mm mx x y =>
    simp only [evK, ev_eq]
    cases mx with
    | true => exact (det_asInt (evF env x) (fun k a K => Dv.asInt (evF env y) fun _ b => ∀ r : Int, r = max a b → K (AV.pv (.int k r))) fun k a => det_asInt (evF env y) (fun _ b K => ∀ r : Int, r = max a b → K (AV.pv (.int k r))) fun _ b => Det.num (fun r => AV.pv (.int k r)) _).two
    | false => exact (det_asInt (evF env x) (fun k a K => Dv.asInt (evF env y) fun _ b => ∀ r : Int, r = min a b → K (AV.pv (.int k r))) fun k a => det_asInt (evF env y) (fun _ b K => ∀ r : Int, r = min a b → K (AV.pv (.int k r))) fun _ b => Det.num (fun r => AV.pv (.int k r)) _).two
  | idx x y =>
    simp only [evK, ev_eq]
    refine Det.two (G := fun K => Dv.asInt (evF env y) fun _ i => match evF env x with
      | .pv x => match x with
        | .str l => ∃ b, (0 ≤ i ∧ l[i.toNat]? = some b) ∧ K (AV.pv (byteP b))
        | _ => False
      | _ => False) ?_
    refine det_asInt _ _ fun _ i => ?_
    cases evF env x with
    | pv x => cases x with
      | str l => exact Det.ex fun b => Det.and (Det.ret _)
      | _ => exact Det.no
    | _ => exact Det.no
  | slcS x lo hi =>
    simp only [evK, ev_eq, evO_eq]
    cases evF env x with
    | pv x => cases x with
      | str l => exact (det_boundsK l.length _ _ (fun a b K => K (AV.pv (.str (cut a b l)))) fun a b => Det.ret _).two
      | _ => exact Det2.no
    | _ => exact Det2.no
  | slcR sz x lo hi => cases hk
  | idxA sz x y =>
    simp only [evK, ev_eq]
    exact (det_asInt (evF env y) (fun _ i K => idxAK σ sz (evF env x) i K) fun _ i => det_idxAK sz _ i).two
  | fldA off x => simp only [evK, ev_eq]; exact (det_fldAK off _).two
  | fld off ag n x =>
    simp only [evK, ev_eq]
    cases evF env x with
    | pv x => cases x with
      | agg cs => exact ((det_partK off ag n cs).map AV.pv).two
      | _ => exact Det2.no
    | agg cs => exact ((det_dropK off cs).bind fun r => (det_takeK n r).bind fun t => det_ofAVs ag t).two
    | _ => exact Det2.no
  | load ag n x => simp only [evK, ev_eq]; exact (det_loadK ag n _).two
  | store n x y => cases hk
  | alloc e z => cases hk
  | box e x => cases hk
  | build z ps =>
    simp only [evK, evParts_eq]
    exact ((det_pvsK z).bind fun z => (det_buildK _ z).bind fun cs => det_aggK cs).two
  | bslice e sz l => cases hk
  | bslP e sz l => cases hk
  | app e sz b x y => cases hk
  | appS e b x y => cases hk
  | mksl e sz b z x y => cases hk
  | call f l =>
    have hf : (Γ f).fn = true := hk
    obtain ⟨h1, h2, _⟩ := hΓ f
    simp only [evK, evs_eq, callK, (h2 hf).1, (h2 hf).2]
    refine Det2.bindK (det_readAVs _) fun ps => ?_
    intro K hK
    obtain ⟨x, h3, h4⟩ := h1 hf ps _ hK
    exact ⟨.pv x, h3, fun K' h => h4 _ h⟩
  | ext x i =>
    simp only [evK, ev_eq]
    cases evF env x with
    | tup l => exact (det_nthK l i).two
    | pv x => cases x with
      | tup l => exact ((det_nthK l i).map AV.pv).two
      | _ => exact Det2.no
    | _ => exact Det2.no
  | nilck x =>
    simp only [evK, ev_eq]
    cases evF env x with
    | ref id idx off => exact (det_liveK id (AV.ref id idx off)).two
    | pv x => cases x with
      | cptr y => exact Det2.ret _
      | clo f cs => exact Det2.ret _
      | _ => exact Det2.no
    | clo f cs => exact Det2.ret _
    | _ => exact Det2.no
  | mkf f l => cases hk
  | callv x l => cases hk
  | idxAr n sz x y =>
    simp only [evK, ev_eq]
    exact (det_asInt (evF env y) (fun _ i K => idxArK σ n sz (evF env x) i K) fun _ i => det_idxArK n sz _ i).two
  | fail => cases hk
  | junk => cases hk
  | cpy sz x y => cases hk
  | cpyS x y => cases hk
  | clr sz z x => cases hk
  | mkarr e sz z n => cases hk
  | slcA n sz x lo hi => cases hk
  | isnil neg x => cases hk
  | idxV m sz ag n x y =>
    simp only [evK, ev_eq]
    have hd : Det fun K : AV → Prop => Dv.asInt (evF env y) fun _ i => (0 ≤ i ∧ i.toNat < m) ∧ match evF env x with
        | .pv x => match x with
          | .agg cs => partK (Nat.mul i.toNat sz) ag n cs fun r => K (AV.pv r)
          | _ => False
        | .agg cs => dropK (Nat.mul i.toNat sz) cs fun r => takeK n r fun t => ofAVs ag t K
        | _ => False := by
      refine det_asInt _ (fun _ i K => _) fun _ i => Det.and ?_
      cases evF env x with
      | pv x => cases x with
        | agg cs => exact (det_partK _ ag n cs).map AV.pv
        | _ => exact Det.no
      | agg cs => exact (det_dropK _ cs).bind fun r => (det_takeK n r).bind fun t => det_ofAVs ag t
      | _ => exact Det.no
    intro K hk
    obtain ⟨v, h1, h2⟩ := hd (fun a => K a σ) (asInt_mono hk fun _ i ⟨h0, h⟩ => ⟨h0, by revert h; cases evF env x with | pv x => cases x <;> exact id | _ => exact id⟩)
    exact ⟨v, h1, fun K' h' => asInt_mono (h2 (fun a => K' a σ) h') fun _ i ⟨h0, h⟩ => ⟨h0, by revert h; cases evF env x with | pv x => cases x <;> exact id | _ => exact id⟩⟩
  | fldV m sz x y =>
    simp only [evK, ev_eq]
    exact (det_asInt (evF env y) (fun _ i K => (0 ≤ i ∧ i.toNat < m) ∧ fldAK σ (Nat.mul i.toNat sz) (evF env x) K) fun _ i => Det.and (det_fldAK _ _)).two

/-! ### One operation with its guard -/
noncomputable def stepO (Γ : Ctx) (o : PO) (env : Env) (σ : Sto) (K : Env → Sto → Prop) : Prop :=
  match o.g with
    | none => evK Γ env σ o.k fun v σ => K (put o.dst v env) σ
    | some (g, want) => match lookF g env with
      | .pv x => match x with
        | .bool b => bif b == want then evK Γ env σ o.k fun v σ => K (put o.dst v env) σ else K (put o.dst (.pv (.tup [])) env) σ
        | .tup _ => K (put o.dst (.pv (.tup [])) env) σ
        | _ => False
      | _ => False

theorem vcO_cons (K : Env → Sto → Prop) (o : PO) (l : List PO) (env : Env) : vcO Γ K (o :: l) env σ = stepO Γ o env σ (vcO Γ K l) := by
  obtain ⟨d, g, k⟩ := o
  cases g with
  | none => rfl
  | some p =>
    obtain ⟨g, want⟩ := p
    unfold stepO
    refine Eq.trans (look_eq g (fun gv => match gv with
      | .pv x => match x with
        | .bool b => match b with
          | true => (match want with
            | true => evK Γ env σ k fun v σ => vcO Γ K l (put d v env) σ
            | false => vcO Γ K l (put d (.pv (.tup [])) env) σ)
          | false => (match want with
            | false => evK Γ env σ k fun v σ => vcO Γ K l (put d v env) σ
            | true => vcO Γ K l (put d (.pv (.tup [])) env) σ)
        | .tup _ => vcO Γ K l (put d (.pv (.tup [])) env) σ
        | _ => False
      | _ => False) env) ?_
    simp only
    cases lookF g env with
    | pv x => cases x with
      | bool b => cases b <;> cases want <;> rfl
      | _ => rfl
    | _ => rfl

theorem det_step {P : Program} (hΓ : Sound P Γ) {o : PO} (ho : o.k.pure Γ = true) {env : Env} {K : Env → Sto → Prop} (h : stepO Γ o env σ K) :
    ∃ v, K (put o.dst v env) σ ∧ ∀ (env' : Env) (K' : Env → Sto → Prop), (∀ t ∈ o.reads, lookF t env' = lookF t env) → K' (put o.dst v env') σ → stepO Γ o env' σ K' := by
  obtain ⟨d, g, k⟩ := o
  have run : ∀ {env : Env} {K : Env → Sto → Prop}, evK Γ env σ k (fun v σ => K (put d v env) σ) → ∃ v, K (put d v env) σ ∧ ∀ (env' : Env) (K' : Env → Sto → Prop), (∀ t ∈ k.reads, lookF t env' = lookF t env) → K' (put d v env') σ → evK Γ env' σ k (fun v σ => K' (put d v env') σ) := by
    intro env K h
    obtain ⟨v, h1, h2⟩ := det_op hΓ env ho _ h
    refine ⟨v, h1, fun env' K' hr hk => ?_⟩
    rw [evK_congr hr]
    exact h2 _ hk
  cases g with
  | none =>
    obtain ⟨v, h1, h2⟩ := run (K := K) h
    exact ⟨v, h1, fun env' K' hr hk => h2 env' K' (fun t ht => hr t (by simp [PO.reads, ht])) hk⟩
  | some p =>
    obtain ⟨g, want⟩ := p
    unfold stepO at h
    simp only at h
    have hg : ∀ env' : Env, (∀ t ∈ PO.reads ⟨d, some (g, want), k⟩, lookF t env' = lookF t env) → lookF g env' = lookF g env := fun env' hr => hr g (by simp [PO.reads])
    cases hv : lookF g env with
    | pv x =>
      rw [hv] at h
      cases x with
      | bool b =>
        simp only at h
        cases hb : (b == want) with
        | true =>
          rw [hb] at h
          obtain ⟨v, h1, h2⟩ := run (K := K) h
          refine ⟨v, h1, fun env' K' hr hk => ?_⟩
          unfold stepO
          simp only [hg env' hr, hv, hb]
          exact h2 env' K' (fun t ht => hr t (by simp [PO.reads, ht])) hk
        | false =>
          rw [hb] at h
          refine ⟨.pv (.tup []), h, fun env' K' hr hk => ?_⟩
          unfold stepO
          simp only [hg env' hr, hv, hb]
          exact hk
      | tup l =>
        refine ⟨.pv (.tup []), h, fun env' K' hr hk => ?_⟩
        unfold stepO
        simp only [hg env' hr, hv]
        exact hk
      | _ => exact h.elim
    | _ => rw [hv] at h; exact h.elim

/-- What is said of a setting is said of each that looks the same. -/
def Same (K : Env → Sto → Prop) : Prop := ∀ env env' σ, (∀ p, lookF p env' = lookF p env) → K env' σ = K env σ

theorem look_put_same {d : Option Nat} {v : AV} {env env' : Env} (h : ∀ p, lookF p env' = lookF p env) (p : Nat) : lookF p (put d v env') = lookF p (put d v env) := by
  cases d with
  | none => exact h p
  | some d => rw [lookF_put, lookF_put, h p]

theorem clash_spec {p o : PO} (h : clash p o = false) : (∀ d, p.dst = some d → d ∉ o.reads ∧ o.dst ≠ some d) ∧ ∀ d, o.dst = some d → d ∉ p.reads := by
  unfold clash at h
  obtain ⟨h1, h2⟩ := Bool.or_eq_false_iff.1 h
  constructor
  · intro d hd
    rw [hd] at h1
    simp only [Bool.or_eq_false_iff] at h1
    refine ⟨fun hm => by simp [hm] at h1, fun he => by rw [he] at h1; simp at h1⟩
  · intro d hd hm
    rw [hd] at h2
    simp [hm] at h2

theorem det_setK {α : Type} (l : List α) : ∀ i x, Det (setK l i x) := by
  induction l with
  | nil => intro i x; exact Det.no
  | cons a l ih => intro i x; cases i with
    | zero => exact Det.ret _
    | succ i => exact (ih i x).map (a :: ·)
theorem det_freezeAV (a : AV) : ∀ σ, Det (freezeAV a σ) := by
  refine AV.rec (motive_1 := fun a => ∀ σ, Det (freezeAV a σ)) (motive_2 := fun l => ∀ σ, Det (freezeAV (.agg l) σ)) ?_ ?_ ?_ ?_ ?_ ?_ ?_ ?_ ?_ ?_ a
  · intro σ; exact Det.no
  · intro x σ; exact Det.ret σ
  · intro id σ
    refine (det_nthK σ id).bind fun b => ?_
    cases b with
    | row e sz ap els => exact det_setK _ _ _
    | fz x => exact Det.ret σ
    | _ => exact Det.no
  · intro _ _ _ σ; exact Det.no
  · intro id sz lo n σ
    refine (det_nthK σ id).bind fun b => ?_
    cases b with
    | row e sz ap els => exact det_setK _ _ _
    | fz x => exact Det.ret σ
    | _ => exact Det.no
  · intro cs ih; exact ih
  · intro cs ih; exact ih
  · intro _ _ _ σ; exact Det.no
  · intro σ; exact Det.ret σ
  · intro a l h1 h2 σ; exact (h1 σ).bind fun σ => h2 σ
theorem det_alikeK (y : PV) (cs : List PV) : Det (alikeK y cs) := by
  cases y <;> first | exact Det.ret _ | (cases cs with
    | nil => exact Det.no
    | cons x r => cases r with
      | nil => exact Det.ret _
      | cons _ _ => exact Det.no)
theorem det_storeK (n : Nat) (a v : AV) : Det (storeK σ n a v) := by
  cases a with
  | ref id idx off =>
    refine (det_nthK σ id).bind fun b => ?_
    cases b with
    | row e sz ap els =>
      refine (det_readAV v).bind fun x => (det_freezeAV v σ).bind fun σ => (det_nthK σ id).bind fun b => ?_
      cases b with
      | row e sz ap els => exact Det.ex fun y => Det.and (Det.and ((det_spliceK _ _ _).bind fun cs => (det_alikeK y cs).bind fun y' => det_setK _ _ _))
      | _ => exact Det.no
    | box e cs => exact (det_cellsK v).bind fun vs => Det.and ((det_spliceK _ _ _).bind fun cs => det_setK _ _ _)
    | _ => exact Det.no
  | _ => exact Det.no

/-- An operation comes to one value and one store. -/
def Runs (Γ : Ctx) (o : PO) (env : Env) (σ : Sto) (v : AV) (σ1 : Sto) : Prop :=
  ∀ (env' : Env) (K' : Env → Sto → Prop), (∀ t ∈ o.reads, lookF t env' = lookF t env) → K' (put o.dst v env') σ1 → stepO Γ o env' σ K'
/-- The same in any store. -/
def Stands (Γ : Ctx) (o : PO) (env : Env) (v : AV) : Prop :=
  ∀ (env' : Env) (σ' : Sto) (K' : Env → Sto → Prop), (∀ t ∈ o.reads, lookF t env' = lookF t env) → K' (put o.dst v env') σ' → stepO Γ o env' σ' K'

/-- A guard decides whether an operation runs. -/
theorem guard_runs {o : PO} {env : Env} {K : Env → Sto → Prop} (h : stepO Γ o env σ K)
    (hk : evK Γ env σ o.k (fun v σ => K (put o.dst v env) σ) → ∃ v σ1, K (put o.dst v env) σ1 ∧ ∀ (env' : Env) (K' : Env → Sto → Prop), (∀ t ∈ o.k.reads, lookF t env' = lookF t env) → K' (put o.dst v env') σ1 → evK Γ env' σ o.k (fun v σ => K' (put o.dst v env') σ)) :
    ∃ v σ1, K (put o.dst v env) σ1 ∧ Runs Γ o env σ v σ1 := by
  obtain ⟨d, g, k⟩ := o
  cases g with
  | none =>
    obtain ⟨v, σ1, h1, h2⟩ := hk h
    exact ⟨v, σ1, h1, fun env' K' hr hk => h2 env' K' (fun t ht => hr t (by simp [PO.reads, ht])) hk⟩
  | some p =>
    obtain ⟨g, want⟩ := p
    unfold stepO at h
    simp only at h
    have hg : ∀ env' : Env, (∀ t ∈ PO.reads ⟨d, some (g, want), k⟩, lookF t env' = lookF t env) → lookF g env' = lookF g env := fun env' hr => hr g (by simp [PO.reads])
    cases hv : lookF g env with
    | pv x =>
      rw [hv] at h
      cases x with
      | bool b =>
        simp only at h
        cases hb : (b == want) with
        | true =>
          rw [hb] at h
          obtain ⟨v, σ1, h1, h2⟩ := hk h
          refine ⟨v, σ1, h1, fun env' K' hr hk => ?_⟩
          unfold stepO
          simp only [hg env' hr, hv, hb]
          exact h2 env' K' (fun t ht => hr t (by simp [PO.reads, ht])) hk
        | false =>
          rw [hb] at h
          refine ⟨.pv (.tup []), σ, h, fun env' K' hr hk => ?_⟩
          unfold stepO
          simp only [hg env' hr, hv, hb]
          exact hk
      | tup l =>
        refine ⟨.pv (.tup []), σ, h, fun env' K' hr hk => ?_⟩
        unfold stepO
        simp only [hg env' hr, hv]
        exact hk
      | _ => exact h.elim
    | _ => rw [hv] at h; exact h.elim

theorem writ_runs {o : PO} (ho : o.k.writ = true) {env : Env} {K : Env → Sto → Prop} (h : stepO Γ o env σ K) : ∃ v σ1, K (put o.dst v env) σ1 ∧ Runs Γ o env σ v σ1 := by
  refine guard_runs h fun h => ?_
  obtain ⟨d, g, k⟩ := o
  cases k with
  | store n x v =>
    simp only [evK, ev_eq] at h
    obtain ⟨σ1, h1, h2⟩ := det_storeK n _ _ _ h
    refine ⟨.bad, σ1, h1, fun env' K' hr hk => ?_⟩
    simp only [evK, ev_eq]
    rw [evF_congr (env := env) (o := x) fun t ht => hr t (by simp [PK.reads, ht]), evF_congr (env := env) (o := v) fun t ht => hr t (by simp [PK.reads, ht])]
    exact h2 _ hk
  | _ => cases ho

theorem still_ev {k : PK} (hk : k.still = true) {env : Env} (σ : Sto) {K : AV → Sto → Prop} (h : evK Γ env σ k K) : ∃ v, K v σ ∧ ∀ (σ' : Sto) (K' : AV → Sto → Prop), K' v σ' → evK Γ env σ' k K' := by
  have two : ∀ {G : (AV → Prop) → Prop}, Det G → G (fun a => K a σ) → ∃ v, K v σ ∧ ∀ (σ' : Sto) (K' : AV → Sto → Prop), K' v σ' → G fun a => K' a σ' := by
    intro G hd h
    obtain ⟨v, h1, h2⟩ := hd _ h
    exact ⟨v, h1, fun σ' K' h => h2 _ h⟩
  have no : ∀ {G : Sto → (AV → Sto → Prop) → Prop}, False → ∃ v, K v σ ∧ ∀ (σ' : Sto) (K' : AV → Sto → Prop), K' v σ' → G σ' K' := fun h => h.elim
  have ret : ∀ v, K v σ → ∃ v, K v σ ∧ ∀ (σ' : Sto) (K' : AV → Sto → Prop), K' v σ' → K' v σ' := fun v h => ⟨v, h, fun _ _ h => h⟩
  cases k with
  | mv x => simp only [evK, ev_eq] at h ⊢; exact ⟨_, h, fun _ _ h => h⟩
  | nilS sz => exact ⟨_, h, fun _ _ h => h⟩
  | pick c a b =>
    simp only [evK, ev_eq] at h ⊢
    cases hc : evF env c with
    | pv c =>
      rw [hc] at h
      cases c with
      | bool c => cases c with
        | true => exact ⟨_, h, fun _ _ h => h⟩
        | false => exact ⟨_, h, fun _ _ h => h⟩
      | _ => exact h.elim
    | _ => rw [hc] at h; exact h.elim
  | bin op x y =>
    simp only [evK, ev_eq] at h ⊢
    cases hx : evF env x with
    | pv x =>
      rw [hx] at h
      cases hy : evF env y with
      | pv y => rw [hy] at h; exact two (det_binP op x y AV.pv) h
      | _ => rw [hy] at h; exact h.elim
    | _ => rw [hx] at h; exact h.elim
  | eqb neg x y =>
    simp only [evK, ev_eq] at h ⊢
    cases hx : evF env x with
    | pv x =>
      rw [hx] at h
      cases hy : evF env y with
      | pv y =>
        rw [hy] at h
        cases x with
        | bool a => cases y with
          | bool b => cases neg with
            | false => exact two (Det.cmp AV.pv (a = b)) h
            | true => exact two (Det.cmp AV.pv (a ≠ b)) h
          | _ => exact h.elim
        | _ => exact h.elim
      | _ => rw [hy] at h; exact h.elim
    | _ => rw [hx] at h; exact h.elim
  | eqs neg ks x y =>
    simp only [evK, ev_eq] at h ⊢
    cases hx : evF env x with
    | pv x =>
      rw [hx] at h
      cases hy : evF env y with
      | pv y =>
        rw [hy] at h
        cases x with
        | agg a => cases y with
          | agg b =>
            simp only at h ⊢
            cases hl : likeB ks a b with
            | true =>
              rw [hl] at h
              cases neg with
              | false => exact two (Det.cmp AV.pv (a = b)) h
              | true => exact two (Det.cmp AV.pv (a ≠ b)) h
            | false => rw [hl] at h; exact h.elim
          | _ => exact h.elim
        | _ => exact h.elim
      | _ => rw [hy] at h; exact h.elim
    | _ => rw [hx] at h; exact h.elim
  | un op x =>
    simp only [evK, ev_eq] at h ⊢
    cases hx : evF env x with
    | pv x =>
      rw [hx] at h
      cases op <;> cases x <;> first | exact h.elim | exact two (Det.cmp AV.pv _) h | exact two (Det.num (fun r => AV.pv (.int _ r)) _) h
    | _ => rw [hx] at h; exact h.elim
  | lenS x =>
    simp only [evK, ev_eq] at h ⊢
    cases hx : evF env x with
    | pv x =>
      rw [hx] at h
      cases x with
      | str l => exact ⟨_, h, fun _ _ h => h⟩
      | _ => exact h.elim
    | _ => rw [hx] at h; exact h.elim
  | mm mx x y =>
    simp only [evK, ev_eq] at h ⊢
    refine two (G := fun K => Dv.asInt (evF env x) fun k a => Dv.asInt (evF env y) fun _ b => match mx with | true => ∀ r : Int, r = max a b → K (.pv (.int k r)) | false => ∀ r : Int, r = min a b → K (.pv (.int k r))) ?_ ?_ |>.imp fun v h => ⟨h.1, fun σ' K' hk => ?_⟩
    · refine det_asInt _ _ fun k a => det_asInt _ _ fun _ b => ?_
      cases mx with
      | true => exact Det.num _ _
      | false => exact Det.num _ _
    · cases mx <;> exact h
    · have := h.2 σ' K' hk
      cases mx <;> exact this
  | ext x i =>
    simp only [evK, ev_eq] at h ⊢
    cases hx : evF env x with
    | tup l => rw [hx] at h; exact two (det_nthK l i) h
    | pv x =>
      rw [hx] at h
      cases x with
      | tup l => exact two ((det_nthK l i).map AV.pv) h
      | _ => exact h.elim
    | _ => rw [hx] at h; exact h.elim
  | conv c x =>
    cases c with
    | toInt k =>
      simp only [evK, ev_eq] at h ⊢
      exact two (G := fun K => Dv.asInt (evF env x) fun _ n => numK k n fun r => K (.pv r)) (det_asInt _ _ fun _ n => Det.num (fun r => AV.pv (.int k r)) _) h
    | _ => cases hk
  | _ => cases hk

theorem still_stands {o : PO} (ho : o.k.still = true) {env : Env} {K : Env → Sto → Prop} (h : stepO Γ o env σ K) : ∃ v, K (put o.dst v env) σ ∧ Stands Γ o env v := by
  obtain ⟨d, g, k⟩ := o
  have run : evK Γ env σ k (fun v σ => K (put d v env) σ) → ∃ v, K (put d v env) σ ∧ ∀ (env' : Env) (σ' : Sto) (K' : Env → Sto → Prop), (∀ t ∈ k.reads, lookF t env' = lookF t env) → K' (put d v env') σ' → evK Γ env' σ' k (fun v σ => K' (put d v env') σ) := by
    intro h
    obtain ⟨v, h1, h2⟩ := still_ev ho σ h
    refine ⟨v, h1, fun env' σ' K' hr hk => ?_⟩
    rw [evK_congr hr]
    exact h2 _ _ hk
  cases g with
  | none =>
    obtain ⟨v, h1, h2⟩ := run h
    exact ⟨v, h1, fun env' σ' K' hr hk => h2 env' σ' K' (fun t ht => hr t (by simp [PO.reads, ht])) hk⟩
  | some p =>
    obtain ⟨g, want⟩ := p
    unfold stepO at h
    simp only at h
    have hg : ∀ env' : Env, (∀ t ∈ PO.reads ⟨d, some (g, want), k⟩, lookF t env' = lookF t env) → lookF g env' = lookF g env := fun env' hr => hr g (by simp [PO.reads])
    cases hv : lookF g env with
    | pv x =>
      rw [hv] at h
      cases x with
      | bool b =>
        simp only at h
        cases hb : (b == want) with
        | true =>
          rw [hb] at h
          obtain ⟨v, h1, h2⟩ := run h
          refine ⟨v, h1, fun env' σ' K' hr hk => ?_⟩
          unfold stepO
          simp only [hg env' hr, hv, hb]
          exact h2 env' σ' K' (fun t ht => hr t (by simp [PO.reads, ht])) hk
        | false =>
          rw [hb] at h
          refine ⟨.pv (.tup []), h, fun env' σ' K' hr hk => ?_⟩
          unfold stepO
          simp only [hg env' hr, hv, hb]
          exact hk
      | tup l =>
        refine ⟨.pv (.tup []), h, fun env' σ' K' hr hk => ?_⟩
        unfold stepO
        simp only [hg env' hr, hv]
        exact hk
      | _ => exact h.elim
    | _ => rw [hv] at h; exact h.elim

theorem reads_put {o p : PO} {v : AV} {env : Env} (h : ∀ d, p.dst = some d → d ∉ o.reads) : ∀ t ∈ o.reads, lookF t env = lookF t (put p.dst v env) := by
  intro t ht
  cases hd : p.dst with
  | none => rfl
  | some d =>
    rw [lookF_put]
    have : d ≠ t := fun e => h d hd (e ▸ ht)
    rw [nbeq this]; rfl
theorem put_swap {p o : PO} {u v : AV} {env : Env} (c1 : ∀ d, p.dst = some d → o.dst ≠ some d) (q : Nat) : lookF q (put p.dst v (put o.dst u env)) = lookF q (put o.dst u (put p.dst v env)) := by
  cases hd : p.dst with
  | none => rfl
  | some d =>
    cases he : o.dst with
    | none => rfl
    | some e =>
      have hne : e ≠ d := fun h => c1 d hd (h ▸ he)
      simp only [lookF_put]
      by_cases h1 : d = q
      · subst h1
        have := nbeq hne
        simp [this]
      · have := nbeq h1
        simp [this]

/-! ### Operations that read the store, beside those that put an entry behind it -/
mutual
/-- The entries that a value names are of a kind. -/
def AV.On (P : Nat → Prop) : AV → Prop
  | .own i => P i
  | .ref i _ _ => P i
  | .sub i _ _ _ => P i
  | .agg cs => AV.OnL P cs
  | .tup cs => AV.OnL P cs
  | _ => True
def AV.OnL (P : Nat → Prop) : List AV → Prop
  | [] => True
  | a :: l => AV.On P a ∧ AV.OnL P l
end
mutual
theorem On_mono {P Q : Nat → Prop} (h : ∀ i, P i → Q i) : ∀ a : AV, a.On P → a.On Q
  | .own i, hx => by simp only [AV.On] at hx ⊢; exact h i hx
  | .ref i _ _, hx => by simp only [AV.On] at hx ⊢; exact h i hx
  | .sub i _ _ _, hx => by simp only [AV.On] at hx ⊢; exact h i hx
  | .agg cs, hx => by simp only [AV.On] at hx ⊢; exact OnL_mono h cs hx
  | .tup cs, hx => by simp only [AV.On] at hx ⊢; exact OnL_mono h cs hx
  | .bad, _ => by simp only [AV.On]
  | .pv _, _ => by simp only [AV.On]
  | .clo _ _, _ => by simp only [AV.On]
theorem OnL_mono {P Q : Nat → Prop} (h : ∀ i, P i → Q i) : ∀ l : List AV, AV.OnL P l → AV.OnL Q l
  | [], _ => by simp only [AV.OnL]
  | a :: l, hx => by simp only [AV.OnL] at hx ⊢; exact ⟨On_mono h a hx.1, OnL_mono h l hx.2⟩
end
mutual
theorem RA_on {ok : Nat → Prop} {vals : List Value} {w : World} {P : Nat → Prop} (h1 : ∀ i, i < vals.length → P i) (h2 : ∀ i, i < σ.length → P i) : ∀ (a : AV) (v : Value), RA ok σ vals w a v → a.On P
  | .own i, v, h => by simp only [RA] at h; simp only [AV.On]; exact h1 i (List.getElem?_eq_some_iff.1 h).1
  | .ref i _ _, v, h => by simp only [RA] at h; simp only [AV.On]; exact h2 i h.1
  | .sub i _ _ _, v, h => by simp only [RA] at h; simp only [AV.On]; exact h2 i h.1
  | .agg cs, v, h => by simp only [RA] at h; simp only [AV.On]; obtain ⟨_, vs, _, h⟩ := h; exact RAL_on h1 h2 cs _ h
  | .tup cs, v, h => by simp only [RA] at h; simp only [AV.On]; obtain ⟨vs, _, h⟩ := h; exact RAL_on h1 h2 cs _ h
  | .bad, _, _ => by simp only [AV.On]
  | .pv _, _, _ => by simp only [AV.On]
  | .clo _ _, _, _ => by simp only [AV.On]
theorem RAL_on {ok : Nat → Prop} {vals : List Value} {w : World} {P : Nat → Prop} (h1 : ∀ i, i < vals.length → P i) (h2 : ∀ i, i < σ.length → P i) : ∀ (l : List AV) (vs : List Value), RAL ok σ vals w l vs → AV.OnL P l
  | [], _, _ => by simp only [AV.OnL]
  | a :: l, vs, h => by simp only [RAL] at h; simp only [AV.OnL]; obtain ⟨v, r, _, h3, h4⟩ := h; exact ⟨RA_on h1 h2 a v h3, RAL_on h1 h2 l r h4⟩
end
/-- What lies at places of a kind lies there in the other store too. -/
def Sub (P : Nat → Prop) (σ σ' : Sto) : Prop := ∀ (i : Nat) (b : Blk), P i → σ[i]? = some b → σ'[i]? = some b
section
variable {P : Nat → Prop} {σ' : Sto}
theorem nthK_mv (hs : Sub P σ σ') {i : Nat} (hi : P i) {K : Blk → Prop} (h : nthK σ i K) : nthK σ' i K := by
  obtain ⟨b, h1, h2⟩ := nthK_iff _ _ _ h
  exact nthK_mk _ _ b _ (hs i b hi h1) h2
theorem rowK_mv (hs : Sub P σ σ') {a : AV} (ha : a.On P) {K : Nat → List PV → Prop} (h : rowK σ a K) : rowK σ' a K := by
  cases a with
  | own id => exact nthK_mv hs (by simpa only [AV.On] using ha) h
  | sub id sz lo n => exact nthK_mv hs (by simpa only [AV.On] using ha) h
  | _ => exact h
theorem liveK_mv (hs : Sub P σ σ') {i : Nat} (hi : P i) {p : Prop} (h : liveK σ i p) : liveK σ' i p := nthK_mv hs hi h
theorem fldAK_mv (hs : Sub P σ σ') {off : Nat} {a : AV} (ha : a.On P) {K : AV → Prop} (h : fldAK σ off a K) : fldAK σ' off a K := by
  cases a with
  | ref id idx o => exact liveK_mv hs (by simpa only [AV.On] using ha) h
  | _ => exact h
theorem loadK_mv (hs : Sub P σ σ') {ag : Bool} {n : Nat} {a : AV} (ha : a.On P) {K : AV → Prop} (h : loadK σ ag n a K) : loadK σ' ag n a K := by
  cases a with
  | ref id idx o => exact nthK_mv hs (by simpa only [AV.On] using ha) h
  | _ => exact h
theorem idxAK_mv (hs : Sub P σ σ') {sz : Nat} {a : AV} {i : Int} (ha : a.On P) {K : AV → Prop} (h : idxAK σ sz a i K) : idxAK σ' sz a i K := by
  cases a with
  | own id => exact nthK_mv hs (by simpa only [AV.On] using ha) h
  | sub id z lo n =>
    simp only [idxAK] at h ⊢
    cases hz : Nat.beq z sz with
    | true => rw [hz] at h; exact nthK_mv hs (by simpa only [AV.On] using ha) h
    | false => rw [hz] at h; exact h.elim
  | _ => exact h
theorem idxArK_mv (hs : Sub P σ σ') {n sz : Nat} {a : AV} {i : Int} (ha : a.On P) {K : AV → Prop} (h : idxArK σ n sz a i K) : idxArK σ' n sz a i K := by
  cases a with
  | ref id idx off =>
    cases idx with
    | zero => cases off with
      | zero => exact nthK_mv hs (by simpa only [AV.On] using ha) h
      | succ _ => exact h
    | succ _ => exact h
  | _ => exact h
theorem readAV_mv (hs : Sub P σ σ') (a : AV) : ∀ {K : PV → Prop}, a.On P → readAV σ a K → readAV σ' a K := by
  refine AV.rec (motive_1 := fun a => ∀ {K : PV → Prop}, a.On P → readAV σ a K → readAV σ' a K) (motive_2 := fun l => ∀ {K : List PV → Prop}, AV.OnL P l → readAVs σ l K → readAVs σ' l K) ?_ ?_ ?_ ?_ ?_ ?_ ?_ ?_ ?_ ?_ a
  · intro K _ h; exact h
  · intro x K _ h; exact h
  · intro id K ha h; exact nthK_mv hs (by simpa only [AV.On] using ha) h
  · intro _ _ _ K _ h; exact h
  · intro id sz lo n K ha h; exact nthK_mv hs (by simpa only [AV.On] using ha) h
  · intro cs ih K ha h; exact readAV_agg' σ' cs K (ih (by simpa only [AV.On] using ha) (readAV_agg σ cs K h))
  · intro cs ih K ha h; exact readAV_tup' σ' cs K (ih (by simpa only [AV.On] using ha) (readAV_tup σ cs K h))
  · intro _ _ _ K _ h; exact h
  · intro K _ h; exact h
  · intro a l h1 h2 K ha h
    simp only [AV.OnL] at ha
    obtain ⟨x, h3, h4⟩ := det_readAV a _ h
    refine h1 ha.1 (h4 _ ?_)
    exact h2 ha.2 h3
theorem readAVs_mv (hs : Sub P σ σ') (l : List AV) {K : List PV → Prop} (ha : AV.OnL P l) (h : readAVs σ l K) : readAVs σ' l K := by
  have := readAV_mv hs (.agg l) (K := fun x => match x with | .agg cs => K cs | _ => False) (by simp only [AV.On]; exact ha) (readAV_agg' σ l _ h)
  exact readAV_agg σ' l _ this
theorem asInt_imp {a : AV} {F G : IntKind → Int → Prop} (h : Dv.asInt a F) (hi : ∀ k n, F k n → G k n) : Dv.asInt a G := by
  cases a with
  | pv x => cases x with
    | int k n => exact hi k n h
    | _ => exact h
  | _ => exact h

/-- What an operation that only reads comes to, in the other store. -/
theorem pure_mv {P' : Program} (hΓ : Sound P' Γ) (hs : Sub P σ σ') {env : Env} {k : PK} (hk : k.pure Γ = true) (ha : ∀ t ∈ k.reads, (lookF t env).On P) {K : AV → Prop} (h : evK Γ env σ k fun v _ => K v) : evK Γ env σ' k fun v _ => K v := by
  have one : ∀ {x : Operand}, (∀ t ∈ rdOp x, (lookF t env).On P) → (evF env x).On P := by
    intro x hx
    cases x with
    | tmp t => exact hx t (by simp [rdOp])
    | const v => simp only [evF]; cases v <;> simp [constAV, AV.On] ; (try split) <;> simp [AV.On]
    | global _ => simp [evF, AV.On]
    | func f => simp [evF, AV.On]
  have st : k.still = true → evK Γ env σ' k fun v _ => K v := by
    intro hst
    obtain ⟨v, h1, h2⟩ := still_ev hst σ h
    exact h2 σ' _ h1
  cases k with
  | conv c x =>
    cases c with
    | toInt k => exact st rfl
    | same => exact h
    | bts =>
      simp only [evK, ev_eq] at h ⊢
      exact rowK_mv hs (one ha) h
    | stb e => cases hk
  | lenN x =>
    simp only [evK, ev_eq] at h ⊢
    exact rowK_mv hs (one ha) h
  | idxA sz x y =>
    simp only [evK, ev_eq] at h ⊢
    exact asInt_imp h fun _ i h => idxAK_mv hs (one fun t ht => ha t (by simp [PK.reads, ht])) h
  | idxAr n sz x y =>
    simp only [evK, ev_eq] at h ⊢
    exact asInt_imp h fun _ i h => idxArK_mv hs (one fun t ht => ha t (by simp [PK.reads, ht])) h
  | fldA off x => simp only [evK, ev_eq] at h ⊢; exact fldAK_mv hs (one ha) h
  | idxV m sz ag n x y => exact h
  | fldV m sz x y =>
    simp only [evK, ev_eq] at h ⊢
    exact asInt_imp h fun _ i h => ⟨h.1, fldAK_mv hs (one fun t ht => ha t (by simp [PK.reads, ht])) h.2⟩
  | load ag n x => simp only [evK, ev_eq] at h ⊢; exact loadK_mv hs (one ha) h
  | nilck x =>
    simp only [evK, ev_eq] at h ⊢
    have := one ha
    cases hx : evF env x with
    | ref id idx off =>
      rw [hx] at h this
      exact liveK_mv hs (by simpa only [AV.On] using this) h
    | _ => rw [hx] at h; exact h
  | call f l =>
    have hf : (Γ f).fn = true := hk
    obtain ⟨_, h2, _⟩ := hΓ f
    simp only [evK, evs_eq, callK, (h2 hf).1, (h2 hf).2] at h ⊢
    have hl : AV.OnL P (l.map (evF env)) := by
      have : ∀ l : List Operand, (∀ t ∈ l.flatMap rdOp, (lookF t env).On P) → AV.OnL P (l.map (evF env)) := by
        intro l
        induction l with
        | nil => intro _; simp [AV.OnL]
        | cons x l ih =>
          intro hl
          simp only [List.map_cons, AV.OnL]
          exact ⟨one fun t ht => hl t (by simp [ht]), ih fun t ht => hl t (List.mem_flatMap.2 (by obtain ⟨y, hy, hty⟩ := List.mem_flatMap.1 ht; exact ⟨y, by simp [hy], hty⟩))⟩
      exact this l ha
    have hd := det_readAVs (σ := σ) (l.map (evF env)) _ h
    obtain ⟨ps, h3, h4⟩ := hd
    have h5 := h4 (fun qs => qs = ps) rfl
    have h6 := readAVs_mv hs _ hl h5
    obtain ⟨qs, rfl, h7⟩ := det_readAVs (σ := σ') (l.map (evF env)) _ h6
    refine h7 _ ?_
    obtain ⟨x, h8, h9⟩ := (hΓ f).1 hf qs _ h3
    exact h9 _ h8
  | idx x y => exact h
  | slcS x lo hi => exact h
  | fld off ag n x => exact h
  | build z ps => exact h
  | mv x => exact st rfl
  | nilS sz => exact st rfl
  | pick c a b => exact st rfl
  | bin op x y => exact st rfl
  | eqb neg x y => exact st rfl
  | eqs neg ks x y => exact st rfl
  | un op x => exact st rfl
  | lenS x => exact st rfl
  | mm mx x y => exact st rfl
  | ext x i => exact st rfl
  | _ => cases hk

/-- The same at an operation with its guard: it comes to the same value in both stores. -/
theorem step_mv {P' : Program} (hΓ : Sound P' Γ) {o : PO} (ho : o.k.pure Γ = true) {env : Env} (ha : ∀ t ∈ o.reads, (lookF t env).On P) (hs : Sub P σ σ') {K : Env → Sto → Prop} (h : stepO Γ o env σ K) :
    ∃ v, K (put o.dst v env) σ ∧ ∀ (env' : Env) (K' : Env → Sto → Prop), (∀ t ∈ o.reads, lookF t env' = lookF t env) → K' (put o.dst v env') σ' → stepO Γ o env' σ' K' := by
  obtain ⟨d, g, k⟩ := o
  have run : evK Γ env σ k (fun v σ => K (put d v env) σ) → (∀ t ∈ k.reads, (lookF t env).On P) → ∃ v, K (put d v env) σ ∧ ∀ (env' : Env) (K' : Env → Sto → Prop), (∀ t ∈ k.reads, lookF t env' = lookF t env) → K' (put d v env') σ' → evK Γ env' σ' k (fun v σ => K' (put d v env') σ) := by
    intro h ha
    obtain ⟨v, h1, h2⟩ := det_op hΓ env ho _ h
    have h3 := pure_mv hΓ hs ho ha (h2 (fun u _ => u = v) rfl)
    obtain ⟨u, rfl, h4⟩ := det_op hΓ env ho _ h3
    refine ⟨u, h1, fun env' K' hr hk => ?_⟩
    rw [evK_congr hr]
    exact h4 _ hk
  cases g with
  | none =>
    obtain ⟨v, h1, h2⟩ := run h fun t ht => ha t (by simp [PO.reads, ht])
    exact ⟨v, h1, fun env' K' hr hk => h2 env' K' (fun t ht => hr t (by simp [PO.reads, ht])) hk⟩
  | some p =>
    obtain ⟨g, want⟩ := p
    unfold stepO at h
    simp only at h
    have hg : ∀ env' : Env, (∀ t ∈ PO.reads ⟨d, some (g, want), k⟩, lookF t env' = lookF t env) → lookF g env' = lookF g env := fun env' hr => hr g (by simp [PO.reads])
    cases hv : lookF g env with
    | pv x =>
      rw [hv] at h
      cases x with
      | bool b =>
        simp only at h
        cases hb : (b == want) with
        | true =>
          rw [hb] at h
          obtain ⟨v, h1, h2⟩ := run h fun t ht => ha t (by simp [PO.reads, ht])
          refine ⟨v, h1, fun env' K' hr hk => ?_⟩
          unfold stepO
          simp only [hg env' hr, hv, hb]
          exact h2 env' K' (fun t ht => hr t (by simp [PO.reads, ht])) hk
        | false =>
          rw [hb] at h
          refine ⟨.pv (.tup []), h, fun env' K' hr hk => ?_⟩
          unfold stepO
          simp only [hg env' hr, hv, hb]
          exact hk
      | tup l =>
        refine ⟨.pv (.tup []), h, fun env' K' hr hk => ?_⟩
        unfold stepO
        simp only [hg env' hr, hv]
        exact hk
      | _ => exact h.elim
    | _ => rw [hv] at h; exact h.elim
end

theorem snocK_mk {α : Type} (l : List α) (x : α) : ∀ (K : List α → Prop), K (l ++ [x]) → snocK l x K := by
  induction l with
  | nil => intro K h; exact h
  | cons a l ih => intro K h; exact ih _ h
theorem lenK_mk {α : Type} (l : List α) : ∀ (K : Nat → Prop), K l.length → lenK l K := by
  induction l with
  | nil => intro K h; exact h
  | cons a l ih => intro K h; exact ih _ h

theorem On_true (a : AV) : a.On fun _ => True := by
  refine AV.rec (motive_1 := fun a => a.On fun _ => True) (motive_2 := fun l => AV.OnL (fun _ => True) l) ?_ ?_ ?_ ?_ ?_ ?_ ?_ ?_ ?_ ?_ a
  all_goals intros
  all_goals first | (simp only [AV.On, AV.OnL]; done) | (simp only [AV.On]; assumption) | (simp only [AV.OnL]; constructor <;> assumption)

/-- A store with entries behind it. -/
def Ahead (σ σ1 : Sto) : Prop := ∃ bs, σ1 = σ ++ bs
theorem Ahead.sub {σ σ1 : Sto} (h : Ahead σ σ1) : Sub (fun _ => True) σ σ1 := by
  intro i b _ hb
  obtain ⟨c, rfl⟩ := h
  rw [List.getElem?_append_left (List.getElem?_eq_some_iff.1 hb).1]; exact hb
theorem Ahead.back {σ σ1 : Sto} (h : Ahead σ σ1) : Sub (fun i => i < σ.length) σ1 σ := by
  intro i b hi hb
  obtain ⟨c, rfl⟩ := h
  rw [List.getElem?_append_left hi] at hb; exact hb
theorem Ahead.len {σ σ1 : Sto} (h : Ahead σ σ1) : σ.length ≤ σ1.length := by
  obtain ⟨c, rfl⟩ := h
  simp
theorem Ahead.refl (σ : Sto) : Ahead σ σ := ⟨[], by simp⟩
theorem Ahead.trans {a b c : Sto} (h : Ahead a b) (k : Ahead b c) : Ahead a c := by
  obtain ⟨x, rfl⟩ := h
  obtain ⟨y, rfl⟩ := k
  exact ⟨x ++ y, by simp⟩
/-- A result comes into the store: one value, entries behind. -/
theorem take_det (r : RV) : ∀ (σ : Sto) (K : AV → Sto → Prop), takeRV r σ K → ∃ v σ1, K v σ1 ∧ Ahead σ σ1 ∧ ∀ K' : AV → Sto → Prop, K' v σ1 → takeRV r σ K' := by
  let G : List RV → Sto → (List AV → Sto → Prop) → Prop := fun l => RV.rec_1 (motive_1 := fun _ => Sto → (AV → Sto → Prop) → Prop) (motive_2 := fun _ => Sto → (List AV → Sto → Prop) → Prop)
    (fun x σ K => K (.pv x) σ)
    (fun e sz els σ K => lenK σ fun n => snocK σ (.row e sz true els) fun σ => K (.own n) σ)
    (fun e sz els σ K => lenK σ fun n => snocK σ (.row e sz false els) fun σ => K (.own n) σ)
    (fun _ ih σ K => ih σ fun l σ => K (.agg l) σ)
    (fun _ ih σ K => ih σ fun l σ => K (.tup l) σ)
    (fun σ K => K [] σ)
    (fun _ _ h t σ K => h σ fun a σ => t σ fun l σ => K (a :: l) σ) l
  refine RV.rec (motive_1 := fun r => ∀ (σ : Sto) (K : AV → Sto → Prop), takeRV r σ K → ∃ v σ1, K v σ1 ∧ Ahead σ σ1 ∧ ∀ K' : AV → Sto → Prop, K' v σ1 → takeRV r σ K')
    (motive_2 := fun l => ∀ (σ : Sto) (K : List AV → Sto → Prop), G l σ K → ∃ v σ1, K v σ1 ∧ Ahead σ σ1 ∧ ∀ K' : List AV → Sto → Prop, K' v σ1 → G l σ K')
    ?_ ?_ ?_ ?_ ?_ ?_ ?_ r
  · intro x σ K h; exact ⟨_, σ, h, .refl σ, fun _ h => h⟩
  · intro e sz els σ K h; exact ⟨_, _, snocK_spec _ _ _ (lenK_spec _ _ h), ⟨_, rfl⟩, fun K' h => lenK_mk _ _ (snocK_mk _ _ _ h)⟩
  · intro e sz els σ K h; exact ⟨_, _, snocK_spec _ _ _ (lenK_spec _ _ h), ⟨_, rfl⟩, fun K' h => lenK_mk _ _ (snocK_mk _ _ _ h)⟩
  · intro l ih σ K h; obtain ⟨v, σ1, h1, h2, h3⟩ := ih σ _ h; exact ⟨_, σ1, h1, h2, fun K' h => h3 _ h⟩
  · intro l ih σ K h; obtain ⟨v, σ1, h1, h2, h3⟩ := ih σ _ h; exact ⟨_, σ1, h1, h2, fun K' h => h3 _ h⟩
  · intro σ K h; exact ⟨[], σ, h, .refl σ, fun _ h => h⟩
  · intro a l h1 h2 σ K h
    obtain ⟨v, σ1, h3, h4, h5⟩ := h1 σ (fun a σ => G l σ fun t σ => K (a :: t) σ) h
    obtain ⟨u, σ2, h6, h7, h8⟩ := h2 _ _ h3
    exact ⟨_, σ2, h6, h4.trans h7, fun K' h => h5 (fun a σ => G l σ fun t σ => K' (a :: t) σ) (h8 (fun t σ => K' (v :: t) σ) h)⟩
theorem al_ev {k : PK} (hk : k.ald Γ = true) {env : Env} {K : AV → Sto → Prop} (h : evK Γ env σ k K) : ∃ v σ1, K v σ1 ∧ Ahead σ σ1 ∧ ∀ K' : AV → Sto → Prop, K' v σ1 → evK Γ env σ k K' := by
  cases k with
  | alloc e z =>
    simp only [evK] at h ⊢
    obtain ⟨cs, h1, h2⟩ := det_pvsK _ _ h
    have h3 := snocK_spec _ _ _ (lenK_spec _ _ h1)
    exact ⟨_, _, h3, ⟨_, rfl⟩, fun K' h => h2 _ (lenK_mk _ _ (snocK_mk _ _ _ h))⟩
  | box e x =>
    simp only [evK, ev_eq] at h ⊢
    obtain ⟨cs, h1, h2⟩ := det_cellsK _ _ h
    have h3 := snocK_spec _ _ _ (lenK_spec _ _ h1)
    exact ⟨_, _, h3, ⟨_, rfl⟩, fun K' h => h2 _ (lenK_mk _ _ (snocK_mk _ _ _ h))⟩
  | bslP e sz l =>
    simp only [evK, evs_eq] at h ⊢
    have hd : Det fun K : (List PV) → Prop => allPvK (l.map (evF env)) (fun xs => K xs) False := by
      generalize l.map (evF env) = as
      intro K hK
      rcases allPvK_spec _ _ _ hK with ⟨xs, rfl, hx⟩ | h
      · refine ⟨xs, hx, fun K' hk' => ?_⟩
        clear hK hx K
        induction xs generalizing K' with
        | nil => exact hk'
        | cons x xs ih => exact ih (fun t => K' (x :: t)) hk'
      · exact h.elim
    obtain ⟨xs, ⟨h0, h1⟩, h2⟩ := hd _ h
    have h3 := snocK_spec _ _ _ (lenK_spec _ _ h1)
    exact ⟨_, _, h3, ⟨_, rfl⟩, fun K' h => h2 _ ⟨h0, lenK_mk _ _ (snocK_mk _ _ _ h)⟩⟩
  | call f l =>
    simp only [PK.ald, PK.al, Bool.false_or, Bool.and_eq_true] at hk
    obtain ⟨hdt, hlo⟩ := hk
    obtain ⟨hmu, hdet⟩ := (Γ f).hdt hdt
    simp only [evK, evs_eq, callK, hmu, hlo] at h ⊢
    obtain ⟨ps, h1, h2⟩ := det_readAVs _ _ h
    obtain ⟨r, h3, h4⟩ := hdet _ _ h1
    obtain ⟨v, σ1, h5, h6, h7⟩ := take_det r σ K h3
    exact ⟨v, σ1, h5, h6, fun K' hk => h2 _ (h4 _ (h7 K' hk))⟩
  | _ => cases hk
theorem al_runs {o : PO} (ho : o.k.ald Γ = true) {env : Env} {K : Env → Sto → Prop} (h : stepO Γ o env σ K) : ∃ v σ1, K (put o.dst v env) σ1 ∧ Runs Γ o env σ v σ1 ∧ Ahead σ σ1 := by
  have key : ∃ v σ1, (K (put o.dst v env) σ1 ∧ Ahead σ σ1) ∧ Runs Γ o env σ v σ1 := by
    have h' : stepO Γ o env σ fun env' σ1 => K env' σ1 ∧ Ahead σ σ1 := by
      obtain ⟨d, g, k⟩ := o
      have run : evK Γ env σ k (fun v σ => K (put d v env) σ) → evK Γ env σ k (fun v σ1 => K (put d v env) σ1 ∧ Ahead σ σ1) := by
        intro h
        obtain ⟨v, σ1, h1, h2, h3⟩ := al_ev ho h
        exact h3 _ ⟨h1, h2⟩
      cases g with
      | none => exact run h
      | some p =>
        obtain ⟨g, want⟩ := p
        unfold stepO at h ⊢
        simp only at h ⊢
        cases hv : lookF g env with
        | pv x =>
          rw [hv] at h
          cases x with
          | bool b =>
            simp only at h ⊢
            cases hb : (b == want) with
            | true => rw [hb] at h; exact run h
            | false => rw [hb] at h; exact ⟨h, .refl _⟩
          | tup l => exact ⟨h, .refl _⟩
          | _ => exact h.elim
        | _ => rw [hv] at h; exact h.elim
    obtain ⟨v, σ1, h1, h2⟩ := guard_runs (K := fun env' σ1 => K env' σ1 ∧ Ahead σ σ1) h' fun h => by
      obtain ⟨v, σ1, h1, h2, h3⟩ := al_ev ho h
      exact ⟨v, σ1, h1, fun env' K' hr hk => by rw [evK_congr hr]; exact h3 _ hk⟩
    exact ⟨v, σ1, h1, h2⟩
  obtain ⟨v, σ1, ⟨h1, h2⟩, h3⟩ := key
  exact ⟨v, σ1, h1, h3, h2⟩

/-- Operations of which each may come first. -/
theorem pair_runs {P : Program} (hΓ : Sound P Γ) {p o : PO} (hpo : okPair Γ o p = true) {env : Env} {K : Env → Sto → Prop} (h : stepO Γ p env σ K) : ∃ v σ1, K (put p.dst v env) σ1 ∧ Runs Γ p env σ v σ1 ∧ ((o.k.pure Γ = true ∧ o.k.still = false) → σ.length ≤ σ1.length) := by
  have pr : p.k.pure Γ = true → ∃ v σ1, K (put p.dst v env) σ1 ∧ Runs Γ p env σ v σ1 ∧ ((o.k.pure Γ = true ∧ o.k.still = false) → σ.length ≤ σ1.length) := fun h2 => by
    obtain ⟨v, h1, h3⟩ := det_step hΓ h2 h
    exact ⟨v, σ, h1, h3, fun _ => Nat.le_refl _⟩
  have al : p.k.ald Γ = true → ∃ v σ1, K (put p.dst v env) σ1 ∧ Runs Γ p env σ v σ1 ∧ ((o.k.pure Γ = true ∧ o.k.still = false) → σ.length ≤ σ1.length) := fun h2 => by
    obtain ⟨v, σ1, h3, h4, h5⟩ := al_runs h2 h
    exact ⟨v, σ1, h3, h4, fun _ => h5.len⟩
  simp only [okPair, Bool.or_eq_true, Bool.and_eq_true] at hpo
  rcases hpo with ((⟨_, h2⟩ | ⟨_, h2⟩ | ⟨_, h2⟩) | ⟨h0, h2 | h2⟩ | ⟨_, h2⟩)
  · exact pr h2
  · exact al h2
  · exact pr h2
  · obtain ⟨v, σ1, h3, h4⟩ := writ_runs h2 h
    exact ⟨v, σ1, h3, h4, fun h => by rw [h.2] at h0; cases h0⟩
  · exact al h2
  · obtain ⟨v, h3, h4⟩ := still_stands h2 h
    exact ⟨v, σ, h3, fun env' K' hr hk => h4 env' σ K' hr hk, fun _ => Nat.le_refl _⟩
theorem swapO {P : Program} (hΓ : Sound P Γ) {K : Env → Sto → Prop} (hK : Same K) {p o : PO} (hpo : okPair Γ o p = true) (hc : clash p o = false) {env : Env} (hw : o.k.pure Γ = true → o.k.still = false → ∀ t ∈ o.reads, (lookF t env).On (fun i => i < σ.length))
    (h : stepO Γ p env σ fun env σ => stepO Γ o env σ K) : stepO Γ o env σ fun env σ => stepO Γ p env σ K := by
  obtain ⟨c1, c2⟩ := clash_spec hc
  have hro : ∀ v, ∀ t ∈ o.reads, lookF t env = lookF t (put p.dst v env) := fun v => reads_put fun d hd => (c1 d hd).1
  have hrp : ∀ u, ∀ t ∈ p.reads, lookF t (put o.dst u env) = lookF t env := fun u t ht => (reads_put (v := u) (fun d hd => c2 d hd) t ht).symm
  have hsame : ∀ u v σ, K (put o.dst u (put p.dst v env)) σ → K (put p.dst v (put o.dst u env)) σ := fun u v σ h => (hK _ _ _ fun q => put_swap (fun d hd => (c1 d hd).2) q).mpr h
  have wr : ∀ {q : PO} {env : Env} {K : Env → Sto → Prop} {σ : Sto}, q.k.writ = true ∨ q.k.ald Γ = true → stepO Γ q env σ K → ∃ v σ1, K (put q.dst v env) σ1 ∧ Runs Γ q env σ v σ1 := fun hq h => by
    rcases hq with hq | hq
    · exact writ_runs hq h
    · obtain ⟨v, σ1, h3, h4, _⟩ := al_runs hq h
      exact ⟨v, σ1, h3, h4⟩
  have stillO : o.k.still = true → (p.k.writ = true ∨ p.k.ald Γ = true) → stepO Γ o env σ fun env σ => stepO Γ p env σ K := fun ho hp => by
    obtain ⟨v, σ1, h1, h2⟩ := wr hp h
    obtain ⟨u, h3, h4⟩ := still_stands ho h1
    exact h4 env σ _ (hro v) (h2 _ _ (hrp u) (hsame u v _ h3))
  simp only [okPair, Bool.or_eq_true, Bool.and_eq_true] at hpo
  rcases hpo with ((⟨ho, hp⟩ | ⟨ho, hp⟩ | ⟨ho, hp⟩) | ⟨ho, hp⟩ | ⟨ho, hp⟩)
  · obtain ⟨v, h1, h2⟩ := det_step hΓ hp h
    obtain ⟨u, h3, h4⟩ := det_step hΓ ho h1
    exact h4 env _ (hro v) (h2 _ _ (hrp u) (hsame u v _ h3))
  · cases hst : o.k.still with
    | true => exact stillO hst (.inr hp)
    | false =>
      obtain ⟨v, σ1, h1, h2, h5⟩ := al_runs hp h
      obtain ⟨u, h3, h4⟩ := step_mv (P := fun i => i < σ.length) hΓ ho (env := put p.dst v env) (fun t ht => by rw [← hro v t ht]; exact hw ho hst t ht) h5.back h1
      exact h4 env _ (hro v) (h2 _ _ (hrp u) (hsame u v _ h3))
  · obtain ⟨v, h1, h2⟩ := det_step hΓ hp h
    have h10 := h2 env (fun env' σ' => σ' = σ ∧ env' = put p.dst v env) (fun _ _ => rfl) ⟨rfl, rfl⟩
    obtain ⟨u, σ1, h3, h4, h5⟩ := al_runs ho h1
    obtain ⟨v', h6, h7⟩ := step_mv (P := fun _ => True) hΓ hp (env := env) (fun t _ => On_true _) h5.sub h10
    refine h4 env _ (hro v) (h7 _ _ (hrp u) ?_)
    refine (hK (put o.dst u (put p.dst v env)) _ σ1 fun q => ?_).mpr h3
    have e2 : lookF q (put p.dst v' (put o.dst u env)) = lookF q (put o.dst u (put p.dst v' env)) := put_swap (fun d hd => (c1 d hd).2) q
    rw [e2, h6.2]
  · exact stillO ho hp
  · obtain ⟨v, h1, h2⟩ := still_stands hp h
    obtain ⟨u, σ1, h3, h4⟩ := wr ho h1
    exact h4 env _ (hro v) (h2 _ σ1 _ (hrp u) (hsame u v _ h3))

theorem same_step {K : Env → Sto → Prop} (hK : Same K) (o : PO) : Same fun env σ => stepO Γ o env σ K := by
  intro env env' σ hs
  obtain ⟨d, g, k⟩ := o
  have hk : evK Γ env' σ k (fun v σ => K (put d v env') σ) = evK Γ env σ k (fun v σ => K (put d v env) σ) := by
    rw [evK_congr (env := env) fun t _ => hs t]
    congr 1
    funext v σ
    exact hK _ _ _ (look_put_same hs)
  unfold stepO
  cases g with
  | none => exact hk
  | some p =>
    obtain ⟨g, want⟩ := p
    simp only [hs g, hk, hK _ _ σ (look_put_same (d := d) (v := .pv (.tup [])) hs)]

theorem same_vcO {K : Env → Sto → Prop} (hK : Same K) (l : List PO) : Same (vcO Γ K l) := by
  induction l with
  | nil => exact hK
  | cons o l ih =>
    intro env env' σ hs
    rw [vcO_cons, vcO_cons]
    exact same_step ih o env env' σ hs

/-- An operation that clashes with none ahead of it comes first. -/
theorem vcO_first {P : Program} (hΓ : Sound P Γ) {K : Env → Sto → Prop} (hK : Same K) (l2 : List PO) (o : PO) : ∀ (l1 : List PO) (env : Env) (σ : Sto), (∀ t ∈ o.reads, (lookF t env).On (fun i => i < σ.length)) → (∀ p ∈ l1, okPair Γ o p = true ∧ clash p o = false) →
    vcO Γ K (l1 ++ o :: l2) env σ → vcO Γ K (o :: (l1 ++ l2)) env σ := by
  suffices H : ∀ (l1 : List PO) (env : Env) (σ : Sto), (o.k.pure Γ = true → o.k.still = false → ∀ t ∈ o.reads, (lookF t env).On (fun i => i < σ.length)) → (∀ p ∈ l1, okPair Γ o p = true ∧ clash p o = false) →
      vcO Γ K (l1 ++ o :: l2) env σ → vcO Γ K (o :: (l1 ++ l2)) env σ from fun l1 env σ hw hp h => H l1 env σ (fun _ _ => hw) hp h
  intro l1
  induction l1 with
  | nil => intro env σ _ _ h; exact h
  | cons p l1 ih =>
    intro env σ hw hp h
    obtain ⟨hp1, hp2⟩ := hp p (by simp)
    rw [List.cons_append, vcO_cons] at h
    obtain ⟨v, σ1, h1, h2, hlen⟩ := pair_runs hΓ hp1 h
    have h3 := ih _ _ (fun ho hst t ht => by
      rw [← reads_put (v := v) (env := env) (fun d hd => ((clash_spec hp2).1 d hd).1) t ht]
      exact On_mono (fun i hi => Nat.lt_of_lt_of_le hi (hlen ⟨ho, hst⟩)) _ (hw ho hst t ht)) (fun q hq => hp q (by simp [hq])) h1
    rw [vcO_cons] at h3
    have h4 := h2 env (fun env σ => stepO Γ o env σ (vcO Γ K (l1 ++ l2))) (fun _ _ => rfl) h3
    have h5 := swapO hΓ (same_vcO hK _) hp1 hp2 hw h4
    rw [vcO_cons]
    have : (fun env σ => stepO Γ p env σ (vcO Γ K (l1 ++ l2))) = vcO Γ K (p :: (l1 ++ l2)) := by
      funext env σ; rw [vcO_cons]
    rw [this] at h5
    exact h5
end
end Go.Dv
end
section
/-
  Regions: each operation in its turn, and in each turn that a drawn order lets.
-/
set_option linter.unusedSimpArgs false
namespace Go.Dv
open Go.RowKit
section
variable {cx : Cx} {env : Env} {σ : Sto} {vals : List Value} {a : Act} {w w' : World} {n : Nat} {Γ : Ctx} {ops : Array Oper}

theorem getD_eq (t : Array Value) (d : Nat) : t.getD d undef = (t[d]?).getD undef := by
  simp [Array.getD_eq_getD_getElem?]

theorem rel_put {dst : Option Nat} {av : AV} {v : Value} (h : Rel cx env σ vals a w) (hv : RA (Ok cx σ vals w) σ vals w av v) (hd : ∀ d, dst = some d → d < a.tmps.size) (hlo : ∀ d, dst = some d → cx.lo ≤ d) : Rel cx (put dst av env) σ vals (a.put dst v) w := by
  cases dst with
  | none => exact h
  | some d =>
    refine ⟨h.s, fun p => ?_, h.defers, h.gh, fun p hp => ?_⟩
    rotate_left
    · have h1 := h.lo p hp
      have h2 := hlo d rfl
      rw [getD_eq] at h1 ⊢
      show ((a.tmps.setIfInBounds d v)[p]?).getD undef = _
      rw [Array.getElem?_setIfInBounds, if_neg (by omega)]
      exact h1
    rw [lookF_put]
    show RA _ _ _ _ _ ((a.tmps.setIfInBounds d v).getD p undef)
    rw [getD_eq, Array.getElem?_setIfInBounds]
    by_cases hp : d = p
    · subst hp
      simp only [Nat.beq_refl, cond_true, if_true, hd d rfl, Option.getD_some]
      exact hv
    · rw [nbeq hp, if_neg hp]
      have := h.env p
      rw [getD_eq] at this
      exact this

theorem rel_bad {dst : Option Nat} (h : Rel cx env σ vals a w) (hd : ∀ d, dst = some d → d < a.tmps.size) (hlo : ∀ d, dst = some d → cx.lo ≤ d) : Rel cx (put dst (.pv (.tup [])) env) σ vals (a.put dst undef) w :=
  rel_put h (by simp only [RA, Rd]; exact ⟨#[], rfl, by simp [RdL]⟩) hd hlo

theorem put_size (a : Act) (d : Option Nat) (v : Value) : (a.put d v).tmps.size = a.tmps.size := by cases d <;> simp [Act.put]

theorem rel_drew (h : Rel cx env σ vals a w) : Rel cx env σ vals a { w with drawn := w.drawn + 1 } := by
  obtain ⟨h1, h2⟩ := h.s.grow (w' := w.drew) ((Below.refl _ w).drew)
  exact ⟨h1, fun p => h2.ra _ _ (h.env p), h.defers, fun x v hq => h2.ra _ _ (h.gh x v hq), h.lo⟩

theorem readPvs {σ : Sto} (xs : List PV) : ∀ (K : List PV → Prop), K xs → readAVs σ (xs.map .pv) K := by
  induction xs with
  | nil => intro K h; exact h
  | cons x xs ih => intro K h; exact ih _ h
theorem freezePvs (xs : List PV) (σ : Sto) : ∀ (K : Sto → Prop), K σ → freezeAVs (xs.map .pv) σ K := by
  induction xs with
  | nil => intro K h; exact h
  | cons x xs ih => intro K h; exact ih _ h
theorem plain_ev {Γ : Ctx} {σ : Sto} {env : Env} (k : PK) (K : AV → Sto → Prop) (h : evK Γ env σ k.plain K) : evK Γ env σ k K := by
  cases k with
  | lenR x =>
    simp only [PK.plain, evK, ev_eq] at h ⊢
    cases hv : evF env x with
    | pv y =>
      rw [hv] at h
      cases y with
      | sl s els => exact fun _ => h
      | nil s => exact fun _ => h
      | _ => exact h.elim
    | own id =>
      rw [hv] at h
      obtain ⟨b, h1, h2⟩ := nthK_iff _ _ _ h
      refine nthK_mk _ _ b _ h1 ?_
      cases b with
      | row e s ap els => exact fun _ => h2
      | fz x => cases x with
        | sl s els => exact fun _ => h2
        | _ => exact h2.elim
      | _ => exact h2.elim
    | sub id sz lo n =>
      rw [hv] at h
      obtain ⟨b, h1, h2⟩ := nthK_iff _ _ _ h
      refine nthK_mk _ _ b _ h1 ?_
      have one : ∀ (s : Nat) (els : List PV), (match Nat.beq s sz with
          | true => lo + n ≤ els.length ∧ K (.pv (.int .i64 (cut lo (lo + n) els).length)) σ
          | false => False) → (match Nat.beq s sz with
          | true => lo + n ≤ els.length ∧ ((cut lo (lo + n) els).length ≤ 9223372036854775807 → K (.pv (.int .i64 (cut lo (lo + n) els).length)) σ)
          | false => False) := by
        intro s els h
        cases hs : Nat.beq s sz with
        | true => rw [hs] at h; exact ⟨h.1, fun _ => h.2⟩
        | false => rw [hs] at h; exact h.elim
      cases b with
      | row e s ap els => exact one s els h2
      | fz x => cases x with
        | sl s els => exact one s els h2
        | _ => exact (show False from h2).elim
      | _ => exact (show False from h2).elim
    | _ => rw [hv] at h; exact h.elim
  | bslice e sz l =>
    simp only [PK.plain, evK, evs_eq] at h ⊢
    rcases allPvK_spec _ _ _ h with ⟨xs, he, h1, h2⟩ | h
    · rw [he]
      refine readPvs xs _ ⟨h1, ?_⟩
      exact freezePvs xs σ _ h2
    · exact h.elim
  | _ => exact h

/-- A fence that lets all in: none, or none but a round's mark. -/
def Free (F : Fence) : Prop := F = Fence.wide ∨ ∃ l, F = Fence.wide.inRound l

theorem wide_op {P : Program} {o : Oper} {next : Act → World → Prop} {Q : Exit → Act → World → Prop} {m : Nat} (ro : Option Nat) (hd : ∀ c, o.op ≠ .defer c) (h : o.wp P a w next Q) : o.wpIn { Fence.wide with round := ro } m P a w next Q := by
  refine ⟨fun f _ => trivial, ?_⟩
  rw [Oper.semAt_eq _ _ _ hd]
  unfold Oper.wp at h
  generalize (execOp a.eval o).run P w = r at *
  cases r with
  | ok nx w' =>
    cases nx with
    | enter f args => exact ⟨fun hs => (by cases hs), (callsIn_wide (n := m - 1)).2 h⟩
    | row row args => exact ⟨fun hs => (by cases hs), fun c cs _ => let ⟨v, w', r, s⟩ := h c cs; ⟨v, w', r, stepsIn_wide.2 s⟩⟩
    | value v => exact h
    | skip => exact h
    | defer d => exact h
    | _ => exact (show False from h).elim
  | halt x w' => cases x <;> first | exact h | exact (show False from h).elim

theorem free_op {P : Program} {o : Oper} {next : Act → World → Prop} {Q : Exit → Act → World → Prop} {F : Fence} {m : Nat} (hF : Free F) (hd : ∀ c, o.op ≠ .defer c) (h : o.wp P a w next Q) : o.wpIn F m P a w next Q := by
  rcases hF with rfl | ⟨l, rfl⟩
  · exact wide_op none hd h
  · exact wide_op (some l) hd h

theorem Free.fn {F : Fence} (hF : Free F) (f : FuncId) : F.fn f := by
  rcases hF with rfl | ⟨l, rfl⟩ <;> trivial

/-- What the verifier's operation says of the model's. -/
def Comped (P : Program) (dr : Bool) (ops : Array Oper) (n : Nat) (f : Nat → PO) : Prop :=
  ∀ i : Nat, i < ops.size → ∃ o po, ops[i]? = some o ∧ compO P dr ops n o = some po ∧ (f i = po ∨ f i = po.plain)

theorem step_op (hΓ : Sound cx.P Γ) {f : Nat → PO} {dr : Bool} (hc : Comped cx.P dr ops n f) {i : Nat} (hi : i < ops.size) (hn : a.tmps.size = n) (hr : Rel cx env σ vals a w) {K : Env → Sto → Prop} {next : Act → World → Prop} {Q : Exit → Act → World → Prop} {F : Fence} {m : Nat} (hF : Free F) (hw : ∀ d, (f i).dst = some d → cx.lo ≤ d)
    (hnext : ∀ env' σ' vals' a' w', a'.tmps.size = n → Rel cx env' σ' vals' a' w' → K env' σ' → next a' w') (h : stepO Γ (f i) env σ K) : wpOpIn F m cx.P ops Q i next a w := by
  obtain ⟨o, po, ho, hpo, hf⟩ := hc i hi
  unfold compO at hpo
  obtain ⟨k, hk, hpo⟩ := opt_some hpo
  obtain ⟨hd, hpo⟩ := need_some hpo
  have hdst : ∀ d, o.dst = some d → d < a.tmps.size := by
    intro d hd'
    rw [hd'] at hd
    rw [hn]
    exact Nat.le_of_ble_eq_true hd
  have hnd : ∀ c, o.op ≠ .defer c := by
    intro c hop
    unfold compF compK at hk
    rw [hop] at hk
    cases hk
  have hlo : ∀ d, o.dst = some d → cx.lo ≤ d := by
    intro d hd'
    refine hw d ?_
    have : (f i).dst = po.dst := by rcases hf with hf | hf <;> rw [hf] <;> rfl
    rw [this, ← hd']
    cases hg : o.guard with
    | none => rw [hg] at hpo; cases hpo; rfl
    | some gw =>
      rw [hg] at hpo
      obtain ⟨oj, _, hpo⟩ := opt_some hpo
      obtain ⟨dd, _, hpo⟩ := opt_some hpo
      cases hpo; rfl
  -- the operation's run
  have run : evK Γ env σ k (fun v σ => K (put o.dst v env) σ) → o.wpIn F m cx.P a w next Q := by
    intro h
    refine free_op hF hnd ?_
    refine op_soundF hΓ hr hk h next Q ?_
    intro av σ' vals' v w' hK hr' hv
    exact hnext _ _ _ _ _ ((put_size ..).trans hn) (rel_put hr' hv hdst hlo) hK
  have run' : evK Γ env σ (f i).k (fun v σ => K (put o.dst v env) σ) → (f i).k = k ∨ (f i).k = k.plain → o.wpIn F m cx.P a w next Q := by
    intro h he
    rcases he with he | he
    · rw [he] at h; exact run h
    · rw [he] at h; exact run (plain_ev _ _ h)
  unfold wpOpIn
  simp only [ho]
  cases hg : o.guard with
  | none =>
    rw [hg] at hpo
    simp only at hpo
    cases hpo
    have : Region.wanted o (yielded ops a.tmps) = true := by simp [Region.wanted, hg]
    rw [if_pos this]
    unfold stepO at h
    have e1 : (f i).g = none := by rcases hf with hf | hf <;> rw [hf] <;> rfl
    have e2 : (f i).dst = o.dst := by rcases hf with hf | hf <;> rw [hf] <;> rfl
    have e3 : (f i).k = k ∨ (f i).k = k.plain := by rcases hf with hf | hf <;> rw [hf]; exact .inl rfl; exact .inr rfl
    rw [e1, e2] at h
    exact run' h e3
  | some gw =>
    obtain ⟨j, want⟩ := gw
    rw [hg] at hpo
    simp only at hpo
    obtain ⟨oj, hoj, hpo⟩ := opt_some hpo
    obtain ⟨d, hdj, hpo⟩ := opt_some hpo
    cases hpo
    have e1 : (f i).g = some (d, want) := by rcases hf with hf | hf <;> rw [hf] <;> rfl
    have e2 : (f i).dst = o.dst := by rcases hf with hf | hf <;> rw [hf] <;> rfl
    have e3 : (f i).k = k ∨ (f i).k = k.plain := by rcases hf with hf | hf <;> rw [hf]; exact .inl rfl; exact .inr rfl
    unfold stepO at h
    rw [e1, e2] at h
    simp only at h
    cases hv : lookF d env with
    | pv x =>
      rw [hv] at h
      cases x with
      | bool b =>
        simp only at h
        have hy : yielded ops a.tmps j = some b := by
          have h1 := hr.env d
          rw [hv, getD_eq] at h1
          simp only [RA, Rd] at h1
          unfold yielded
          simp only [hoj, Option.bind_some, hdj]
          cases ht : a.tmps[d]? with
          | none => rw [ht] at h1; cases h1
          | some v => rw [ht] at h1; simp only [Option.getD_some] at h1; rw [h1]
        have hw : Region.wanted o (yielded ops a.tmps) = (b == want) := by
          simp only [Region.wanted, hg, hy]
          cases b <;> cases want <;> rfl
        rw [hw]
        cases hb : (b == want) with
        | true => rw [hb] at h; exact run' h e3
        | false =>
          rw [hb] at h
          exact ⟨fun f _ => hF.fn f, hnext _ _ _ _ _ ((put_size ..).trans hn) (rel_bad hr hdst hlo) h⟩
      | tup l =>
        simp only at h
        have hy : yielded ops a.tmps j = none := by
          have h1 := hr.env d
          rw [hv, getD_eq] at h1
          simp only [RA, Rd] at h1
          obtain ⟨vs, h1, _⟩ := h1
          unfold yielded
          simp only [hoj, Option.bind_some, hdj]
          cases ht : a.tmps[d]? with
          | none => rfl
          | some v => rw [ht] at h1; simp only [Option.getD_some] at h1; rw [h1]
        have hw : Region.wanted o (yielded ops a.tmps) = false := by
          simp only [Region.wanted, hg, hy]
          cases want <;> rfl
        rw [hw]
        exact ⟨fun f _ => hF.fn f, hnext _ _ _ _ _ ((put_size ..).trans hn) (rel_bad hr hdst hlo) h⟩
      | _ => exact h.elim
    | _ => rw [hv] at h; exact h.elim

theorem ops_sound (hΓ : Sound cx.P Γ) {f : Nat → PO} {dr : Bool} (hc : Comped cx.P dr ops n f) {K : Env → Sto → Prop} {Q : Exit → Act → World → Prop} {F : Fence} {m : Nat} (hF : Free F) (hw : ∀ i, i < ops.size → ∀ d, (f i).dst = some d → cx.lo ≤ d)
    (hQ : ∀ env' σ' vals' a' w', a'.tmps.size = n → Rel cx env' σ' vals' a' w' → K env' σ' → Q .normal a' w') :
    ∀ (is : List Nat) (env : Env) (σ : Sto) (vals : List Value) (a : Act) (w : World), (∀ i ∈ is, i < ops.size) → a.tmps.size = n → Rel cx env σ vals a w → vcO Γ K (is.map f) env σ → wpOpsIn F m cx.P ops Q is a w := by
  intro is
  induction is with
  | nil => intro env σ vals a w _ hn hr h; exact hQ _ _ _ _ _ hn hr h
  | cons i is ih =>
    intro env σ vals a w hi hn hr h
    rw [List.map_cons, vcO_cons] at h
    rw [wpOpsIn_cons]
    exact step_op hΓ hc (hi i (by simp)) hn hr hF (hw i (hi i (by simp))) (fun env' σ' vals' a' w' hn' hr' hK => ih env' σ' vals' a' w' (fun j hj => hi j (by simp [hj])) hn' hr' hK) h

/-! ### Drawn orders -/
structure Drawn (Γ : Ctx) (ops : Array Oper) (f : Nat → PO) (aft bs : Nat → List Nat) : Prop where
  fore : ∀ (i : Nat) (o : Oper), ops[i]? = some o → ∀ j ∈ aft i, ∃ e ∈ o.after, Region.binds .any e = true ∧ e.on = j
  back : ∀ (i : Nat) (o : Oper), ops[i]? = some o → ∀ e ∈ o.after, Region.binds .any e = true → e.on ∈ aft i
  lt : ∀ i, i < ops.size → ∀ j ∈ aft i, j < i
  bef : ∀ i, i < ops.size → ∀ j ∈ bs i, j ∈ aft i ∨ ∃ e ∈ aft i, j ∈ bs e
  free : ∀ i j, i < ops.size → j < i → j ∈ bs i ∨ (okPair Γ (f i) (f j) = true ∧ clash (f j) (f i) = false)

/-- The operations that have not run, in the text's order. -/
def left (n : Nat) (listed : Array Bool) : List Nat := (List.range n).filter fun i => !listed.getD i true

theorem left_set {n i : Nat} {listed : Array Bool} (hs : listed.size = n) (hi : i < n) (hl : listed.getD i true = false) :
    ∃ l1 l2, left n listed = l1 ++ i :: l2 ∧ left n (listed.setIfInBounds i true) = l1 ++ l2 ∧ (∀ j ∈ l1, j < i ∧ listed.getD j true = false) := by
  have hsplit : List.range n = List.range i ++ i :: (List.range (n - i - 1)).map (· + (i + 1)) := by
    have h1 : n = i + (1 + (n - i - 1)) := by omega
    conv => lhs; rw [h1, List.range_add, List.range_add]
    simp only [List.map_append, List.map_map]
    congr 1
    show (List.range 1).map (i + ·) ++ _ = _
    simp only [List.range_one, List.map_cons, List.map_nil, Nat.add_zero, List.singleton_append]
    congr 1
    apply List.map_congr_left
    intro k _
    simp only [Function.comp_apply]
    omega
  refine ⟨(List.range i).filter fun i => !listed.getD i true, ((List.range (n - i - 1)).map (· + (i + 1))).filter fun i => !listed.getD i true, ?_, ?_, ?_⟩
  · unfold left
    rw [hsplit, List.filter_append, List.filter_cons, if_pos (by simp only [hl, Bool.not_false])]
  · unfold left
    rw [hsplit, List.filter_append, List.filter_cons]
    have e0 : (listed.setIfInBounds i true).getD i true = true := by
      rw [Array.getD_eq_getD_getElem?, Array.getElem?_setIfInBounds_self_of_lt (by omega)]; rfl
    rw [if_neg (by rw [e0]; simp)]
    congr 1
    · apply List.filter_congr
      intro j hj
      have : j < i := List.mem_range.1 hj
      rw [getD_set_ne true (by omega)]
    · apply List.filter_congr
      intro j hj
      obtain ⟨k, _, rfl⟩ := List.mem_map.1 hj
      rw [getD_set_ne true (by omega)]
  · intro j hj
    obtain ⟨h1, h2⟩ := List.mem_filter.1 hj
    exact ⟨List.mem_range.1 h1, by simpa using h2⟩

theorem draw_sound (hΓ : Sound cx.P Γ) {f : Nat → PO} {dr : Bool} (hc : Comped cx.P dr ops n f) {aft bs : Nat → List Nat} (hD : Drawn Γ ops f aft bs) {K : Env → Sto → Prop} (hK : Same K) {Q : Exit → Act → World → Prop} {F : Fence} {m : Nat} (hF : Free F) (hw : ∀ i, i < ops.size → ∀ d, (f i).dst = some d → cx.lo ≤ d)
    (hQ : ∀ env' σ' vals' a' w', a'.tmps.size = n → Rel cx env' σ' vals' a' w' → K env' σ' → Q .normal a' w') :
    ∀ (fuel : Nat) (listed : Array Bool) (env : Env) (σ : Sto) (vals : List Value) (a : Act) (w : World), listed.size = ops.size → (left ops.size listed).length ≤ fuel →
      (∀ i, i < ops.size → listed.getD i false = true → ∀ j ∈ bs i, listed.getD j false = true) →
      a.tmps.size = n → Rel cx env σ vals a w → vcO Γ K ((left ops.size listed).map f) env σ → wpAnyIn F m cx.P .any ops Q fuel listed a w := by
  have empty : ∀ (listed : Array Bool), listed.size = ops.size → Region.ready .any ops listed = [] → left ops.size listed = [] := by
    intro listed hs hr
    apply Decidable.byContradiction
    intro hne
    obtain ⟨i, hi, hmin⟩ : ∃ i, i ∈ left ops.size listed ∧ ∀ j, j < i → j ∉ left ops.size listed := by
      have hex : ∃ i, i ∈ left ops.size listed := by
        cases hl : left ops.size listed with
        | nil => exact absurd hl hne
        | cons x xs => exact ⟨x, by simp⟩
      obtain ⟨i, hi⟩ := hex
      induction i using Nat.strongRecOn with
      | _ i ih =>
        by_cases h : ∃ j, j < i ∧ j ∈ left ops.size listed
        · obtain ⟨j, hj, hm⟩ := h; exact ih j hj hm
        · exact ⟨i, hi, fun j hj hm => h ⟨j, hj, hm⟩⟩
    obtain ⟨h1, h2⟩ := List.mem_filter.1 hi
    have h1 := List.mem_range.1 h1
    have hready : i ∈ Region.ready .any ops listed := by
      refine mem_ready.2 ⟨by simpa using h2, ops[i], Array.getElem?_eq_getElem h1, fun e he hb => ?_⟩
      have hj := hD.back i _ (Array.getElem?_eq_getElem h1) e he hb
      have hlt := hD.lt i h1 _ hj
      have := hmin _ hlt
      cases hg : listed.getD e.on true with
      | false => exact absurd (List.mem_filter.2 ⟨List.mem_range.2 (by omega), by simp only [hg, Bool.not_false]⟩) this
      | true =>
        rw [Array.getD_eq_getD_getElem?] at hg ⊢
        rw [Array.getElem?_eq_getElem (by omega)] at hg ⊢
        exact hg
    rw [hr] at hready
    cases hready
  intro fuel
  induction fuel with
  | zero =>
    intro listed env σ vals a w hs hl hcl hn hr h
    have hnil : left ops.size listed = [] := List.eq_nil_of_length_eq_zero (by omega)
    refine ⟨?_, ?_⟩
    · cases hrd : Region.ready .any ops listed with
      | nil => rfl
      | cons i is =>
        exfalso
        have hi : i ∈ Region.ready .any ops listed := by rw [hrd]; simp
        obtain ⟨h1, o, h2, _⟩ := mem_ready.1 hi
        have : i ∈ left ops.size listed := List.mem_filter.2 ⟨List.mem_range.2 (Array.getElem?_eq_some_iff.1 h2).1, by simp only [h1, Bool.not_false]⟩
        rw [hnil] at this; cases this
    · rw [hnil] at h
      exact hQ _ _ _ _ _ hn hr h
  | succ fuel ih =>
    intro listed env σ vals a w hs hl hcl hn hr h
    refine ⟨fun h0 => ?_, fun i hi => ?_⟩
    · rw [empty listed hs h0] at h
      exact hQ _ _ _ _ _ hn hr h
    · obtain ⟨hun, o, ho, hall⟩ := mem_ready.1 hi
      have hlt : i < ops.size := (Array.getElem?_eq_some_iff.1 ho).1
      obtain ⟨l1, l2, e1, e2, h3⟩ := left_set hs hlt hun
      have hdir : ∀ j ∈ aft i, listed.getD j false = true := by
        intro j hj
        obtain ⟨e, he, hb, rfl⟩ := hD.fore i o ho j hj
        exact hall e he hb
      have hbef : ∀ j ∈ bs i, listed.getD j false = true := by
        intro j hj
        rcases hD.bef i hlt j hj with h | ⟨e, he, h⟩
        · exact hdir j h
        · exact hcl e (Nat.lt_trans (hD.lt i hlt e he) hlt) (hdir e he) j h
      have hfree : ∀ j ∈ l1, okPair Γ (f i) (f j) = true ∧ clash (f j) (f i) = false := by
        intro j hj
        obtain ⟨h4, h5⟩ := h3 j hj
        rcases hD.free i j hlt h4 with h | h
        · have := hbef j h
          rw [Array.getD_eq_getD_getElem?, Array.getElem?_eq_getElem (by omega)] at h5 this
          rw [Option.getD_some] at h5 this
          rw [h5] at this; cases this
        · exact h
      rw [e1, List.map_append, List.map_cons] at h
      have hfirst := vcO_first hΓ hK (l2.map f) (f i) (l1.map f) env σ (fun t _ => RA_on (fun j hj => by rw [← hr.s.len]; exact hj) (fun j hj => hj) _ _ (hr.env t))
        (fun p hp => by obtain ⟨j, hj, rfl⟩ := List.mem_map.1 hp; exact hfree j hj) h
      rw [vcO_cons, ← List.map_append, ← e2] at hfirst
      refine step_op hΓ hc hlt hn hr hF (hw i hlt) (fun env' σ' vals' a' w' hn' hr' hK' => ?_) hfirst
      refine ih _ env' σ' vals' a' w' (by simpa using hs) ?_ ?_ hn' hr' hK'
      · rw [e2]; rw [e1] at hl; simp at hl ⊢; omega
      · intro k hk hlk j hj
        by_cases hik : i = k
        · subst hik; exact getD_set_true (hbef j hj)
        · rw [getD_set_ne false hik] at hlk
          exact getD_set_true (hcl k hk hlk j hj)
end
end Go.Dv
end
section
/-
  The store's rows, numbered anew at a loop's head.
-/
set_option linter.unusedSimpArgs false
namespace Go.Dv
open Go.RowKit
section
variable {cx : Cx} {env : Env} {σ : Sto} {vals : List Value} {a : Act} {w w' : World}

/-- The entries that are pinned. -/
def PinOk (pin : List Nat) (cx : Cx) : Prop := pin = List.range cx.pinS.length ∧ cx.pinV.length = cx.pinS.length

theorem ren_relP {r : List Nat} {σ' : Sto} (hp0 : ∀ j, j < cx.pinS.length ∨ j < cx.pinV.length → r[j]? = some j) (hn : r.Nodup) (h1 : σ'.length = r.length) (h2 : ∀ (j i : Nat), r[j]? = some i → ∃ s t, σ[i]? = some s ∧ σ'[j]? = some t ∧ RenB r s t) (hs : RelS cx σ vals w) :
    ∃ vals', Anew r σ σ' vals vals' ∧ RelS cx σ' vals' w ∧ ∀ b, Ok cx σ vals w b → Ok cx σ' vals' w b := by
  obtain ⟨vals', hA⟩ : ∃ vals', Anew r σ σ' vals vals' := by
    refine ⟨r.map fun i => (vals[i]?).getD undef, hn, h1, h2, by simp, fun j i hj => ?_⟩
    obtain ⟨s, t, hs', _⟩ := h2 j i hj
    have : i < vals.length := by rw [hs.len]; exact (List.getElem?_eq_some_iff.1 hs').1
    rw [List.getElem?_map, hj]
    simp only [Option.map_some]
    rw [List.getElem?_eq_getElem this]
    exact ⟨rfl, _, rfl⟩
  have back : ∀ {j : Nat} {t : Blk}, σ'[j]? = some t → ∃ i s, r[j]? = some i ∧ σ[i]? = some s ∧ RenB r s t := by
    intro j t ht
    have hj : j < r.length := by rw [← h1]; exact (List.getElem?_eq_some_iff.1 ht).1
    obtain ⟨s, t', hs', ht', hst⟩ := h2 j _ (List.getElem?_eq_getElem hj)
    rw [ht] at ht'; cases ht'
    exact ⟨_, s, List.getElem?_eq_getElem hj, hs', hst⟩
  have hmut : ∀ b, Mut σ' vals' b → Mut σ vals b := by
    rintro b ⟨j, t, v, ht, hl, hv, hb⟩
    obtain ⟨i, s, hj, hs', hst⟩ := back ht
    exact ⟨i, s, v, hs', hst.live ▸ hl, by rw [← (hA.vals j i hj).1]; exact hv, hb⟩
  have hok : ∀ b, Ok cx σ vals w b → Ok cx σ' vals' w b := fun b hb => ⟨hb.1, hb.2.1, fun hm => hb.2.2 (hmut b hm)⟩
  have hpin1 : ∀ j, j < cx.pinS.length → r[j]? = some j := fun j hj => hp0 j (.inl hj)
  have hpn : Pin cx σ' vals' := by
    refine ⟨fun j v hv => ?_, ?_, fun j hj e sz ap els ht => ?_, fun j hj s2 ht hb2 => ?_⟩
    · have hj : j < cx.pinV.length := (List.getElem?_eq_some_iff.1 hv).1
      rw [(hA.vals j j (hp0 j (.inr hj))).1]
      exact hs.pin.vs j v hv
    · rw [h1]
      rcases Nat.lt_or_ge r.length cx.pinS.length with hlt | hge
      · have := (List.getElem?_eq_some_iff.1 (hpin1 _ hlt)).1
        omega
      · exact hge
    · obtain ⟨i, s, hi, hs', hst⟩ := back ht
      rw [hpin1 j hj] at hi; cases hi
      cases s with
      | box e' cs' => obtain ⟨ds, hd, _⟩ := hst; cases hd
      | row e' sz' ap' els' => cases hst; exact hs.pin.refr j hj _ _ _ _ hs'
      | _ => cases hst
    · obtain ⟨i, s, hi, hs', hst⟩ := back ht
      rw [hpin1 j hj] at hi; cases hi
      exact hs.pin.refb j hj _ hs' (by rw [← hst.boxy]; exact hb2)
  refine ⟨vals', hA, ⟨hs.below, fun v hv => ?_, by rw [hA.vlen, h1], fun j t v ht hv => ?_, fun j k t1 t2 u v b hjk ht1 ht2 l1 l2 hu hv hbu hbv => ?_, ⟨hs.fr.size, hs.fr.same, fun b hm => hs.fr.mutn b (hmut b hm)⟩, hpn⟩, hok⟩
  · obtain ⟨j, hj⟩ := List.mem_iff_getElem?.1 hv
    have hjr : j < r.length := by rw [← hA.vlen]; exact (List.getElem?_eq_some_iff.1 hj).1
    rw [(hA.vals j _ (List.getElem?_eq_getElem hjr)).1] at hj
    exact hs.one v (List.mem_of_getElem? hj)
  · obtain ⟨i, s, hj, hs', hst⟩ := back ht
    rw [(hA.vals j i hj).1] at hv
    have := hs.sto i s v hs' hv
    cases s with
    | dead => cases hst; trivial
    | fz x => cases hst; exact Rd.mono hok (fun _ _ _ => rfl) _ _ this
    | row e sz ap els =>
      cases hst
      obtain ⟨h0, cells, g1, g2, g3, g4⟩ := this
      exact ⟨h0, cells, g1, g2, g3, RdL.mono hok (fun _ _ _ => rfl) _ _ g4⟩
    | box e cs =>
      obtain ⟨ds, rfl, hd⟩ := hst
      obtain ⟨b, arr, g1, g2, g3, g4, g5⟩ := this
      exact ⟨b, arr, g1, g2, g3, hd.ones g4, hd.ra hA hok _ _ _ g5⟩
  · obtain ⟨i1, s1, hj1, hs1, hst1⟩ := back ht1
    obtain ⟨i2, s2, hj2, hs2, hst2⟩ := back ht2
    rw [(hA.vals _ _ hj1).1] at hu
    rw [(hA.vals _ _ hj2).1] at hv
    refine hs.dis i1 i2 s1 s2 u v b ?_ hs1 hs2 (hst1.live ▸ l1) (hst2.live ▸ l2) hu hv hbu hbv
    intro e
    subst e
    exact hjk ((List.getElem?_inj (List.getElem?_eq_some_iff.1 hj1).1 hn).1 (hj1.trans hj2.symm))

theorem ren_rel {pin r : List Nat} {σ' : Sto} (hpin : PinOk pin cx) (hpr : pin <+: r) (hn : r.Nodup) (h1 : σ'.length = r.length) (h2 : ∀ (j i : Nat), r[j]? = some i → ∃ s t, σ[i]? = some s ∧ σ'[j]? = some t ∧ RenB r s t) (hs : RelS cx σ vals w) :
    ∃ vals', Anew r σ σ' vals vals' ∧ RelS cx σ' vals' w ∧ ∀ b, Ok cx σ vals w b → Ok cx σ' vals' w b := by
  refine ren_relP (fun j hj => ?_) hn h1 h2 hs
  have hj : j < cx.pinS.length := by rw [hpin.2] at hj; exact hj.elim id id
  obtain ⟨t, rfl⟩ := hpr
  rw [List.getElem?_append_left (by rw [hpin.1]; simpa using hj), hpin.1, List.getElem?_range hj]

theorem gc_spec (hgh : ∀ x v, ¬ cx.gh x v) {pin : List Nat} (hpin : PinOk pin cx) (hr : Rel cx env σ vals a w) (ps : List Nat) {K : Env → Sto → Prop} (h : gc pin env σ ps K) : ∃ env' σ' vals', K env' σ' ∧ Rel cx env' σ' vals' a w := by
  have h := canon_spec _ _ _ h
  obtain ⟨l, h, hl, hp1⟩ := idsEnv_spec _ _ _ (by rw [hpin.1]; exact List.nodup_range) h
  obtain ⟨r, h, hn, hp2⟩ := idsBox_spec _ _ _ _ hl h
  obtain ⟨env', h, he⟩ := renEnv_spec _ _ _ h
  obtain ⟨σ', h, h1, h2⟩ := renSto_spec _ _ _ _ h
  obtain ⟨vals', hA, hs', hok⟩ := ren_rel hpin (hp1.trans hp2) hn h1 h2 hr.s
  refine ⟨env', σ', vals', h, hs', fun p => ?_, hr.defers, fun x v hq => absurd hq (hgh x v), hr.lo⟩
  have hc : lookF p (ps.map fun p => (p, lookF p env)) = lookF p env ∨ lookF p (ps.map fun p => (p, lookF p env)) = .bad := lookF_canon env ps p
  have hp := he p
  have hv : RA (Ok cx σ vals w) σ vals w (lookF p (ps.map fun p => (p, lookF p env))) (a.tmps.getD p undef) := by
    rcases hc with hc | hc
    · rw [hc]; exact hr.env p
    · rw [hc]; simp only [RA]
  exact Ren.ra hA hok _ _ _ hp hv
end
end Go.Dv
end
section
/-
  Ranges over functions: what a round keeps, and the moves that set its variables.
-/
set_option linter.unusedSimpArgs false
namespace Go.Dv
open Go.RowKit
section
variable {cx : Cx} {env : Env} {σ : Sto} {vals : List Value} {a : Act} {w w' : World} {n : Nat} {Γ : Ctx} {ops : Array Oper}

/-- An entry's block is made of cells. -/
theorem mut_cells (hr : RelS cx σ vals w) {b : Nat} (hm : Mut σ vals b) : ∃ cur e fr, w.heap[b]? = some (.cells cur e fr) := by
  obtain ⟨i, s, v, h1, h2, h3, h4⟩ := hm
  have hs := hr.sto i s v h1 h3
  cases s with
  | dead => cases h2
  | fz x => cases h2
  | row e sz ap els =>
    obtain ⟨_, cells, h5, _⟩ := hs
    rcases h5.2 with ⟨rfl, _⟩ | ⟨g, cap, cur, fr, rfl, _, h6, _⟩
    · cases h4
    · cases h4; exact ⟨_, _, _, h6⟩
  | box e cs =>
    obtain ⟨g, arr, rfl, _, h6, _⟩ := hs
    cases h4; exact ⟨_, _, _, h6⟩

mutual
theorem RA.monoC {ok ok' : Nat → Prop} (hk : ∀ b, ok b → ok' b) (hc : ∀ b o u, ok b → w.cell? ⟨b, o, none⟩ = some u → w'.cell? ⟨b, o, none⟩ = some u) : ∀ (x : AV) (v : Value), RA ok σ vals w x v → RA ok' σ vals w' x v
  | .bad, _, _ => by simp only [RA]
  | .pv x, v, h => by simp only [RA] at h ⊢; exact Rd.monoC hk hc x v h
  | .own i, v, h => by simpa only [RA] using h
  | .ref i k o, v, h => by simpa only [RA] using h
  | .sub i s l n, v, h => by simpa only [RA] using h
  | .agg cs, v, h => by
    simp only [RA] at h ⊢
    obtain ⟨h0, vs, h1, h2⟩ := h
    exact ⟨h0, vs, h1, RAL.monoC hk hc cs _ h2⟩
  | .tup cs, v, h => by
    simp only [RA] at h ⊢
    obtain ⟨vs, h1, h2⟩ := h
    exact ⟨vs, h1, RAL.monoC hk hc cs _ h2⟩
  | .clo f cs, v, h => by
    simp only [RA] at h ⊢
    obtain ⟨vs, h1, h2⟩ := h
    exact ⟨vs, h1, RAL.monoC hk hc cs _ h2⟩
theorem RAL.monoC {ok ok' : Nat → Prop} (hk : ∀ b, ok b → ok' b) (hc : ∀ b o u, ok b → w.cell? ⟨b, o, none⟩ = some u → w'.cell? ⟨b, o, none⟩ = some u) : ∀ (l : List AV) (vs : List Value), RAL ok σ vals w l vs → RAL ok' σ vals w' l vs
  | [], _, h => by simpa only [RAL] using h
  | x :: xs, vs, h => by
    simp only [RAL] at h ⊢
    obtain ⟨v, r, h1, h2, h3⟩ := h
    exact ⟨v, r, h1, RA.monoC hk hc x v h2, RAL.monoC hk hc xs r h3⟩
end

/-- A block that is no cells has turned: nothing is read of it. -/
theorem RelS.other (hr : RelS cx σ vals w) {row : Option Nat} (hg : w.grownBy w' row) (hrow : ∀ r, row = some r → cx.own r ∧ cx.w1.heap.size ≤ r ∧ ∃ o : Obj, w.heap[r]? = some o ∧ o.isCells = false) :
    RelS cx σ vals w' ∧ ∀ x v, RA (Ok cx σ vals w) σ vals w x v → RA (Ok cx σ vals w') σ vals w' x v := by
  have hblk : ∀ (b : Nat) (cur : Array Value) (e : TypeId) (fr : Nat × Nat), w.heap[b]? = some (.cells cur e fr) → w'.heap[b]? = some (.cells cur e fr) := by
    intro b cur e fr h
    refine (hg.block b (Array.getElem?_eq_some_iff.1 h).1 (fun e' => ?_)).trans h
    obtain ⟨_, _, o, ho, hc⟩ := hrow b e'.symm
    rw [h] at ho; cases ho; cases hc
  have hc : ∀ b o u, Ok cx σ vals w b → w.cell? ⟨b, o, none⟩ = some u → w'.cell? ⟨b, o, none⟩ = some u := by
    intro b o u _ h
    unfold World.cell? at h
    cases hb : w.heap[b]? with
    | none => simp [hb] at h
    | some ob =>
      cases ob with
      | cells cur e fr => simp [hb] at h; simp [World.cell?, hblk b _ _ _ hb, h]
      | _ => simp [hb] at h
  have hk : ∀ b, Ok cx σ vals w b → Ok cx σ vals w' b := fun b h => ⟨h.1, Nat.lt_of_lt_of_le h.2.1 hg.size, h.2.2⟩
  refine ⟨⟨hr.below.grown hg (fun k e => (hrow k e).1), hr.one, hr.len, fun i s v h1 h2 => ?_, hr.dis,
    ⟨Nat.le_trans hr.fr.size hg.size, fun b hb => (hg.block b (Nat.lt_of_lt_of_le (cx.hk b hb) hr.fr.size) (fun e => by have := (hrow b e.symm).2.1; have := cx.hk b hb; omega)).trans (hr.fr.same b hb), hr.fr.mutn⟩, hr.pin⟩, fun x v h => RA.monoC hk hc x v h⟩
  have hs := hr.sto i s v h1 h2
  cases s with
  | dead => trivial
  | fz x => exact Rd.monoC hk hc x v hs
  | row e sz ap els =>
    obtain ⟨h0, cells, h3, h4, h5, h6⟩ := hs
    refine ⟨h0, cells, ⟨h3.1, ?_⟩, h4, h5, RdL.monoC hk hc _ _ h6⟩
    rcases h3.2 with h | ⟨g, cap, cur, fr, e1, e2, e3, e4⟩
    · exact .inl h
    · exact .inr ⟨g, cap, cur, fr, e1, e2, hblk g _ _ _ e3, e4⟩
  | box e cs =>
    obtain ⟨b, arr, e1, e2, e3, e4, e5⟩ := hs
    exact ⟨b, arr, e1, e2, hblk b _ _ _ e3, e4, RAL.monoC hk hc _ _ e5⟩

theorem rel_other (hr : Rel cx env σ vals a w) {row : Option Nat} (hg : w.grownBy w' row) (hrow : ∀ r, row = some r → cx.own r ∧ cx.w1.heap.size ≤ r ∧ ∃ o : Obj, w.heap[r]? = some o ∧ o.isCells = false) : Rel cx env σ vals a w' := by
  obtain ⟨h1, h2⟩ := hr.s.other hg hrow
  exact ⟨h1, fun p => h2 _ _ (hr.env p), hr.defers, fun x v h => h2 _ _ (hr.gh x v h), hr.lo⟩

/-! ### The variables of a round -/
def moveAct (l : List PO) (a : Act) : Act := l.foldl (fun a o => match o.dst, o.k with | some d, .mv x => a.put (some d) (a.eval x) | _, _ => a) a

theorem moveO_some {o : Oper} {p : PO} (h : moveO n o = some p) : ∃ d t, o.guard = none ∧ o.dst = some d ∧ d < n ∧ (o.op = .move (.tmp t) ∨ o.op = .assign (.tmp t)) ∧ p = ⟨some d, none, .mv (.tmp t)⟩ := by
  unfold moveO at h
  split at h
  · rename_i d x hg hd ho
    cases x with
    | tmp t =>
      obtain ⟨h1, h2⟩ := need_some h
      cases h2
      exact ⟨d, t, hg, hd, Nat.le_of_ble_eq_true h1, .inl ho, rfl⟩
    | _ => cases h
  · rename_i d x hg hd ho
    cases x with
    | tmp t =>
      obtain ⟨h1, h2⟩ := need_some h
      cases h2
      exact ⟨d, t, hg, hd, Nat.le_of_ble_eq_true h1, .inr ho, rfl⟩
    | _ => cases h
  · cases h

theorem moves_wp {P : Program} {F : Fence} {m : Nat} (hF : Free F) {Q : Exit → Act → World → Prop} :
    ∀ (is : List Nat) (l : List PO) (a : Act), is.map (fun i => (ops[i]?).bind (moveO n)) = l.map some → Q .normal (moveAct l a) w → wpOpsIn F m P ops Q is a w := by
  intro is
  induction is with
  | nil =>
    intro l a hm h
    cases l with
    | nil => exact h
    | cons p l => simp at hm
  | cons i is ih =>
    intro l a hm h
    cases l with
    | nil => simp at hm
    | cons p l =>
      simp only [List.map_cons, List.cons.injEq] at hm
      obtain ⟨hp, hm⟩ := hm
      cases ho : ops[i]? with
      | none => rw [ho] at hp; cases hp
      | some o =>
        rw [ho] at hp
        obtain ⟨d, t, hg, hd, _, hop, rfl⟩ := moveO_some (show moveO n o = some p from hp)
        have hrun : (execOp a.eval o).run P w = .ok (.value (a.eval (.tmp t))) w := by
          rcases hop with hop | hop <;> simp [execOp, hop]
        rw [wpOpsIn_cons]
        unfold wpOpIn
        simp only [ho]
        have hw : Region.wanted o (yielded ops a.tmps) = true := by simp [Region.wanted, hg]
        rw [if_pos hw]
        refine free_op hF (fun c hc => by rcases hop with hop | hop <;> rw [hop] at hc <;> cases hc) ?_
        unfold Oper.wp
        rw [hrun, Oper.upon_value, hd]
        exact ih l _ hm h

theorem moveAct_append (l k : List PO) (a : Act) : moveAct (l ++ k) a = moveAct k (moveAct l a) := by simp [moveAct]

theorem asg_spec {P : Program} : ∀ (c : Code) (l : List PO), compA n c = some l → (∀ p ∈ l, ∃ d t, d < n ∧ p = ⟨some d, none, .mv (.tmp t)⟩) ∧
    ∀ (F : Fence) (m : Nat) (Q : Exit → Act → World → Prop) (a : Act) (w : World), Free F → Q .normal (moveAct l a) w → c.wpIn F m P Q a w := by
  intro c
  induction c with
  | region id ops draw =>
    intro l hl
    cases draw with
    | true => cases hl
    | false =>
      have hmo : mapO (moveO n) ops.toList = some l := hl
      refine ⟨fun p hp => ?_, fun F m Q a w hF h => wpIn_region (moves_wp (n := n) hF _ l a ?_ h)⟩
      · have : some p ∈ ops.toList.map (moveO n) := by rw [(mapO_spec _ _ _ hmo).1]; exact List.mem_map.2 ⟨p, hp, rfl⟩
        obtain ⟨o, _, ho⟩ := List.mem_map.1 this
        obtain ⟨d, t, _, _, hd, _, e⟩ := moveO_some ho
        exact ⟨d, t, hd, e⟩
      · rw [← (mapO_spec _ _ _ hmo).1]
        apply List.ext_getElem?
        intro i
        by_cases hi : i < ops.size
        · rw [List.getElem?_map, List.getElem?_range hi, List.getElem?_map, List.getElem?_eq_getElem (by simpa using hi)]
          simp [hi]
        · rw [List.getElem?_eq_none (by simp; omega), List.getElem?_eq_none (by simp; omega)]
  | seq x y ihx ihy =>
    intro l hl
    obtain ⟨l1, h1, hl⟩ := opt_some (show opt (compA n x) (fun a => opt (compA n y) fun b => some (a ++ b)) = some l from hl)
    obtain ⟨l2, h2, hl⟩ := opt_some hl
    cases hl
    obtain ⟨p1, w1⟩ := ihx l1 h1
    obtain ⟨p2, w2⟩ := ihy l2 h2
    refine ⟨fun p hp => (List.mem_append.1 hp).elim (p1 p) (p2 p), fun F m Q a w hF h => wpIn_seq (w1 F m _ a w hF ?_)⟩
    rw [moveAct_append] at h
    exact w2 F m Q _ w hF h
  | _ => intro l hl; cases hl

theorem moves_rel (hlo : cx.lo = 0) (K : Env → Sto → Prop) : ∀ (l : List PO) (env : Env) (a : Act), (∀ p ∈ l, ∃ d t, d < n ∧ p = ⟨some d, none, .mv (.tmp t)⟩) → a.tmps.size = n → Rel cx env σ vals a w → vcO Γ K l env σ → ∃ env', K env' σ ∧ Rel cx env' σ vals (moveAct l a) w ∧ (moveAct l a).tmps.size = n := by
  intro l
  induction l with
  | nil => intro env a _ hn hr h; exact ⟨env, h, hr, hn⟩
  | cons p l ih =>
    intro env a hd hn hr h
    obtain ⟨d, t, hlt, rfl⟩ := hd p (by simp)
    rw [vcO_cons] at h
    have h := ev_spec _ _ _ (show ev env (.tmp t) (fun v => vcO Γ K l (put (some d) v env) σ) from h)
    exact ih _ (a.put (some d) (a.eval (.tmp t))) (fun q hq => hd q (by simp [hq])) ((put_size ..).trans hn) (rel_put hr (hr.ev (.tmp t)) (fun d' hd' => by cases hd'; rw [hn]; exact hlt) (fun d' _ => by rw [hlo]; exact Nat.zero_le _)) h

theorem prim_rdL {ok : Nat → Prop} : ∀ (cs : List PV), primL cs = true → RdL ok w cs (cs.map encC) ∧ ∀ c ∈ cs, c.one = true := by
  intro cs
  induction cs with
  | nil => intro _; simp [RdL]
  | cons c cs ih =>
    intro h
    have h : (match primC c with | true => primL cs | false => false) = true := h
    cases hc : primC c with
    | false => rw [hc] at h; cases h
    | true =>
      rw [hc] at h
      obtain ⟨h1, h2⟩ := ih h
      refine ⟨?_, fun d hd => ?_⟩
      · simp only [List.map_cons, RdL]
        refine ⟨encC c, cs.map encC, rfl, ?_, h1⟩
        cases c <;> first | (cases hc; done) | simp only [encC, Rd]
      · rcases List.mem_cons.1 hd with rfl | hd
        · cases d <;> first | (cases hc; done) | rfl
        · exact h2 d hd

theorem prim_rd {ok : Nat → Prop} {x : PV} (h : primB x = true) : Rd ok w x (encV x) := by
  cases x with
  | agg cs =>
    obtain ⟨h1, h2⟩ := prim_rdL (ok := ok) (w := w) cs h
    simp only [encV, Rd]
    exact ⟨h2, _, rfl, by simpa using h1⟩
  | _ => first | (cases h; done) | simp only [encV, encC, Rd]

theorem puts_rel (hlo : cx.lo = 0) (K : Env → Prop) : ∀ (ps : List Nat) (xs : List PV) (env : Env) (t : Array Value) (ds : List Deferred), xs.length = ps.length → (∀ v ∈ xs, primB v = true) → (∀ p ∈ ps, p < n) → t.size = n → Rel cx env σ vals ⟨t, ds⟩ w → putsK ps xs env K →
    ∃ env', K env' ∧ Rel cx env' σ vals ⟨(ps.zip (xs.map encV)).foldl (fun t p => t.setIfInBounds p.1 p.2) t, ds⟩ w ∧ ((ps.zip (xs.map encV)).foldl (fun t p => t.setIfInBounds p.1 p.2) t).size = n := by
  intro ps
  induction ps with
  | nil =>
    intro xs env t ds hl _ _ hn hr h
    cases xs with
    | nil => exact ⟨env, h, hr, hn⟩
    | cons x xs => simp at hl
  | cons p ps ih =>
    intro xs env t ds hl hp hlt hn hr h
    cases xs with
    | nil => simp at hl
    | cons x xs =>
      have h : putsK ps xs ((p, .pv x) :: env) K := h
      have hr2 := rel_put (dst := some p) (av := .pv x) (v := encV x) hr (by simp only [RA]; exact prim_rd (hp x (by simp))) (fun d hd => by cases hd; show p < t.size; rw [hn]; exact hlt p (by simp)) (fun d' _ => by rw [hlo]; exact Nat.zero_le _)
      obtain ⟨env', h1, h2, h3⟩ := ih xs _ (t.setIfInBounds p (encV x)) ds (by simpa using hl) (fun v hv => hp v (by simp [hv])) (fun q hq => hlt q (by simp [hq])) (by simp [hn]) hr2 h
      exact ⟨env', h1, h2, h3⟩
end
end Go.Dv
end
section
/-
  What an operation does to the store, said so that it holds in any store that looks the same where the operation reaches.
-/
set_option linter.unusedSimpArgs false
namespace Go.Dv
open Go.RowKit

/-! ### The entries that values name -/
mutual
def AV.Nm (P : Nat → Prop) : AV → Prop
  | .own i => P i
  | .ref i _ _ => P i
  | .sub i _ _ _ => P i
  | .agg cs => AV.NmL P cs
  | .tup cs => AV.NmL P cs
  | .clo _ cs => AV.NmL P cs
  | .bad => True
  | .pv _ => True
def AV.NmL (P : Nat → Prop) : List AV → Prop
  | [] => True
  | a :: l => a.Nm P ∧ AV.NmL P l
end
def Blk.Nm (P : Nat → Prop) : Blk → Prop
  | .box _ cs => AV.NmL P cs
  | _ => True
section
variable {P Q : Nat → Prop}
mutual
theorem Nm_mono (h : ∀ i, P i → Q i) : ∀ a : AV, a.Nm P → a.Nm Q
  | .own i, hx => by simp only [AV.Nm] at hx ⊢; exact h i hx
  | .ref i _ _, hx => by simp only [AV.Nm] at hx ⊢; exact h i hx
  | .sub i _ _ _, hx => by simp only [AV.Nm] at hx ⊢; exact h i hx
  | .agg cs, hx => by simp only [AV.Nm] at hx ⊢; exact NmL_mono h cs hx
  | .tup cs, hx => by simp only [AV.Nm] at hx ⊢; exact NmL_mono h cs hx
  | .clo _ cs, hx => by simp only [AV.Nm] at hx ⊢; exact NmL_mono h cs hx
  | .bad, _ => by simp only [AV.Nm]
  | .pv _, _ => by simp only [AV.Nm]
theorem NmL_mono (h : ∀ i, P i → Q i) : ∀ l : List AV, AV.NmL P l → AV.NmL Q l
  | [], _ => by simp only [AV.NmL]
  | a :: l, hx => by simp only [AV.NmL] at hx ⊢; exact ⟨Nm_mono h a hx.1, NmL_mono h l hx.2⟩
end
theorem Blk.Nm_mono (h : ∀ i, P i → Q i) (b : Blk) (hb : b.Nm P) : b.Nm Q := by
  cases b with
  | box e cs => exact NmL_mono h cs hb
  | _ => trivial
mutual
theorem Nm_on : ∀ a : AV, a.Nm P → a.On P
  | .own i, hx => by simp only [AV.Nm] at hx; simp only [AV.On]; exact hx
  | .ref i _ _, hx => by simp only [AV.Nm] at hx; simp only [AV.On]; exact hx
  | .sub i _ _ _, hx => by simp only [AV.Nm] at hx; simp only [AV.On]; exact hx
  | .agg cs, hx => by simp only [AV.Nm] at hx; simp only [AV.On]; exact NmL_on cs hx
  | .tup cs, hx => by simp only [AV.Nm] at hx; simp only [AV.On]; exact NmL_on cs hx
  | .clo _ cs, _ => by simp only [AV.On]
  | .bad, _ => by simp only [AV.On]
  | .pv _, _ => by simp only [AV.On]
theorem NmL_on : ∀ l : List AV, AV.NmL P l → AV.OnL P l
  | [], _ => by simp only [AV.OnL]
  | a :: l, hx => by simp only [AV.NmL] at hx; simp only [AV.OnL]; exact ⟨Nm_on a hx.1, NmL_on l hx.2⟩
end
theorem NmL_app (l m : List AV) : AV.NmL P (l ++ m) ↔ AV.NmL P l ∧ AV.NmL P m := by
  induction l with
  | nil => simp [AV.NmL]
  | cons a l ih => simp only [List.cons_append, AV.NmL, ih, and_assoc]
theorem NmL_pv (l : List PV) : AV.NmL P (l.map .pv) := by
  induction l with
  | nil => simp [AV.NmL]
  | cons a l ih => simp only [List.map_cons, AV.NmL, AV.Nm]; exact ⟨trivial, ih⟩

theorem ids_list (cs : List AV) : (AV.rec_1 (motive_1 := fun _ => List Nat) (motive_2 := fun _ => List Nat) [] (fun _ => []) (fun id => [id]) (fun id _ _ => [id]) (fun id _ _ _ => [id])
    (fun _ ih => ih) (fun _ ih => ih) (fun _ _ ih => ih) [] (fun _ _ h t => h ++ t) cs : List Nat) = idsL cs := by
  induction cs with
  | nil => rfl
  | cons c cs ih => exact congrArg (c.ids ++ ·) ih
theorem idsL_cons (a : AV) (l : List AV) : idsL (a :: l) = a.ids ++ idsL l := rfl
theorem Nm_ids (a : AV) : a.Nm P ↔ ∀ i ∈ a.ids, P i := by
  refine AV.rec (motive_1 := fun a => a.Nm P ↔ ∀ i ∈ a.ids, P i) (motive_2 := fun l => AV.NmL P l ↔ ∀ i ∈ idsL l, P i) ?_ ?_ ?_ ?_ ?_ ?_ ?_ ?_ ?_ ?_ a
  · simp [AV.Nm, AV.ids]
  · intro x; simp [AV.Nm, AV.ids]
  · intro i; simp [AV.Nm, AV.ids]
  · intro i k o; simp [AV.Nm, AV.ids]
  · intro i s l n; simp [AV.Nm, AV.ids]
  · intro cs ih; rw [AV.Nm, ih, ← ids_list]; rfl
  · intro cs ih; rw [AV.Nm, ih, ← ids_list]; rfl
  · intro f cs ih; rw [AV.Nm, ih, ← ids_list]; rfl
  · simp [AV.NmL, idsL]
  · intro a l h1 h2
    rw [AV.NmL, h1, h2, idsL_cons]
    simp only [List.mem_append]
    constructor
    · rintro ⟨h3, h4⟩ i (hi | hi)
      · exact h3 i hi
      · exact h4 i hi
    · intro h; exact ⟨fun i hi => h i (.inl hi), fun i hi => h i (.inr hi)⟩
theorem NmL_ids (l : List AV) : AV.NmL P l ↔ ∀ i ∈ idsL l, P i := by
  induction l with
  | nil => simp [AV.NmL, idsL]
  | cons a l ih =>
    rw [AV.NmL, Nm_ids, ih, idsL_cons]
    simp only [List.mem_append]
    constructor
    · rintro ⟨h3, h4⟩ i (hi | hi)
      · exact h3 i hi
      · exact h4 i hi
    · intro h; exact ⟨fun i hi => h i (.inl hi), fun i hi => h i (.inr hi)⟩
end
mutual
theorem RA_nm {ok : Nat → Prop} {σ : Sto} {vals : List Value} {w : World} {P : Nat → Prop} (h1 : ∀ i, i < vals.length → P i) (h2 : ∀ i, i < σ.length → P i) : ∀ (a : AV) (v : Value), RA ok σ vals w a v → a.Nm P
  | .own i, v, h => by simp only [RA] at h; simp only [AV.Nm]; exact h1 i (List.getElem?_eq_some_iff.1 h).1
  | .ref i _ _, v, h => by simp only [RA] at h; simp only [AV.Nm]; exact h2 i h.1
  | .sub i _ _ _, v, h => by simp only [RA] at h; simp only [AV.Nm]; exact h2 i h.1
  | .agg cs, v, h => by simp only [RA] at h; simp only [AV.Nm]; obtain ⟨_, vs, _, h⟩ := h; exact RAL_nm h1 h2 cs _ h
  | .tup cs, v, h => by simp only [RA] at h; simp only [AV.Nm]; obtain ⟨vs, _, h⟩ := h; exact RAL_nm h1 h2 cs _ h
  | .clo _ cs, v, h => by simp only [RA] at h; simp only [AV.Nm]; obtain ⟨vs, _, h⟩ := h; exact RAL_nm h1 h2 cs _ h
  | .bad, _, _ => by simp only [AV.Nm]
  | .pv _, _, _ => by simp only [AV.Nm]
theorem RAL_nm {ok : Nat → Prop} {σ : Sto} {vals : List Value} {w : World} {P : Nat → Prop} (h1 : ∀ i, i < vals.length → P i) (h2 : ∀ i, i < σ.length → P i) : ∀ (l : List AV) (vs : List Value), RAL ok σ vals w l vs → AV.NmL P l
  | [], _, _ => by simp only [AV.NmL]
  | a :: l, vs, h => by simp only [RAL] at h; simp only [AV.NmL]; obtain ⟨v, r, _, h3, h4⟩ := h; exact ⟨RA_nm h1 h2 a v h3, RAL_nm h1 h2 l r h4⟩
end
theorem getE_eq (p : Nat) (e : Env) : getE p e = lookF p e := by
  induction e with
  | nil => rfl
  | cons x e ih =>
    obtain ⟨q, v⟩ := x
    show Bool.rec (motive := fun _ => AV) (getE p e) v (Nat.beq q p) = bif Nat.beq q p then v else lookF p e
    rw [ih]
    cases Nat.beq q p <;> rfl
theorem idsR_cons (env : Env) (t : Nat) (l : List Nat) : idsR env (t :: l) = (getE t env).ids ++ idsR env l := rfl
theorem idsR_nm {env : Env} {l : List Nat} {P : Nat → Prop} (h : ∀ i ∈ idsR env l, P i) : ∀ t ∈ l, (lookF t env).Nm P := by
  induction l with
  | nil => intro t ht; cases ht
  | cons s l ih =>
    intro t ht
    rw [idsR_cons] at h
    rcases List.mem_cons.1 ht with rfl | ht
    · rw [Nm_ids, ← getE_eq]; exact fun i hi => h i (by simp [hi])
    · exact ih (fun i hi => h i (by simp [hi])) t ht
theorem idsC_cons (σ : Sto) (t : Nat) (l : List Nat) : idsC σ (t :: l) = (match σ[t]? with | some (.box _ cs) => idsL cs | _ => []) ++ idsC σ l := rfl
theorem idsC_nm {σ : Sto} {l : List Nat} {P : Nat → Prop} (h : ∀ i ∈ idsC σ l, P i) : ∀ t ∈ l, ∀ e cs, σ[t]? = some (.box e cs) → AV.NmL P cs := by
  induction l with
  | nil => intro t ht; cases ht
  | cons s l ih =>
    intro t ht e cs hcs
    rw [idsC_cons] at h
    rcases List.mem_cons.1 ht with rfl | ht
    · rw [NmL_ids]; exact fun i hi => h i (by rw [hcs]; simp [hi])
    · exact ih (fun i hi => h i (by simp [hi])) t ht e cs hcs

/-! ### Entries turned -/
def upd (us : List (Nat × Blk)) (σ : Sto) : Sto := us.foldl (fun σ u => σ.set u.1 u.2) σ
theorem upd_len (us : List (Nat × Blk)) : ∀ σ : Sto, (upd us σ).length = σ.length := by
  induction us with
  | nil => intro σ; rfl
  | cons u us ih => intro σ; exact (ih _).trans (List.length_set ..)
theorem upd_get (us : List (Nat × Blk)) : ∀ (σ τ : Sto) (j : Nat), σ[j]? = τ[j]? → (upd us σ)[j]? = (upd us τ)[j]? := by
  induction us with
  | nil => intro σ τ j h; exact h
  | cons u us ih =>
    intro σ τ j h
    refine ih _ _ j ?_
    rw [List.getElem?_set, List.getElem?_set]
    by_cases hj : u.1 = j
    · subst hj
      have : u.1 < σ.length ↔ u.1 < τ.length := by
        constructor
        · intro hlt
          have := List.getElem?_eq_getElem hlt
          rw [h] at this
          exact (List.getElem?_eq_some_iff.1 this).1
        · intro hlt
          have := List.getElem?_eq_getElem hlt
          rw [← h] at this
          exact (List.getElem?_eq_some_iff.1 this).1
      simp only [if_true]
      by_cases h1 : u.1 < σ.length
      · rw [if_pos h1, if_pos (this.1 h1)]
      · rw [if_neg h1, if_neg (fun h => h1 (this.2 h))]
    · rw [if_neg hj, if_neg hj]; exact h
theorem upd_other (us : List (Nat × Blk)) : ∀ (σ : Sto) (j : Nat), (∀ u ∈ us, u.1 ≠ j) → (upd us σ)[j]? = σ[j]? := by
  induction us with
  | nil => intro σ j _; rfl
  | cons u us ih =>
    intro σ j h
    refine (ih _ j fun x hx => h x (by simp [hx])).trans ?_
    rw [List.getElem?_set, if_neg (h u (by simp))]
theorem upd_app (us vs : List (Nat × Blk)) (σ : Sto) : upd (us ++ vs) σ = upd vs (upd us σ) := List.foldl_append ..
theorem upd_nm {P : Nat → Prop} (us : List (Nat × Blk)) : ∀ (σ : Sto), (∀ u ∈ us, u.2.Nm P) → (∀ b ∈ σ, b.Nm P) → ∀ b ∈ upd us σ, b.Nm P := by
  induction us with
  | nil => intro σ _ h; exact h
  | cons u us ih =>
    intro σ h1 h2
    refine ih _ (fun x hx => h1 x (by simp [hx])) fun b hb => ?_
    rcases List.mem_or_eq_of_mem_set hb with hb | rfl
    · exact h2 b hb
    · exact h1 u (by simp)
theorem sub_upd {P : Nat → Prop} {σ σ' : Sto} (hs : Sub P σ σ') (us : List (Nat × Blk)) : Sub P (upd us σ) (upd us σ') := by
  intro i b hi hb
  have hlt : i < σ.length := by rw [← upd_len us]; exact (List.getElem?_eq_some_iff.1 hb).1
  have h1 := List.getElem?_eq_getElem hlt
  rw [upd_get us σ' σ i ((hs i _ hi h1).trans h1.symm)]; exact hb
theorem setK_mk {α : Type} (l : List α) : ∀ (i : Nat) (x : α) (K : List α → Prop), i < l.length → K (l.set i x) → setK l i x K := by
  induction l with
  | nil => intro i x K h; simp at h
  | cons a l ih =>
    intro i x K h hk
    cases i with
    | zero => exact hk
    | succ i => exact ih i x (fun t => K (a :: t)) (by simpa using h) hk

/-- Turned entries, each of a kind and frozen. -/
def Fzs (P : Nat → Prop) (σ : Sto) (us : List (Nat × Blk)) : Prop := ∀ u ∈ us, P u.1 ∧ u.1 < σ.length ∧ ∃ x, u.2 = .fz x
theorem Fzs.app {P : Nat → Prop} {σ : Sto} {us vs : List (Nat × Blk)} (h1 : Fzs P σ us) (h2 : Fzs P (upd us σ) vs) : Fzs P σ (us ++ vs) := by
  intro u hu
  rcases List.mem_append.1 hu with hu | hu
  · exact h1 u hu
  · obtain ⟨h3, h4, h5⟩ := h2 u hu
    rw [upd_len] at h4
    exact ⟨h3, h4, h5⟩

/-- A step of the store: what it turns, and the same elsewhere. -/
def FzE (P : Nat → Prop) (σ : Sto) (G : Sto → (Sto → Prop) → Prop) (K : Sto → Prop) : Prop :=
  ∃ us, K (upd us σ) ∧ Fzs P σ us ∧ ∀ (σ' : Sto) (K' : Sto → Prop), Sub P σ σ' → K' (upd us σ') → G σ' K'

theorem frz_own {P : Nat → Prop} {σ : Sto} {id : Nat} {K : Sto → Prop} (hi : P id) (h : nthK σ id fun b => match b with
      | .row _ sz _ els => setK σ id (.fz (.sl sz els)) K
      | .fz _ => K σ
      | _ => False) : FzE P σ (fun σ K => nthK σ id fun b => match b with
      | .row _ sz _ els => setK σ id (.fz (.sl sz els)) K
      | .fz _ => K σ
      | _ => False) K := by
  obtain ⟨b, h1, h2⟩ := nthK_iff _ _ _ h
  have hlt := (List.getElem?_eq_some_iff.1 h1).1
  cases b with
  | row e sz ap els =>
    have h3 := (setK_spec _ _ _ _ h2).2
    refine ⟨[(id, .fz (.sl sz els))], h3, ?_, fun σ' K' hs hk => ?_⟩
    · intro u hu; simp at hu; subst hu; exact ⟨hi, hlt, _, rfl⟩
    · have h4 := hs id _ hi h1
      exact nthK_mk _ _ _ _ h4 (setK_mk _ _ _ _ (List.getElem?_eq_some_iff.1 h4).1 hk)
  | fz x => exact ⟨[], h2, fun u hu => (by cases hu), fun σ' K' hs hk => nthK_mk _ _ _ _ (hs id _ hi h1) hk⟩
  | _ => exact h2.elim

theorem frz_eff {P : Nat → Prop} : ∀ (a : AV) (σ : Sto) (K : Sto → Prop), a.Nm P → freezeAV a σ K → FzE P σ (freezeAV a) K := by
  intro a
  refine AV.rec (motive_1 := fun a => ∀ (σ : Sto) (K : Sto → Prop), a.Nm P → freezeAV a σ K → FzE P σ (freezeAV a) K)
    (motive_2 := fun l => ∀ (σ : Sto) (K : Sto → Prop), AV.NmL P l → freezeAVs l σ K → FzE P σ (freezeAVs l) K) ?_ ?_ ?_ ?_ ?_ ?_ ?_ ?_ ?_ ?_ a
  · intro σ K _ h; exact h.elim
  · intro x σ K _ h; exact ⟨[], h, fun u hu => (by cases hu), fun σ' K' _ hk => hk⟩
  · intro id σ K hi h; exact frz_own (by simpa only [AV.Nm] using hi) h
  · intro id i o σ K _ h; exact h.elim
  · intro id s l n σ K hi h; exact frz_own (by simpa only [AV.Nm] using hi) h
  · intro cs ih σ K hn h
    obtain ⟨us, h1, h2, h3⟩ := ih σ K (by simpa only [AV.Nm] using hn) (freezeAV_agg _ _ _ h)
    exact ⟨us, h1, h2, fun σ' K' hs hk => by have := h3 σ' K' hs hk; rw [← freezeAV_list] at this; exact this⟩
  · intro cs ih σ K hn h
    obtain ⟨us, h1, h2, h3⟩ := ih σ K (by simpa only [AV.Nm] using hn) (freezeAV_tup _ _ _ h)
    exact ⟨us, h1, h2, fun σ' K' hs hk => by have := h3 σ' K' hs hk; rw [← freezeAV_list] at this; exact this⟩
  · intro f cs _ σ K _ h; exact h.elim
  · intro σ K _ h; exact ⟨[], h, fun u hu => (by cases hu), fun σ' K' _ hk => hk⟩
  · intro a l h1 h2 σ K hn h
    simp only [AV.NmL] at hn
    obtain ⟨us, h3, h4, h5⟩ := h1 σ (fun σ => freezeAVs l σ K) hn.1 h
    obtain ⟨vs, h6, h7, h8⟩ := h2 _ K hn.2 h3
    refine ⟨us ++ vs, by rw [upd_app]; exact h6, h4.app h7, fun σ' K' hs hk => ?_⟩
    exact h5 σ' _ hs (h8 _ K' (sub_upd hs us) (by rw [← upd_app]; exact hk))
theorem frzs_eff {P : Nat → Prop} (l : List AV) : ∀ (σ : Sto) (K : Sto → Prop), AV.NmL P l → freezeAVs l σ K → FzE P σ (freezeAVs l) K := by
  induction l with
  | nil => intro σ K _ h; exact ⟨[], h, fun u hu => (by cases hu), fun σ' K' _ hk => hk⟩
  | cons a l ih =>
    intro σ K hn h
    simp only [AV.NmL] at hn
    obtain ⟨us, h3, h4, h5⟩ := frz_eff a σ (fun σ => freezeAVs l σ K) hn.1 h
    obtain ⟨vs, h6, h7, h8⟩ := ih _ K hn.2 h3
    refine ⟨us ++ vs, by rw [upd_app]; exact h6, h4.app h7, fun σ' K' hs hk => ?_⟩
    exact h5 σ' _ hs (h8 _ K' (sub_upd hs us) (by rw [← upd_app]; exact hk))

/-! ### New entries: their numbers in a store of another length -/
def shf (a b i : Nat) : Nat := if i < a then i else i - a + b
mutual
def ofs (a b : Nat) : AV → AV
  | .own i => .own (shf a b i)
  | .ref i k o => .ref (shf a b i) k o
  | .sub i s l n => .sub (shf a b i) s l n
  | .agg cs => .agg (ofsL a b cs)
  | .tup cs => .tup (ofsL a b cs)
  | .clo f cs => .clo f (ofsL a b cs)
  | .bad => .bad
  | .pv x => .pv x
def ofsL (a b : Nat) : List AV → List AV
  | [] => []
  | x :: l => ofs a b x :: ofsL a b l
end
mutual
theorem ofs_congr {a b c d : Nat} : ∀ v : AV, v.Nm (fun i => shf a b i = shf c d i) → ofs a b v = ofs c d v
  | .own i, h => by simp only [AV.Nm] at h; simp only [ofs, h]
  | .ref i _ _, h => by simp only [AV.Nm] at h; simp only [ofs, h]
  | .sub i _ _ _, h => by simp only [AV.Nm] at h; simp only [ofs, h]
  | .agg cs, h => by simp only [AV.Nm] at h; simp only [ofs, ofsL_congr cs h]
  | .tup cs, h => by simp only [AV.Nm] at h; simp only [ofs, ofsL_congr cs h]
  | .clo _ cs, h => by simp only [AV.Nm] at h; simp only [ofs, ofsL_congr cs h]
  | .bad, _ => rfl
  | .pv _, _ => rfl
theorem ofsL_congr {a b c d : Nat} : ∀ l : List AV, AV.NmL (fun i => shf a b i = shf c d i) l → ofsL a b l = ofsL c d l
  | [], _ => rfl
  | x :: l, h => by simp only [AV.NmL] at h; simp only [ofsL, ofs_congr x h.1, ofsL_congr l h.2]
end
mutual
theorem ren_ofs {r : List Nat} {a b : Nat} : ∀ v : AV, v.Nm (fun i => r[i]? = some (shf a b i)) → Ren r (ofs a b v) v
  | .own i, h => by simp only [AV.Nm] at h; simp only [ofs, Ren]; exact ⟨i, h, rfl⟩
  | .ref i _ _, h => by simp only [AV.Nm] at h; simp only [ofs, Ren]; exact ⟨i, h, rfl⟩
  | .sub i _ _ _, h => by simp only [AV.Nm] at h; simp only [ofs, Ren]; exact ⟨i, h, rfl⟩
  | .agg cs, h => by simp only [AV.Nm] at h; simp only [ofs, Ren]; exact ⟨cs, rfl, renL_ofs cs h⟩
  | .tup cs, h => by simp only [AV.Nm] at h; simp only [ofs, Ren]; exact ⟨cs, rfl, renL_ofs cs h⟩
  | .clo _ cs, h => by simp only [AV.Nm] at h; simp only [ofs, Ren]; exact ⟨cs, rfl, renL_ofs cs h⟩
  | .bad, _ => by simp only [ofs, Ren]
  | .pv _, _ => by simp only [ofs, Ren]
theorem renL_ofs {r : List Nat} {a b : Nat} : ∀ l : List AV, AV.NmL (fun i => r[i]? = some (shf a b i)) l → RenL r (ofsL a b l) l
  | [], _ => by simp only [ofsL, RenL]
  | x :: l, h => by simp only [AV.NmL] at h; simp only [ofsL, RenL]; exact ⟨x, l, rfl, ren_ofs x h.1, renL_ofs l h.2⟩
end
mutual
theorem ren_self {r : List Nat} : ∀ v : AV, v.Nm (fun i => r[i]? = some i) → Ren r v v
  | .own i, h => by simp only [AV.Nm] at h; simp only [Ren]; exact ⟨i, h, rfl⟩
  | .ref i _ _, h => by simp only [AV.Nm] at h; simp only [Ren]; exact ⟨i, h, rfl⟩
  | .sub i _ _ _, h => by simp only [AV.Nm] at h; simp only [Ren]; exact ⟨i, h, rfl⟩
  | .agg cs, h => by simp only [AV.Nm] at h; simp only [Ren]; exact ⟨cs, rfl, renL_self cs h⟩
  | .tup cs, h => by simp only [AV.Nm] at h; simp only [Ren]; exact ⟨cs, rfl, renL_self cs h⟩
  | .clo _ cs, h => by simp only [AV.Nm] at h; simp only [Ren]; exact ⟨cs, rfl, renL_self cs h⟩
  | .bad, _ => by simp only [Ren]
  | .pv _, _ => by simp only [Ren]
theorem renL_self {r : List Nat} : ∀ l : List AV, AV.NmL (fun i => r[i]? = some i) l → RenL r l l
  | [], _ => by simp only [RenL]
  | x :: l, h => by simp only [AV.NmL] at h; simp only [RenL]; exact ⟨x, l, rfl, ren_self x h.1, renL_self l h.2⟩
end
theorem renB_self {r : List Nat} (b : Blk) (h : b.Nm (fun i => r[i]? = some i)) : RenB r b b := by
  cases b with
  | box e cs => exact ⟨cs, rfl, renL_self cs h⟩
  | _ => rfl

/-- New entries of a result. -/
def TkE (σ : Sto) (G : Sto → (AV → Sto → Prop) → Prop) (K : AV → Sto → Prop) : Prop :=
  ∃ v ps, K v (σ ++ ps) ∧ (∀ b ∈ ps, ∀ P, Blk.Nm P b) ∧ v.Nm (fun i => σ.length ≤ i ∧ i < σ.length + ps.length) ∧ ∀ (σ' : Sto) (K' : AV → Sto → Prop), K' (ofs σ.length σ'.length v) (σ' ++ ps) → G σ' K'

theorem shf_self (a b : Nat) : shf a b a = b := by unfold shf; rw [if_neg (Nat.lt_irrefl a), Nat.sub_self, Nat.zero_add]

theorem tk_row (σ : Sto) (e : TypeId) (sz : Nat) (ap : Bool) (els : List PV) {K : AV → Sto → Prop} (h : lenK σ fun n => snocK σ (.row e sz ap els) fun σ => K (.own n) σ) :
    TkE σ (fun σ K => lenK σ fun n => snocK σ (.row e sz ap els) fun σ => K (.own n) σ) K := by
  have h1 := snocK_spec _ _ _ (lenK_spec _ _ h)
  refine ⟨_, [_], h1, ?_, ?_, fun σ' K' hk => lenK_mk _ _ (snocK_mk _ _ _ ?_)⟩
  · intro b hb P; simp at hb; subst hb; trivial
  · simp only [AV.Nm, List.length_singleton]; omega
  · simp only [ofs, shf_self] at hk; exact hk

theorem tk_eff (r : RV) : ∀ (σ : Sto) (K : AV → Sto → Prop), takeRV r σ K → TkE σ (takeRV r) K := by
  let G : List RV → Sto → (List AV → Sto → Prop) → Prop := fun l => RV.rec_1 (motive_1 := fun _ => Sto → (AV → Sto → Prop) → Prop) (motive_2 := fun _ => Sto → (List AV → Sto → Prop) → Prop)
    (fun x σ K => K (.pv x) σ)
    (fun e sz els σ K => lenK σ fun n => snocK σ (.row e sz true els) fun σ => K (.own n) σ)
    (fun e sz els σ K => lenK σ fun n => snocK σ (.row e sz false els) fun σ => K (.own n) σ)
    (fun _ ih σ K => ih σ fun l σ => K (.agg l) σ)
    (fun _ ih σ K => ih σ fun l σ => K (.tup l) σ)
    (fun σ K => K [] σ)
    (fun _ _ h t σ K => h σ fun a σ => t σ fun l σ => K (a :: l) σ) l
  refine RV.rec (motive_1 := fun r => ∀ (σ : Sto) (K : AV → Sto → Prop), takeRV r σ K → TkE σ (takeRV r) K)
    (motive_2 := fun l => ∀ (σ : Sto) (K : List AV → Sto → Prop), G l σ K → ∃ v ps, K v (σ ++ ps) ∧ (∀ b ∈ ps, ∀ P, Blk.Nm P b) ∧ AV.NmL (fun i => σ.length ≤ i ∧ i < σ.length + ps.length) v ∧ ∀ (σ' : Sto) (K' : List AV → Sto → Prop), K' (ofsL σ.length σ'.length v) (σ' ++ ps) → G l σ' K')
    ?_ ?_ ?_ ?_ ?_ ?_ ?_ r
  · intro x σ K h; exact ⟨_, [], by rw [List.append_nil]; exact h, fun b hb => (by cases hb), by simp only [AV.Nm], fun σ' K' hk => by rw [List.append_nil] at hk; exact hk⟩
  · intro e sz els σ K h; exact tk_row σ e sz true els h
  · intro e sz els σ K h; exact tk_row σ e sz false els h
  · intro l ih σ K h
    obtain ⟨v, ps, h1, h2, h3, h4⟩ := ih σ _ h
    exact ⟨_, ps, h1, h2, by simp only [AV.Nm]; exact h3, fun σ' K' hk => h4 σ' _ (by simp only [ofs] at hk; exact hk)⟩
  · intro l ih σ K h
    obtain ⟨v, ps, h1, h2, h3, h4⟩ := ih σ _ h
    exact ⟨_, ps, h1, h2, by simp only [AV.Nm]; exact h3, fun σ' K' hk => h4 σ' _ (by simp only [ofs] at hk; exact hk)⟩
  · intro σ K h; exact ⟨[], [], by rw [List.append_nil]; exact h, fun b hb => (by cases hb), by simp only [AV.NmL], fun σ' K' hk => by rw [List.append_nil] at hk; exact hk⟩
  · intro a l h1 h2 σ K h
    obtain ⟨v, ps, h3, h4, h5, h6⟩ := h1 σ (fun a σ => G l σ fun t σ => K (a :: t) σ) h
    obtain ⟨u, qs, h7, h8, h9, h10⟩ := h2 _ _ h3
    rw [List.length_append] at h9
    refine ⟨v :: u, ps ++ qs, by rw [← List.append_assoc]; exact h7, fun b hb => ?_, ?_, fun σ' K' hk => ?_⟩
    · rcases List.mem_append.1 hb with hb | hb
      · exact h4 b hb
      · exact h8 b hb
    · simp only [AV.NmL]
      rw [List.length_append]
      exact ⟨Nm_mono (fun i hi => by omega) _ h5, NmL_mono (fun i hi => by omega) _ h9⟩
    · refine h6 σ' (fun a τ => G l τ fun t τ => K' (a :: t) τ) ?_
      refine h10 (σ' ++ ps) (fun t τ => K' (ofs σ.length σ'.length v :: t) τ) ?_
      rw [List.append_assoc]
      simp only [ofsL] at hk
      rw [ofsL_congr (c := σ.length) (d := σ'.length) u (NmL_mono (fun i hi => by
        simp only [List.length_append]
        unfold shf
        rw [if_neg (by omega), if_neg (by omega)]
        omega) _ h9)]
      exact hk
end Go.Dv
end
section
/-
  The same for each operation that a region in any order may have.
-/
set_option linter.unusedSimpArgs false
namespace Go.Dv
open Go.RowKit

def shv (sh : Bool) (a b : Nat) (v : AV) : AV := match sh with | true => ofs a b v | false => v

/-- What an operation comes to, in any store that looks the same where it reaches. -/
def StE (A : Nat → Prop) (tn : Bool) (N : (Nat → Prop) → Prop) (σ : Sto) (G : Sto → (AV → Sto → Prop) → Prop) (K : AV → Sto → Prop) : Prop :=
  ∃ (v : AV) (sh : Bool) (us : List (Nat × Blk)) (ps : List Blk), (sh = false → ps = []) ∧ K v (upd us σ ++ ps) ∧ (∀ u ∈ us, tn = true ∧ A u.1 ∧ u.1 < σ.length) ∧
    (∀ P : Nat → Prop, N P → (∀ j b, A j → σ[j]? = some b → b.Nm P) → (∀ u ∈ us, u.2.Nm P) ∧ ∀ b ∈ ps, b.Nm P) ∧
    ∀ (σ' : Sto) (K' : AV → Sto → Prop), Sub A σ σ' → K' (shv sh σ.length σ'.length v) (upd us σ' ++ ps) → G σ' K'

/-- A reading, the same in any store that looks the same. -/
def RdE {β : Type} (A : Nat → Prop) (σ : Sto) (G : Sto → (β → Prop) → Prop) (K : β → Prop) : Prop :=
  ∃ x, K x ∧ ∀ (σ' : Sto) (K' : β → Prop), Sub A σ σ' → K' x → G σ' K'

section
variable {A : Nat → Prop} {tn : Bool} {N : (Nat → Prop) → Prop} {σ : Sto}

theorem StE.quiet {G : Sto → (AV → Sto → Prop) → Prop} {K : AV → Sto → Prop} {v : AV} (h : K v σ) (h2 : ∀ (σ' : Sto) (K' : AV → Sto → Prop), Sub A σ σ' → K' v σ' → G σ' K') : StE A tn N σ G K :=
  ⟨v, false, [], [], fun _ => rfl, by rw [List.append_nil]; exact h, fun u hu => (by cases hu), fun P _ _ => ⟨fun u hu => (by cases hu), fun b hb => (by cases hb)⟩, fun σ' K' hs hk => h2 σ' K' hs (by rw [List.append_nil] at hk; exact hk)⟩
theorem StE.push {G : Sto → (AV → Sto → Prop) → Prop} {K : AV → Sto → Prop} {v : AV} {b : Blk} (h : K v (σ ++ [b])) (hn : ∀ P, N P → b.Nm P) (h2 : ∀ (σ' : Sto) (K' : AV → Sto → Prop), K' (ofs σ.length σ'.length v) (σ' ++ [b]) → G σ' K') : StE A tn N σ G K :=
  ⟨v, true, [], [b], fun h => (by cases h), h, fun u hu => (by cases hu), fun P hP _ => ⟨fun u hu => (by cases hu), fun c hc => by simp at hc; subst hc; exact hn P hP⟩, fun σ' K' _ hk => h2 σ' K' hk⟩

theorem cells_nm (a : AV) {K : List AV → Prop} (h : cellsK a K) : ∃ cs, K cs ∧ (∀ P, a.Nm P → AV.NmL P cs) ∧ ∀ K' : List AV → Prop, K' cs → cellsK a K' := by
  cases a with
  | pv x =>
    have one : ∀ y : PV, K [.pv y] → ∃ cs, K cs ∧ (∀ P, (AV.pv x).Nm P → AV.NmL P cs) ∧ ∀ K' : List AV → Prop, K' cs → K' [.pv y] := fun y h => ⟨_, h, fun P _ => by simp [AV.NmL, AV.Nm], fun _ h => h⟩
    cases x with
    | agg cs =>
      have h := pvsK_spec _ _ h
      refine ⟨_, h, fun P _ => NmL_pv cs, fun K' hk => ?_⟩
      show pvsK cs K'
      obtain ⟨r, h1, h2⟩ := det_pvsK cs (fun _ => True) (by
        have : ∀ (l : List PV) (K : List AV → Prop), K (l.map .pv) → pvsK l K := by
          intro l
          induction l with
          | nil => intro K h; exact h
          | cons y l ih => intro K h; exact ih _ h
        exact this cs _ trivial)
      have := pvsK_spec _ _ (h2 (fun t => t = r) rfl)
      subst this
      exact h2 K' hk
    | tup l => exact h.elim
    | _ => exact one _ h
  | agg cs => exact ⟨cs, h, fun P hp => by simpa only [AV.Nm] using hp, fun _ h => h⟩
  | own id => exact ⟨_, h, fun P hp => ⟨hp, trivial⟩, fun _ h => h⟩
  | ref id i o => exact ⟨_, h, fun P hp => ⟨hp, trivial⟩, fun _ h => h⟩
  | sub id s l n => exact ⟨_, h, fun P hp => ⟨hp, trivial⟩, fun _ h => h⟩
  | clo f cs => exact ⟨_, h, fun P hp => ⟨hp, trivial⟩, fun _ h => h⟩
  | bad => exact h.elim
  | tup l => exact h.elim

theorem rd_av {a : AV} (ha : a.Nm A) {K : PV → Prop} (h : readAV σ a K) : RdE A σ (fun σ K => readAV σ a K) K := by
  obtain ⟨x, h1, h2⟩ := det_readAV a _ h
  refine ⟨x, h1, fun σ' K' hs hk => ?_⟩
  have h3 := readAV_mv hs a (Nm_on a ha) (h2 (fun y => y = x) rfl)
  obtain ⟨y, rfl, h5⟩ := det_readAV a _ h3
  exact h5 K' hk
theorem rd_avs {l : List AV} (ha : AV.NmL A l) {K : List PV → Prop} (h : readAVs σ l K) : RdE A σ (fun σ K => readAVs σ l K) K := by
  obtain ⟨x, h1, h2⟩ := det_readAVs l _ h
  refine ⟨x, h1, fun σ' K' hs hk => ?_⟩
  have h3 := readAVs_mv hs l (NmL_on l ha) (h2 (fun y => y = x) rfl)
  obtain ⟨y, rfl, h5⟩ := det_readAVs l _ h3
  exact h5 K' hk
theorem rd_row {a : AV} (ha : a.Nm A) {K : Nat → List PV → Prop} (h : rowK σ a K) : ∃ s els, K s els ∧ ∀ (σ' : Sto) (K' : Nat → List PV → Prop), Sub A σ σ' → K' s els → rowK σ' a K' := by
  have hd : Det fun K : Nat × List PV → Prop => rowK σ a fun s l => K (s, l) := det_rowK a (fun s l K => K (s, l)) fun s l => Det.ret _
  obtain ⟨⟨s, els⟩, h1, h2⟩ := hd (fun p => K p.1 p.2) h
  refine ⟨s, els, h1, fun σ' K' hs hk => ?_⟩
  have h3 := rowK_mv hs (Nm_on a ha) (h2 (fun p => p = (s, els)) rfl)
  have hd' : Det fun K : Nat × List PV → Prop => rowK σ' a fun s l => K (s, l) := det_rowK a (fun s l K => K (s, l)) fun s l => Det.ret _
  obtain ⟨p, hp, h5⟩ := hd' (fun p => p = (s, els)) h3
  subst hp
  exact h5 (fun p => K' p.1 p.2) hk

/-- A store into a row or a variable. -/
theorem store_eff {n : Nat} {a v : AV} (ha : a.Nm A) (hv : v.Nm A) (hN : ∀ P, N P → v.Nm P) {K : AV → Sto → Prop} (h : storeK σ n a v fun σ => K .bad σ) : StE A true N σ (fun σ K => storeK σ n a v fun σ => K .bad σ) K := by
  cases a with
  | ref id idx off =>
    have hi : A id := by simpa only [AV.Nm] using ha
    obtain ⟨b, h1, h2⟩ := nthK_iff _ _ _ h
    have hlt := (List.getElem?_eq_some_iff.1 h1).1
    cases b with
    | row e sz ap els =>
      obtain ⟨x, h3, h4⟩ := rd_av hv h2
      obtain ⟨us, h5, h6, h7⟩ := frz_eff v σ _ hv h3
      obtain ⟨b, h8, h9⟩ := nthK_iff _ _ _ h5
      cases b with
      | row e sz ap els =>
        obtain ⟨y, h10, h11, h12⟩ := h9
        obtain ⟨cs, h13, h14⟩ := det_spliceK _ _ _ _ h12
        obtain ⟨y', h15, h16⟩ := det_alikeK _ _ _ h13
        obtain ⟨h17, h18⟩ := setK_spec _ _ _ _ h15
        refine ⟨.bad, false, us ++ [(id, .row e sz ap (els.set idx y'))], [], fun _ => rfl, ?_, ?_, ?_, ?_⟩
        · rw [List.append_nil, upd_app]; exact h18
        · intro u hu
          rcases List.mem_append.1 hu with hu | hu
          · exact ⟨rfl, (h6 u hu).1, (h6 u hu).2.1⟩
          · simp at hu; subst hu; exact ⟨rfl, hi, hlt⟩
        · refine fun P _ _ => ⟨fun u hu => ?_, fun b hb => (by cases hb)⟩
          rcases List.mem_append.1 hu with hu | hu
          · obtain ⟨_, _, x, hx⟩ := h6 u hu; rw [hx]; trivial
          · simp at hu; subst hu; trivial
        · intro σ' K' hs hk
          rw [List.append_nil, upd_app] at hk
          refine nthK_mk _ _ _ _ (hs id _ hi h1) ?_
          refine h4 σ' _ hs (h7 σ' _ hs ?_)
          have h19 := sub_upd hs us id _ hi h8
          refine nthK_mk _ _ _ _ h19 ⟨y, h10, h11, h14 _ (h16 _ (setK_mk _ _ _ _ (List.getElem?_eq_some_iff.1 h19).1 hk))⟩
      | _ => exact h9.elim
    | box e cs =>
      obtain ⟨vs, h3, h4, h5⟩ := cells_nm v h2
      obtain ⟨h6, h7⟩ := h3
      obtain ⟨ds, h8, h9⟩ := det_spliceK _ _ _ _ h7
      obtain ⟨h10, h11⟩ := setK_spec _ _ _ _ h8
      obtain ⟨pre, mid, post, h12, h13, h14, h15⟩ := spliceK_spec _ _ _ _ (h9 (fun t => t = ds) rfl)
      refine ⟨.bad, false, [(id, .box e ds)], [], fun _ => rfl, by rw [List.append_nil]; exact h11, ?_, ?_, ?_⟩
      · intro u hu; simp at hu; subst hu; exact ⟨rfl, hi, hlt⟩
      · refine fun P hP hc => ⟨fun u hu => ?_, fun b hb => (by cases hb)⟩
        simp at hu; subst hu
        have hold : AV.NmL P cs := hc id _ hi h1
        have hnew : AV.NmL P vs := h4 P (hN P hP)
        show AV.NmL P ds
        rw [← h15]
        rw [h12, NmL_app, NmL_app] at hold
        rw [NmL_app, NmL_app]
        exact ⟨⟨hold.1.1, hnew⟩, hold.2⟩
      · intro σ' K' hs hk
        rw [List.append_nil] at hk
        have h19 := hs id _ hi h1
        exact nthK_mk _ _ _ _ h19 (h5 _ ⟨h6, h9 _ (setK_mk _ _ _ _ (List.getElem?_eq_some_iff.1 h19).1 hk)⟩)
    | _ => exact h2.elim
  | _ => exact h.elim

theorem app_eff {e sz bytes : Nat} {x : AV} {ys : List PV} (hx : x.Nm A) {K : AV → Sto → Prop} (h : appK σ e sz bytes x ys K) : StE A true N σ (fun σ K => appK σ e sz bytes x ys K) K := by
  cases x with
  | pv p =>
    cases p with
    | nil s =>
      obtain ⟨h1, h2⟩ := h
      have h3 := snocK_spec _ _ _ (lenK_spec _ _ h2)
      refine StE.push h3 (fun P _ => trivial) fun σ' K' hk => ⟨h1, lenK_mk _ _ (snocK_mk _ _ _ ?_)⟩
      simp only [ofs, shf_self] at hk
      exact hk
    | _ => exact h.elim
  | own id =>
    have hi : A id := by simpa only [AV.Nm] using hx
    obtain ⟨b, h1, h2⟩ := nthK_iff _ _ _ h
    have hlt := (List.getElem?_eq_some_iff.1 h1).1
    cases b with
    | row e' s ap els =>
      cases ap with
      | false => exact h2.elim
      | true =>
        cases hs1 : Nat.beq s sz with
        | false => simp only [hs1] at h2
        | true =>
          cases he1 : Nat.beq e' e with
          | false => simp only [hs1, he1] at h2
          | true =>
            simp only [hs1, he1] at h2
            obtain ⟨h3, h4⟩ := h2
            obtain ⟨_, h5⟩ := setK_spec _ _ _ _ h4
            have h6 := snocK_spec _ _ _ (lenK_spec _ _ h5)
            refine ⟨_, true, [(id, .dead)], [_], fun h => (by cases h), h6, ?_, ?_, ?_⟩
            · intro u hu; simp at hu; subst hu; exact ⟨rfl, hi, hlt⟩
            · refine fun P _ _ => ⟨fun u hu => ?_, fun b hb => ?_⟩
              · simp at hu; subst hu; trivial
              · simp at hb; subst hb; trivial
            · intro σ' K' hs hk
              have h19 := hs id _ hi h1
              refine nthK_mk _ _ _ _ h19 ?_
              simp only [hs1, he1]
              refine ⟨h3, setK_mk _ _ _ _ (List.getElem?_eq_some_iff.1 h19).1 (lenK_mk _ _ (snocK_mk _ _ _ ?_))⟩
              simp only [shv, ofs, List.length_set, shf_self] at hk ⊢
              exact hk
    | _ => exact h2.elim
  | _ => exact h.elim

theorem bounds_det {n : Nat} {lo hi : Option AV} {K : Nat → Nat → Prop} (h : boundsK n lo hi K) : ∃ l u, K l u ∧ ∀ K' : Nat → Nat → Prop, K' l u → boundsK n lo hi K' := by
  have hd : Det fun K : Nat × Nat → Prop => boundsK n lo hi fun l u => K (l, u) := det_boundsK n lo hi (fun l u K => K (l, u)) fun l u => Det.ret _
  obtain ⟨⟨l, u⟩, h1, h2⟩ := hd (fun p => K p.1 p.2) h
  exact ⟨l, u, h1, fun K' hk => h2 (fun p => K' p.1 p.2) hk⟩

theorem slc_eff {sz : Nat} {x : AV} {lo hi : Option AV} (hx : x.Nm A) {K : AV → Sto → Prop} (h : slcRK σ sz x lo hi K) : StE A true N σ (fun σ K => slcRK σ sz x lo hi K) K := by
  cases x with
  | pv p =>
    cases p with
    | sl s els =>
      simp only [slcRK] at h ⊢
      cases hs1 : Nat.beq s sz with
      | false => simp only [hs1] at h
      | true =>
        simp only [hs1] at h ⊢
        obtain ⟨l, u, h1, h2⟩ := bounds_det h
        exact StE.quiet h1 fun σ' K' _ hk => h2 _ hk
    | nil s =>
      obtain ⟨l, u, h1, h2⟩ := bounds_det (K := fun _ _ => K (.pv (.nil s)) σ) h
      exact StE.quiet h1 fun σ' K' _ hk => h2 (fun _ _ => K' (.pv (.nil s)) σ') hk
    | _ => exact h.elim
  | own id =>
    have hi : A id := by simpa only [AV.Nm] using hx
    obtain ⟨b, h1, h2⟩ := nthK_iff _ _ _ h
    have hlt := (List.getElem?_eq_some_iff.1 h1).1
    cases b with
    | row e s ap els =>
      simp only at h2
      cases hs1 : Nat.beq s sz with
      | false => simp only [hs1] at h2
      | true =>
        simp only [hs1] at h2
        rcases h2 with h2 | h2
        · obtain ⟨l, u, h3, h4⟩ := bounds_det h2
          obtain ⟨_, h5⟩ := setK_spec _ _ _ _ h3
          refine ⟨_, false, [(id, .fz (.sl sz els))], [], fun _ => rfl, by rw [List.append_nil]; exact h5, ?_, ?_, ?_⟩
          · intro u hu; simp at hu; subst hu; exact ⟨rfl, hi, hlt⟩
          · refine fun P _ _ => ⟨fun u hu => ?_, fun b hb => (by cases hb)⟩
            simp at hu; subst hu; trivial
          · intro σ' K' hs hk
            rw [List.append_nil] at hk
            have h19 := hs id _ hi h1
            refine nthK_mk _ _ _ _ h19 ?_
            simp only [hs1]
            exact .inl (h4 _ (setK_mk _ _ _ _ (List.getElem?_eq_some_iff.1 h19).1 hk))
        · obtain ⟨l, u, h3, h4⟩ := bounds_det h2
          refine StE.quiet h3 fun σ' K' hs hk => nthK_mk _ _ _ _ (hs id _ hi h1) ?_
          simp only [hs1]
          exact .inr (h4 _ hk)
    | fz x =>
      cases x with
      | sl s els =>
        simp only at h2
        cases hs1 : Nat.beq s sz with
        | false => simp only [hs1] at h2
        | true =>
          simp only [hs1] at h2
          obtain ⟨l, u, h3, h4⟩ := bounds_det h2
          refine StE.quiet h3 fun σ' K' hs hk => nthK_mk _ _ _ _ (hs id _ hi h1) ?_
          simp only [hs1]
          exact h4 _ hk
      | _ => exact h2.elim
    | _ => exact h2.elim
  | sub id s lo0 n =>
    simp only [slcRK] at h ⊢
    cases hs1 : Nat.beq s sz with
    | false => simp only [hs1] at h
    | true =>
      simp only [hs1] at h ⊢
      obtain ⟨l, u, h1, h2⟩ := bounds_det h
      exact StE.quiet h1 fun σ' K' _ hk => h2 _ hk
  | _ => exact h.elim

theorem det_boxVal (cs : List PV) : Det (boxVal cs) := by
  cases cs with
  | nil => exact Det.ret _
  | cons c r => cases r with
    | nil => cases c <;> first | exact Det.no | exact Det.ret _
    | cons d r => exact Det.ret _

end
end Go.Dv
end
section
/-
  An operation of a region in any order, with its guard; the path that a region takes in the text's order.
-/
set_option linter.unusedSimpArgs false
namespace Go.Dv
open Go.RowKit
section
variable {Γ : Ctx} {env : Env} {σ : Sto} {P : Program}

theorem evF_nm {Q : Nat → Prop} {x : Operand} (hx : ∀ t ∈ rdOp x, (lookF t env).Nm Q) : (evF env x).Nm Q := by
  cases x with
  | tmp t => exact hx t (by simp [rdOp])
  | const v => simp only [evF]; cases v <;> simp [constAV, AV.Nm] ; (try split) <;> simp [AV.Nm]
  | global _ => simp [evF, AV.Nm]
  | func f => simp [evF, AV.Nm]
theorem evFs_nm {Q : Nat → Prop} {l : List Operand} (hx : ∀ t ∈ l.flatMap rdOp, (lookF t env).Nm Q) : AV.NmL Q (l.map (evF env)) := by
  induction l with
  | nil => simp [AV.NmL]
  | cons x l ih =>
    simp only [List.map_cons, AV.NmL]
    exact ⟨evF_nm fun t ht => hx t (by simp [ht]), ih fun t ht => hx t (List.mem_flatMap.2 (by obtain ⟨y, hy, hty⟩ := List.mem_flatMap.1 ht; exact ⟨y, by simp [hy], hty⟩))⟩

theorem reach_reads {k : PK} (hk : (k.still || k.al) = false) : ∀ t ∈ k.reads, (lookF t env).Nm (· ∈ k.reach env σ) := by
  refine idsR_nm (P := (· ∈ k.reach env σ)) fun i hi => ?_
  unfold PK.reach
  rw [hk]
  cases k <;> first | exact hi | exact List.mem_append.2 (.inl hi)

theorem op_eff (hΓ : Sound P Γ) {k : PK} (hk : k.dk Γ = true) {K : AV → Sto → Prop} (h : evK Γ env σ k K) :
    StE (· ∈ k.reach env σ) (k.turns Γ) (fun Q => ∀ t ∈ k.reads, (lookF t env).Nm Q) σ (fun σ K => evK Γ env σ k K) K := by
  by_cases hst : k.still = true
  · obtain ⟨v, h1, h2⟩ := still_ev hst σ h
    exact StE.quiet h1 fun σ' K' _ hk => h2 σ' K' hk
  by_cases hal : k.al = true
  · cases k with
    | alloc e z =>
      simp only [evK] at h ⊢
      obtain ⟨cs, h1, h2⟩ := det_pvsK _ _ h
      have hcs := pvsK_spec _ _ (h2 (fun t => t = cs) rfl)
      have h3 := snocK_spec _ _ _ (lenK_spec _ _ h1)
      refine StE.push h3 (fun Q _ => by rw [← hcs]; exact NmL_pv _) fun σ' K' hk => h2 _ (lenK_mk _ _ (snocK_mk _ _ _ ?_))
      simp only [ofs, shf_self] at hk
      exact hk
    | box e x =>
      simp only [evK, ev_eq] at h ⊢
      obtain ⟨cs, h1, hn, h2⟩ := cells_nm _ h
      have h3 := snocK_spec _ _ _ (lenK_spec _ _ h1)
      refine StE.push h3 (fun Q hQ => hn Q (evF_nm hQ)) fun σ' K' hk => h2 _ (lenK_mk _ _ (snocK_mk _ _ _ ?_))
      simp only [ofs, shf_self] at hk
      exact hk
    | bslP e sz l =>
      simp only [evK, evs_eq] at h ⊢
      have hd : Det fun K : (List PV) → Prop => allPvK (l.map (evF env)) (fun xs => K xs) False := by
        generalize l.map (evF env) = as
        intro K hK
        rcases allPvK_spec _ _ _ hK with ⟨xs, rfl, hx⟩ | h
        · refine ⟨xs, hx, fun K' hk' => ?_⟩
          clear hK hx K
          induction xs generalizing K' with
          | nil => exact hk'
          | cons x xs ih => exact ih (fun t => K' (x :: t)) hk'
        · exact h.elim
      obtain ⟨xs, ⟨h0, h1⟩, h2⟩ := hd _ h
      have h3 := snocK_spec _ _ _ (lenK_spec _ _ h1)
      refine StE.push h3 (fun Q _ => trivial) fun σ' K' hk => h2 _ ⟨h0, lenK_mk _ _ (snocK_mk _ _ _ ?_)⟩
      simp only [ofs, shf_self] at hk
      exact hk
    | _ => cases hal
  have hsa : (k.still || k.al) = false := by
    cases h1 : k.still with
    | true => exact absurd h1 hst
    | false => cases h2 : k.al with
      | true => exact absurd h2 hal
      | false => rfl
  have hr := reach_reads (env := env) (σ := σ) hsa
  by_cases hp : k.pure Γ = true
  · obtain ⟨v, h1, h2⟩ := det_op hΓ env hp _ h
    refine StE.quiet h1 fun σ' K' hs hk => ?_
    have h3 := pure_mv hΓ hs hp (fun t ht => Nm_on _ (hr t ht)) (K := fun x => x = v) (h2 (fun x _ => x = v) rfl)
    obtain ⟨v', rfl, h5⟩ := det_op hΓ env hp _ h3
    exact h5 K' hk
  simp only [PK.dk, hp, hst, hal, Bool.false_or, Bool.or_false] at hk
  cases k with
  | store n x v =>
    simp only [evK, ev_eq] at h ⊢
    exact store_eff (evF_nm fun t ht => hr t (by simp [PK.reads, ht])) (evF_nm fun t ht => hr t (by simp [PK.reads, ht])) (fun Q hQ => evF_nm fun t ht => hQ t (by simp [PK.reads, ht])) h
  | app e sz bytes x y =>
    simp only [evK, ev_eq] at h ⊢
    obtain ⟨s, ys, h1, h2⟩ := rd_row (A := (· ∈ (PK.app e sz bytes x y).reach env σ)) (evF_nm fun t ht => hr t (by simp [PK.reads, ht])) h
    cases hs : Nat.beq s sz with
    | false => simp only [hs] at h1
    | true =>
      simp only [hs] at h1
      obtain ⟨v, sh, us, ps, g0, g1, g2, g3, g4⟩ := app_eff (A := (· ∈ (PK.app e sz bytes x y).reach env σ)) (N := fun Q => ∀ t ∈ (PK.app e sz bytes x y).reads, (lookF t env).Nm Q) (evF_nm fun t ht => hr t (by simp [PK.reads, ht])) h1
      refine ⟨v, sh, us, ps, g0, g1, g2, g3, fun σ' K' hs' hk => h2 σ' _ hs' ?_⟩
      simp only [hs]
      exact g4 σ' K' hs' hk
  | slcR sz x lo hi =>
    simp only [evK, ev_eq, evO_eq] at h ⊢
    exact slc_eff (evF_nm fun t ht => hr t (by simp [PK.reads, ht])) h
  | mkf f caps =>
    simp only [Bool.not_eq_true'] at hk
    simp only [evK, evs_eq, hk] at h ⊢
    let A0 := idsR env (PK.mkf f caps).reads
    have hA0 : AV.NmL (· ∈ A0) (caps.map (evF env)) := evFs_nm fun t ht => idsR_nm (P := (· ∈ A0)) (fun i hi => hi) t ht
    have hreach : (PK.mkf f caps).reach env σ = A0 ++ idsC σ A0 := by unfold PK.reach; rw [hsa]
    -- the variables that are captured are those of A0; what lies in them is reached, too
    have hbox : ∀ (l : List AV) (τ : Sto) (K : List PV → Sto → Prop), AV.NmL (· ∈ A0) l → (∀ j, j ∈ A0 → ∀ e cs, τ[j]? = some (.box e cs) → AV.NmL (· ∈ A0 ++ idsC σ A0) cs) → boxesK l τ K →
        ∃ xs us, K xs (upd us τ) ∧ Fzs (· ∈ A0 ++ idsC σ A0) τ us ∧ ∀ (σ' : Sto) (K' : List PV → Sto → Prop), Sub (· ∈ A0 ++ idsC σ A0) τ σ' → K' xs (upd us σ') → boxesK l σ' K' := by
      intro l
      induction l with
      | nil => intro τ K _ _ h; exact ⟨[], [], h, fun u hu => (by cases hu), fun _ _ _ hk => hk⟩
      | cons a l ih =>
        intro τ K hn hc h
        simp only [AV.NmL] at hn
        cases a with
        | ref id i off =>
          have hi : id ∈ A0 := by simpa only [AV.Nm] using hn.1
          have hi' : id ∈ A0 ++ idsC σ A0 := List.mem_append.2 (.inl hi)
          obtain ⟨b, h1, h2⟩ := nthK_iff _ _ _ h
          have hlt := (List.getElem?_eq_some_iff.1 h1).1
          cases b with
          | box e cs =>
            cases off with
            | succ o => exact h2.elim
            | zero =>
              have hcs := hc id hi e cs h1
              obtain ⟨t, h3, h4⟩ := rd_avs hcs h2
              obtain ⟨x, h5, h6⟩ := det_boxVal t _ h3
              obtain ⟨us, h7, h8, h9⟩ := frzs_eff cs τ _ hcs h5
              obtain ⟨h10, h11⟩ := setK_spec _ _ _ _ h7
              have hz : Fzs (· ∈ A0 ++ idsC σ A0) τ (us ++ [(id, Blk.fz (.cptr x))]) := h8.app fun u hu => by
                simp at hu; subst hu; exact ⟨hi', h10, _, rfl⟩
              have hc' : ∀ j, j ∈ A0 → ∀ e cs, (upd (us ++ [(id, Blk.fz (.cptr x))]) τ)[j]? = some (.box e cs) → AV.NmL (· ∈ A0 ++ idsC σ A0) cs := by
                intro j hj e' cs' hb
                by_cases hin : ∃ u ∈ us ++ [(id, Blk.fz (.cptr x))], u.1 = j
                · exfalso
                  have : ∀ (us : List (Nat × Blk)) (τ : Sto), (∀ u ∈ us, ∃ x, u.2 = .fz x) → (∃ u ∈ us, u.1 = j) → ∀ e cs, (upd us τ)[j]? ≠ some (.box e cs) := by
                    intro us
                    induction us with
                    | nil => intro τ _ ⟨u, hu, _⟩; cases hu
                    | cons u us ih =>
                      intro τ hf hex e cs hb
                      by_cases h' : ∃ u ∈ us, u.1 = j
                      · exact ih _ (fun v hv => hf v (by simp [hv])) h' e cs hb
                      · have hb' : (upd us (τ.set u.1 u.2))[j]? = some (.box e cs) := hb
                        rw [upd_other us _ j fun v hv e => h' ⟨v, hv, e⟩] at hb'
                        obtain ⟨v, hv, rfl⟩ := hex
                        rcases List.mem_cons.1 hv with rfl | hv
                        · rw [List.getElem?_set] at hb'
                          simp only [if_true] at hb'
                          obtain ⟨x, hx⟩ := hf v (by simp)
                          rw [hx] at hb'
                          split at hb' <;> cases hb'
                        · exact h' ⟨v, hv, rfl⟩
                  exact this _ τ (fun u hu => (hz u hu).2.2) hin e' cs' hb
                · rw [upd_other _ _ _ fun u hu e => hin ⟨u, hu, e⟩] at hb
                  exact hc j hj e' cs' hb
              rw [show (upd us τ).set id (.fz (.cptr x)) = upd (us ++ [(id, Blk.fz (.cptr x))]) τ from (upd_app us [(id, Blk.fz (.cptr x))] τ).symm] at h11
              obtain ⟨xs, vs, h12, h13, h14⟩ := ih _ _ hn.2 hc' h11
              refine ⟨_, (us ++ [(id, Blk.fz (.cptr x))]) ++ vs, by rw [upd_app]; exact h12, hz.app h13, fun σ' K' hs hk => ?_⟩
              have h19 := hs id _ hi' h1
              refine nthK_mk _ _ _ _ h19 (h4 σ' _ hs (h6 _ (h9 σ' _ hs (setK_mk _ _ _ _ (by rw [upd_len]; exact (List.getElem?_eq_some_iff.1 h19).1) ?_))))
              rw [show (upd us σ').set id (.fz (.cptr x)) = upd (us ++ [(id, Blk.fz (.cptr x))]) σ' from (upd_app us [(id, Blk.fz (.cptr x))] σ').symm]
              exact h14 _ _ (sub_upd hs _) (by rw [← upd_app]; exact hk)
          | fz x =>
            cases off with
            | succ o => exact h2.elim
            | zero =>
              cases x with
              | cptr y =>
                obtain ⟨xs, vs, h12, h13, h14⟩ := ih τ _ hn.2 hc h2
                exact ⟨_, vs, h12, h13, fun σ' K' hs hk => nthK_mk _ _ _ _ (hs id _ hi' h1) (h14 σ' _ hs hk)⟩
              | _ => exact h2.elim
          | _ => exact h2.elim
        | pv x =>
          cases x with
          | cptr y =>
            obtain ⟨xs, vs, h12, h13, h14⟩ := ih τ _ hn.2 hc h
            exact ⟨_, vs, h12, h13, fun σ' K' hs hk => h14 σ' _ hs hk⟩
          | _ => exact h.elim
        | _ => exact h.elim
    obtain ⟨xs, us, g1, g2, g3⟩ := hbox _ _ _ hA0 (fun j hj e cs hcs => idsC_nm (P := (· ∈ A0 ++ idsC σ A0)) (fun i hi => List.mem_append.2 (.inr hi)) j hj e cs hcs) h
    rw [hreach]
    refine ⟨.pv (.clo f xs), false, us, [], fun _ => rfl, by rw [List.append_nil]; exact g1, fun u hu => ⟨rfl, (g2 u hu).1, (g2 u hu).2.1⟩, fun Q _ _ => ⟨fun u hu => ?_, fun b hb => (by cases hb)⟩, fun σ' K' hs hk => ?_⟩
    · obtain ⟨_, _, x, hx⟩ := g2 u hu; rw [hx]; trivial
    · rw [List.append_nil] at hk; exact g3 σ' _ hs hk
  | call f l =>
    have hdt : (Γ f).dt = true := hk
    have hfn : (Γ f).fn = false := by
      cases hf : (Γ f).fn with
      | true => exact absurd (show (PK.call f l).pure Γ = true from hf) hp
      | false => rfl
    obtain ⟨hmu, hdet⟩ := (Γ f).hdt hdt
    have hl : AV.NmL (· ∈ (PK.call f l).reach env σ) (l.map (evF env)) := evFs_nm fun t ht => hr t ht
    simp only [evK, evs_eq, callK, hmu] at h ⊢
    obtain ⟨ps, h1, h2⟩ := rd_avs hl h
    cases hlo : (Γ f).lone with
    | true =>
      simp only [hlo] at h1
      obtain ⟨r, h3, h4⟩ := hdet _ _ h1
      obtain ⟨v, bs, g1, g2, g3, g4⟩ := tk_eff r σ K h3
      refine ⟨v, true, [], bs, fun h => (by cases h), g1, fun u hu => (by cases hu), fun Q _ _ => ⟨fun u hu => (by cases hu), fun b hb => g2 b hb Q⟩, fun σ' K' hs hk => h2 σ' _ hs ?_⟩
      exact h4 _ (g4 σ' K' hk)
    | false =>
      simp only [hlo] at h1
      obtain ⟨us, e1, e2, e3⟩ := frzs_eff _ _ _ hl h1
      obtain ⟨r, h3, h4⟩ := hdet _ _ e1
      obtain ⟨v, bs, g1, g2, g3, g4⟩ := tk_eff r _ K h3
      rw [upd_len] at g4
      refine ⟨v, true, us, bs, fun h => (by cases h), g1, fun u hu => ⟨by simp [PK.turns, hfn, hlo], (e2 u hu).1, (e2 u hu).2.1⟩, fun Q _ _ => ⟨fun u hu => ?_, fun b hb => g2 b hb Q⟩, fun σ' K' hs hk => h2 σ' _ hs ?_⟩
      · obtain ⟨_, _, x, hx⟩ := e2 u hu; rw [hx]; trivial
      · exact e3 σ' _ hs (h4 _ (g4 _ K' (by rw [upd_len]; exact hk)))
  | _ => cases hk

/-- The same with its guard. -/
theorem step_eff (hΓ : Sound P Γ) {o : PO} (hk : o.k.dk Γ = true) {K : Env → Sto → Prop} (h : stepO Γ o env σ K) :
    ∃ (v : AV) (sh : Bool) (us : List (Nat × Blk)) (ps : List Blk), (sh = false → ps = []) ∧ K (put o.dst v env) (upd us σ ++ ps) ∧ (∀ u ∈ us, o.k.turns Γ = true ∧ u.1 ∈ o.k.reach env σ ∧ u.1 < σ.length) ∧
      (∀ Q : Nat → Prop, (∀ t ∈ o.reads, (lookF t env).Nm Q) → (∀ j b, j ∈ o.k.reach env σ → σ[j]? = some b → b.Nm Q) → (∀ u ∈ us, u.2.Nm Q) ∧ ∀ b ∈ ps, b.Nm Q) ∧
      ∀ (env' : Env) (σ' : Sto) (K' : Env → Sto → Prop), (∀ t ∈ o.reads, lookF t env' = lookF t env) → Sub (· ∈ o.k.reach env σ) σ σ' → K' (put o.dst (shv sh σ.length σ'.length v) env') (upd us σ' ++ ps) → stepO Γ o env' σ' K' := by
  obtain ⟨d, g, k⟩ := o
  have run : evK Γ env σ k (fun v σ => K (put d v env) σ) → ∃ (v : AV) (sh : Bool) (us : List (Nat × Blk)) (ps : List Blk), (sh = false → ps = []) ∧ K (put d v env) (upd us σ ++ ps) ∧ (∀ u ∈ us, k.turns Γ = true ∧ u.1 ∈ k.reach env σ ∧ u.1 < σ.length) ∧
      (∀ Q : Nat → Prop, (∀ t ∈ k.reads, (lookF t env).Nm Q) → (∀ j b, j ∈ k.reach env σ → σ[j]? = some b → b.Nm Q) → (∀ u ∈ us, u.2.Nm Q) ∧ ∀ b ∈ ps, b.Nm Q) ∧
      ∀ (env' : Env) (σ' : Sto) (K' : Env → Sto → Prop), (∀ t ∈ k.reads, lookF t env' = lookF t env) → Sub (· ∈ k.reach env σ) σ σ' → K' (put d (shv sh σ.length σ'.length v) env') (upd us σ' ++ ps) → evK Γ env' σ' k (fun v σ => K' (put d v env') σ) := by
    intro h
    obtain ⟨v, sh, us, ps, h0, h1, h2, h3, h4⟩ := op_eff hΓ hk h
    refine ⟨v, sh, us, ps, h0, h1, h2, h3, fun env' σ' K' hr hs hk => ?_⟩
    rw [evK_congr hr]
    exact h4 σ' _ hs hk
  have off : K (put d (.pv (.tup [])) env) σ → (∀ (env' : Env) (σ' : Sto) (K' : Env → Sto → Prop), (∀ t ∈ PO.reads ⟨d, g, k⟩, lookF t env' = lookF t env) → K' (put d (.pv (.tup [])) env') σ' → stepO Γ ⟨d, g, k⟩ env' σ' K') →
      ∃ (v : AV) (sh : Bool) (us : List (Nat × Blk)) (ps : List Blk), (sh = false → ps = []) ∧ K (put d v env) (upd us σ ++ ps) ∧ (∀ u ∈ us, k.turns Γ = true ∧ u.1 ∈ k.reach env σ ∧ u.1 < σ.length) ∧
      (∀ Q : Nat → Prop, (∀ t ∈ PO.reads ⟨d, g, k⟩, (lookF t env).Nm Q) → (∀ j b, j ∈ k.reach env σ → σ[j]? = some b → b.Nm Q) → (∀ u ∈ us, u.2.Nm Q) ∧ ∀ b ∈ ps, b.Nm Q) ∧
      ∀ (env' : Env) (σ' : Sto) (K' : Env → Sto → Prop), (∀ t ∈ PO.reads ⟨d, g, k⟩, lookF t env' = lookF t env) → Sub (· ∈ k.reach env σ) σ σ' → K' (put d (shv sh σ.length σ'.length v) env') (upd us σ' ++ ps) → stepO Γ ⟨d, g, k⟩ env' σ' K' := by
    intro h1 h2
    exact ⟨_, false, [], [], fun _ => rfl, by rw [List.append_nil]; exact h1, fun u hu => (by cases hu), fun Q _ _ => ⟨fun u hu => (by cases hu), fun b hb => (by cases hb)⟩, fun env' σ' K' hr _ hk => h2 env' σ' K' hr (by rw [List.append_nil] at hk; exact hk)⟩
  cases g with
  | none =>
    obtain ⟨v, sh, us, ps, h0, h1, h2, h3, h4⟩ := run h
    exact ⟨v, sh, us, ps, h0, h1, h2, fun Q hQ => h3 Q fun t ht => hQ t (by simp [PO.reads, ht]), fun env' σ' K' hr hs hk => h4 env' σ' K' (fun t ht => hr t (by simp [PO.reads, ht])) hs hk⟩
  | some p =>
    obtain ⟨g, want⟩ := p
    unfold stepO at h
    simp only at h
    have hg : ∀ env' : Env, (∀ t ∈ PO.reads ⟨d, some (g, want), k⟩, lookF t env' = lookF t env) → lookF g env' = lookF g env := fun env' hr => hr g (by simp [PO.reads])
    cases hv : lookF g env with
    | pv x =>
      rw [hv] at h
      cases x with
      | bool b =>
        simp only at h
        cases hb : (b == want) with
        | true =>
          rw [hb] at h
          obtain ⟨v, sh, us, ps, h0, h1, h2, h3, h4⟩ := run h
          refine ⟨v, sh, us, ps, h0, h1, h2, fun Q hQ => h3 Q fun t ht => hQ t (by simp [PO.reads, ht]), fun env' σ' K' hr hs hk => ?_⟩
          unfold stepO
          simp only [hg env' hr, hv, hb]
          exact h4 env' σ' K' (fun t ht => hr t (by simp [PO.reads, ht])) hs hk
        | false =>
          rw [hb] at h
          refine off h fun env' σ' K' hr hk => ?_
          unfold stepO
          simp only [hg env' hr, hv, hb]
          exact hk
      | tup l =>
        refine off h fun env' σ' K' hr hk => ?_
        unfold stepO
        simp only [hg env' hr, hv]
        exact hk
      | _ => exact h.elim
    | _ => rw [hv] at h; exact h.elim

theorem stepV_eq (o : PO) (K : Env → Sto → Prop) : stepV Γ o env σ K = stepO Γ o env σ K := by
  obtain ⟨d, g, k⟩ := o
  cases g with
  | none => rfl
  | some p =>
    obtain ⟨g, want⟩ := p
    unfold stepO
    refine Eq.trans (look_eq g (fun gv => match gv with
      | .pv x => match x with
        | .bool b => match b with
          | true => (match want with
            | true => evK Γ env σ k fun v σ => K (put d v env) σ
            | false => K (put d (.pv (.tup [])) env) σ)
          | false => (match want with
            | false => evK Γ env σ k fun v σ => K (put d v env) σ
            | true => K (put d (.pv (.tup [])) env) σ)
        | .tup _ => K (put d (.pv (.tup [])) env) σ
        | _ => False
      | _ => False) env) ?_
    simp only
    cases lookF g env with
    | pv x => cases x with
      | bool b => cases b <;> cases want <;> rfl
      | _ => rfl
    | _ => rfl

/-! ### The path in the text's order -/
structure Rc where
  v : AV
  sh : Bool
  us : List (Nat × Blk)
  ps : List Blk

/-- One step of the path. -/
structure Stp (Γ : Ctx) (o : PO) (env : Env) (σ : Sto) (c : Rc) (env' : Env) (σ' : Sto) : Prop where
  hsh : c.sh = false → c.ps = []
  he : env' = put o.dst c.v env
  hs : σ' = upd c.us σ ++ c.ps
  hu : ∀ u ∈ c.us, o.k.turns Γ = true ∧ u.1 ∈ o.k.reach env σ ∧ u.1 < σ.length
  nam : ∀ Q : Nat → Prop, (∀ t ∈ o.reads, (lookF t env).Nm Q) → (∀ j b, j ∈ o.k.reach env σ → σ[j]? = some b → b.Nm Q) → (∀ u ∈ c.us, u.2.Nm Q) ∧ ∀ b ∈ c.ps, b.Nm Q
  run : ∀ (env' : Env) (σ' : Sto) (K' : Env → Sto → Prop), (∀ t ∈ o.reads, lookF t env' = lookF t env) → Sub (· ∈ o.k.reach env σ) σ σ' → K' (put o.dst (shv c.sh σ.length σ'.length c.v) env') (upd c.us σ' ++ c.ps) → stepO Γ o env' σ' K'

noncomputable def entry (o : PO) (env : Env) (σ : Sto) (env' : Env) (σ' : Sto) : Lg := (σ'.length, o.k.reach env σ, (match o.dst with | some d => (getE d env').ids | none => []))

theorem vcD_path (hΓ : Sound P Γ) {K : List Lg → Env → Sto → Prop} (d : PO) : ∀ (ops : List PO) (log : List Lg) (env : Env) (σ : Sto), (∀ o ∈ ops, o.k.dk Γ = true) → vcD Γ K ops log env σ →
    ∃ (E : Nat → Env) (S : Nat → Sto) (R : Nat → Rc), E 0 = env ∧ S 0 = σ ∧ K (((List.range ops.length).map fun i => entry (ops.getD i d) (E i) (S i) (E (i + 1)) (S (i + 1))).reverse ++ log) (E ops.length) (S ops.length) ∧
      ∀ i, i < ops.length → Stp Γ (ops.getD i d) (E i) (S i) (R i) (E (i + 1)) (S (i + 1)) := by
  intro ops
  induction ops with
  | nil => intro log env σ _ h; exact ⟨fun _ => env, fun _ => σ, fun _ => ⟨.bad, false, [], []⟩, rfl, rfl, h, fun i hi => by simp at hi⟩
  | cons o ops ih =>
    intro log env σ hd h
    have h' : stepO Γ o env σ fun env' σ' => vcD Γ K ops ((σ'.length, o.k.reach env σ, (match o.dst with | some d => (getE d env').ids | none => [])) :: log) env' σ' := by
      rw [← stepV_eq]; exact h
    obtain ⟨v, sh, us, ps, h0, h1, h2, h3, h4⟩ := step_eff hΓ (hd o (by simp)) h'
    obtain ⟨E, S, R, e1, e2, e3, e4⟩ := ih _ _ _ (fun x hx => hd x (by simp [hx])) h1
    refine ⟨fun i => match i with | 0 => env | i + 1 => E i, fun i => match i with | 0 => σ | i + 1 => S i, fun i => match i with | 0 => ⟨v, sh, us, ps⟩ | i + 1 => R i, rfl, rfl, ?_, fun i hi => ?_⟩
    · simp only [List.length_cons]
      rw [List.range_succ_eq_map, List.map_cons, List.map_map, List.reverse_cons, List.append_assoc]
      simp only [List.getD_cons_zero, e1, e2]
      exact e3
    · cases i with
      | zero => simp only [List.getD_cons_zero]; exact ⟨h0, e1, e2, h2, h3, h4⟩
      | succ i => simp only [List.getD_cons_succ]; exact e4 i (by simpa using hi)
end
end Go.Dv
end
section
/-
  Regions in any order whose operations put entries into the store, or turn them: each order comes to what the text's order comes to.
-/
set_option linter.unusedSimpArgs false
namespace Go.Dv
open Go.RowKit
section
variable {cx : Cx} {env : Env} {σ : Sto} {vals : List Value} {a : Act} {w w' : World} {n : Nat} {Γ : Ctx} {ops : Array Oper}

theorem rel_deads (hr : Rel cx env σ vals a w) (k : Nat) : ∃ vals', Rel cx env (σ ++ List.replicate k .dead) vals' a w := by
  obtain ⟨h1, h2⟩ := hr.s.pushes (Below.refl _ w) (List.replicate k .dead) (List.replicate k (.bool false)) (by simp) (by intro u hu; rw [List.eq_of_mem_replicate hu]; rfl) (by intro u hu b hb; rw [List.eq_of_mem_replicate hu] at hb; cases hb)
    (by intro i j u t b _ hu _ hb; rw [List.eq_of_mem_replicate (List.mem_of_getElem? hu)] at hb; cases hb)
    (by intro _ i s u hs hu; rw [List.eq_of_mem_replicate (List.mem_of_getElem? hs)]; trivial)
  exact ⟨_, h1, fun p => h2.ra _ _ (hr.env p), hr.defers, fun x v hq => h2.ra _ _ (hr.gh x v hq), hr.lo⟩

/-- The numbers that entries have while those from N on stand at b. -/
def turnL (N b k : Nat) : List Nat := (List.range N).map fun j => if j < b then j else if j < b + k then N + (j - b) else j
theorem turnL_get {N b k j : Nat} (h : j < N) : (turnL N b k)[j]? = some (if j < b then j else if j < b + k then N + (j - b) else j) := by
  unfold turnL
  rw [List.getElem?_map, List.getElem?_range h]; rfl
theorem turnL_len (N b k : Nat) : (turnL N b k).length = N := by simp [turnL]
theorem turnL_nodup {N b k : Nat} (h : b + k ≤ N) : (turnL N b k).Nodup := by
  unfold turnL
  unfold List.Nodup
  rw [List.pairwise_map]
  refine List.Pairwise.imp_of_mem (fun {x y} hx hy hxy => ?_) List.nodup_range
  have hx := List.mem_range.1 hx
  have hy := List.mem_range.1 hy
  have hxy : x ≠ y := hxy
  show (if x < b then x else if x < b + k then N + (x - b) else x) ≠ (if y < b then y else if y < b + k then N + (y - b) else y)
  (repeat' split) <;> omega

theorem reloc {ps : List Blk} {env2 : Env} {N b : Nat} (hr : Rel cx env (σ ++ ps) vals a w) (hN : σ.length = N) (hb : b + ps.length ≤ N) (hp : ∀ j, j < cx.pinS.length ∨ j < cx.pinV.length → j < b)
    (henv : ∀ t, Ren (turnL N b ps.length) (lookF t env) (lookF t env2)) (hσ : ∀ s ∈ σ, s.Nm fun i => i < N ∧ ¬ (b ≤ i ∧ i < b + ps.length)) (hps : ∀ s ∈ ps, s.Nm fun i => i < N ∧ ¬ (b ≤ i ∧ i < b + ps.length))
    (hgh : ∀ x v, cx.gh x v → x.Nm fun i => i < N ∧ ¬ (b ≤ i ∧ i < b + ps.length)) :
    ∃ vals', Rel cx env2 (σ.take b ++ ps ++ σ.drop (b + ps.length)) vals' a w := by
  have len2 : (σ.take b ++ ps ++ σ.drop (b + ps.length)).length = N := by simp; omega
  have keepr : ∀ i, (i < N ∧ ¬ (b ≤ i ∧ i < b + ps.length)) → (turnL N b ps.length)[i]? = some i := by
    intro i hi
    rw [turnL_get hi.1]
    by_cases h : i < b
    · rw [if_pos h]
    · rw [if_neg h, if_neg (by omega)]
  have h2 : ∀ (j i : Nat), (turnL N b ps.length)[j]? = some i → ∃ s t, (σ ++ ps)[i]? = some s ∧ (σ.take b ++ ps ++ σ.drop (b + ps.length))[j]? = some t ∧ RenB (turnL N b ps.length) s t := by
    intro j i hj
    have hlt : j < N := by rw [← turnL_len N b ps.length]; exact (List.getElem?_eq_some_iff.1 hj).1
    rw [turnL_get hlt] at hj
    injection hj with hj
    by_cases h : j < b
    · rw [if_pos h] at hj; subst hj
      have h1 : σ[j]? = some σ[j] := List.getElem?_eq_getElem (by omega)
      refine ⟨σ[j], σ[j], by rw [List.getElem?_append_left (by omega)]; exact h1, ?_, renB_self _ (Blk.Nm_mono keepr _ (hσ _ (List.mem_of_getElem? h1)))⟩
      rw [List.getElem?_append_left (by simp; omega), List.getElem?_append_left (by simp; omega), List.getElem?_take, if_pos h]; exact h1
    · rw [if_neg h] at hj
      by_cases h' : j < b + ps.length
      · rw [if_pos h'] at hj; subst hj
        have h1 : ps[j - b]? = some ps[j - b] := List.getElem?_eq_getElem (by omega)
        refine ⟨ps[j - b], ps[j - b], ?_, ?_, renB_self _ (Blk.Nm_mono keepr _ (hps _ (List.mem_of_getElem? h1)))⟩
        · rw [List.getElem?_append_right (by omega), show N + (j - b) - σ.length = j - b by omega]; exact h1
        · rw [List.getElem?_append_left (by simp; omega), List.getElem?_append_right (by simp; omega)]
          rw [show j - (σ.take b).length = j - b by simp; omega]; exact h1
      · rw [if_neg h'] at hj; subst hj
        have h1 : σ[j]? = some σ[j] := List.getElem?_eq_getElem (by omega)
        refine ⟨σ[j], σ[j], by rw [List.getElem?_append_left (by omega)]; exact h1, ?_, renB_self _ (Blk.Nm_mono keepr _ (hσ _ (List.mem_of_getElem? h1)))⟩
        rw [List.getElem?_append_right (by simp; omega), List.getElem?_drop]
        rw [show b + ps.length + (j - (σ.take b ++ ps).length) = j by simp; omega]; exact h1
  obtain ⟨vals', hA, hs', hok⟩ := ren_relP (r := turnL N b ps.length) (fun j hj => by have := hp j hj; rw [turnL_get (by omega), if_pos this]) (turnL_nodup hb) (by rw [turnL_len]; exact len2) h2 hr.s
  exact ⟨vals', hs', fun p => Ren.ra hA hok _ _ _ (henv p) (hr.env p), hr.defers, fun x v hq => Ren.ra hA hok _ _ _ (ren_self x (Nm_mono keepr x (hgh x v hq))) (hr.gh x v hq), hr.lo⟩

/-- A region in any order, its path in the text's order, and what is known of any two operations without an order. -/
structure DynD (Γ : Ctx) (ops : Array Oper) (f : Nat → PO) (aft bs : Nat → List Nat) (E : Nat → Env) (S : Nat → Sto) (R : Nat → Rc) : Prop where
  fore : ∀ (i : Nat) (o : Oper), ops[i]? = some o → ∀ j ∈ aft i, ∃ e ∈ o.after, Region.binds .any e = true ∧ e.on = j
  back : ∀ (i : Nat) (o : Oper), ops[i]? = some o → ∀ e ∈ o.after, Region.binds .any e = true → e.on ∈ aft i
  lt : ∀ i, i < ops.size → ∀ j ∈ aft i, j < i
  bef : ∀ i, i < ops.size → ∀ j ∈ bs i, j ∈ aft i ∨ ∃ e ∈ aft i, j ∈ bs e
  stp : ∀ i, i < ops.size → Stp Γ (f i) (E i) (S i) (R i) (E (i + 1)) (S (i + 1))
  low : ∀ i, i < ops.size → ∀ d, (f i).dst = some d → ∀ x ∈ (R i).v.ids, x < (S (i + 1)).length
  chk : ∀ i j, i < ops.size → j < i → j ∈ bs i ∨ (clash (f j) (f i) = false ∧
    (∀ x ∈ (f i).k.reach (E i) (S i), ¬ ((f j).k.turns Γ = true ∧ x ∈ (f j).k.reach (E j) (S j)) ∧ ¬ ((S j).length ≤ x ∧ x < (S (j + 1)).length)) ∧
    (∀ x ∈ (f j).k.reach (E j) (S j), ¬ ((f i).k.turns Γ = true ∧ x ∈ (f i).k.reach (E i) (S i)) ∧ ¬ ((S i).length ≤ x ∧ x < (S (i + 1)).length)) ∧
    ∀ d, (f i).dst = some d → ∀ x ∈ (R i).v.ids, ¬ ((S j).length ≤ x ∧ x < (S (j + 1)).length))

section dyn
variable {f : Nat → PO} {aft bs : Nat → List Nat} {E : Nat → Env} {S : Nat → Sto} {R : Nat → Rc}

theorem DynD.slen (hD : DynD Γ ops f aft bs E S R) {i : Nat} (hi : i < ops.size) : (S (i + 1)).length = (S i).length + (R i).ps.length := by
  rw [(hD.stp i hi).hs, List.length_append, upd_len]
theorem DynD.smono (hD : DynD Γ ops f aft bs E S R) {i : Nat} : ∀ k, i + k ≤ ops.size → (S i).length ≤ (S (i + k)).length := by
  intro k
  induction k with
  | zero => intro _; exact Nat.le_refl _
  | succ k ih =>
    intro h
    have := hD.slen (i := i + k) (by omega)
    have := ih (by omega)
    show _ ≤ (S (i + k + 1)).length
    omega

/-- What an operation turns or makes. -/
def DynD.M (_ : DynD Γ ops f aft bs E S R) (i x : Nat) : Prop := ((f i).k.turns Γ = true ∧ x ∈ (f i).k.reach (E i) (S i)) ∨ ((S i).length ≤ x ∧ x < (S (i + 1)).length)

theorem DynD.env_stage (hD : DynD Γ ops f aft bs E S R) (t : Nat) {m : Nat} : ∀ k, m + k ≤ ops.size → (∀ p, m ≤ p → p < m + k → (f p).dst ≠ some t) → lookF t (E (m + k)) = lookF t (E m) := by
  intro k
  induction k with
  | zero => intro _ _; rfl
  | succ k ih =>
    intro h hp
    show lookF t (E (m + k + 1)) = _
    rw [(hD.stp (m + k) (by omega)).he]
    have h1 := hp (m + k) (by omega) (by omega)
    rw [← ih (by omega) fun p h2 h3 => hp p h2 (by omega)]
    cases hd : (f (m + k)).dst with
    | none => rfl
    | some d =>
      rw [lookF_put, nbeq (fun e => h1 (by rw [hd, e]))]; rfl

theorem DynD.sto_step (hD : DynD Γ ops f aft bs E S R) {i j : Nat} (hi : i < ops.size) (hj : ¬ hD.M i j) : ((S (i + 1))[j]?).getD .dead = ((S i)[j]?).getD .dead := by
  have hl := hD.slen hi
  unfold DynD.M at hj
  rw [(hD.stp i hi).hs]
  by_cases h : j < (S i).length
  · rw [List.getElem?_append_left (by rw [upd_len]; exact h), upd_other]
    intro u hu e
    obtain ⟨h1, h2, _⟩ := (hD.stp i hi).hu u hu
    exact hj (.inl ⟨h1, e ▸ h2⟩)
  · rw [List.getElem?_eq_none (by rw [List.length_append, upd_len]; omega), List.getElem?_eq_none (by omega)]
theorem DynD.sto_stage (hD : DynD Γ ops f aft bs E S R) (j : Nat) {m : Nat} : ∀ k, m + k ≤ ops.size → (∀ p, m ≤ p → p < m + k → ¬ hD.M p j) → ((S (m + k))[j]?).getD .dead = ((S m)[j]?).getD .dead := by
  intro k
  induction k with
  | zero => intro _ _; rfl
  | succ k ih =>
    intro h hp
    rw [← ih (by omega) fun p h2 h3 => hp p h2 (by omega)]
    exact hD.sto_step (i := m + k) (by omega) (hp _ (by omega) (by omega))
/-- What holds while such a region runs, those of 'l' having run. -/
structure Ivt (hD : DynD Γ ops f aft bs E S R) (l : Nat → Bool) (env : Env) (σ : Sto) : Prop where
  len : σ.length = (S ops.size).length
  slot : ∀ t m, m ≤ ops.size → (∀ p, p < ops.size → (f p).dst = some t → (p < m ↔ l p = true)) → lookF t env = lookF t (E m)
  ent : ∀ j m, j < (S ops.size).length → m ≤ ops.size → (∀ p, p < ops.size → hD.M p j → (p < m ↔ l p = true)) → σ[j]? = some (((S m)[j]?).getD .dead)
  nme : ∀ t, (lookF t env).Nm fun x => x < (S ops.size).length ∧ ∀ p, p < ops.size → l p = false → ¬ ((S p).length ≤ x ∧ x < (S (p + 1)).length)
  nms : ∀ b ∈ σ, b.Nm fun x => x < (S ops.size).length ∧ ∀ p, p < ops.size → l p = false → ¬ ((S p).length ≤ x ∧ x < (S (p + 1)).length)

theorem Ivt.step {hD : DynD Γ ops f aft bs E S R} {l l' : Nat → Bool} (h : Ivt hD l env σ) {i : Nat} (hi : i < ops.size) (hli : l i = false) (hbef : ∀ j ∈ bs i, l j = true) (hcl : ∀ p, p < ops.size → l p = true → ∀ j ∈ bs p, l j = true)
    (hl1 : l' i = true) (hl2 : ∀ p, p ≠ i → l' p = l p) (hpin : ∀ j, j < cx.pinS.length ∨ j < cx.pinV.length → j < (S 0).length) (hgh : ∀ x v, cx.gh x v → x.Nm fun i => i < (S 0).length) :
    (∀ t ∈ (f i).reads, lookF t env = lookF t (E i)) ∧ Sub (· ∈ (f i).k.reach (E i) (S i)) (S i) σ ∧
    ∀ vals a w, Rel cx (put (f i).dst (shv (R i).sh (S i).length σ.length (R i).v) env) (upd (R i).us σ ++ (R i).ps) vals a w → ∃ env' σ' vals', Rel cx env' σ' vals' a w ∧ Ivt hD l' env' σ' := by
  have hst := hD.stp i hi
  have hlen1 := hD.slen hi
  have hm1 : (S (i + 1)).length ≤ (S ops.size).length := by have := hD.smono (i := i + 1) (ops.size - (i + 1)) (by omega); rwa [show i + 1 + (ops.size - (i + 1)) = ops.size by omega] at this
  have hm0 : (S 0).length ≤ (S i).length := by have := hD.smono (i := 0) i (by omega); rwa [Nat.zero_add] at this
  have later : ∀ p, p < ops.size → i < p → l p = true → i ∉ bs p := fun p hp _ hlp hb => by have := hcl p hp hlp i hb; rw [hli] at this; cases this
  have reads : ∀ t ∈ (f i).reads, lookF t env = lookF t (E i) := by
    intro t ht
    refine h.slot t i (Nat.le_of_lt hi) fun p hp hd => ⟨fun hlt => ?_, fun hlp => ?_⟩
    · rcases hD.chk i p hi hlt with hb | ⟨hc, _⟩
      · exact hbef p hb
      · exact absurd ht ((clash_spec hc).1 t hd).1
    · rcases Nat.lt_trichotomy p i with h1 | h1 | h1
      · exact h1
      · subst h1; rw [hli] at hlp; cases hlp
      · rcases hD.chk p i hp h1 with hb | ⟨hc, _⟩
        · exact absurd hb (later p hp h1 hlp)
        · exact absurd ht ((clash_spec hc).2 t hd)
  have ent0 : ∀ j ∈ (f i).k.reach (E i) (S i), j < (S ops.size).length → σ[j]? = some (((S i)[j]?).getD .dead) := by
    intro j hj hjN
    refine h.ent j i hjN (Nat.le_of_lt hi) fun p hp hM => ⟨fun hlt => ?_, fun hlp => ?_⟩
    · rcases hD.chk i p hi hlt with hb | ⟨_, hc, _⟩
      · exact hbef p hb
      · exact absurd hM (by unfold DynD.M; rintro (hM | hM); exact (hc j hj).1 hM; exact (hc j hj).2 hM)
    · rcases Nat.lt_trichotomy p i with h1 | h1 | h1
      · exact h1
      · subst h1; rw [hli] at hlp; cases hlp
      · rcases hD.chk p i hp h1 with hb | ⟨_, _, hc, _⟩
        · exact absurd hb (later p hp h1 hlp)
        · exact absurd hM (by unfold DynD.M; rintro (hM | hM); exact (hc j hj).1 hM; exact (hc j hj).2 hM)
  have sub : Sub (· ∈ (f i).k.reach (E i) (S i)) (S i) σ := by
    intro j b hj hb
    have hlt := (List.getElem?_eq_some_iff.1 hb).1
    rw [ent0 j hj (by omega), hb]; rfl
  refine ⟨reads, sub, fun vals a w hr => ?_⟩
  rw [h.len] at hr
  have keep : ∀ x, (x < (S ops.size).length ∧ ∀ p, p < ops.size → l p = false → ¬ ((S p).length ≤ x ∧ x < (S (p + 1)).length)) → x < (S ops.size).length ∧ ¬ ((S i).length ≤ x ∧ x < (S i).length + (R i).ps.length) := fun x hx => ⟨hx.1, by rw [← hlen1]; exact hx.2 i hi hli⟩
  have hnam := hst.nam (fun x => x < (S ops.size).length ∧ ∀ p, p < ops.size → l p = false → ¬ ((S p).length ≤ x ∧ x < (S (p + 1)).length)) (fun t ht => by rw [← reads t ht]; exact h.nme t) (fun j b hj hb => h.nms b (List.mem_of_getElem? (sub j b hj hb)))
  have hupd := upd_nm (R i).us σ hnam.1 h.nms
  have hren : ∀ t, Ren (turnL (S ops.size).length (S i).length (R i).ps.length) (lookF t (put (f i).dst (shv (R i).sh (S i).length (S ops.size).length (R i).v) env)) (lookF t (put (f i).dst (R i).v env)) := by
    have keepr : ∀ x, (x < (S ops.size).length ∧ ∀ p, p < ops.size → l p = false → ¬ ((S p).length ≤ x ∧ x < (S (p + 1)).length)) → (turnL (S ops.size).length (S i).length (R i).ps.length)[x]? = some x := by
      intro x hx
      have hx := keep x hx
      rw [turnL_get hx.1]
      by_cases h1 : x < (S i).length
      · rw [if_pos h1]
      · rw [if_neg h1, if_neg (by omega)]
    intro t
    cases hd : (f i).dst with
    | none => exact ren_self _ (Nm_mono keepr _ (h.nme t))
    | some d =>
      rw [lookF_put, lookF_put]
      cases hdt : Nat.beq d t with
      | false => exact ren_self _ (Nm_mono keepr _ (h.nme t))
      | true =>
        show Ren _ (shv _ _ _ _) _
        have hids := hD.low i hi d hd
        cases hsh : (R i).sh with
        | true =>
          refine ren_ofs _ ((Nm_ids _).2 fun x hx => ?_)
          have hx := hids x hx
          rw [turnL_get (by omega)]
          unfold shf
          by_cases h1 : x < (S i).length
          · rw [if_pos h1, if_pos h1]
          · rw [if_neg h1, if_neg h1, if_pos (by omega), Nat.add_comm]
        | false =>
          have hps := hst.hsh hsh
          refine ren_self _ ((Nm_ids _).2 fun x hx => ?_)
          have hx := hids x hx
          rw [hlen1, hps] at hx
          simp only [List.length_nil, Nat.add_zero] at hx
          rw [turnL_get (by omega), if_pos hx]
  obtain ⟨vals', hr'⟩ := reloc (σ := upd (R i).us σ) (N := (S ops.size).length) (b := (S i).length) hr (by rw [upd_len, h.len]) (by omega) (fun j hj => by have := hpin j hj; omega) hren
    (fun s hs => Blk.Nm_mono keep _ (hupd s hs)) (fun s hs => Blk.Nm_mono keep _ (hnam.2 s hs)) (fun x v hq => Nm_mono (fun y hy => ⟨by omega, by omega⟩) _ (hgh x v hq))
  refine ⟨_, _, vals', hr', ?_⟩
  have hul : (upd (R i).us σ).length = (S ops.size).length := by rw [upd_len, h.len]
  have weak : ∀ x, (x < (S ops.size).length ∧ ∀ p, p < ops.size → l p = false → ¬ ((S p).length ≤ x ∧ x < (S (p + 1)).length)) → x < (S ops.size).length ∧ ∀ p, p < ops.size → l' p = false → ¬ ((S p).length ≤ x ∧ x < (S (p + 1)).length) := by
    intro x hx
    refine ⟨hx.1, fun p hp hlp => hx.2 p hp ?_⟩
    by_cases hpi : p = i
    · subst hpi; rw [hl1] at hlp; cases hlp
    · rw [← hl2 p hpi]; exact hlp
  -- what lies at a place, after the step
  have get_new : ∀ j, (S i).length ≤ j → j < (S (i + 1)).length → ((upd (R i).us σ).take (S i).length ++ (R i).ps ++ (upd (R i).us σ).drop ((S i).length + (R i).ps.length))[j]? = (R i).ps[j - (S i).length]? := by
    intro j h1 h2
    rw [List.getElem?_append_left (by simp; omega), List.getElem?_append_right (by simp; omega)]
    congr 1
    simp; omega
  have get_old : ∀ j, ¬ ((S i).length ≤ j ∧ j < (S (i + 1)).length) → ((upd (R i).us σ).take (S i).length ++ (R i).ps ++ (upd (R i).us σ).drop ((S i).length + (R i).ps.length))[j]? = (upd (R i).us σ)[j]? := by
    intro j h1
    by_cases h2 : j < (S i).length
    · rw [List.getElem?_append_left (by simp; omega), List.getElem?_append_left (by simp; omega), List.getElem?_take, if_pos h2]
    · rw [List.getElem?_append_right (by simp; omega), List.getElem?_drop]
      congr 1
      simp; omega
  refine ⟨by simp; omega, fun t m hm hc => ?_, fun j m hj hm hc => ?_, fun t => ?_, fun b hb => ?_⟩
  · by_cases hd : (f i).dst = some t
    · have him : i < m := (hc i hi hd).2 hl1
      have e1 : lookF t (E m) = lookF t (E (i + 1)) := by
        have := hD.env_stage t (m := i + 1) (m - (i + 1)) (by omega) fun p h1 h2 hpd => ?_
        · rwa [show i + 1 + (m - (i + 1)) = m by omega] at this
        · have hp : p < ops.size := by omega
          have hlp : l p = true := by rw [← hl2 p (by omega)]; exact (hc p hp hpd).1 (by omega)
          rcases hD.chk p i hp (by omega) with hb | ⟨hcl', _⟩
          · exact later p hp (by omega) hlp hb
          · exact ((clash_spec hcl').1 t hd).2 hpd
      rw [e1, hst.he, hd, lookF_put, lookF_put]
      have : Nat.beq t t = true := Nat.beq_refl t
      rw [this]; rfl
    · have e1 : lookF t (put (f i).dst (R i).v env) = lookF t env := by
        cases hdd : (f i).dst with
        | none => rfl
        | some d => rw [lookF_put, nbeq (fun e => hd (by rw [hdd, e]))]; rfl
      rw [e1]
      refine h.slot t m hm fun p hp hpd => ?_
      rw [hc p hp hpd, hl2 p (fun e => hd (e ▸ hpd))]
  · by_cases hM : hD.M i j
    · have him : i < m := (hc i hi hM).2 hl1
      have e1 : ((S m)[j]?).getD .dead = ((S (i + 1))[j]?).getD .dead := by
        have := hD.sto_stage j (m := i + 1) (m - (i + 1)) (by omega) fun p h1 h2 hpM => ?_
        · rwa [show i + 1 + (m - (i + 1)) = m by omega] at this
        · have hp : p < ops.size := by omega
          have hlp : l p = true := by rw [← hl2 p (by omega)]; exact (hc p hp hpM).1 (by omega)
          have hmp : (S (i + 1)).length ≤ (S p).length := by have := hD.smono (i := i + 1) (p - (i + 1)) (by omega); rwa [show i + 1 + (p - (i + 1)) = p by omega] at this
          rcases hD.chk p i hp (by omega) with hb | ⟨_, c1, c2, _⟩
          · exact later p hp (by omega) hlp hb
          · unfold DynD.M at hM hpM
            rcases hM with hM | hM
            · rcases hpM with hpM | hpM
              · exact (c2 j hM.2).1 hpM
              · exact (c2 j hM.2).2 hpM
            · rcases hpM with hpM | hpM
              · exact (c1 j hpM.2).2 hM
              · omega
      rw [e1]
      by_cases hnw : (S i).length ≤ j ∧ j < (S (i + 1)).length
      · rw [get_new j hnw.1 hnw.2, hst.hs, List.getElem?_append_right (by rw [upd_len]; omega), upd_len, List.getElem?_eq_getElem (by omega)]
        rfl
      · rw [get_old j hnw]
        have hjA : j ∈ (f i).k.reach (E i) (S i) := by
          unfold DynD.M at hM
          rcases hM with hM | hM
          · exact hM.2
          · exact absurd hM hnw
        have h0 := ent0 j hjA hj
        by_cases hlt : j < (S i).length
        · have h1 : (upd (R i).us σ)[j]? = (upd (R i).us (S i))[j]? := upd_get _ _ _ _ (by rw [h0, List.getElem?_eq_getElem hlt]; rfl)
          rw [h1, hst.hs, List.getElem?_append_left (by rw [upd_len]; exact hlt), List.getElem?_eq_getElem (by rw [upd_len]; exact hlt)]
          rfl
        · rw [upd_other _ _ _ fun u hu e => by have := (hst.hu u hu).2.2; omega, h0, List.getElem?_eq_none (by omega), List.getElem?_eq_none (by omega)]
    · have hnw : ¬ ((S i).length ≤ j ∧ j < (S (i + 1)).length) := fun h => hM (.inr h)
      rw [get_old j hnw, upd_other _ _ _ fun u hu e => hM (.inl ⟨(hst.hu u hu).1, by rw [← e]; exact (hst.hu u hu).2.1⟩)]
      refine h.ent j m hj hm fun p hp hpM => ?_
      rw [hc p hp hpM, hl2 p (fun e => hM (e ▸ hpM))]
  · cases hd : (f i).dst with
    | none => exact Nm_mono weak _ (h.nme t)
    | some d =>
      rw [lookF_put]
      cases hdt : Nat.beq d t with
      | false => exact Nm_mono weak _ (h.nme t)
      | true =>
        show (R i).v.Nm _
        refine (Nm_ids _).2 fun x hx => ?_
        have hlow := hD.low i hi d hd x hx
        refine ⟨by omega, fun p hp hlp hnp => ?_⟩
        rcases Nat.lt_trichotomy p i with h1 | h1 | h1
        · rcases hD.chk i p hi h1 with hb | ⟨_, _, _, c3⟩
          · have := hbef p hb
            rw [hl2 p (by omega), this] at hlp; cases hlp
          · exact c3 d hd x hx hnp
        · subst h1; rw [hl1] at hlp; cases hlp
        · have hmp : (S (i + 1)).length ≤ (S p).length := by have := hD.smono (i := i + 1) (p - (i + 1)) (by omega); rwa [show i + 1 + (p - (i + 1)) = p by omega] at this
          omega
  · rcases List.mem_append.1 hb with hb | hb
    · rcases List.mem_append.1 hb with hb | hb
      · exact Blk.Nm_mono weak _ (hupd b (List.mem_of_mem_take hb))
      · exact Blk.Nm_mono weak _ (hnam.2 b hb)
    · exact Blk.Nm_mono weak _ (hupd b (List.mem_of_mem_drop hb))

theorem dyn_sound (hΓ : Sound cx.P Γ) {dr : Bool} (hc : Comped cx.P dr ops n f) (hD : DynD Γ ops f aft bs E S R) {K : Env → Sto → Prop} (hK : Same K) (hKn : K (E ops.size) (S ops.size)) (hpin : ∀ j, j < cx.pinS.length ∨ j < cx.pinV.length → j < (S 0).length) (hgh : ∀ x v, cx.gh x v → x.Nm fun i => i < (S 0).length)
    {Q : Exit → Act → World → Prop} {F : Fence} {m : Nat} (hF : Free F) (hw : ∀ i, i < ops.size → ∀ d, (f i).dst = some d → cx.lo ≤ d)
    (hQ : ∀ env' σ' vals' a' w', a'.tmps.size = n → Rel cx env' σ' vals' a' w' → K env' σ' → Q .normal a' w') :
    ∀ (fuel : Nat) (listed : Array Bool) (env : Env) (σ : Sto) (vals : List Value) (a : Act) (w : World), listed.size = ops.size → (left ops.size listed).length ≤ fuel →
      (∀ i, i < ops.size → listed.getD i false = true → ∀ j ∈ bs i, listed.getD j false = true) →
      a.tmps.size = n → Rel cx env σ vals a w → Ivt hD (fun p => listed.getD p false) env σ → wpAnyIn F m cx.P .any ops Q fuel listed a w := by
  have empty : ∀ (listed : Array Bool), listed.size = ops.size → Region.ready .any ops listed = [] → left ops.size listed = [] := by
    intro listed hs hr
    apply Decidable.byContradiction
    intro hne
    obtain ⟨i, hi, hmin⟩ : ∃ i, i ∈ left ops.size listed ∧ ∀ j, j < i → j ∉ left ops.size listed := by
      have hex : ∃ i, i ∈ left ops.size listed := by
        cases hl : left ops.size listed with
        | nil => exact absurd hl hne
        | cons x xs => exact ⟨x, by simp⟩
      obtain ⟨i, hi⟩ := hex
      induction i using Nat.strongRecOn with
      | _ i ih =>
        by_cases h : ∃ j, j < i ∧ j ∈ left ops.size listed
        · obtain ⟨j, hj, hm⟩ := h; exact ih j hj hm
        · exact ⟨i, hi, fun j hj hm => h ⟨j, hj, hm⟩⟩
    obtain ⟨h1, h2⟩ := List.mem_filter.1 hi
    have h1 := List.mem_range.1 h1
    have hready : i ∈ Region.ready .any ops listed := by
      refine mem_ready.2 ⟨by simpa using h2, ops[i], Array.getElem?_eq_getElem h1, fun e he hb => ?_⟩
      have hj := hD.back i _ (Array.getElem?_eq_getElem h1) e he hb
      have hlt := hD.lt i h1 _ hj
      have := hmin _ hlt
      cases hg : listed.getD e.on true with
      | false => exact absurd (List.mem_filter.2 ⟨List.mem_range.2 (by omega), by simp only [hg, Bool.not_false]⟩) this
      | true =>
        rw [Array.getD_eq_getD_getElem?] at hg ⊢
        rw [Array.getElem?_eq_getElem (by omega)] at hg ⊢
        exact hg
    rw [hr] at hready
    cases hready
  have fin : ∀ (listed : Array Bool) (env : Env) (σ : Sto) (vals : List Value) (a : Act) (w : World), listed.size = ops.size → left ops.size listed = [] → a.tmps.size = n → Rel cx env σ vals a w → Ivt hD (fun p => listed.getD p false) env σ → Q .normal a w := by
    intro listed env σ vals a w hs hnil hn hr hI
    have all : ∀ p, p < ops.size → listed.getD p false = true := by
      intro p hp
      cases hg : listed.getD p true with
      | false =>
        have : p ∈ left ops.size listed := List.mem_filter.2 ⟨List.mem_range.2 hp, by simp only [hg, Bool.not_false]⟩
        rw [hnil] at this; cases this
      | true =>
        rw [Array.getD_eq_getD_getElem?] at hg ⊢
        rw [Array.getElem?_eq_getElem (by omega)] at hg ⊢
        exact hg
    have hσ : σ = S ops.size := by
      refine List.ext_getElem? fun j => ?_
      by_cases hj : j < (S ops.size).length
      · rw [hI.ent j ops.size hj (Nat.le_refl _) fun p hp _ => ⟨fun _ => all p hp, fun _ => hp⟩, List.getElem?_eq_getElem hj]; rfl
      · rw [List.getElem?_eq_none (by rw [hI.len]; omega), List.getElem?_eq_none (by omega)]
    refine hQ _ _ _ _ _ hn hr ?_
    rw [hσ, hK (E ops.size) env _ fun t => hI.slot t ops.size (Nat.le_refl _) fun p hp _ => ⟨fun _ => all p hp, fun _ => hp⟩]
    exact hKn
  intro fuel
  induction fuel with
  | zero =>
    intro listed env σ vals a w hs hl hcl hn hr hI
    have hnil : left ops.size listed = [] := List.eq_nil_of_length_eq_zero (by omega)
    refine ⟨?_, ?_⟩
    · cases hrd : Region.ready .any ops listed with
      | nil => rfl
      | cons i is =>
        exfalso
        have hi : i ∈ Region.ready .any ops listed := by rw [hrd]; simp
        obtain ⟨h1, o, h2, _⟩ := mem_ready.1 hi
        have : i ∈ left ops.size listed := List.mem_filter.2 ⟨List.mem_range.2 (Array.getElem?_eq_some_iff.1 h2).1, by simp only [h1, Bool.not_false]⟩
        rw [hnil] at this; cases this
    · exact fin listed env σ vals a w hs hnil hn hr hI
  | succ fuel ih =>
    intro listed env σ vals a w hs hl hcl hn hr hI
    refine ⟨fun h0 => fin listed env σ vals a w hs (empty listed hs h0) hn hr hI, fun i hi => ?_⟩
    obtain ⟨hun, o, ho, hall⟩ := mem_ready.1 hi
    have hlt : i < ops.size := (Array.getElem?_eq_some_iff.1 ho).1
    obtain ⟨l1, l2, e1, e2, _⟩ := left_set hs hlt hun
    have hdir : ∀ j ∈ aft i, listed.getD j false = true := by
      intro j hj
      obtain ⟨e, he, hb, rfl⟩ := hD.fore i o ho j hj
      exact hall e he hb
    have hbef : ∀ j ∈ bs i, listed.getD j false = true := by
      intro j hj
      rcases hD.bef i hlt j hj with h | ⟨e, he, h⟩
      · exact hdir j h
      · exact hcl e (Nat.lt_trans (hD.lt i hlt e he) hlt) (hdir e he) j h
    have hli : listed.getD i false = false := by
      rw [Array.getD_eq_getD_getElem?] at hun ⊢
      rw [Array.getElem?_eq_getElem (by omega)] at hun ⊢
      exact hun
    obtain ⟨g1, g2, g3⟩ := hI.step (cx := cx) (l' := fun p => (listed.setIfInBounds i true).getD p false) hlt hli hbef hcl (by
      show (listed.setIfInBounds i true).getD i false = true
      rw [Array.getD_eq_getD_getElem?, Array.getElem?_setIfInBounds_self_of_lt (by omega)]; rfl) (fun p hp => getD_set_ne false (fun e => hp e.symm)) hpin hgh
    refine step_op hΓ hc hlt hn hr hF (hw i hlt) (K := fun env' σ' => env' = put (f i).dst (shv (R i).sh (S i).length σ.length (R i).v) env ∧ σ' = upd (R i).us σ ++ (R i).ps) (fun env' σ' vals' a' w' hn' hr' hK' => ?_) ((hD.stp i hlt).run env σ _ g1 g2 ⟨rfl, rfl⟩)
    obtain ⟨rfl, rfl⟩ := hK'
    obtain ⟨env2, σ2, vals2, hr2, hI2⟩ := g3 _ _ _ hr'
    refine ih _ env2 σ2 vals2 a' w' (by simpa using hs) ?_ ?_ hn' hr2 hI2
    · rw [e2]; rw [e1] at hl; simp at hl ⊢; omega
    · intro k hk hlk j hj
      by_cases hik : i = k
      · subst hik; exact getD_set_true (hbef j hj)
      · rw [getD_set_ne false hik] at hlk
        exact getD_set_true (hcl k hk hlk j hj)
end dyn
end
end Go.Dv
end
